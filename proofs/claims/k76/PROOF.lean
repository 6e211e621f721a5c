import PyProof.Rows.All
import Wide.All
import OpenK.AllK
import Wide.FinOn
import KE.KStateDown
import HandS.ForMost
import HandS.Exc
import HandS.ExcIs
import HandS.ExcField
import HandS.TryOnly
import HandS.ExcOwn
import HandS.WordsExc
import HandS.Defaults
import HandS.IsInst
import HandS.Head0
import HandS.Head1
import HandS.Head2
import HandS.HeadEnd
import HandS.HeadHook1
import HandS.HeadHook2
import HandS.EndBits
import HandS.Conv
import HandS.DictComp
import HandS.DictTup
import HandS.TupLen
import HandS.TupAny
import HandS.TupMul
import HandS.Style
import HandS.Zip
import HandS.Wide
import HandS.WideBits
import HandS.Deep
import HandS.WordsDict
import HandS.SetFor
import KE.GoesEnum
import KE.KDictWalk
import KE.KDictCopyH
import PyProof.DictUpdate
import KE.SortData
import KE.DataMinMax
import HandS.Strs
import PySem.Challenge.RW_signrounds_k76_whole_rounds_of_joined_an
import KE.OsArith
set_option Elab.async false
set_option linter.all false
set_option maxRecDepth 100000
set_option maxHeartbeats 1000000
namespace Mi
open PySem PySem.Spec L2
set_option autoImplicit false

/-- a value of the small interpreter: tuples and lists that nobody changes by value; ref n: the n-th object of the small heap -/
inductive MV where
  | non | bl (b : Bool) | int (i : Int) | str (x : Str) | tup (xs : List MV) | lst (xs : List MV) | scr (ns : List Int) | rng (lo hi : Int)
  | ref (n : Nat) | exc (c : Str) (ks : List Str) (xs : List MV)
/-- an object of the small heap -/
inductive MO where
  | lst (xs : List MV)
  | dct (t : Bool) (kvs : List (List Key × MV))
  | lck (t : Bool) (kvs : List (List Key × MV))
  | ins (C : Str) (ks : List Str) (xs : List MV)
  | gone
abbrev MH := List MO
/-- an exception that flies -/
structure MX where
  c : Str
  ks : List Str
  xs : List MV
inductive Res (α : Type) where
  | ok (a : α) (h : MH)
  | exc (e : MX) (h : MH)
  | err
def Res.bind {α β : Type} (x : Res α) (f : α → MH → Res β) : Res β := match x with
  | .ok a h => f a h
  | .exc e h => .exc e h
  | .err => .err
abbrev MEnv := List (Option MV)

/-- a caught exception that stands in the heap -/
def ExT (cls : Value) (d : Option Addr) (a : Addr) : HO := .ext fun h => ∃ (oe : Obj) (vs : Array Value), h.get? a = some oe ∧ Zc cls d oe ∧ oe.data = .fields vs

/-- the script's list: it stands for good, in the heap or in the part that the top has made -/
def Fz (K : PySem.W.Frag) (fi : List Addr) (H : Hp) (a : Addr) (xs : List V) : Prop :=
  (∃ o, H a = some (.frz o (.lst xs)) ∧ a ∉ fi) ∨ ∃ (o : Obj) (its : Array Value) (n : Nat), K.lookup a = some o ∧ o.cls = .type "list" ∧ o.dict = none ∧ o.data = .seq its n ∧ its.size ≤ sizeLine ∧ Vals xs its.toList
theorem Fz.sq {K : PySem.W.Frag} {fi : List Addr} {H : Hp} {a : Addr} {xs : List V} (h : Fz K fi H a xs) : SqL K H a xs := by
  rcases h with ⟨o, e, _⟩ | h
  · exact .inl (.inr ⟨o, e⟩)
  · exact .inr h
section
variable (K : PySem.W.Frag)
mutual
/-- v stands for m: fi the addresses of the small heap's objects, Z those of lists that are being made -/
def R (fi Z : List Addr) (H : Hp) : MV → V → Prop
  | .non, v => v = .non
  | .bl b, v => v = .bl b
  | .int i, v => v = .int i
  | .str s, v => v = .str s
  | .tup xs, v => ∃ a vs, v = .ref a ∧ H a = some (.tup vs) ∧ a ∉ fi ∧ vs.length ≤ sizeLine ∧ RL fi Z H xs vs
  | .lst xs, v => ∃ a vs, v = .ref a ∧ H a = some (.lst vs) ∧ a ∉ fi ∧ a ∉ Z ∧ vs.length ≤ sizeLine ∧ RL fi Z H xs vs
  | .scr ns, v => ∃ a, v = .ref a ∧ Fz K fi H a (ns.map V.int)
  | .rng lo hi, v => ∃ a, v = .ref a ∧ H a = some (.rng lo hi) ∧ a ∉ fi ∧ -(2 ^ 62) ≤ lo ∧ lo < 2 ^ 62 ∧ -(2 ^ 62) ≤ hi ∧ hi < 2 ^ 62
  | .ref n, v => ∃ a, fi[n]? = some a ∧ v = .ref a
  | .exc c ks xs, v => ∃ a d, v = .ref a ∧ H a = some (ExT (.ref (He.ga K c)) d a) ∧ a ∉ fi ∧
      ((ks = [] ∧ xs = [] ∧ d = none) ∨ ∃ dd vs, d = some dd ∧ H dd = some (.xd (ks.zip vs)) ∧ dd ∉ fi ∧ ks.length = vs.length ∧ RL fi Z H xs vs)
def RL (fi Z : List Addr) (H : Hp) : List MV → List V → Prop
  | [], vs => vs = []
  | m :: ms, vs => ∃ v r, vs = v :: r ∧ R fi Z H m v ∧ RL fi Z H ms r
end
/-- the flying exception: its class, its own dict -/
def RX (fi Z : List Addr) (H : Hp) (e : MX) (cls : Value) (d : Option Addr) : Prop :=
  cls = .ref (He.ga K e.c) ∧ ((e.ks = [] ∧ e.xs = [] ∧ d = none) ∨ ∃ dd vs, d = some dd ∧ H dd = some (.xd (e.ks.zip vs)) ∧ dd ∉ fi ∧ e.ks.length = vs.length ∧ RL K fi Z H e.xs vs)
/-- keys of dicts -/
def keyOf : MV → Option Key
  | .int i => some (.inl i)
  | .str s => some (.inr s)
  | _ => none
def keysOf : List MV → Option (List Key)
  | [] => some []
  | m :: ms => match keyOf m, keysOf ms with
    | some k, some ks => some (k :: ks)
    | _, _ => none
def tkeyOf : MV → Option (List Key)
  | .tup ms => keysOf ms
  | _ => none
/-- the key of a dict: t: a tuple of numbers and texts -/
def dkey (t : Bool) (m : MV) : Option (List Key) := match t with
  | true => tkeyOf m
  | false => (keyOf m).map fun k => [k]
def kMV : Key → MV
  | .inl i => .int i
  | .inr s => .str s
def unkey (t : Bool) (ks : List Key) : MV := match t, ks with
  | true, ks => .tup (ks.map kMV)
  | false, [k] => kMV k
  | false, _ => .non
def RKs (fi Z : List Addr) (H : Hp) : List (List Key × MV) → List (Key × V) → Prop
  | [], ks => ks = []
  | p :: r, ks => ∃ k v ks', ks = (k, v) :: ks' ∧ p.1 = [k] ∧ R K fi Z H p.2 v ∧ RKs fi Z H r ks'
def RTs (fi Z : List Addr) (H : Hp) : List (List Key × MV) → List (List Key × V) → Prop
  | [], ks => ks = []
  | p :: r, ks => ∃ v ks', ks = (p.1, v) :: ks' ∧ R K fi Z H p.2 v ∧ RTs fi Z H r ks'
/-- the object at a stands for o -/
def RO (fi Z : List Addr) (H : Hp) (a : Addr) : MO → Prop
  | .lst xs => ∃ vs, H a = some (.lst vs) ∧ vs.length ≤ sizeLine ∧ RL K fi Z H xs vs
  | .dct false kvs => ∃ ks, H a = some (.dK ks) ∧ RKs K fi Z H kvs ks
  | .dct true kvs => ∃ ks, H a = some (.dT ks) ∧ RTs K fi Z H kvs ks
  | .lck false kvs => ∃ o ks, H a = some (.frz o (.dK ks)) ∧ RKs K fi Z H kvs ks
  | .lck true kvs => ∃ o ks, H a = some (.frz o (.dT ks)) ∧ RTs K fi Z H kvs ks
  | .ins C ks xs => ∃ dx vs, H a = some (.ins (He.ga K C) dx (ks.zip vs)) ∧ H dx = some (.own a) ∧ dx ∉ fi ∧ ks.length = vs.length ∧ RL K fi Z H xs vs
  | .gone => False
structure RH (fi Z : List Addr) (H : Hp) (h : MH) : Prop where
  len : fi.length = h.length
  nd : fi.Nodup
  at_ : ∀ (n : Nat) (o : MO) (a : Addr), h[n]? = some o → fi[n]? = some a → RO K fi Z H a o
  z : ∀ a ∈ Z, (H a).isSome = true ∧ a ∉ fi
def RE (fi Z : List Addr) (H : Hp) (σ : St) (env : MEnv) : Prop := σ.length = env.length ∧ ∀ (i : Nat) (m : MV), env[i]? = some (some m) → ∃ v, σ[i]? = some (some v) ∧ R K fi Z H m v
end
/-- the heap has grown: what is no object of the small heap stands -/
structure Grow (fi fi' : List Addr) (H H' : Hp) : Prop where
  pre : ∀ (n : Nat) (a : Addr), fi[n]? = some a → fi'[n]? = some a
  keep : ∀ a o, H a = some o → a ∉ fi → H' a = some o
  new : ∀ a ∈ fi', a ∉ fi → H a = none
  frz : ∀ a o u, H a = some (.frz o u) → H' a = some (.frz o u)
theorem Grow.refl {fi : List Addr} {H : Hp} : Grow fi fi H H := ⟨fun _ _ h => h, fun _ _ h _ => h, fun _ h h' => absurd h h', fun _ _ _ h => h⟩
theorem Grow.sub {fi fi' : List Addr} {H H' : Hp} (g : Grow fi fi' H H') : ∀ a ∈ fi, a ∈ fi' := fun a h => by
  obtain ⟨n, e⟩ := List.mem_iff_getElem?.mp h
  exact List.mem_iff_getElem?.mpr ⟨n, g.pre n a e⟩
theorem Grow.out {fi fi' : List Addr} {H H' : Hp} (g : Grow fi fi' H H') {a : Addr} {o : HO} (h : H a = some o) (hn : a ∉ fi) : a ∉ fi' := fun hm => by
  have := g.new a hm hn
  rw [h] at this; cases this
theorem Grow.trans {fi fi1 fi2 : List Addr} {H H1 H2 : Hp} (a : Grow fi fi1 H H1) (b : Grow fi1 fi2 H1 H2) : Grow fi fi2 H H2 where
  pre := fun n x e => b.pre n x (a.pre n x e)
  keep := fun x o e n => b.keep x o (a.keep x o e n) (a.out e n)
  frz := fun x o u e => b.frz x o u (a.frz x o u e)
  new := fun x hx n => by
    by_cases h1 : x ∈ fi1
    · exact a.new x h1 n
    · cases e : H x with
      | none => rfl
      | some o =>
        have := b.new x hx h1
        rw [a.keep x o e n] at this; cases this
section
variable {K : PySem.W.Frag} {fi fi' Z : List Addr} {H H' : Hp}
/-- what carries a value from one state to another -/
structure Tr (fi Z : List Addr) (H : Hp) (fi' Z' : List Addr) (H' : Hp) : Prop where
  pre : ∀ (n : Nat) (a : Addr), fi[n]? = some a → fi'[n]? = some a
  fz : ∀ a xs, H a = some (.lst xs) → a ∉ fi → a ∉ Z → H' a = some (.lst xs) ∧ a ∉ fi' ∧ a ∉ Z'
  ot : ∀ a o, H a = some o → (∀ xs, o ≠ .lst xs) → a ∉ fi → H' a = some o ∧ a ∉ fi'
variable {Z' : List Addr}
theorem Fz.tr {a : Addr} {xs : List V} (g : Tr fi Z H fi' Z' H') (h : Fz K fi H a xs) : Fz K fi' H' a xs := by
  rcases h with ⟨o, e, n⟩ | h
  · obtain ⟨e', n'⟩ := g.ot _ _ e (fun _ z => nomatch z) n
    exact .inl ⟨o, e', n'⟩
  · exact .inr h
mutual
theorem R.tr (g : Tr fi Z H fi' Z' H') : ∀ (m : MV) (v : V), R K fi Z H m v → R K fi' Z' H' m v
  | .non, v, h => by simpa only [R] using h
  | .bl b, v, h => by simpa only [R] using h
  | .int i, v, h => by simpa only [R] using h
  | .str s, v, h => by simpa only [R] using h
  | .tup xs, v, h => by
    simp only [R] at h ⊢
    obtain ⟨a, vs, rfl, e, n, l, r⟩ := h
    obtain ⟨e', n'⟩ := g.ot _ _ e (fun _ z => nomatch z) n
    exact ⟨a, vs, rfl, e', n', l, RL.tr g xs vs r⟩
  | .lst xs, v, h => by
    simp only [R] at h ⊢
    obtain ⟨a, vs, rfl, e, n, z, l, r⟩ := h
    obtain ⟨e', n', z'⟩ := g.fz _ _ e n z
    exact ⟨a, vs, rfl, e', n', z', l, RL.tr g xs vs r⟩
  | .scr ns, v, h => by
    simp only [R] at h ⊢
    obtain ⟨a, rfl, e⟩ := h
    exact ⟨a, rfl, e.tr g⟩
  | .rng lo hi, v, h => by
    simp only [R] at h ⊢
    obtain ⟨a, rfl, e, n, b⟩ := h
    obtain ⟨e', n'⟩ := g.ot _ _ e (fun _ z => nomatch z) n
    exact ⟨a, rfl, e', n', b⟩
  | .ref n, v, h => by
    simp only [R] at h ⊢
    obtain ⟨a, e, rfl⟩ := h
    exact ⟨a, g.pre _ _ e, rfl⟩
  | .exc c ks xs, v, h => by
    simp only [R] at h ⊢
    obtain ⟨a, d, rfl, e, n, q⟩ := h
    obtain ⟨e', n'⟩ := g.ot _ _ e (fun _ z => nomatch z) n
    refine ⟨a, d, rfl, e', n', ?_⟩
    rcases q with q | ⟨dd, vs, q1, q2, q3, q4, q5⟩
    · exact .inl q
    · obtain ⟨q2', q3'⟩ := g.ot _ _ q2 (fun _ z => nomatch z) q3
      exact .inr ⟨dd, vs, q1, q2', q3', q4, RL.tr g xs vs q5⟩
theorem RL.tr (g : Tr fi Z H fi' Z' H') : ∀ (ms : List MV) (vs : List V), RL K fi Z H ms vs → RL K fi' Z' H' ms vs
  | [], vs, h => by simpa only [RL] using h
  | m :: ms, vs, h => by
    simp only [RL] at h ⊢
    obtain ⟨v, r, rfl, h1, h2⟩ := h
    exact ⟨v, r, rfl, R.tr g m v h1, RL.tr g ms r h2⟩
end
theorem RKs.tr (g : Tr fi Z H fi' Z' H') : ∀ {ms : List (List Key × MV)} {ks : List (Key × V)}, RKs K fi Z H ms ks → RKs K fi' Z' H' ms ks
  | [], ks, h => h
  | p :: r, ks, ⟨k, v, ks', e, e2, h1, h2⟩ => ⟨k, v, ks', e, e2, h1.tr g, RKs.tr g h2⟩
theorem RTs.tr (g : Tr fi Z H fi' Z' H') : ∀ {ms : List (List Key × MV)} {ks : List (List Key × V)}, RTs K fi Z H ms ks → RTs K fi' Z' H' ms ks
  | [], ks, h => h
  | p :: r, ks, ⟨v, ks', e, h1, h2⟩ => ⟨v, ks', e, h1.tr g, RTs.tr g h2⟩
theorem RE.tr {σ : L2.St} {env : MEnv} (g : Tr fi Z H fi' Z' H') (r : RE K fi Z H σ env) : RE K fi' Z' H' σ env :=
  ⟨r.1, fun i m e => let ⟨v, e', q⟩ := r.2 i m e; ⟨v, e', q.tr g⟩⟩
theorem RX.tr {e : MX} {c : Value} {d : Option Addr} (g : Tr fi Z H fi' Z' H') (r : RX K fi Z H e c d) : RX K fi' Z' H' e c d := by
  obtain ⟨h, q⟩ := r
  refine ⟨h, ?_⟩
  rcases q with q | ⟨dd, vs, q1, q2, q3, q4, q5⟩
  · exact .inl q
  · obtain ⟨q2', q3'⟩ := g.ot _ _ q2 (fun _ z => nomatch z) q3
    exact .inr ⟨dd, vs, q1, q2', q3', q4, q5.tr g⟩
theorem Grow.tr (g : Grow fi fi' H H') : Tr fi Z H fi' Z H' := ⟨g.pre, fun a xs e n z => ⟨g.keep _ _ e n, g.out e n, z⟩, fun a o e _ n => ⟨g.keep _ _ e n, g.out e n⟩⟩
theorem R.mono (g : Grow fi fi' H H') (m : MV) (v : V) (r : R K fi Z H m v) : R K fi' Z H' m v := r.tr g.tr
theorem RL.mono (g : Grow fi fi' H H') (ms : List MV) (vs : List V) (r : RL K fi Z H ms vs) : RL K fi' Z H' ms vs := r.tr g.tr
theorem RKs.mono (g : Grow fi fi' H H') {ms : List (List Key × MV)} {ks : List (Key × V)} (r : RKs K fi Z H ms ks) : RKs K fi' Z H' ms ks := r.tr g.tr
theorem RTs.mono (g : Grow fi fi' H H') {ms : List (List Key × MV)} {ks : List (List Key × V)} (r : RTs K fi Z H ms ks) : RTs K fi' Z H' ms ks := r.tr g.tr
theorem RE.mono {σ : L2.St} {env : MEnv} (g : Grow fi fi' H H') (r : RE K fi Z H σ env) : RE K fi' Z H' σ env := r.tr g.tr
theorem RX.mono {e : MX} {c : Value} {d : Option Addr} (g : Grow fi fi' H H') (r : RX K fi Z H e c d) : RX K fi' Z H' e c d := r.tr g.tr
/-- other lists in the making -/
theorem Tr.zch (hz : ∀ a ∈ Z', a ∈ Z ∨ H a = none) : Tr fi Z H fi Z' H := ⟨fun _ _ e => e, fun a xs e n z => ⟨e, n, fun hm => by
  rcases hz a hm with q | q
  · exact z q
  · rw [e] at q; cases q⟩, fun a o e _ n => ⟨e, n⟩⟩
/-- a list in the making changes -/
theorem Tr.updZ {D : Addr} {xs ys : List V} (hD : H D = some (.lst xs)) (hz : D ∈ Z) : Tr fi Z H fi Z (L2.upd H D (.lst ys)) := ⟨fun _ _ e => e,
  fun a us e n z => ⟨by rw [L2.upd_ne (show a ≠ D from fun q => z (q ▸ hz))]; exact e, n, z⟩,
  fun a o e ne n => ⟨by rw [L2.upd_ne (show a ≠ D from fun q => by subst q; rw [hD] at e; cases e; exact ne _ rfl)]; exact e, n⟩⟩
/-- a list in the making is done, and one of the small heap's -/
theorem Tr.adopt {D : Addr} {xs : List V} (hD : H D = some (.lst xs)) : Tr fi (D :: Z) H (fi ++ [D]) Z H := ⟨fun n a e => by rw [List.getElem?_append_left (List.getElem?_eq_some_iff.mp e).1]; exact e,
  fun a us e n z => ⟨e, by simp only [List.mem_append, List.mem_singleton]; rintro (q | q); · exact n q
                           · subst q; exact z List.mem_cons_self, fun q => z (List.mem_cons_of_mem _ q)⟩,
  fun a o e ne n => ⟨e, by simp only [List.mem_append, List.mem_singleton]; rintro (q | q); · exact n q
                           · subst q; rw [hD] at e; cases e; exact ne _ rfl⟩⟩
theorem RL.length : ∀ {ms : List MV} {vs : List V}, RL K fi Z H ms vs → ms.length = vs.length
  | [], vs, h => by simp only [RL] at h; subst h; rfl
  | m :: ms, vs, h => by
    simp only [RL] at h
    obtain ⟨v, r, rfl, _, h2⟩ := h
    simp [RL.length h2]
theorem RL.get : ∀ {ms : List MV} {vs : List V} {i : Nat} {m : MV}, RL K fi Z H ms vs → ms[i]? = some m → ∃ v, vs[i]? = some v ∧ R K fi Z H m v
  | [], vs, i, m, h, e => by simp at e
  | x :: ms, vs, 0, m, h, e => by
    simp only [RL] at h
    obtain ⟨v, r, rfl, h1, _⟩ := h
    simp at e; subst e
    exact ⟨v, rfl, h1⟩
  | x :: ms, vs, i + 1, m, h, e => by
    simp only [RL] at h
    obtain ⟨v, r, rfl, _, h2⟩ := h
    simpa using RL.get h2 (by simpa using e)
theorem RL.get' {ms : List MV} {vs : List V} {i : Nat} {v : V} (r : RL K fi Z H ms vs) (e : vs[i]? = some v) : ∃ m, ms[i]? = some m ∧ R K fi Z H m v := by
  have hi : i < ms.length := by rw [r.length]; exact (List.getElem?_eq_some_iff.mp e).1
  obtain ⟨v', e', r'⟩ := r.get (List.getElem?_eq_getElem hi)
  rw [e] at e'; cases e'
  exact ⟨_, List.getElem?_eq_getElem hi, r'⟩
theorem RL.nil : RL K fi Z H [] [] := by simp only [RL]
theorem RL.cons {m : MV} {v : V} {ms : List MV} {vs : List V} (h1 : R K fi Z H m v) (h2 : RL K fi Z H ms vs) : RL K fi Z H (m :: ms) (v :: vs) := by
  simp only [RL]; exact ⟨v, vs, rfl, h1, h2⟩
theorem RL.append : ∀ {ms ns : List MV} {vs us : List V}, RL K fi Z H ms vs → RL K fi Z H ns us → RL K fi Z H (ms ++ ns) (vs ++ us)
  | [], ns, vs, us, h, h' => by simp only [RL] at h; subst h; exact h'
  | m :: ms, ns, vs, us, h, h' => by
    simp only [RL] at h
    obtain ⟨v, r, rfl, h1, h2⟩ := h
    exact RL.cons h1 (RL.append h2 h')
theorem RL.set : ∀ {ms : List MV} {vs : List V} (i : Nat) {m : MV} {v : V}, RL K fi Z H ms vs → R K fi Z H m v → RL K fi Z H (ms.set i m) (vs.set i v)
  | [], vs, i, m, v, h, r => by simp only [RL] at h; subst h; exact RL.nil
  | x :: ms, vs, 0, m, v, h, r => by
    simp only [RL] at h
    obtain ⟨y, t, rfl, h1, h2⟩ := h
    exact RL.cons r h2
  | x :: ms, vs, i + 1, m, v, h, r => by
    simp only [RL] at h
    obtain ⟨y, t, rfl, h1, h2⟩ := h
    exact RL.cons h1 (RL.set i h2 r)
theorem RL.take : ∀ {ms : List MV} {vs : List V} (n : Nat), RL K fi Z H ms vs → RL K fi Z H (ms.take n) (vs.take n)
  | _, _, 0, _ => by simpa using RL.nil
  | [], vs, n + 1, h => by simp only [RL] at h; subst h; exact RL.nil
  | x :: ms, vs, n + 1, h => by
    simp only [RL] at h
    obtain ⟨y, t, rfl, h1, h2⟩ := h
    exact RL.cons h1 (RL.take n h2)
theorem RL.drop : ∀ {ms : List MV} {vs : List V} (n : Nat), RL K fi Z H ms vs → RL K fi Z H (ms.drop n) (vs.drop n)
  | _, _, 0, h => by simpa using h
  | [], vs, n + 1, h => by simp only [RL] at h; subst h; exact RL.nil
  | x :: ms, vs, n + 1, h => by
    simp only [RL] at h
    obtain ⟨y, t, rfl, h1, h2⟩ := h
    simpa using RL.drop n h2
theorem RL.one {m : MV} {vs : List V} (h : RL K fi Z H [m] vs) : ∃ v, vs = [v] ∧ R K fi Z H m v := by
  simp only [RL] at h
  obtain ⟨v, r, rfl, h1, rfl⟩ := h
  exact ⟨v, rfl, h1⟩
theorem RL.two {m m' : MV} {vs : List V} (h : RL K fi Z H [m, m'] vs) : ∃ v v', vs = [v, v'] ∧ R K fi Z H m v ∧ R K fi Z H m' v' := by
  simp only [RL] at h
  obtain ⟨v, r, rfl, h1, v', r', rfl, h2, rfl⟩ := h
  exact ⟨v, v', rfl, h1, h2⟩
/-- an object of the small heap changes -/
theorem Tr.upd {a : Addr} {o : HO} (ha : a ∈ fi) : Tr fi Z H fi Z (L2.upd H a o) := ⟨fun _ _ h => h, fun b xs e n z => ⟨by rw [L2.upd_ne (fun z => n (by rw [z]; exact ha))]; exact e, n, z⟩, fun b u e _ n => ⟨by rw [L2.upd_ne (fun z => n (by rw [z]; exact ha))]; exact e, n⟩⟩
theorem Grow.upd {a : Addr} {o : HO} (ha : a ∈ fi) (hf : ∀ ob u, H a ≠ some (.frz ob u)) : Grow fi fi H (L2.upd H a o) := ⟨fun _ _ h => h, fun b u e n => by
  rw [L2.upd_ne (fun z => n (by rw [z]; exact ha))]; exact e, fun b h h' => absurd h h', fun b ob u e => by rw [L2.upd_ne (fun z => hf ob u (by rw [← z]; exact e))]; exact e⟩
theorem nfL {a : Addr} {vs : List V} (e : H a = some (.lst vs)) : ∀ ob u, H a ≠ some (.frz ob u) := fun ob u z => by rw [e] at z; cases z
theorem nfK {a : Addr} {vs : List (Key × V)} (e : H a = some (.dK vs)) : ∀ ob u, H a ≠ some (.frz ob u) := fun ob u z => by rw [e] at z; cases z
theorem nfT {a : Addr} {vs : List (List Key × V)} (e : H a = some (.dT vs)) : ∀ ob u, H a ≠ some (.frz ob u) := fun ob u z => by rw [e] at z; cases z
/-- a new object that is no object of the small heap -/
theorem Grow.laid {a : Addr} {o : HO} (ha : H a = none) : Grow fi fi H (L2.upd H a o) := ⟨fun _ _ h => h, fun b u e n => by
  rw [L2.upd_ne (ne_of_none e ha)]; exact e, fun b h h' => absurd h h', fun b ob u e => by rw [L2.upd_ne (ne_of_none e ha)]; exact e⟩
/-- a new object of the small heap -/
theorem Grow.more {a : Addr} {o : HO} (ha : H a = none) : Grow fi (fi ++ [a]) H (L2.upd H a o) where
  pre := fun n b e => by rw [List.getElem?_append_left (List.getElem?_eq_some_iff.mp e).1]; exact e
  keep := fun b u e n => by rw [L2.upd_ne (ne_of_none e ha)]; exact e
  frz := fun b ob u e => by rw [L2.upd_ne (ne_of_none e ha)]; exact e
  new := fun b hb hn => by
    rcases List.mem_append.mp hb with h | h
    · exact absurd h hn
    · have : b = a := by simpa using h
      rw [this]; exact ha
theorem RO.thr {a : Addr} {o : MO} (r : RO K fi Z H a o) : (H a).isSome = true := by
  cases o with
  | lst xs => obtain ⟨_, e, _⟩ := r; rw [e]; rfl
  | dct t kvs => cases t <;> (obtain ⟨_, e, _⟩ := r; rw [e]; rfl)
  | lck t kvs => cases t <;> (obtain ⟨_, _, e, _⟩ := r; rw [e]; rfl)
  | ins C ks xs => obtain ⟨_, _, e, _⟩ := r; rw [e]; rfl
  | gone => exact (r : False).elim
theorem RO.tr {Z' : List Addr} {a : Addr} {o : MO} (g : Tr fi Z H fi' Z' H') (ha : H' a = H a) (r : RO K fi Z H a o) : RO K fi' Z' H' a o := by
  cases o with
  | lst xs => obtain ⟨vs, e, l, q⟩ := r; exact ⟨vs, ha.trans e, l, q.tr g⟩
  | dct t kvs => cases t <;> (obtain ⟨ks, e, q⟩ := r; exact ⟨ks, ha.trans e, q.tr g⟩)
  | lck t kvs => cases t <;> (obtain ⟨o, ks, e, q⟩ := r; exact ⟨o, ks, ha.trans e, q.tr g⟩)
  | ins C ks xs =>
    obtain ⟨dx, vs, e, e2, n, l, q⟩ := r
    obtain ⟨e3, n3⟩ := g.ot _ _ e2 (fun _ z => nomatch z) n
    exact ⟨dx, vs, ha.trans e, e3, n3, l, q.tr g⟩
  | gone => exact (r : False).elim
theorem RO.mono {a : Addr} {o : MO} (g : Grow fi fi' H H') (ha : H' a = H a) (r : RO K fi Z H a o) : RO K fi' Z H' a o := by
  cases o with
  | lst xs => obtain ⟨vs, e, l, q⟩ := r; exact ⟨vs, ha.trans e, l, RL.mono g _ _ q⟩
  | dct t kvs => cases t <;> (obtain ⟨ks, e, q⟩ := r; exact ⟨ks, ha.trans e, q.mono g⟩)
  | lck t kvs => cases t <;> (obtain ⟨o, ks, e, q⟩ := r; exact ⟨o, ks, ha.trans e, q.mono g⟩)
  | ins C ks xs => obtain ⟨dx, vs, e, e2, n, l, q⟩ := r; exact ⟨dx, vs, ha.trans e, g.keep _ _ e2 n, g.out e2 n, l, RL.mono g _ _ q⟩
  | gone => exact (r : False).elim
theorem RH.there {h : MH} (rh : RH K fi Z H h) {a : Addr} (ha : a ∈ fi) : (H a).isSome = true := by
  obtain ⟨n, e⟩ := List.mem_iff_getElem?.mp ha
  have hn : n < h.length := by rw [← rh.len]; exact (List.getElem?_eq_some_iff.mp e).1
  exact (rh.at_ n _ a (List.getElem?_eq_getElem hn) e).thr
theorem RH.fresh {h : MH} (rh : RH K fi Z H h) {p : Addr} (hp : H p = none) : p ∉ fi ∧ p ∉ Z :=
  by
  refine ⟨fun z => ?_, fun z => ?_⟩
  · have := rh.there z
    rw [hp] at this; cases this
  · have := (rh.z p z).1
    rw [hp] at this; cases this
/-- a new object that is none of the small heap's -/
theorem RH.laid {h : MH} {p : Addr} {o : HO} (rh : RH K fi Z H h) (hp : H p = none) : RH K fi Z (L2.upd H p o) h where
  len := rh.len
  nd := rh.nd
  at_ := fun n x a e1 e2 => (rh.at_ n x a e1 e2).mono (Grow.laid hp) (L2.upd_ne fun z => (rh.fresh hp).1 (z ▸ List.mem_iff_getElem?.mpr ⟨n, e2⟩))
  z := fun a ha => ⟨by rw [L2.upd_ne (show a ≠ p from fun z => (rh.fresh hp).2 (z ▸ ha))]; exact (rh.z a ha).1, (rh.z a ha).2⟩
/-- a new object of the small heap -/
theorem RH.more {h : MH} {p : Addr} {o : HO} {x : MO} (rh : RH K fi Z H h) (hp : H p = none) (r : RO K (fi ++ [p]) Z (L2.upd H p o) p x) : RH K (fi ++ [p]) Z (L2.upd H p o) (h ++ [x]) where
  len := by simp [rh.len]
  nd := List.nodup_append.mpr ⟨rh.nd, List.nodup_cons.mpr ⟨by simp, List.nodup_nil⟩, fun a ha b hb => by
    have : b = p := by simpa using hb
    subst this
    exact fun z => (rh.fresh hp).1 (z ▸ ha)⟩
  at_ := fun n y a e1 e2 => by
    by_cases hn : n < h.length
    · rw [List.getElem?_append_left hn] at e1
      rw [List.getElem?_append_left (by rw [rh.len]; exact hn)] at e2
      exact (rh.at_ n y a e1 e2).mono (Grow.more hp) (L2.upd_ne fun z => (rh.fresh hp).1 (z ▸ List.mem_iff_getElem?.mpr ⟨n, e2⟩))
    · have hn2 : n < (h ++ [x]).length := (List.getElem?_eq_some_iff.mp e1).1
      have e : n = h.length := by simp at hn2; omega
      subst e
      rw [List.getElem?_append_right (Nat.le_refl _), Nat.sub_self] at e1
      rw [List.getElem?_append_right (by rw [rh.len]; exact Nat.le_refl _), rh.len, Nat.sub_self] at e2
      cases e1; cases e2
      exact r
  z := fun a ha => ⟨by rw [L2.upd_ne (show a ≠ p from fun z => (rh.fresh hp).2 (z ▸ ha))]; exact (rh.z a ha).1, fun hm => by
    rcases List.mem_append.mp hm with q | q
    · exact (rh.z a ha).2 q
    · have : a = p := by simpa using q
      exact (rh.fresh hp).2 (this ▸ ha)⟩
/-- an object of the small heap has changed -/
theorem RH.put {h : MH} {n : Nat} {a : Addr} {o : HO} {x : MO} (rh : RH K fi Z H h) (e : fi[n]? = some a) (r : RO K fi Z (L2.upd H a o) a x) : RH K fi Z (L2.upd H a o) (h.set n x) where
  len := by simp [rh.len]
  nd := rh.nd
  at_ := fun m y b e1 e2 => by
    have hn : n < h.length := by rw [← rh.len]; exact (List.getElem?_eq_some_iff.mp e).1
    by_cases hm : m = n
    · subst hm
      rw [e] at e2; cases e2
      rw [List.getElem?_set_self hn] at e1; cases e1
      exact r
    · rw [List.getElem?_set_ne (Ne.symm hm)] at e1
      refine (rh.at_ m y b e1 e2).tr (Tr.upd (List.mem_iff_getElem?.mpr ⟨n, e⟩)) (L2.upd_ne fun z => ?_)
      subst z
      exact hm ((List.getElem?_inj (List.getElem?_eq_some_iff.mp e2).1 rh.nd).mp (e2.trans e.symm))
  z := fun b hb => ⟨by
    by_cases hba : b = a
    · subst hba; rw [L2.upd_same]; rfl
    · rw [L2.upd_ne hba]; exact (rh.z b hb).1, (rh.z b hb).2⟩
theorem RH.zch {Z' : List Addr} {h : MH} (rh : RH K fi Z H h) (hz : ∀ a ∈ Z', a ∈ Z) : RH K fi Z' H h :=
  ⟨rh.len, rh.nd, fun n o a e1 e2 => (rh.at_ n o a e1 e2).tr (Tr.zch fun a ha => .inl (hz a ha)) rfl, fun a ha => rh.z a (hz a ha)⟩
/-- a list is begun -/
theorem RH.begin_ {h : MH} {D : Addr} {vs : List V} (rh : RH K fi Z H h) (hD : H D = none) : RH K fi (D :: Z) (L2.upd H D (.lst vs)) h where
  len := rh.len
  nd := rh.nd
  at_ := fun n o a e1 e2 => by
    have ne : a ≠ D := fun z => (rh.fresh hD).1 (z ▸ List.mem_iff_getElem?.mpr ⟨n, e2⟩)
    refine ((rh.at_ n o a e1 e2).tr (Z' := D :: Z) (H' := H) (Tr.zch fun b hb => ?_) rfl).mono (Grow.laid hD) (L2.upd_ne ne)
    rcases List.mem_cons.mp hb with q | q
    · exact .inr (q ▸ hD)
    · exact .inl q
  z := fun a ha => by
    rcases List.mem_cons.mp ha with q | q
    · subst q; exact ⟨by rw [L2.upd_same]; rfl, (rh.fresh hD).1⟩
    · exact ⟨by rw [L2.upd_ne (show a ≠ D from fun z => (rh.fresh hD).2 (z ▸ q))]; exact (rh.z a q).1, (rh.z a q).2⟩
/-- it grows -/
theorem RH.updZ {h : MH} {D : Addr} {xs ys : List V} (rh : RH K fi Z H h) (hD : H D = some (.lst xs)) (hz : D ∈ Z) : RH K fi Z (L2.upd H D (.lst ys)) h where
  len := rh.len
  nd := rh.nd
  at_ := fun n o a e1 e2 => (rh.at_ n o a e1 e2).tr (Tr.updZ hD hz) (L2.upd_ne fun z => (rh.z D hz).2 (z ▸ List.mem_iff_getElem?.mpr ⟨n, e2⟩))
  z := fun a ha => ⟨by
    by_cases q : a = D
    · subst q; rw [L2.upd_same]; rfl
    · rw [L2.upd_ne q]; exact (rh.z a ha).1, (rh.z a ha).2⟩
/-- it is done, and one of the small heap's -/
theorem RH.adopt {h : MH} {D : Addr} {ms : List MV} {vs : List V} (rh : RH K fi (D :: Z) H h) (hD : H D = some (.lst vs)) (nz : D ∉ Z) (l : vs.length ≤ sizeLine) (r : RL K fi (D :: Z) H ms vs) : RH K (fi ++ [D]) Z H (h ++ [.lst ms]) where
  len := by simp [rh.len]
  nd := List.nodup_append.mpr ⟨rh.nd, List.nodup_cons.mpr ⟨by simp, List.nodup_nil⟩, fun a ha b hb => by
    have : b = D := by simpa using hb
    subst this
    exact fun z => (rh.z b List.mem_cons_self).2 (z ▸ ha)⟩
  at_ := fun n y a e1 e2 => by
    by_cases hn : n < h.length
    · rw [List.getElem?_append_left hn] at e1
      rw [List.getElem?_append_left (by rw [rh.len]; exact hn)] at e2
      exact (rh.at_ n y a e1 e2).tr (Tr.adopt hD) rfl
    · have hn2 : n < (h ++ [MO.lst ms]).length := (List.getElem?_eq_some_iff.mp e1).1
      have e : n = h.length := by simp at hn2; omega
      subst e
      rw [List.getElem?_append_right (Nat.le_refl _), Nat.sub_self] at e1
      rw [List.getElem?_append_right (by rw [rh.len]; exact Nat.le_refl _), rh.len, Nat.sub_self] at e2
      cases e1; cases e2
      exact ⟨vs, hD, l, r.tr (Tr.adopt hD)⟩
  z := fun a ha => ⟨(rh.z a (List.mem_cons_of_mem _ ha)).1, fun hm => by
    rcases List.mem_append.mp hm with q | q
    · exact (rh.z a (List.mem_cons_of_mem _ ha)).2 q
    · have : a = D := by simpa using q
      exact nz (this ▸ ha)⟩
theorem R.tup_new {p : Addr} {ms : List MV} {vs : List V} {h : MH} (rh : RH K fi Z H h) (hp : H p = none) (r : RL K fi Z H ms vs) (l : vs.length ≤ sizeLine) : R K fi Z (L2.upd H p (.tup vs)) (.tup ms) (.ref p) := by
  simp only [R]
  exact ⟨p, vs, rfl, L2.upd_same, (rh.fresh hp).1, l, RL.mono (Grow.laid hp) _ _ r⟩
theorem R.lst_new {p : Addr} {ms : List MV} {vs : List V} {h : MH} (rh : RH K fi Z H h) (hp : H p = none) (r : RL K fi Z H ms vs) (l : vs.length ≤ sizeLine) : R K fi Z (L2.upd H p (.lst vs)) (.lst ms) (.ref p) := by
  simp only [R]
  exact ⟨p, vs, rfl, L2.upd_same, (rh.fresh hp).1, (rh.fresh hp).2, l, RL.mono (Grow.laid hp) _ _ r⟩
theorem R.ref_new {p : Addr} {h : MH} {H' : Hp} (rh : RH K fi Z H h) : R K (fi ++ [p]) Z H' (.ref h.length) (.ref p) := by
  simp only [R]
  exact ⟨p, by rw [← rh.len]; simp, rfl⟩
end
end Mi

set_option Elab.async false
set_option linter.all false
set_option maxRecDepth 100000
set_option maxHeartbeats 1000000
namespace Mi
open PySem PySem.Spec L2
set_option autoImplicit false

section
variable {α β : Type} (K : PySem.W.Frag)
/-- r is a good result from here: Q holds of each value that stands for it, W of each exception -/
def Pst (rel : List Addr → List Addr → Hp → α → β → Prop) (W : WX) (fi Z : List Addr) (H : Hp) (σ : L2.St) (r : Res α) (Q : β → Hp → Prop) : Prop := match r with
  | .ok a h => ∀ b H' fi', Grow fi fi' H H' → RH K fi' Z H' h → rel fi' Z H' a b → Q b H'
  | .exc e h => ∀ H' fi' c d, Grow fi fi' H H' → RH K fi' Z H' h → RX K fi' Z H' e c d → W c d σ H'
  | .err => False
/-- a reading: from a state of the small interpreter -/
def tG (rel : List Addr → List Addr → Hp → α → β → Prop) (W : WX) (f : MEnv → MH → Res α) : L2.St → Hp → (β → Hp → Prop) → Prop := fun σ H Q =>
  ∃ fi Z env h, RE K fi Z H σ env ∧ RH K fi Z H h ∧ Pst K rel W fi Z H σ (f env h) Q
end
abbrev relB : List Addr → List Addr → Hp → Bool → Bool → Prop := fun _ _ _ a b => a = b
abbrev tE (K : PySem.W.Frag) (W : WX) (f : MEnv → MH → Res MV) : TE := tG K (R K) W f
abbrev tT (K : PySem.W.Frag) (W : WX) (f : MEnv → MH → Res Bool) : TT := tG K relB W f
abbrev tA (K : PySem.W.Frag) (W : WX) (f : MEnv → MH → Res (List MV)) : TA := tG K (RL K) W f
section
variable {K : PySem.W.Frag} {α β γ δ : Type} {rel : List Addr → List Addr → Hp → α → β → Prop} {rel' : List Addr → List Addr → Hp → γ → δ → Prop} {W : WX} {fi fi' Z : List Addr} {H H' : Hp} {σ : L2.St}
theorem Pst.mono {r : Res α} {Q : β → Hp → Prop} (g : Grow fi fi' H H') (p : Pst K rel W fi Z H σ r Q) : Pst K rel W fi' Z H' σ r Q := by
  cases r with
  | ok a h => exact fun b H2 fi2 g2 => p b H2 fi2 (g.trans g2)
  | exc e h => exact fun H2 fi2 c d g2 => p H2 fi2 c d (g.trans g2)
  | err => exact p
theorem Pst.imp {r : Res α} {Q Q' : β → Hp → Prop} (p : Pst K rel W fi Z H σ r Q) (h : ∀ b H', Q b H' → Q' b H') : Pst K rel W fi Z H σ r Q' := by
  cases r with
  | ok a h1 => exact fun b H2 fi2 g2 r1 r2 => h _ _ (p b H2 fi2 g2 r1 r2)
  | exc e h1 => exact p
  | err => exact p
theorem Pst.bind {r : Res γ} {f : γ → MH → Res α} {Q : β → Hp → Prop} (p : Pst K rel W fi Z H σ (r.bind f) Q) :
    Pst K rel' W fi Z H σ r (fun b H1 => ∃ fi1 a h1, Grow fi fi1 H H1 ∧ RH K fi1 Z H1 h1 ∧ rel' fi1 Z H1 a b ∧ Pst K rel W fi1 Z H1 σ (f a h1) Q) := by
  cases r with
  | ok a h => exact fun b H1 fi1 g r1 r2 => ⟨fi1, a, h, g, r1, r2, Pst.mono g p⟩
  | exc e h => exact p
  | err => exact p
/-- .. and what is known of r -/
theorem Pst.ok {a : α} {b : β} {h : MH} {Q : β → Hp → Prop} (p : Pst K rel W fi Z H σ (.ok a h) Q) (rh : RH K fi Z H h) (r : rel fi Z H a b) : Q b H := p b H fi Grow.refl rh r
end
section
variable {X : Cx}
theorem _root_.L2.PE.imp {e : Expr} {t t' : TE} (h : PE X e t) (i : ∀ σ H Q, t' σ H Q → t σ H Q) : PE X e t' := ⟨fun pins s σ H Q I q => h.run pins s σ H Q I (i σ H Q q)⟩
theorem _root_.L2.PT.imp {e : Expr} {t t' : TT} (h : PT X e t) (i : ∀ σ H Q, t' σ H Q → t σ H Q) : PT X e t' := ⟨fun pins s σ H Q I q => h.run pins s σ H Q I (i σ H Q q)⟩
theorem _root_.L2.PW.imp {e : Expr} {t t' : TT} (h : PW X e t) (i : ∀ σ H Q, t' σ H Q → t σ H Q) : PW X e t' := ⟨fun wh pins s σ H Q I q => h.run wh pins s σ H Q I (i σ H Q q)⟩
theorem _root_.L2.PA.imp {e : List Expr} {t t' : TA} (h : PA X e t) (i : ∀ σ H Q, t' σ H Q → t σ H Q) : PA X e t' := ⟨fun pos pins s σ H Q I q => h.run pos pins s σ H Q I (i σ H Q q)⟩
theorem _root_.L2.PK.imp {e : List Keyword} {t t' : TA} (h : PK X e t) (i : ∀ σ H Q, t' σ H Q → t σ H Q) : PK X e t' := ⟨fun pos pins s σ H Q I q => h.run pos pins s σ H Q I (i σ H Q q)⟩
theorem _root_.L2.PS.imp {e : Stmt} {t t' : TS} (h : PS X e t) (i : ∀ D σ H, t' D σ H → t D σ H) : PS X e t' := ⟨fun pins s σ H D I q => h.run pins s σ H D I (i D σ H q)⟩
theorem _root_.L2.PSs.imp {e : List Stmt} {t t' : TS} (h : PSs X e t) (i : ∀ D σ H, t' D σ H → t D σ H) : PSs X e t' := ⟨fun pins s σ H D I q => h.run pins s σ H D I (i D σ H q)⟩
end
def evVar (i : Nat) (env : MEnv) (h : MH) : Res MV := match env[i]? with
  | some (some v) => .ok v h
  | _ => .err
/-- what an operation by values hands back: nothing raised -/
abbrev Op1 := MV → MH → Option (MV × MH)
abbrev Op2 := MV → MV → MH → Option (MV × MH)
abbrev OpN := List MV → MH → Option (MV × MH)
def ofO {α : Type} (r : Option (α × MH)) : Res α := match r with
  | some (a, h) => .ok a h
  | none => .err
def ev2 (f : Op2) (a b : MEnv → MH → Res MV) (env : MEnv) (h : MH) : Res MV := (a env h).bind fun x h1 => (b env h1).bind fun y h2 => ofO (f x y h2)
def ev1 (f : Op1) (a : MEnv → MH → Res MV) (env : MEnv) (h : MH) : Res MV := (a env h).bind fun x h1 => ofO (f x h1)
def evN (f : OpN) (a : MEnv → MH → Res (List MV)) (env : MEnv) (h : MH) : Res MV := (a env h).bind fun x h1 => ofO (f x h1)
/-- the end of an operation by values -/
def PV (K : PySem.W.Frag) (fi Z : List Addr) (H : Hp) (r : Option (MV × MH)) (Q : VK) : Prop := match r with
  | some (m, h') => ∀ v H' fi', Grow fi fi' H H' → RH K fi' Z H' h' → R K fi' Z H' m v → Q v H'
  | none => False
def r1 (K : PySem.W.Frag) (f : Op1) : V → Hp → VK → Prop := fun x H Q => ∃ fi Z h a, RH K fi Z H h ∧ R K fi Z H a x ∧ PV K fi Z H (f a h) Q
def r2 (K : PySem.W.Frag) (f : Op2) : R2 := fun x y H Q => ∃ fi Z h a b, RH K fi Z H h ∧ R K fi Z H a x ∧ R K fi Z H b y ∧ PV K fi Z H (f a b h) Q
def rN (K : PySem.W.Frag) (f : OpN) : List V → Hp → VK → Prop := fun xs H Q => ∃ fi Z h as, RH K fi Z H h ∧ RL K fi Z H as xs ∧ PV K fi Z H (f as h) Q
section
variable {K : PySem.W.Frag} {W : WX} {fi Z : List Addr} {H : Hp} {σ : L2.St}
theorem PV.of {r : Option (MV × MH)} {Q : VK} (p : Pst K (R K) W fi Z H σ (ofO r) Q) : PV K fi Z H r Q := by
  cases r with
  | none => exact p
  | some q => exact p
theorem PV.ok {m : MV} {v : V} {h : MH} {Q : VK} (p : PV K fi Z H (some (m, h)) Q) (rh : RH K fi Z H h) (r : R K fi Z H m v) : Q v H := p v H fi Grow.refl rh r
theorem t2_of {f : Op2} {a b : MEnv → MH → Res MV} {H : Hp} {Q : VK} (h : tE K W (ev2 f a b) σ H Q) : tOp (r2 K f) (tE K W a) (tE K W b) σ H Q := by
  obtain ⟨fi, Z, env, h, re, rh, p⟩ := h
  refine ⟨fi, Z, env, h, re, rh, (Pst.bind (rel' := R K) p).imp ?_⟩
  rintro x H1 ⟨fi1, a1, h1, g1, rh1, ra, p1⟩
  refine ⟨fi1, Z, env, h1, re.mono g1, rh1, (Pst.bind (rel' := R K) p1).imp ?_⟩
  rintro y H2 ⟨fi2, b1, h2, g2, rh2, rb, p2⟩
  exact ⟨fi2, Z, h2, a1, b1, rh2, ra.mono g2, rb, PV.of p2⟩
theorem t1_of {f : Op1} {a : MEnv → MH → Res MV} {H : Hp} {Q : VK} (h : tE K W (ev1 f a) σ H Q) : tUn (r1 K f) (tE K W a) σ H Q := by
  obtain ⟨fi, Z, env, h, re, rh, p⟩ := h
  refine ⟨fi, Z, env, h, re, rh, (Pst.bind (rel' := R K) p).imp ?_⟩
  rintro x H1 ⟨fi1, a1, h1, g1, rh1, ra, p1⟩
  exact ⟨fi1, Z, h1, a1, rh1, ra, PV.of p1⟩
theorem tN_of {f : OpN} {a : MEnv → MH → Res (List MV)} {H : Hp} {Q : VK} (h : tE K W (evN f a) σ H Q) : tCB (rN K f) (tA K W a) σ H Q := by
  obtain ⟨fi, Z, env, h, re, rh, p⟩ := h
  refine ⟨fi, Z, env, h, re, rh, (Pst.bind (rel' := RL K) p).imp ?_⟩
  rintro x H1 ⟨fi1, a1, h1, g1, rh1, ra, p1⟩
  exact ⟨fi1, Z, h1, a1, rh1, ra, PV.of p1⟩
end
section
variable {X : Cx} {W : WX} {pos : Pos}
theorem me_var {i : Nat} {x : Str} (hN : X.N[i]? = some x) (hv : Vis X.env.scope x) (hd : (x == ("__debug__" : Str)) = false) (hcd : (x == ("__classdict__" : Str)) = false) : PE X (.Name x pos) (tE X.K W (evVar i)) :=
  (pe_var hN hv hd hcd).imp fun σ H Q ⟨fi, Z, env, h, re, rh, p⟩ => by
    unfold evVar at p
    split at p
    · rename_i v e
      obtain ⟨u, eu, ru⟩ := re.2 i v e
      exact ⟨u, eu, p.ok rh ru⟩
    · exact p.elim
/-- a constant -/
theorem me_c {e : Expr} {m : MV} {v : V} (h : PE X e (tC v)) (r : ∀ fi Z H, R X.K fi Z H m v) : PE X e (tE X.K W fun _ h => .ok m h) :=
  h.imp fun σ H Q ⟨fi, Z, env, h, re, rh, p⟩ => p.ok rh (r _ _ _)
variable {a b : Expr} {fa fb : MEnv → MH → Res MV}
theorem me_op2 {op : Operator} {f : Op2} (ho : OpR X (binaryOp op) (r2 X.K f)) (ha : PE X a (tE X.K W fa)) (hb : PE X b (tE X.K W fb)) : PE X (.BinOp a op b pos) (tE X.K W (ev2 f fa fb)) :=
  (pe_op ho ha hb).imp fun _ _ _ h => t2_of h
theorem me_op1 {op : UnaryOp} {f : Op1} (ho : UnR X (unaryOp op) (r1 X.K f)) (ha : PE X a (tE X.K W fa)) : PE X (.UnaryOp op a pos) (tE X.K W (ev1 f fa)) :=
  (pe_un ho ha).imp fun _ _ _ h => t1_of h
theorem me_cmp {op : CmpOp} {f : Op2} (ho : OpR X (compareOp op) (r2 X.K f)) (ha : PE X a (tE X.K W fa)) (hb : PE X b (tE X.K W fb)) (hm : behindInMarks op b = false) : PE X (.Compare a [op] [b] pos) (tE X.K W (ev2 f fa fb)) :=
  (pe_cmpR ho ha hb hm).imp fun _ _ _ h => t2_of h
/-- a value that is a truth -/
def asB (r : Res MV) : Res Bool := r.bind fun m h => match m with
  | .bl b => .ok b h
  | _ => .err
theorem tT_of {K : PySem.W.Frag} {f : MEnv → MH → Res MV} {σ : L2.St} {H : Hp} {Q : Bool → Hp → Prop} (h : tT K W (fun env h => asB (f env h)) σ H Q) : tTest (tE K W f) σ H Q := by
  obtain ⟨fi, Z, env, h, re, rh, p⟩ := h
  refine ⟨fi, Z, env, h, re, rh, (Pst.bind (rel' := R K) p).imp ?_⟩
  rintro x H1 ⟨fi1, a1, h1, g1, rh1, ra, p1⟩
  cases a1 with
  | bl b => simp only [R] at ra; exact ⟨b, ra, p1.ok rh1 rfl⟩
  | _ => exact p1.elim
theorem mt_cmp {op : CmpOp} {f : Op2} (ho : OpR X (compareOp op) (r2 X.K f)) (ha : PE X a (tE X.K W fa)) (hb : PE X b (tE X.K W fb)) (hm : behindInMarks op b = false) : PT X (.Compare a [op] [b] pos) (tT X.K W fun env h => asB (ev2 f fa fb env h)) :=
  (pt_cmpR ho ha hb hm).imp fun σ H Q h => by
    obtain ⟨fi, Z, env, h, re, rh, p⟩ := tT_of h
    exact t2_of (Q := fun x H' => ∃ k, x = V.bl k ∧ Q k H') ⟨fi, Z, env, h, re, rh, p⟩
def evCh (f g : Op2) (a b c : MEnv → MH → Res MV) (env : MEnv) (h : MH) : Res MV := (a env h).bind fun x h1 => (b env h1).bind fun y h2 => (ofO (f x y h2)).bind fun z h3 => match z with
  | .bl true => (c env h3).bind fun w h4 => ofO (g y w h4)
  | .bl false => .ok (.bl false) h3
  | _ => .err
end
end Mi

set_option Elab.async false
set_option linter.all false
set_option maxRecDepth 100000
set_option maxHeartbeats 1000000
namespace Mi
open PySem PySem.Spec L2
set_option autoImplicit false
section
variable {X : Cx} {W : WX} {pos : Pos} {a b c : Expr} {fa fb fc : MEnv → MH → Res MV}
theorem tCh_of {K : PySem.W.Frag} {f g : Op2} {σ : L2.St} {H : Hp} {Q : VK} (h : tE K W (evCh f g fa fb fc) σ H Q) : tChain (r2 K f) (r2 K g) (tE K W fa) (tE K W fb) (tE K W fc) σ H Q := by
  obtain ⟨fi, Z, env, h, re, rh, p⟩ := h
  refine ⟨fi, Z, env, h, re, rh, (Pst.bind (rel' := R K) p).imp ?_⟩
  rintro x H1 ⟨fi1, a1, h1, g1, rh1, ra, p1⟩
  refine ⟨fi1, Z, env, h1, re.mono g1, rh1, (Pst.bind (rel' := R K) p1).imp ?_⟩
  rintro y H2 ⟨fi2, b1, h2, g2, rh2, rb, p2⟩
  refine ⟨fi2, Z, h2, a1, b1, rh2, ra.mono g2, rb, PV.of (W := W) (σ := σ) ((Pst.bind (rel' := R K) p2).imp ?_)⟩
  rintro z H3 ⟨fi3, c1, h3, g3, rh3, rc, p3⟩
  cases c1 with
  | bl k =>
    simp only [R] at rc
    refine ⟨k, rc, ?_⟩
    cases k with
    | true =>
      rw [if_pos rfl]
      refine ⟨fi3, Z, env, h3, ((re.mono g1).mono g2).mono g3, rh3, (Pst.bind (rel' := R K) p3).imp ?_⟩
      rintro w H4 ⟨fi4, d1, h4, g4, rh4, rd, p4⟩
      exact ⟨fi4, Z, h4, b1, d1, rh4, (rb.mono g3).mono g4, rd, PV.of p4⟩
    | false =>
      rw [if_neg Bool.false_ne_true]
      exact p3.ok rh3 (by simp only [R])
  | _ => exact p3.elim
theorem me_chain {op op' : CmpOp} {f g : Op2} (ho : OpR X (compareOp op) (r2 X.K f)) (ho' : OpR X (compareOp op') (r2 X.K g)) (ha : PE X a (tE X.K W fa)) (hb : PE X b (tE X.K W fb)) (hc : PE X c (tE X.K W fc))
    (hm : lastMarks [op, op'] [b, c] = false) : PE X (.Compare a [op, op'] [b, c] pos) (tE X.K W (evCh f g fa fb fc)) :=
  (pe_chain ho ho' ha hb hc hm).imp fun _ _ _ h => tCh_of h
theorem mt_chain {op op' : CmpOp} {f g : Op2} (ho : OpR X (compareOp op) (r2 X.K f)) (ho' : OpR X (compareOp op') (r2 X.K g)) (ha : PE X a (tE X.K W fa)) (hb : PE X b (tE X.K W fb)) (hc : PE X c (tE X.K W fc))
    (hm : lastMarks [op, op'] [b, c] = false) : PT X (.Compare a [op, op'] [b, c] pos) (tT X.K W fun env h => asB (evCh f g fa fb fc env h)) :=
  (pt_chain ho ho' ha hb hc hm).imp fun σ H Q h => by
    obtain ⟨fi, Z, env, h, re, rh, p⟩ := tT_of h
    exact tCh_of (Q := fun x H' => ∃ k, x = V.bl k ∧ Q k H') ⟨fi, Z, env, h, re, rh, p⟩
variable {ga gb : MEnv → MH → Res Bool}
def evAndT (f g : MEnv → MH → Res Bool) (env : MEnv) (h : MH) : Res Bool := (f env h).bind fun k h1 => if k = true then g env h1 else .ok false h1
def evOrT (f g : MEnv → MH → Res Bool) (env : MEnv) (h : MH) : Res Bool := (f env h).bind fun k h1 => if k = true then .ok true h1 else g env h1
def evNotT (f : MEnv → MH → Res Bool) (env : MEnv) (h : MH) : Res Bool := (f env h).bind fun k h1 => .ok (!k) h1
theorem mw_and1 (ha : PT X a (tT X.K W ga)) : PW X (.BoolOp .And [a] pos) (tT X.K W ga) := pw_and1 ha
theorem mw_or1 (ha : PT X a (tT X.K W ga)) : PW X (.BoolOp .Or [a] pos) (tT X.K W ga) := pw_or1 ha
theorem mw_and {rest : List Expr} (ha : PT X a (tT X.K W ga)) (hb : PW X (.BoolOp .And (b :: rest) pos) (tT X.K W gb)) : PW X (.BoolOp .And (a :: b :: rest) pos) (tT X.K W (evAndT ga gb)) :=
  (pw_and ha hb).imp fun σ H Q ⟨fi, Z, env, h, re, rh, p⟩ => by
    refine ⟨fi, Z, env, h, re, rh, (Pst.bind (rel' := relB) p).imp ?_⟩
    rintro x H1 ⟨fi1, k, h1, g1, rh1, ra, p1⟩
    subst ra
    cases k with
    | true => rw [if_pos rfl] at p1 ⊢; exact ⟨fi1, Z, env, h1, re.mono g1, rh1, p1⟩
    | false => rw [if_neg Bool.false_ne_true] at p1 ⊢; exact p1.ok rh1 rfl
theorem mw_or {rest : List Expr} (ha : PT X a (tT X.K W ga)) (hb : PW X (.BoolOp .Or (b :: rest) pos) (tT X.K W gb)) : PW X (.BoolOp .Or (a :: b :: rest) pos) (tT X.K W (evOrT ga gb)) :=
  (pw_or ha hb).imp fun σ H Q ⟨fi, Z, env, h, re, rh, p⟩ => by
    refine ⟨fi, Z, env, h, re, rh, (Pst.bind (rel' := relB) p).imp ?_⟩
    rintro x H1 ⟨fi1, k, h1, g1, rh1, ra, p1⟩
    subst ra
    cases k with
    | true => rw [if_pos rfl] at p1 ⊢; exact p1.ok rh1 rfl
    | false => rw [if_neg Bool.false_ne_true] at p1 ⊢; exact ⟨fi1, Z, env, h1, re.mono g1, rh1, p1⟩
theorem mt_not (ha : PT X a (tT X.K W ga)) : PT X (.UnaryOp .Not a pos) (tT X.K W (evNotT ga)) :=
  (pt_not ha).imp fun σ H Q ⟨fi, Z, env, h, re, rh, p⟩ => by
    refine ⟨fi, Z, env, h, re, rh, (Pst.bind (rel' := relB) p).imp ?_⟩
    rintro x H1 ⟨fi1, k, h1, g1, rh1, ra, p1⟩
    subst ra
    exact p1.ok rh1 rfl
def evAndV (f g : MEnv → MH → Res MV) (env : MEnv) (h : MH) : Res MV := (f env h).bind fun m h1 => match m with
  | .bl true => g env h1
  | .bl false => .ok (.bl false) h1
  | _ => .err
def evOrV (f g : MEnv → MH → Res MV) (env : MEnv) (h : MH) : Res MV := (f env h).bind fun m h1 => match m with
  | .bl false => g env h1
  | .bl true => .ok (.bl true) h1
  | _ => .err
def evNotV (f : MEnv → MH → Res MV) (env : MEnv) (h : MH) : Res MV := (f env h).bind fun m h1 => match m with
  | .bl k => .ok (.bl (!k)) h1
  | _ => .err
theorem me_and {rest : List Expr} (ha : PE X a (tE X.K W fa)) (hb : PE X (.BoolOp .And (b :: rest) pos) (tE X.K W fb)) : PE X (.BoolOp .And (a :: b :: rest) pos) (tE X.K W (evAndV fa fb)) :=
  (pe_and ha hb).imp fun σ H Q ⟨fi, Z, env, h, re, rh, p⟩ => by
    refine ⟨fi, Z, env, h, re, rh, (Pst.bind (rel' := R X.K) p).imp ?_⟩
    rintro x H1 ⟨fi1, m, h1, g1, rh1, ra, p1⟩
    cases m with
    | bl k =>
      simp only [R] at ra
      refine ⟨k, ra, ?_⟩
      cases k with
      | true => rw [if_pos rfl]; exact ⟨fi1, Z, env, h1, re.mono g1, rh1, p1⟩
      | false => rw [if_neg Bool.false_ne_true]; exact p1.ok rh1 (by simp only [R])
    | _ => exact p1.elim
theorem me_or {rest : List Expr} (ha : PE X a (tE X.K W fa)) (hb : PE X (.BoolOp .Or (b :: rest) pos) (tE X.K W fb)) : PE X (.BoolOp .Or (a :: b :: rest) pos) (tE X.K W (evOrV fa fb)) :=
  (pe_or ha hb).imp fun σ H Q ⟨fi, Z, env, h, re, rh, p⟩ => by
    refine ⟨fi, Z, env, h, re, rh, (Pst.bind (rel' := R X.K) p).imp ?_⟩
    rintro x H1 ⟨fi1, m, h1, g1, rh1, ra, p1⟩
    cases m with
    | bl k =>
      simp only [R] at ra
      refine ⟨k, ra, ?_⟩
      cases k with
      | true => rw [if_pos rfl]; exact p1.ok rh1 (by simp only [R])
      | false => rw [if_neg Bool.false_ne_true]; exact ⟨fi1, Z, env, h1, re.mono g1, rh1, p1⟩
    | _ => exact p1.elim
theorem me_one {op : BoolOp} (ha : PE X a (tE X.K W fa)) : PE X (.BoolOp op [a] pos) (tE X.K W fa) := pe_one ha
theorem me_not (ha : PE X a (tE X.K W fa)) : PE X (.UnaryOp .Not a pos) (tE X.K W (evNotV fa)) :=
  (pe_not ha).imp fun σ H Q ⟨fi, Z, env, h, re, rh, p⟩ => by
    refine ⟨fi, Z, env, h, re, rh, (Pst.bind (rel' := R X.K) p).imp ?_⟩
    rintro x H1 ⟨fi1, m, h1, g1, rh1, ra, p1⟩
    cases m with
    | bl k => simp only [R] at ra; exact ⟨k, ra, p1.ok rh1 (by simp only [R])⟩
    | _ => exact p1.elim
/-- a if t else b -/
def evIf (t : MEnv → MH → Res Bool) (f g : MEnv → MH → Res MV) (env : MEnv) (h : MH) : Res MV := (t env h).bind fun k h1 => if k = true then f env h1 else g env h1
theorem me_if (hc : PT X c (tT X.K W ga)) (ha : PE X a (tE X.K W fa)) (hb : PE X b (tE X.K W fb)) : PE X (.IfExp c a b pos) (tE X.K W (evIf ga fa fb)) :=
  (pe_ifExp hc ha hb).imp fun σ H Q ⟨fi, Z, env, h, re, rh, p⟩ => by
    refine ⟨fi, Z, env, h, re, rh, (Pst.bind (rel' := relB) p).imp ?_⟩
    rintro x H1 ⟨fi1, k, h1, g1, rh1, ra, p1⟩
    subst ra
    cases k with
    | true => rw [if_pos rfl] at p1 ⊢; exact ⟨fi1, Z, env, h1, re.mono g1, rh1, p1⟩
    | false => rw [if_neg Bool.false_ne_true] at p1 ⊢; exact ⟨fi1, Z, env, h1, re.mono g1, rh1, p1⟩
def truM (m : MV) (h : MH) : Option Bool := match m with
  | .non => some false
  | .bl b => some b
  | .int i => some (i != 0)
  | .str y => if y.length ≤ 16777216 then some ((y.length : Int) != 0) else none
  | .tup xs => some (!xs.isEmpty)
  | .lst xs => some (!xs.isEmpty)
  | .ref n => match h[n]? with
    | some (.lst xs) => some (!xs.isEmpty)
    | some (.dct false kvs) => some (!kvs.isEmpty)
    | _ => none
  | _ => none
def evTru (f : MEnv → MH → Res MV) (env : MEnv) (h : MH) : Res Bool := (f env h).bind fun m h1 => match truM m h1 with
  | some k => .ok k h1
  | none => .err
theorem RL.empty {K : PySem.W.Frag} {fi Z : List Addr} {H : Hp} {ms : List MV} {vs : List V} (r : RL K fi Z H ms vs) : (!vs.isEmpty) = !ms.isEmpty := by
  have l := r.length
  cases ms with
  | nil => cases vs with
    | nil => rfl
    | cons _ _ => simp at l
  | cons _ _ => cases vs with
    | nil => simp at l
    | cons _ _ => rfl
theorem RKs.empty {K : PySem.W.Frag} {fi Z : List Addr} {H : Hp} {ms : List (List Key × MV)} {vs : List (Key × V)} (r : RKs K fi Z H ms vs) : (!vs.isEmpty) = !ms.isEmpty := by
  cases ms with
  | nil => cases r; rfl
  | cons p q => obtain ⟨k, v, ks', rfl, _⟩ := r; rfl
theorem tru_of {K : PySem.W.Frag} {fi Z : List Addr} {H : Hp} {h : MH} {m : MV} {v : V} {k : Bool} (rh : RH K fi Z H h) (r : R K fi Z H m v) (e : truM m h = some k) : TruV K v H k := by
  unfold truM at e
  cases m with
  | non => simp only [R] at r; subst r; cases e; rfl
  | bl b => simp only [R] at r; subst r; cases e; rfl
  | int i => simp only [R] at r; subst r; cases e; rfl
  | str y =>
    simp only [R] at r
    subst r
    simp only at e
    split at e
    · cases e
      rename_i hy
      exact ⟨by rw [sizeLine_eq]; exact hy, rfl⟩
    · cases e
  | tup xs =>
    simp only [R] at r
    obtain ⟨a, vs, rfl, ea, _, _, rl⟩ := r
    cases e
    exact .inr (.inl ⟨vs, SqT.of ea, (RL.empty rl).symm⟩)
  | lst xs =>
    simp only [R] at r
    obtain ⟨a, vs, rfl, ea, _, _, _, rl⟩ := r
    cases e
    exact .inl ⟨vs, SqL.of ea, (RL.empty rl).symm⟩
  | ref n =>
    simp only [R] at r
    obtain ⟨a, ea, rfl⟩ := r
    simp only at e
    split at e
    · rename_i xs eo
      cases e
      obtain ⟨vs, e1, _, rl⟩ := rh.at_ n _ a eo ea
      exact .inl ⟨vs, SqL.of e1, (RL.empty rl).symm⟩
    · rename_i kvs eo
      cases e
      obtain ⟨ks, e1, rk⟩ := rh.at_ n _ a eo ea
      exact .inr (.inr ⟨ks, e1, (RKs.empty rk).symm⟩)
    · cases e
  | _ => cases e
theorem mt_tru (ha : PE X a (tE X.K W fa)) (he : ∀ whole, isTrue a X.env whole = (do let v ← whole; standAt a.pos; holding [v] (truthy v))) : PT X a (tT X.K W (evTru fa)) :=
  (pt_truth ha he).imp fun σ H Q ⟨fi, Z, env, h, re, rh, p⟩ => by
    refine ⟨fi, Z, env, h, re, rh, (Pst.bind (rel' := R X.K) p).imp ?_⟩
    rintro x H1 ⟨fi1, m, h1, g1, rh1, ra, p1⟩
    cases e : truM m h1 with
    | none => rw [e] at p1; exact p1.elim
    | some k => rw [e] at p1; exact ⟨k, tru_of rh1 ra e, p1.ok rh1 rfl⟩
def evNil (env : MEnv) (h : MH) : Res (List MV) := .ok [] h
def evCons (f : MEnv → MH → Res MV) (g : MEnv → MH → Res (List MV)) (env : MEnv) (h : MH) : Res (List MV) := (f env h).bind fun m h1 => (g env h1).bind fun ms h2 => .ok (m :: ms) h2
variable {e : Expr} {es : List Expr} {fe : MEnv → MH → Res MV} {fs : MEnv → MH → Res (List MV)}
theorem ma_nil : PA X [] (tA X.K W evNil) := pa_nil.imp fun σ H Q ⟨fi, Z, env, h, re, rh, p⟩ => p.ok rh RL.nil
theorem tCons_of {K : PySem.W.Frag} {σ : L2.St} {H : Hp} {Q : List V → Hp → Prop} (h : tA K W (evCons fe fs) σ H Q) : tCons (tE K W fe) (tA K W fs) σ H Q := by
  obtain ⟨fi, Z, env, h, re, rh, p⟩ := h
  refine ⟨fi, Z, env, h, re, rh, (Pst.bind (rel' := R K) p).imp ?_⟩
  rintro x H1 ⟨fi1, m, h1, g1, rh1, ra, p1⟩
  refine ⟨fi1, Z, env, h1, re.mono g1, rh1, (Pst.bind (rel' := RL K) p1).imp ?_⟩
  rintro xs H2 ⟨fi2, ms, h2, g2, rh2, rs, p2⟩
  exact p2.ok rh2 (RL.cons (ra.mono g2) rs)
theorem ma_cons (ha : PE X e (tE X.K W fe)) (hr : PA X es (tA X.K W fs)) (hs : starEach (e :: es) X.env = (false, eval e X.env) :: starEach es X.env) : PA X (e :: es) (tA X.K W (evCons fe fs)) :=
  (pa_cons ha hr hs).imp fun _ _ _ h => tCons_of h
theorem mk_nil : PK X [] (tA X.K W evNil) := pk_nil.imp fun σ H Q ⟨fi, Z, env, h, re, rh, p⟩ => p.ok rh RL.nil
theorem mk_cons {kws : List Keyword} {nm : Option Str} {kpos : Pos} (ha : PE X e (tE X.K W fe)) (hr : PK X kws (tA X.K W fs)) : PK X (⟨nm, e, kpos⟩ :: kws) (tA X.K W (evCons fe fs)) :=
  (pk_cons ha hr).imp fun _ _ _ h => tCons_of h
def evTup (f : MEnv → MH → Res (List MV)) (env : MEnv) (h : MH) : Res MV := (f env h).bind fun ms h1 => if ms.length ≤ 16777216 then .ok (.tup ms) h1 else .err
/-- a list display: m: one that is changed -/
def evLst (m : Bool) (f : MEnv → MH → Res (List MV)) (env : MEnv) (h : MH) : Res MV := (f env h).bind fun ms h1 => if ms.length ≤ 16777216 then (if m = true then .ok (.ref h1.length) (h1 ++ [.lst ms]) else .ok (.lst ms) h1) else .err
theorem line_of {n : Nat} (h : n ≤ 16777216) : n ≤ sizeLine := by rw [sizeLine_eq]; exact h
theorem me_tup {x1 : Nat} (h : PA X es (tA X.K W fs)) : PE X (.Tuple es x1 pos) (tE X.K W (evTup fs)) :=
  (pe_tup h).imp fun σ H Q ⟨fi, Z, env, h, re, rh, p⟩ => by
    refine ⟨fi, Z, env, h, re, rh, (Pst.bind (rel' := RL X.K) p).imp ?_⟩
    rintro xs H1 ⟨fi1, ms, h1, g1, rh1, rs, p1⟩
    split at p1
    · rename_i hl
      have l : xs.length ≤ sizeLine := by rw [← rs.length]; exact line_of hl
      exact ⟨l, fun q hq => p1 _ _ fi1 (Grow.laid hq) (rh1.laid hq) (R.tup_new rh1 hq rs l)⟩
    · exact p1.elim
/-- the end of what makes a new list -/
theorem new_lst {K : PySem.W.Frag} {fi Z : List Addr} {H : Hp} {σ : L2.St} {ms : List MV} {h : MH} {vs : List V} {Q : VK} (m : Bool) (rh : RH K fi Z H h) (rs : RL K fi Z H ms vs) (l : vs.length ≤ sizeLine)
    (p : Pst K (R K) W fi Z H σ (if m = true then .ok (.ref h.length) (h ++ [.lst ms]) else .ok (.lst ms) h) Q) : ∀ q, H q = none → Q (.ref q) (L2.upd H q (.lst vs)) := fun q hq => by
  cases m with
  | false => rw [if_neg Bool.false_ne_true] at p; exact p _ _ fi (Grow.laid hq) (rh.laid hq) (R.lst_new rh hq rs l)
  | true => rw [if_pos rfl] at p; exact p _ _ (fi ++ [q]) (Grow.more hq) (rh.more hq ⟨vs, L2.upd_same, l, RL.mono (Grow.more hq) _ _ rs⟩) (R.ref_new rh)
theorem me_lst (m : Bool) (h : PA X es (tA X.K W fs)) : PE X (.List es pos) (tE X.K W (evLst m fs)) :=
  (pe_lst h).imp fun σ H Q ⟨fi, Z, env, h, re, rh, p⟩ => by
    refine ⟨fi, Z, env, h, re, rh, (Pst.bind (rel' := RL X.K) p).imp ?_⟩
    rintro xs H1 ⟨fi1, ms, h1, g1, rh1, rs, p1⟩
    split at p1
    · rename_i hl
      have l : xs.length ≤ sizeLine := by rw [← rs.length]; exact line_of hl
      exact ⟨l, new_lst m rh1 rs l p1⟩
    · exact p1.elim
end
end Mi

set_option Elab.async false
set_option linter.all false
set_option maxRecDepth 100000
set_option maxHeartbeats 1000000
namespace Mi
open PySem PySem.Spec L2
set_option autoImplicit false
mutual
def MV.beq : MV → MV → Bool
  | .non, .non => true
  | .bl a, .bl b => a == b
  | .int a, .int b => a == b
  | .str a, .str b => decide (a = b)
  | .tup a, .tup b => MV.beqs a b
  | .lst a, .lst b => MV.beqs a b
  | .scr a, .scr b => a == b
  | .rng a b, .rng c d => a == c && b == d
  | .ref a, .ref b => a == b
  | .exc a b c, .exc d e f => decide (a = d) && (decide (b = e) && MV.beqs c f)
  | _, _ => false
def MV.beqs : List MV → List MV → Bool
  | [], [] => true
  | a :: as, b :: bs => MV.beq a b && MV.beqs as bs
  | _, _ => false
end
mutual
theorem MV.beq_iff : ∀ a b : MV, MV.beq a b = true ↔ a = b
  | .non, b => by cases b <;> simp [MV.beq]
  | .bl a, b => by cases b <;> simp [MV.beq]
  | .int a, b => by cases b <;> simp [MV.beq]
  | .str a, b => by cases b <;> simp [MV.beq]
  | .tup a, b => by cases b <;> simp [MV.beq, MV.beqs_iff a]
  | .lst a, b => by cases b <;> simp [MV.beq, MV.beqs_iff a]
  | .scr a, b => by cases b <;> simp [MV.beq]
  | .rng a c, b => by cases b <;> simp [MV.beq]
  | .ref a, b => by cases b <;> simp [MV.beq]
  | .exc a c d, b => by cases b <;> simp [MV.beq, MV.beqs_iff d]
theorem MV.beqs_iff : ∀ a b : List MV, MV.beqs a b = true ↔ a = b
  | [], b => by cases b <;> simp [MV.beqs]
  | a :: as, b => by
    cases b with
    | nil => simp [MV.beqs]
    | cons c cs => simp [MV.beqs, MV.beq_iff a c, MV.beqs_iff as cs]
end
instance : DecidableEq MV := fun a b => if h : MV.beq a b = true then isTrue ((MV.beq_iff a b).mp h) else isFalse fun e => h ((MV.beq_iff a b).mpr e)
def MO.beq : MO → MO → Bool
  | .lst a, .lst b => decide (a = b)
  | .dct t a, .dct u b => t == u && decide (a = b)
  | .lck t a, .lck u b => t == u && decide (a = b)
  | .ins a b c, .ins d e f => decide (a = d) && (decide (b = e) && decide (c = f))
  | .gone, .gone => true
  | _, _ => false
theorem MO.beq_iff (a b : MO) : MO.beq a b = true ↔ a = b := by
  cases a <;> cases b <;> simp [MO.beq]
instance : DecidableEq MO := fun a b => if h : MO.beq a b = true then isTrue ((MO.beq_iff a b).mp h) else isFalse fun e => h ((MO.beq_iff a b).mpr e)
end Mi

set_option Elab.async false
set_option linter.all false
set_option maxRecDepth 100000
set_option maxHeartbeats 1000000
namespace Mi
open PySem PySem.Spec L2
set_option autoImplicit false

inductive ITg where
  | name (i : Nat)
  | tup (ts : List ITg)
mutual
def asT : ITg → MV → MEnv → Option MEnv
  | .name i, m, env => some (env.set i (some m))
  | .tup ts, .tup ms, env => asTs ts ms env
  | .tup _, _, _ => none
def asTs : List ITg → List MV → MEnv → Option MEnv
  | [], [], env => some env
  | t :: ts, m :: ms, env => match asT t m env with
    | some env' => asTs ts ms env'
    | none => none
  | _, _, _ => none
end
mutual
def ITg.slots : ITg → List Nat
  | .name i => [i]
  | .tup ts => slotsL ts
def slotsL : List ITg → List Nat
  | [] => []
  | t :: ts => t.slots ++ slotsL ts
end
def wipeM (env : MEnv) : List Nat → MEnv
  | [] => env
  | v :: vs => (wipeM env vs).set v none
section
variable {K : PySem.W.Frag} {fi Z : List Addr} {H : Hp} {σ : L2.St} {env : MEnv}
theorem RE.set {i : Nat} {m : MV} {v : V} (r : RE K fi Z H σ env) (rv : R K fi Z H m v) : RE K fi Z H (σ.set i (some v)) (env.set i (some m)) := by
  refine ⟨by simp [r.1], fun j x e => ?_⟩
  by_cases hj : i = j
  · subst hj
    by_cases hi : i < env.length
    · rw [List.getElem?_set_self hi] at e
      cases e
      exact ⟨v, by rw [List.getElem?_set_self (by rw [r.1]; exact hi)], rv⟩
    · rw [List.getElem?_eq_none (by simpa using hi)] at e; cases e
  · rw [List.getElem?_set_ne hj] at e
    obtain ⟨u, eu, ru⟩ := r.2 j x e
    exact ⟨u, by rw [List.getElem?_set_ne hj]; exact eu, ru⟩
theorem RE.unset {i : Nat} (r : RE K fi Z H σ env) : RE K fi Z H (σ.set i none) (env.set i none) := by
  refine ⟨by simp [r.1], fun j x e => ?_⟩
  by_cases hj : i = j
  · subst hj
    by_cases hi : i < env.length
    · rw [List.getElem?_set_self hi] at e; cases e
    · rw [List.getElem?_eq_none (by simpa using hi)] at e; cases e
  · rw [List.getElem?_set_ne hj] at e
    obtain ⟨u, eu, ru⟩ := r.2 j x e
    exact ⟨u, by rw [List.getElem?_set_ne hj]; exact eu, ru⟩
theorem RE.wipe (r : RE K fi Z H σ env) : ∀ vs : List Nat, RE K fi Z H (L2.wipe σ vs) (wipeM env vs)
  | [] => r
  | v :: vs => by unfold L2.wipe wipeM; exact (RE.wipe r vs).unset
theorem wipe_in {i : Nat} {x : Option V} : ∀ {vs : List Nat} {σ : L2.St}, i ∈ vs → L2.wipe (σ.set i x) vs = L2.wipe σ vs
  | [], _, h => by simp at h
  | v :: vs, σ, h => by
    unfold L2.wipe
    by_cases hv : i ∈ vs
    · rw [wipe_in hv]
    · have e : i = v := by rcases List.mem_cons.mp h with q | q; exact q; exact absurd q hv
      subst e
      have out : ∀ {us : List Nat} {τ : L2.St}, i ∉ us → L2.wipe (τ.set i x) us = (L2.wipe τ us).set i x := by
        intro us
        induction us with
        | nil => intro τ _; rfl
        | cons u us ih =>
          intro τ hu
          unfold L2.wipe
          have n1 : u ≠ i := fun z => hu (z ▸ List.mem_cons_self)
          rw [ih fun z => hu (List.mem_cons_of_mem _ z), List.set_comm _ _ n1]
      rw [out hv, List.set_set]
end
theorem wipe_out' {i : Nat} {x : Option V} : ∀ {vs : List Nat} {σ : L2.St}, i ∉ vs → L2.wipe (σ.set i x) vs = (L2.wipe σ vs).set i x
  | [], _, _ => rfl
  | v :: vs, σ, h => by
    unfold L2.wipe
    have n1 : v ≠ i := fun z => h (z ▸ List.mem_cons_self)
    rw [wipe_out' fun z => h (List.mem_cons_of_mem _ z), List.set_comm _ _ n1]
theorem wipe_wipe {σ : L2.St} : ∀ vs : List Nat, L2.wipe (L2.wipe σ vs) vs = L2.wipe σ vs
  | [] => rfl
  | v :: vs => by
    show (L2.wipe ((L2.wipe σ vs).set v none) vs).set v none = (L2.wipe σ vs).set v none
    by_cases h : v ∈ vs
    · rw [wipe_in h, wipe_wipe vs]
    · rw [wipe_out' h, wipe_wipe vs, List.set_set]
/-- a target's reading -/
def gM (K : PySem.W.Frag) (t : ITg) : TG := fun v σ H Q => ∃ fi Z env h m env', RE K fi Z H σ env ∧ RH K fi Z H h ∧ R K fi Z H m v ∧ asT t m env = some env' ∧
  ∀ σ', RE K fi Z H σ' env' → (∀ vs : List Nat, (∀ i ∈ t.slots, i ∈ vs) → L2.wipe σ' vs = L2.wipe σ vs) → Q σ' H
def gMs (K : PySem.W.Frag) (ts : List ITg) : TGs := fun vs σ H Q => ∃ fi Z env h ms env', RE K fi Z H σ env ∧ RH K fi Z H h ∧ RL K fi Z H ms vs ∧ asTs ts ms env = some env' ∧
  ∀ σ', RE K fi Z H σ' env' → (∀ vs : List Nat, (∀ i ∈ slotsL ts, i ∈ vs) → L2.wipe σ' vs = L2.wipe σ vs) → Q σ' H
section
variable {X : Cx} {pos : Pos}
theorem _root_.L2.PG.imp {e : Expr} {t t' : TG} (h : PG X e t) (i : ∀ v σ H Q, t' v σ H Q → t v σ H Q) : PG X e t' := ⟨fun pins s σ H x u Q I r q => h.run pins s σ H x u Q I r (i x σ H Q q)⟩
theorem _root_.L2.PGs.imp {e : List Expr} {t t' : TGs} (h : PGs X e t) (i : ∀ v σ H Q, t' v σ H Q → t v σ H Q) : PGs X e t' := ⟨fun pins s σ H x u Q I r q => h.run pins s σ H x u Q I r (i x σ H Q q)⟩
theorem mg_name {i : Nat} {x : Str} (hN : X.N.Nodup) (hi : X.N[i]? = some x) (hx : Loc X.env.scope x) (hf : X.fn x = true ∨ X.env.scope.names.lookup x = some .local) : PG X (.Name x pos) (gM X.K (.name i)) :=
  (pg_name hN hi hx hf).imp fun v σ H Q ⟨fi, Z, env, h, m, env', re, rh, r, e, q⟩ => by
    simp only [asT, Option.some.injEq] at e
    subst e
    exact q _ (re.set r) fun vs hv => wipe_in (hv i (by simp [ITg.slots]))
theorem mgs_nil : PGs X [] (gMs X.K []) := pgs_nil.imp fun vs σ H Q ⟨fi, Z, env, h, ms, env', re, rh, r, e, q⟩ => by
  cases ms with
  | nil =>
    simp only [asTs, Option.some.injEq] at e
    subst e
    simp only [RL] at r
    exact ⟨r, q σ re fun _ _ => rfl⟩
  | cons _ _ => simp [asTs] at e
theorem mgs_cons {e : Expr} {es : List Expr} {t : ITg} {ts : List ITg} (h1 : PG X e (gM X.K t)) (h2 : PGs X es (gMs X.K ts)) (hs : (assignEach (e :: es) X.env).map (·.2) = assign e X.env :: (assignEach es X.env).map (·.2)) : PGs X (e :: es) (gMs X.K (t :: ts)) :=
  (pgs_cons h1 h2 hs).imp fun vs σ H Q ⟨fi, Z, env, h, ms, env', re, rh, r, e, q⟩ => by
    cases ms with
    | nil => simp [asTs] at e
    | cons m ms =>
      simp only [RL] at r
      obtain ⟨v, us, rfl, r1, r2⟩ := r
      simp only [asTs] at e
      split at e
      · rename_i env1 e1
        refine ⟨v, us, rfl, fi, Z, env, h, m, env1, re, rh, r1, e1, fun σ1 re1 w1 => ?_⟩
        refine ⟨fi, Z, env1, h, ms, env', re1, rh, r2, e, fun σ2 re2 w2 => q σ2 re2 fun ws hw => ?_⟩
        simp only [slotsL, List.mem_append] at hw
        rw [w2 ws fun i hi => hw i (.inr hi), w1 ws fun i hi => hw i (.inl hi)]
      · cases e
theorem asTs_len : ∀ {ts : List ITg} {ms : List MV} {env env' : MEnv}, asTs ts ms env = some env' → ms.length = ts.length
  | [], [], _, _, _ => rfl
  | [], _ :: _, _, _, h => by simp [asTs] at h
  | _ :: _, [], _, _, h => by simp [asTs] at h
  | t :: ts, m :: ms, env, env', h => by
    simp only [asTs] at h
    split at h
    · simp [asTs_len h]
    · cases h
theorem mg_tup {es : List Expr} {k : Nat} {ts : List ITg} (hc : X.calm = true) (h : PGs X es (gMs X.K ts)) (hn : (assignEach es X.env).length = ts.length) (hst : (assignEach es X.env).findIdx? (·.1) = none) : PG X (.Tuple es k pos) (gM X.K (.tup ts)) :=
  (pg_tup (n := ts.length) hc h hn hst).imp fun v σ H Q ⟨fi, Z, env, h, m, env', re, rh, r, e, q⟩ => by
    cases m with
    | tup ms =>
      simp only [R] at r
      obtain ⟨a, vs, rfl, ea, _, _, rl⟩ := r
      simp only [asT] at e
      refine ⟨a, vs, rfl, SqT.of ea, by rw [← rl.length]; exact asTs_len e, fi, Z, env, h, ms, env', re, rh, rl, e, fun σ' re' w => q σ' re' fun ws hw => w ws (by simpa [ITg.slots] using hw)⟩
    | _ => simp [asT] at e
end
/-- a list of the small heap that must stay while it is walked -/
inductive Chk where
  | no
  | lst (n : Nat) (xs : List MV)
  | lck (n : Nat) (t : Bool) (kvs : List (List Key × MV))
  | both (a b : Chk)
def Chk.ok : Chk → MH → Prop
  | .no, _ => True
  | .lst n xs, h => h[n]? = some (.lst xs)
  | .lck n t kvs, h => h[n]? = some (.lck t kvs)
  | .both a b, h => a.ok h ∧ b.ok h
def Chk.dec : (c : Chk) → (h : MH) → Decidable (c.ok h)
  | .no, _ => Decidable.isTrue trivial
  | .lst n xs, h => inferInstanceAs (Decidable (h[n]? = some (.lst xs)))
  | .lck n t kvs, h => inferInstanceAs (Decidable (h[n]? = some (.lck t kvs)))
  | .both a b, h => match Chk.dec a h, Chk.dec b h with
    | Decidable.isTrue p, Decidable.isTrue q => Decidable.isTrue ⟨p, q⟩
    | Decidable.isFalse p, _ => Decidable.isFalse fun z => p z.1
    | _, Decidable.isFalse q => Decidable.isFalse fun z => q z.2
instance (c : Chk) (h : MH) : Decidable (c.ok h) := c.dec h
/-- the items of J are xs, as long as c stands -/
structure ItOk (K : PySem.W.Frag) (Z : List Addr) (J : It) (xs : List MV) (c : Chk) (fi : List Addr) (H : Hp) : Prop where
  go : ∀ (i : Nat) fi' H' h m, Tr fi Z H fi' Z H' → (∀ a o u, H a = some (.frz o u) → H' a = some (.frz o u)) → RH K fi' Z H' h → c.ok h → xs[i]? = some m → J.go i H' ∧ ∀ x H2, J.yld i H' x H2 → Grow fi' fi' H' H2 ∧ RH K fi' Z H2 h ∧ R K fi' Z H2 m x
  stop : ∀ (i : Nat) fi' H' h, Tr fi Z H fi' Z H' → (∀ a o u, H a = some (.frz o u) → H' a = some (.frz o u)) → RH K fi' Z H' h → c.ok h → xs.length ≤ i → J.stop i H'
def RI (K : PySem.W.Frag) (fi Z : List Addr) (H : Hp) (p : List MV × Chk) (J : It) : Prop := ∀ Z', (∀ a ∈ Z', a ∈ Z ∨ H a = none) → ItOk K Z' J p.1 p.2 fi H
abbrev tI (K : PySem.W.Frag) (W : WX) (f : MEnv → MH → Res (List MV × Chk)) : TI := tG K (RI K) W f
/-- a value walked: tuples, lists, ranges -/
def itM (m : MV) (h : MH) : Option (List MV × Chk) := match m with
  | .tup xs => some (xs, .no)
  | .lst xs => some (xs, .no)
  | .scr ns => some (ns.map MV.int, .no)
  | .rng lo hi => some ((List.range (hi - lo).toNat).map fun k => MV.int (lo + (k : Nat)), .no)
  | .ref n => match h[n]? with
    | some (.lst xs) => some (xs, .lst n xs)
    | _ => none
  | _ => none
section
variable {K : PySem.W.Frag} {fi Z : List Addr} {H : Hp}
theorem RI.tup {a : Addr} {ms : List MV} {vs : List V} (ea : H a = some (.tup vs)) (na : a ∉ fi) (rl : RL K fi Z H ms vs) : RI K fi Z H (ms, .no) (Itt K a) := fun Z' hz => by
  have rl' : RL K fi Z' H ms vs := rl.tr (Tr.zch hz)
  refine ⟨fun i fi' H' h m g gf rh _ e => ?_, fun i fi' H' h g gf rh _ l => ?_⟩
  · have e1 : SqT K H' a vs := SqT.of (g.ot _ _ ea (fun _ z => nomatch z) na).1
    have rl2 := rl'.tr g
    obtain ⟨v, ev, rv⟩ := rl2.get e
    refine ⟨⟨vs, v, e1, ev⟩, fun x H2 ⟨eH, hx⟩ => ?_⟩
    subst eH
    have := hx vs e1
    rw [ev] at this; cases this
    exact ⟨Grow.refl, rh, rv⟩
  · exact ⟨vs, SqT.of (g.ot _ _ ea (fun _ z => nomatch z) na).1, by rw [← rl.length]; exact l⟩
theorem RI.lst {a : Addr} {ms : List MV} {vs : List V} (ea : H a = some (.lst vs)) (na : a ∉ fi) (nz : a ∉ Z) (rl : RL K fi Z H ms vs) : RI K fi Z H (ms, .no) (Itl K a) := fun Z' hz => by
  have nz' : a ∉ Z' := fun hm => by
    rcases hz a hm with q | q
    · exact nz q
    · rw [ea] at q; cases q
  have rl' : RL K fi Z' H ms vs := rl.tr (Tr.zch hz)
  refine ⟨fun i fi' H' h m g gf rh _ e => ?_, fun i fi' H' h g gf rh _ l => ?_⟩
  · have e1 : SqL K H' a vs := SqL.of (g.fz _ _ ea na nz').1
    have rl2 := rl'.tr g
    obtain ⟨v, ev, rv⟩ := rl2.get e
    refine ⟨⟨vs, v, e1, ev⟩, fun x H2 ⟨eH, hx⟩ => ?_⟩
    subst eH
    have := hx vs e1
    rw [ev] at this; cases this
    exact ⟨Grow.refl, rh, rv⟩
  · exact ⟨vs, SqL.of (g.fz _ _ ea na nz').1, by rw [← rl.length]; exact l⟩
theorem RL.ints {fi Z : List Addr} {H : Hp} : ∀ ns : List Int, RL K fi Z H (ns.map MV.int) (ns.map V.int)
  | [] => RL.nil
  | n :: ns => RL.cons (by simp only [R]) (RL.ints ns)
theorem RI.scr {a : Addr} {ns : List Int} (ea : Fz K fi H a (ns.map V.int)) : RI K fi Z H (ns.map MV.int, .no) (Itl K a) := fun Z' hz => by
  refine ⟨fun i fi' H' h m g gf rh _ e => ?_, fun i fi' H' h g gf rh _ l => ?_⟩
  · have e1 : SqL K H' a (ns.map V.int) := (ea.tr g).sq
    obtain ⟨v, ev, rv⟩ := (RL.ints (K := K) (fi := fi') (Z := Z') (H := H') ns).get e
    refine ⟨⟨_, v, e1, ev⟩, fun x H2 ⟨eH, hx⟩ => ?_⟩
    subst eH
    have := hx _ e1
    rw [ev] at this; cases this
    exact ⟨Grow.refl, rh, rv⟩
  · exact ⟨_, (ea.tr g).sq, by simpa using l⟩
theorem RI.ref {a : Addr} {n : Nat} {ms : List MV} (ea : fi[n]? = some a) : RI K fi Z H (ms, .lst n ms) (Itl K a) := fun Z' hz => by
  refine ⟨fun i fi' H' h m g gf rh c e => ?_, fun i fi' H' h g gf rh c l => ?_⟩
  · obtain ⟨vs, e1, _, rl⟩ := rh.at_ n _ a c (g.pre _ _ ea)
    obtain ⟨v, ev, rv⟩ := rl.get e
    refine ⟨⟨vs, v, SqL.of e1, ev⟩, fun x H2 ⟨eH, hx⟩ => ?_⟩
    subst eH
    have := hx vs (SqL.of e1)
    rw [ev] at this; cases this
    exact ⟨Grow.refl, rh, rv⟩
  · obtain ⟨vs, e1, _, rl⟩ := rh.at_ n _ a c (g.pre _ _ ea)
    exact ⟨vs, SqL.of e1, by rw [← rl.length]; exact l⟩
theorem RI.rng (lo : Int) (n : Nat) : RI K fi Z H ((List.range n).map fun k => MV.int (lo + (k : Nat)), .no) (Itr lo n) := fun Z' hz => by
  refine ⟨fun i fi' H' h m g gf rh _ e => ?_, fun i fi' H' h g gf rh _ l => ?_⟩
  · have hi : i < n := by have := (List.getElem?_eq_some_iff.mp e).1; simpa using this
    have e2 : m = MV.int (lo + (i : Nat)) := by
      rw [List.getElem?_map, List.getElem?_range hi] at e
      exact (Option.some.inj e).symm
    subst e2
    refine ⟨hi, fun x H2 ⟨eH, hx⟩ => ?_⟩
    subst eH hx
    exact ⟨Grow.refl, rh, by simp only [R]⟩
  · have l' : n ≤ i := by simpa using l
    exact l'
end
/-- iter(v) by the value -/
def evIt (f : MEnv → MH → Res MV) (env : MEnv) (h : MH) : Res (List MV × Chk) := (f env h).bind fun m h1 => match itM m h1 with
  | some p => .ok p h1
  | none => .err
section
variable {X : Cx} {W : WX} {tg l : Expr} {fl : MEnv → MH → Res MV}
/-- a range object's walk -/
theorem rng_iter {pins : List (Addr × Obj)} {σ : L2.St} {H : Hp} {s : Shared} {Rr : It → Hp → Prop} {E : Value → Shared → Prop} {a : Addr} {lo hi : Int} (I : Inv X pins σ H s) (ea : H a = some (.rng lo hi)) (hs : -(2 ^ 62) ≤ lo ∧ lo < 2 ^ 62 ∧ -(2 ^ 62) ≤ hi ∧ hi < 2 ^ 62)
    (q : Rr (Itr lo (hi - lo).toNat) H) : wpAny (model X.prog X.w) X.A (pyIter (.ref a)) (PIE X pins σ tg Rr) E s := by
  obtain ⟨t, u, v, e⟩ : ∃ t u v, s.heap.get? a = some { cls := .type "range", data := .fields #[.int lo t, .int hi u, .int 1 v] } := I.hok a _ ea
  obtain ⟨h1, h2, h3, h4⟩ := hs
  refine wpAny_pyIter_range (show IsRange s.heap a lo hi 1 t u v from e) (small_one h1 h2 h3 h4) ?_
  refine ⟨s.heap.objs.size, [s.heap.objs.size], _, _, H, rfl, I.kept (t' := s.toks) fun b o e => Heap.get?_push_of_some _ e, turn_range _ lo (hi - lo).toNat, ?_, fun b hb => ?_, q⟩
  · have e1 : lo + ((0 : Nat) : Int) * 1 = lo := by simp
    have e2 : (((hi - lo).toNat : Nat) : Int) - ((0 : Nat) : Int) = Builtin.Range.rangeSize lo hi 1 := by rw [rangeSize_one]; split <;> omega
    show IsRangeIter _ _ (lo + ((0 : Nat) : Int) * 1) ((((hi - lo).toNat : Nat) : Int) - ((0 : Nat) : Int)) 1
    rw [e1, e2]
    exact Heap.get?_push_size _ rfl
  · have e : b = s.heap.objs.size := by simpa using hb
    subst e
    exact I.fpOk (Nat.le_refl _) (I.hok.fresh (Nat.le_refl _))
theorem mi_val (hl : PE X l (tE X.K W fl)) : PI X tg l (tI X.K W (evIt fl)) := by
  refine ⟨fun pins s σ H Rr I ⟨fi, Z, env, h, re, rh, p⟩ => ?_⟩
  refine thn (hl.run pins s σ H _ I ⟨fi, Z, env, h, re, rh, Pst.bind (rel' := R X.K) p⟩) fun v s1 ⟨x, H1, I1, r1, fi1, m, h1, g1, rh1, ra, p1⟩ => ?_
  have lst : ∀ {a : Addr} {vs : List V}, SqL X.K H1 a vs → Rr (Itl X.K a) H1 → v = .ref a → wpAny (model X.prog X.w) X.A (pyIter v) (PIE X pins σ tg Rr) X.xe s1 := by
    intro a vs hq q e
    subst e
    obtain ⟨its, rv, pl, hz⟩ := I1.list hq
    refine wpAny_pyIter_list pl.isList ?_
    refine ⟨s1.heap.objs.size, [s1.heap.objs.size], _, _, H1, rfl, I1.kept (t' := s1.toks) fun b o e => Heap.get?_push_of_some _ e, turn_list a _, ⟨_, Heap.get?_push_size _ rfl, rfl, rfl⟩, fun b hb => ?_, q⟩
    have e : b = s1.heap.objs.size := by simpa using hb
    subst e
    exact I1.fpOk (Nat.le_refl _) (I1.hok.fresh (Nat.le_refl _))
  cases m with
  | tup ms =>
    simp only [R] at ra
    obtain ⟨a, vs, rfl, ea, na, l, rl⟩ := ra
    cases r1
    have q := p1.ok rh1 (RI.tup ea na rl)
    obtain ⟨its, rv, pl, hz⟩ := I1.tuple (SqT.of (K := X.K) ea)
    refine wpAny_pyIter_tuple (show s1.heap.IsTuple a its.toArray from pl) ?_
    refine ⟨s1.heap.objs.size, [s1.heap.objs.size], _, _, H1, rfl, I1.kept (t' := s1.toks) fun b o e => Heap.get?_push_of_some _ e, turn_tuple a _, ⟨_, Heap.get?_push_size _ rfl, rfl, rfl⟩, fun b hb => ?_, q⟩
    have e : b = s1.heap.objs.size := by simpa using hb
    subst e
    exact I1.fpOk (Nat.le_refl _) (I1.hok.fresh (Nat.le_refl _))
  | lst ms =>
    simp only [R] at ra
    obtain ⟨a, vs, rfl, ea, na, nz, l, rl⟩ := ra
    exact lst (SqL.of ea) (p1.ok rh1 (RI.lst ea na nz rl)) r1
  | scr ns =>
    simp only [R] at ra
    obtain ⟨a, rfl, ea⟩ := ra
    exact lst ea.sq (p1.ok rh1 (RI.scr ea)) r1
  | rng lo hi =>
    simp only [R] at ra
    obtain ⟨a, rfl, ea, na, b1, b2, b3, b4⟩ := ra
    cases r1
    exact rng_iter I1 ea ⟨b1, b2, b3, b4⟩ (p1.ok rh1 (RI.rng lo _))
  | ref n =>
    simp only [R] at ra
    obtain ⟨a, ea, rfl⟩ := ra
    unfold itM at p1
    simp only at p1
    cases eo : h1[n]? with
    | none => rw [eo] at p1; exact p1.elim
    | some o =>
      rw [eo] at p1
      cases o with
      | lst xs =>
        obtain ⟨vs, e1, _, rl⟩ := rh1.at_ n _ a eo ea
        exact lst (SqL.of e1) (p1.ok rh1 (RI.ref ea)) r1
      | _ => exact p1.elim
  | _ => exact p1.elim
end

def noX {α : Type} (r : Res α) : Res α := match r with
  | .ok a h => .ok a h
  | _ => .err
/-- no exception is let out -/
abbrev W0 : WX := fun _ _ _ _ => False
section
variable {K : PySem.W.Frag} {α β : Type} {rel : List Addr → List Addr → Hp → α → β → Prop} {W W' : WX} {fi Z : List Addr} {H : Hp} {σ σ' : L2.St}
theorem Pst.noX {r : Res α} {Q : β → Hp → Prop} (p : Pst K rel W fi Z H σ (noX r) Q) : Pst K rel W' fi Z H σ' r Q := by
  cases r with
  | ok a h => exact p
  | exc e h => exact p.elim
  | err => exact p.elim
/-- a good result that raises nothing, from its value alone -/
theorem Pst.of_ok {r : Res α} {a : α} {h : MH} {Q : β → Hp → Prop} (e : Mi.noX r = .ok a h) (q : ∀ b H' fi', Grow fi fi' H H' → RH K fi' Z H' h → rel fi' Z H' a b → Q b H') : Pst K rel W fi Z H σ r Q := by
  cases r with
  | ok a' h' => cases e; exact q
  | exc e' h' => cases e
  | err => cases e
end
/-- the turns of a comprehension: the list so far, what is left -/
def compL (c : Chk) (tg : MV → MEnv → Option MEnv) (t : MEnv → MH → Res Bool) (e : MEnv → MH → Res MV) (env : MEnv) : List MV → List MV → MH → Res (List MV)
  | acc, [], h => if c.ok h ∧ acc.length ≤ 16777216 then .ok acc h else .err
  | acc, x :: xs, h => if c.ok h then (match tg x env with
    | some env1 => (noX (t env1 h)).bind fun k h1 => if k = true then (noX (e env1 h1)).bind fun y h2 => compL c tg t e env (acc ++ [y]) xs h2 else compL c tg t e env acc xs h1
    | none => .err) else .err
def evComp (m : Bool) (it : MEnv → MH → Res (List MV × Chk)) (tg : MV → MEnv → Option MEnv) (t : MEnv → MH → Res Bool) (e : MEnv → MH → Res MV) (vs : List Nat) (env : MEnv) (h : MH) : Res MV :=
  (it env h).bind fun p h1 => (compL p.2 tg t e (wipeM env vs) [] p.1 h1).bind fun r h2 => if m = true then .ok (.ref h2.length) (h2 ++ [.lst r]) else .ok (.lst r) h2
theorem compL_len {c : Chk} {tg : MV → MEnv → Option MEnv} {t : MEnv → MH → Res Bool} {e : MEnv → MH → Res MV} {env : MEnv} : ∀ {xs acc : List MV} {h : MH} {r : List MV} {h' : MH}, compL c tg t e env acc xs h = .ok r h' → acc.length ≤ r.length ∧ r.length ≤ 16777216
  | [], acc, h, r, h', q => by
    unfold compL at q
    split at q
    · rename_i hc
      cases q
      exact ⟨Nat.le_refl _, hc.2⟩
    · cases q
  | x :: xs, acc, h, r, h', q => by
    unfold compL at q
    split at q
    · split at q
      · rename_i env1 e1
        cases et : noX (t env1 h) with
        | err => rw [et] at q; cases q
        | exc _ _ => rw [et] at q; cases q
        | ok k h1 =>
          rw [et] at q
          simp only [Res.bind] at q
          split at q
          · cases ee : noX (e env1 h1) with
            | err => rw [ee] at q; cases q
            | exc _ _ => rw [ee] at q; cases q
            | ok y h2 =>
              rw [ee] at q
              simp only at q
              have z := compL_len q
              simp only [List.length_append, List.length_cons, List.length_nil] at z
              omega
          · exact compL_len q
      · cases q
    · cases q
theorem compL_noexc {c : Chk} {tg : MV → MEnv → Option MEnv} {t : MEnv → MH → Res Bool} {e : MEnv → MH → Res MV} {env : MEnv} : ∀ {xs acc : List MV} {h : MH} {x : MX} {h' : MH}, compL c tg t e env acc xs h ≠ .exc x h'
  | [], acc, h, x, h', q => by
    unfold compL at q
    split at q <;> cases q
  | y :: xs, acc, h, x, h', q => by
    unfold compL at q
    split at q
    · split at q
      · rename_i env1 e1
        cases et : noX (t env1 h) with
        | err => rw [et] at q; cases q
        | exc _ _ =>
          cases eq : t env1 h <;> (rw [eq] at et; cases et)
        | ok k h1 =>
          rw [et] at q
          simp only [Res.bind] at q
          split at q
          · cases ee : noX (e env1 h1) with
            | err => rw [ee] at q; cases q
            | exc _ _ => cases eq : e env1 h1 <;> (rw [eq] at ee; cases ee)
            | ok y h2 =>
              rw [ee] at q
              exact compL_noexc q
          · exact compL_noexc q
      · cases q
    · cases q
/-- the end of a comprehension -/
theorem comp_fin {K : PySem.W.Frag} {W : WX} {fi fi' Z : List Addr} {H H' : Hp} {σ : L2.St} {D : Addr} {Q : VK} {r : List MV} {vs : List V} {h : MH} (m : Bool) (hD : H D = none) (nz : D ∉ Z) (p : Pst K (R K) W fi Z H σ (if m = true then .ok (.ref h.length) (h ++ [.lst r]) else .ok (.lst r) h) Q)
    (g : Grow fi fi' H H') (rh : RH K fi' (D :: Z) H' h) (eD : H' D = some (.lst vs)) (rl : RL K fi' (D :: Z) H' r vs) (l : vs.length ≤ sizeLine) : Q (.ref D) H' := by
  have nf : D ∉ fi' := (rh.z D List.mem_cons_self).2
  cases m with
  | false =>
    rw [if_neg Bool.false_ne_true] at p
    refine p _ _ fi' g (rh.zch fun a ha => List.mem_cons_of_mem _ ha) ?_
    simp only [R]
    exact ⟨D, vs, rfl, eD, nf, nz, l, rl.tr (Tr.zch fun a ha => .inl (List.mem_cons_of_mem _ ha))⟩
  | true =>
    rw [if_pos rfl] at p
    refine p _ _ (fi' ++ [D]) ⟨fun n a e => ?_, g.keep, fun a ha na => ?_, g.frz⟩ (rh.adopt eD nz l rl) ?_
    · have q := g.pre n a e
      rw [List.getElem?_append_left (List.getElem?_eq_some_iff.mp q).1]; exact q
    · rcases List.mem_append.mp ha with q | q
      · exact g.new a q na
      · have e : a = D := by simpa using q
        rw [e]; exact hD
    · simp only [R]
      exact ⟨D, by rw [← rh.len]; simp, rfl⟩
section
variable {X : Cx} {W : WX} {pos : Pos} {elt tg iter : Expr} {ifs : List Expr} {scope : Scope} {own : List (Str × Nat)} {it : MEnv → MH → Res (List MV × Chk)} {T : ITg} {t : MEnv → MH → Res Bool} {e : MEnv → MH → Res MV}
theorem tLc_of {K : PySem.W.Frag} {m : Bool} {vs : List Nat} {σ : L2.St} {H : Hp} {Q : VK} (hs : ∀ i ∈ T.slots, i ∈ vs) (h : tE K W (evComp m it (asT T) t e vs) σ H Q) : tLc (tI K W it) (gM K T) (tT K W0 t) (tE K W0 e) vs σ H Q := by
  obtain ⟨fi0, Z, env, h, re, rh, p⟩ := h
  refine ⟨fi0, Z, env, h, re, rh, (Pst.bind (rel' := RI K) p).imp ?_⟩
  rintro J H1 ⟨fi1, xc, h1, g1, rh1, ri, p1⟩
  obtain ⟨xs, c⟩ := xc
  intro D hD
  have nz : D ∉ Z := (rh1.fresh hD).2
  have io : ItOk K (D :: Z) J xs c fi1 H1 := ri (D :: Z) fun a ha => by
    rcases List.mem_cons.mp ha with q | q
    · exact .inr (q ▸ hD)
    · exact .inl q
  -- the result is a list
  cases er : compL c (asT T) t e (wipeM env vs) [] xs h1 with
  | err => rw [er] at p1; exact p1.elim
  | exc x hx => exact absurd er compL_noexc
  | ok r hf =>
    rw [er] at p1
    have p2 : Pst K (R K) W fi1 Z H1 σ (if m = true then .ok (.ref hf.length) (hf ++ [.lst r]) else .ok (.lst r) hf) Q := p1
    refine ⟨fun i mm H => mm = xs.length - i ∧ i ≤ xs.length ∧ ∃ fi h accM acc, Grow fi1 fi H1 H ∧ RH K fi (D :: Z) H h ∧ H D = some (.lst acc) ∧ RL K fi (D :: Z) H accM acc ∧
      compL c (asT T) t e (wipeM env vs) accM (xs.drop i) h = .ok r hf, ⟨xs.length, by simp, Nat.zero_le _, fi1, h1, [], [], Grow.laid hD, rh1.begin_ hD, L2.upd_same, RL.nil, by simpa using er⟩, ?_⟩
    rintro i mm H ⟨rfl, hi, fi, h, accM, acc, g, rh, eD, rl, ec⟩
    have lacc : accM.length ≤ r.length ∧ r.length ≤ 16777216 := compL_len ec
    have la : acc.length = accM.length := rl.length.symm
    by_cases hlt : i < xs.length
    · refine .inr ?_
      have ed : xs.drop i = xs[i] :: xs.drop (i + 1) := List.drop_eq_getElem_cons hlt
      rw [ed] at ec
      unfold compL at ec
      split at ec
      · rename_i hc
        split at ec
        · rename_i env1 eg
          obtain ⟨go, gy⟩ := io.go i fi H h xs[i] g.tr g.frz rh hc (List.getElem?_eq_getElem hlt)
          refine ⟨go, fun H' => ∃ fi h accM acc, Grow fi1 fi H1 H' ∧ RH K fi (D :: Z) H' h ∧ H' D = some (.lst acc) ∧ RL K fi (D :: Z) H' accM acc ∧ compL c (asT T) t e (wipeM env vs) accM (xs.drop (i + 1)) h = .ok r hf,
            fun H' q => ⟨xs.length - (i + 1), by omega, rfl, hlt, q⟩, fun x H2 hy => ?_⟩
          obtain ⟨g2, rh2, rx⟩ := gy x H2 hy
          have eD2 : H2 D = some (.lst acc) := g2.keep D _ eD (rh.z D List.mem_cons_self).2
          have zh : ∀ a ∈ D :: Z, a ∈ Z ∨ H1 a = none := fun a ha => by
            rcases List.mem_cons.mp ha with q | q
            · exact .inr (q ▸ hD)
            · exact .inl q
          have re1 : RE K fi (D :: Z) H2 (L2.wipe σ vs) (wipeM env vs) := (RE.mono g2 (RE.mono g ((RE.mono g1 re).tr (Tr.zch zh)))).wipe vs
          refine ⟨fi, D :: Z, wipeM env vs, h, xs[i], env1, re1, rh2, rx, eg, fun σ2 re2 wp => ⟨(wp vs hs).trans (wipe_wipe vs), ?_⟩⟩
          refine ⟨fi, D :: Z, env1, h, re2, rh2, ?_⟩
          cases et : noX (t env1 h) with
          | err => rw [et] at ec; cases ec
          | exc _ _ => rw [et] at ec; cases ec
          | ok k h3 =>
            rw [et] at ec
            simp only [Res.bind] at ec
            refine Pst.of_ok et ?_
            rintro b H3 fi3 g3 rh3 rfl
            have g13 : Grow fi1 fi3 H1 H3 := (g.trans g2).trans g3
            have eD3 : H3 D = some (.lst acc) := g3.keep D _ eD2 (rh2.z D List.mem_cons_self).2
            have rl3 : RL K fi3 (D :: Z) H3 accM acc := (rl.mono g2).mono g3
            cases k with
            | false =>
              rw [if_neg Bool.false_ne_true] at ec ⊢
              exact ⟨fi3, h3, accM, acc, g13, rh3, eD3, rl3, ec⟩
            | true =>
              rw [if_pos rfl] at ec ⊢
              refine ⟨fi3, D :: Z, env1, h3, RE.mono g3 re2, rh3, ?_⟩
              cases ee : noX (e env1 h3) with
              | err => rw [ee] at ec; cases ec
              | exc _ _ => rw [ee] at ec; cases ec
              | ok y h4 =>
                rw [ee] at ec
                simp only at ec
                refine Pst.of_ok ee ?_
                intro v H4 fi4 g4 rh4 rv
                have eD4 : H4 D = some (.lst acc) := g4.keep D _ eD3 (rh3.z D List.mem_cons_self).2
                have l2 := compL_len ec
                simp only [List.length_append, List.length_cons, List.length_nil] at l2
                have g14 : Grow fi1 fi4 H1 (L2.upd H4 D (.lst (acc ++ [v]))) := by
                  refine ⟨(g13.trans g4).pre, fun a o ea na => ?_, (g13.trans g4).new, fun a ob u ea => by rw [L2.upd_ne (ne_of_none ea hD)]; exact (g13.trans g4).frz a ob u ea⟩
                  rw [L2.upd_ne (ne_of_none ea hD)]
                  exact (g13.trans g4).keep a o ea na
                refine ⟨acc, eD4, by rw [sizeLine_eq]; omega, fi4, h4, accM ++ [y], acc ++ [v], g14, rh4.updZ eD4 List.mem_cons_self, L2.upd_same, ?_, ec⟩
                exact RL.append ((rl3.mono g4).tr (Tr.updZ eD4 List.mem_cons_self)) (RL.cons (rv.tr (Tr.updZ eD4 List.mem_cons_self)) RL.nil)
        · cases ec
      · cases ec
    · have e2 : i = xs.length := by omega
      refine .inl ?_
      rw [List.drop_of_length_le (by omega)] at ec
      unfold compL at ec
      split at ec
      · rename_i hc
        cases ec
        exact ⟨io.stop i fi H _ g.tr g.frz rh hc.1 (by omega), comp_fin m hD nz p2 g rh eD rl (by rw [sizeLine_eq]; omega)⟩
      · cases ec
theorem me_comp {m : Bool} (hc : X.calm = true) (hN : X.N.Nodup) (ok : BlkOk X.N X.env.scope scope own) (hs : ∀ i ∈ T.slots, i ∈ own.map (·.2)) (hi : PI X tg iter (tI X.K W it))
    (hg : ∀ (s : Shared) (H : Hp) (C : Addr) (cl : List (Str × Addr)) (fp : List Addr), PG (X.blk s H scope (compEnvC scope cl C X.env) fp) tg (gM X.K T))
    (ht : ∀ (s : Shared) (H : Hp) (C : Addr) (cl : List (Str × Addr)) (fp : List Addr), PTs (X.blk s H scope (compEnvC scope cl C X.env) fp) ifs (tT X.K W0 t))
    (he : ∀ (s : Shared) (H : Hp) (C : Addr) (cl : List (Str × Addr)) (fp : List Addr), PE (X.blk s H scope (compEnvC scope cl C X.env) fp) elt (tE X.K W0 e)) (hf : ∀ x, foldedSetIterable iter X.env x = pure x) :
    PE X (.ListComp elt [⟨tg, iter, ifs, 0⟩] scope pos) (tE X.K W (evComp m it (asT T) t e (own.map (·.2)))) :=
  (pe_lc hc hN hi ok hg ht he hf).imp fun _ _ _ h => tLc_of hs h
end
end Mi

set_option Elab.async false
set_option linter.all false
set_option maxRecDepth 100000
set_option maxHeartbeats 1000000
namespace Mi
open PySem PySem.Spec L2
set_option autoImplicit false

inductive Flw where
  | nx | bk | ct | rt (v : MV)
inductive SRes where
  | ok (f : Flw) (env : MEnv) (h : MH)
  | exc (e : MX) (env : MEnv) (h : MH)
  | err
section
variable (K : PySem.W.Frag)
def PstS (W : WX) (D : Ends) (fi Z : List Addr) (H : Hp) (r : SRes) : Prop := match r with
  | .ok f env h => match f with
    | .nx => ∀ σ' H' fi', Grow fi fi' H H' → RH K fi' Z H' h → RE K fi' Z H' σ' env → D.nx σ' H'
    | .bk => ∀ σ' H' fi', Grow fi fi' H H' → RH K fi' Z H' h → RE K fi' Z H' σ' env → D.bk σ' H'
    | .ct => ∀ σ' H' fi', Grow fi fi' H H' → RH K fi' Z H' h → RE K fi' Z H' σ' env → D.ct σ' H'
    | .rt m => ∀ v H' fi', Grow fi fi' H H' → RH K fi' Z H' h → R K fi' Z H' m v → D.rt v H'
  | .exc e env h => ∀ H' fi' c d σ', Grow fi fi' H H' → RH K fi' Z H' h → RE K fi' Z H' σ' env → RX K fi' Z H' e c d → W c d σ' H'
  | .err => False
def tS (W : WX) (f : MEnv → MH → SRes) : TS := fun D σ H => ∃ fi Z env h, RE K fi Z H σ env ∧ RH K fi Z H h ∧ PstS K W D fi Z H (f env h)
end
section
variable {K : PySem.W.Frag} {W : WX} {D : Ends} {fi fi' Z : List Addr} {H H' : Hp} {σ : L2.St}
theorem PstS.mono {r : SRes} (g : Grow fi fi' H H') (p : PstS K W D fi Z H r) : PstS K W D fi' Z H' r := by
  cases r with
  | ok f env h =>
    cases f with
    | nx => exact fun σ' H2 fi2 g2 => p σ' H2 fi2 (g.trans g2)
    | bk => exact fun σ' H2 fi2 g2 => p σ' H2 fi2 (g.trans g2)
    | ct => exact fun σ' H2 fi2 g2 => p σ' H2 fi2 (g.trans g2)
    | rt m => exact fun v H2 fi2 g2 => p v H2 fi2 (g.trans g2)
  | exc e env h => exact fun H2 fi2 c d σ' g2 => p H2 fi2 c d σ' (g.trans g2)
  | err => exact p
/-- lift an expression's result -/
def ofE {α : Type} (r : Res α) (env : MEnv) (f : α → MH → SRes) : SRes := match r with
  | .ok a h => f a h
  | .exc e h => .exc e env h
  | .err => .err
theorem PstS.ofE {α β : Type} {rel : List Addr → List Addr → Hp → α → β → Prop} {env : MEnv} {r : Res α} {f : α → MH → SRes} (re : RE K fi Z H σ env) (p : PstS K W D fi Z H (Mi.ofE r env f)) :
    Pst K rel W fi Z H σ r (fun b H1 => ∃ fi1 a h1, Grow fi fi1 H H1 ∧ RH K fi1 Z H1 h1 ∧ rel fi1 Z H1 a b ∧ PstS K W D fi1 Z H1 (f a h1)) := by
  cases r with
  | ok a h => exact fun b H1 fi1 g r1 r2 => ⟨fi1, a, h, g, r1, r2, PstS.mono g p⟩
  | exc e h => exact fun H1 fi1 c d g r1 r2 => p H1 fi1 c d σ g r1 (re.mono g) r2
  | err => exact p
theorem PstS.nx {env : MEnv} {h : MH} (p : PstS K W D fi Z H (.ok .nx env h)) (rh : RH K fi Z H h) (re : RE K fi Z H σ env) : D.nx σ H := p σ H fi Grow.refl rh re
def evsNx (env : MEnv) (h : MH) : SRes := .ok .nx env h
def evsSeq (f g : MEnv → MH → SRes) (env : MEnv) (h : MH) : SRes := match f env h with
  | .ok .nx env1 h1 => g env1 h1
  | r => r
def evsAsg (f : MEnv → MH → Res MV) (t : ITg) (env : MEnv) (h : MH) : SRes := ofE (f env h) env fun m h1 => match asT t m env with
  | some env1 => .ok .nx env1 h1
  | none => .err
def evsEx (f : MEnv → MH → Res MV) (env : MEnv) (h : MH) : SRes := ofE (f env h) env fun _ h1 => .ok .nx env h1
def evsRet (f : MEnv → MH → Res MV) (env : MEnv) (h : MH) : SRes := ofE (f env h) env fun m h1 => .ok (.rt m) env h1
def evsIf (t : MEnv → MH → Res Bool) (f g : MEnv → MH → SRes) (env : MEnv) (h : MH) : SRes := ofE (t env h) env fun k h1 => if k = true then f env h1 else g env h1
end
section
variable {X : Cx} {W : WX} {pos : Pos} {st : Stmt} {rest : List Stmt} {f g : MEnv → MH → SRes} {e : Expr} {fe : MEnv → MH → Res MV}
theorem mss_nil : PSs X [] (tS X.K W evsNx) := pss_nil.imp fun D σ H ⟨fi, Z, env, h, re, rh, p⟩ => p.nx rh re
theorem tSeq_of {K : PySem.W.Frag} {D : Ends} {σ : L2.St} {H : Hp} (q : tS K W (evsSeq f g) D σ H) : tSeq (tS K W f) (tS K W g) D σ H := by
  obtain ⟨fi, Z, env, h, re, rh, p⟩ := q
  refine ⟨fi, Z, env, h, re, rh, ?_⟩
  unfold evsSeq at p
  cases er : f env h with
  | err => rw [er] at p; exact p
  | exc x env1 h1 => rw [er] at p; exact p
  | ok fl env1 h1 =>
    rw [er] at p
    cases fl with
    | nx => exact fun σ' H' fi' g1 r1 r2 => ⟨fi', Z, env1, h1, r2, r1, PstS.mono g1 p⟩
    | bk => exact p
    | ct => exact p
    | rt m => exact p
theorem mss_cons (h1 : PS X st (tS X.K W f)) (h2 : PSs X rest (tS X.K W g)) : PSs X (st :: rest) (tS X.K W (evsSeq f g)) := (pss_cons h1 h2).imp fun _ _ _ q => tSeq_of q
theorem mss_one (h1 : PS X st (tS X.K W f)) : PSs X [st] (tS X.K W f) := pss_one h1
theorem ms_pass : PS X (.Pass pos) (tS X.K W evsNx) := ps_pass.imp fun D σ H ⟨fi, Z, env, h, re, rh, p⟩ => p.nx rh re
theorem ms_break : PS X (.Break pos) (tS X.K W fun env h => .ok .bk env h) := ps_break.imp fun D σ H ⟨fi, Z, env, h, re, rh, p⟩ => p σ H fi Grow.refl rh re
theorem ms_continue : PS X (.Continue pos) (tS X.K W fun env h => .ok .ct env h) := ps_continue.imp fun D σ H ⟨fi, Z, env, h, re, rh, p⟩ => p σ H fi Grow.refl rh re
theorem ms_expr (he : PE X e (tE X.K W fe)) (hs : swapsWith e none pos.line X.env = pure false) : PS X (.Expr e pos) (tS X.K W (evsEx fe)) :=
  (ps_expr he hs).imp fun D σ H ⟨fi, Z, env, h, re, rh, p⟩ => by
    refine ⟨fi, Z, env, h, re, rh, (PstS.ofE (rel := R X.K) re p).imp ?_⟩
    rintro x H1 ⟨fi1, m, h1, g1, rh1, ra, p1⟩
    exact p1.nx rh1 (re.mono g1)
theorem ms_ret (he : PE X e (tE X.K W fe)) : PS X (.Return (some e) pos) (tS X.K W (evsRet fe)) :=
  (ps_ret he).imp fun D σ H ⟨fi, Z, env, h, re, rh, p⟩ => by
    refine ⟨fi, Z, env, h, re, rh, (PstS.ofE (rel := R X.K) re p).imp ?_⟩
    rintro x H1 ⟨fi1, m, h1, g1, rh1, ra, p1⟩
    exact p1 x H1 fi1 Grow.refl rh1 ra
theorem ms_retN : PS X (.Return none pos) (tS X.K W fun env h => .ok (.rt .non) env h) :=
  ps_retN.imp fun D σ H ⟨fi, Z, env, h, re, rh, p⟩ => p _ H fi Grow.refl rh (by simp only [R])
theorem ms_if {c : Expr} {a b : List Stmt} {t : MEnv → MH → Res Bool} (hc : PT X c (tT X.K W t)) (ha : PSs X a (tS X.K W f)) (hb : PSs X b (tS X.K W g)) : PS X (.If c a b pos) (tS X.K W (evsIf t f g)) :=
  (ps_if hc ha hb).imp fun D σ H ⟨fi, Z, env, h, re, rh, p⟩ => by
    refine ⟨fi, Z, env, h, re, rh, (PstS.ofE (rel := relB) re p).imp ?_⟩
    rintro x H1 ⟨fi1, k, h1, g1, rh1, ra, p1⟩
    subst ra
    cases k with
    | true => rw [if_pos rfl] at p1 ⊢; exact ⟨fi1, Z, env, h1, re.mono g1, rh1, p1⟩
    | false => rw [if_neg Bool.false_ne_true] at p1 ⊢; exact ⟨fi1, Z, env, h1, re.mono g1, rh1, p1⟩
/-- target = value, target a name or a tuple of names -/
theorem tAsg_of {K : PySem.W.Frag} {t : ITg} {D : Ends} {σ : L2.St} {H : Hp} (q : tS K W (evsAsg fe t) D σ H) : tAsg (tE K W fe) (gM K t) D σ H := by
  obtain ⟨fi, Z, env, h, re, rh, p⟩ := q
  refine ⟨fi, Z, env, h, re, rh, (PstS.ofE (rel := R K) re p).imp ?_⟩
  rintro x H1 ⟨fi1, m, h1, g1, rh1, ra, p1⟩
  split at p1
  · rename_i env1 e1
    exact ⟨fi1, Z, env, h1, m, env1, re.mono g1, rh1, ra, e1, fun σ' re' _ => p1.nx rh1 re'⟩
  · exact p1.elim
theorem ms_asg {tg : Expr} {t : ITg} (he : PE X e (tE X.K W fe)) (hg : PG X tg (gM X.K t)) (hs : swapsWithSole [tg] e pos.line X.env = pure false) (hw : swappedStores [tg] e X.env = pure none) (h1 : (assignEach [tg] X.env).map (·.2) = [assign tg X.env]) : PS X (.Assign [tg] e pos) (tS X.K W (evsAsg fe t)) :=
  (ps_asg he hg hs hw h1).imp fun _ _ _ q => tAsg_of q
def evsWhile (t : MEnv → MH → Res Bool) (b : MEnv → MH → SRes) : Nat → MEnv → MH → SRes
  | 0, _, _ => .err
  | n + 1, env, h => ofE (t env h) env fun k h1 => if k = true then (match b env h1 with
    | .ok .nx env2 h2 => evsWhile t b n env2 h2
    | .ok .ct env2 h2 => evsWhile t b n env2 h2
    | .ok .bk env2 h2 => .ok .nx env2 h2
    | r => r) else .ok .nx env h1
theorem ms_while {c : Expr} {body : List Stmt} {t : MEnv → MH → Res Bool} (n : Nat) (hp : PassesOwn (model X.prog X.w) X.A X.env X.xe) (hc : PT X c (tT X.K W t)) (hb : PSs X body (tS X.K W f)) : PS X (.While c body [] pos) (tS X.K W (evsWhile t f n)) :=
  (ps_while hp hc hb).imp fun D σ H ⟨fi, Z, env, h, re, rh, p⟩ => by
    refine ⟨fun m σ H => ∃ fi env h, RE X.K fi Z H σ env ∧ RH X.K fi Z H h ∧ PstS X.K W D fi Z H (evsWhile t f m env h), ⟨n, fi, env, h, re, rh, p⟩, ?_⟩
    rintro m σ H ⟨fi, env, h, re, rh, p⟩
    cases m with
    | zero => exact p.elim
    | succ m =>
      refine ⟨fi, Z, env, h, re, rh, (PstS.ofE (rel := relB) re p).imp ?_⟩
      rintro x H1 ⟨fi1, k, h1, g1, rh1, ra, p1⟩
      subst ra
      cases k with
      | false => rw [if_neg Bool.false_ne_true] at p1 ⊢; exact p1.nx rh1 (re.mono g1)
      | true =>
        rw [if_pos rfl] at p1 ⊢
        refine ⟨fun σ H => ∃ fi env h, RE X.K fi Z H σ env ∧ RH X.K fi Z H h ∧ PstS X.K W D fi Z H (evsWhile t f m env h), fun σ' H' q => ⟨m, Nat.lt_succ_self _, q⟩, fi1, Z, env, h1, re.mono g1, rh1, ?_⟩
        cases er : f env h1 with
        | err => rw [er] at p1; exact p1
        | exc x env2 h2 => rw [er] at p1; exact p1
        | ok fl env2 h2 =>
          rw [er] at p1
          cases fl with
          | nx => exact fun σ' H' fi' g2 r1 r2 => ⟨fi', env2, h2, r2, r1, PstS.mono g2 p1⟩
          | ct => exact fun σ' H' fi' g2 r1 r2 => ⟨fi', env2, h2, r2, r1, PstS.mono g2 p1⟩
          | bk => exact p1
          | rt m => exact p1
def evsLoop (c : Chk) (tg : MV → MEnv → Option MEnv) (b : MEnv → MH → SRes) : List MV → MEnv → MH → SRes
  | [], env, h => if c.ok h then .ok .nx env h else .err
  | x :: xs, env, h => if c.ok h then (match tg x env with
    | some env1 => (match b env1 h with
      | .ok .nx env2 h2 => evsLoop c tg b xs env2 h2
      | .ok .ct env2 h2 => evsLoop c tg b xs env2 h2
      | .ok .bk env2 h2 => .ok .nx env2 h2
      | r => r)
    | none => .err) else .err
def evsFor (it : MEnv → MH → Res (List MV × Chk)) (t : ITg) (b : MEnv → MH → SRes) (env : MEnv) (h : MH) : SRes := ofE (it env h) env fun p h1 => evsLoop p.2 (asT t) b p.1 env h1
theorem ms_for {tg iter : Expr} {body : List Stmt} {it : MEnv → MH → Res (List MV × Chk)} {t : ITg} (hp : PassesOwn (model X.prog X.w) X.A X.env X.xe) (hc : X.calm = true) (hi : PI X tg iter (tI X.K W it)) (hg : PG X tg (gM X.K t)) (hb : PSs X body (tS X.K W f))
    (hs : ∀ x, foldedSetIterable iter X.env x = pure x) : PS X (.For tg iter body [] pos) (tS X.K W (evsFor it t f)) :=
  (ps_for hp hc hi hg hb hs).imp fun D σ H ⟨fi, Z, env, h, re, rh, p⟩ => by
    refine ⟨fi, Z, env, h, re, rh, (PstS.ofE (rel := RI X.K) re p).imp ?_⟩
    rintro J H1 ⟨fi1, xc, h1, g1, rh1, ri, p1⟩
    obtain ⟨xs, c⟩ := xc
    have io := ri Z fun a ha => .inl ha
    refine ⟨fun i m σ H => m = xs.length - i ∧ i ≤ xs.length ∧ ∃ fi env h, Grow fi1 fi H1 H ∧ RE X.K fi Z H σ env ∧ RH X.K fi Z H h ∧ PstS X.K W D fi Z H (evsLoop c (asT t) f (xs.drop i) env h),
      ⟨xs.length, by simp, Nat.zero_le _, fi1, env, h1, Grow.refl, re.mono g1, rh1, by simpa using p1⟩, ?_⟩
    rintro i m σ H ⟨rfl, hi, fi, env, h, g, re, rh, p⟩
    by_cases hlt : i < xs.length
    · have ed : xs.drop i = xs[i] :: xs.drop (i + 1) := List.drop_eq_getElem_cons hlt
      rw [ed] at p
      unfold evsLoop at p
      split at p
      · rename_i hc
        split at p
        · rename_i env1 eg
          obtain ⟨go, gy⟩ := io.go i fi H h xs[i] g.tr g.frz rh hc (List.getElem?_eq_getElem hlt)
          refine .inr ⟨go, fun σ H => ∃ fi env h, Grow fi1 fi H1 H ∧ RE X.K fi Z H σ env ∧ RH X.K fi Z H h ∧ PstS X.K W D fi Z H (evsLoop c (asT t) f (xs.drop (i + 1)) env h), fun σ' H' q => ⟨xs.length - (i + 1), by omega, rfl, hlt, q⟩, fun x H2 hy => ?_⟩
          obtain ⟨g2, rh2, rx⟩ := gy x H2 hy
          refine ⟨fi, Z, env, h, xs[i], env1, re.mono g2, rh2, rx, eg, fun σ2 re2 _ => ?_⟩
          refine ⟨fi, Z, env1, h, re2, rh2, ?_⟩
          have p2 := PstS.mono g2 p
          cases er : f env1 h with
          | err => rw [er] at p2; exact p2
          | exc x env2 h2 => rw [er] at p2; exact p2
          | ok fl env2 h2 =>
            rw [er] at p2
            cases fl with
            | nx => exact fun σ' H' fi' g3 r1 r2 => ⟨fi', env2, h2, (g.trans g2).trans g3, r2, r1, PstS.mono g3 p2⟩
            | ct => exact fun σ' H' fi' g3 r1 r2 => ⟨fi', env2, h2, (g.trans g2).trans g3, r2, r1, PstS.mono g3 p2⟩
            | bk => exact p2
            | rt m => exact p2
        · exact p.elim
      · exact p.elim
    · have e2 : i = xs.length := by omega
      rw [List.drop_of_length_le (by omega)] at p
      unfold evsLoop at p
      split at p
      · rename_i hc
        exact .inl ⟨io.stop i fi H h g.tr g.frz rh hc (by rw [e2]; exact Nat.le_refl _), p.nx rh re⟩
      · exact p.elim
end
end Mi

set_option Elab.async false
set_option linter.all false
set_option maxRecDepth 100000
set_option maxHeartbeats 1000000
namespace Mi
open PySem PySem.Spec L2
set_option autoImplicit false

/-- a def's promise by a function of the small interpreter -/
def spOf (K : PySem.W.Frag) (n : Nat) (m : List MV → MH → Res MV) : Sp := fun vs H Q E => vs.length = n ∧ ∃ fi Z h ms, RH K fi Z H h ∧ RL K fi Z H ms vs ∧ Pst K (R K) (fun c d _ H => E c d H) fi Z H [] (m ms h) Q
def evCall (m : List MV → MH → Res MV) (f : MEnv → MH → Res (List MV)) (env : MEnv) (h : MH) : Res MV := (f env h).bind fun ms h1 => m ms h1
section
variable {K : PySem.W.Frag} {fi Z : List Addr} {H : Hp}
theorem Pst.wx {α β : Type} {rel : List Addr → List Addr → Hp → α → β → Prop} {W W' : WX} {σ σ' : L2.St} {r : Res α} {Q : β → Hp → Prop} (h : ∀ c d H, W c d σ H → W' c d σ' H) (p : Pst K rel W fi Z H σ r Q) : Pst K rel W' fi Z H σ' r Q := by
  cases r with
  | ok a h1 => exact p
  | exc e h1 => exact fun H' fi' c d g r1 r2 => h _ _ _ (p H' fi' c d g r1 r2)
  | err => exact p
end
section
variable {X : Cx} {W : WX} {k : Nat} {f : Addr} {fd : FuncData} {ps : List Str} {x : Str} {p pos : Pos} {e : Expr} {es : List Expr} {m : List MV → MH → Res MV} {fs : MEnv → MH → Res (List MV)}
/-- the call behind the arguments -/
theorem tCall_of {K : PySem.W.Frag} {σ : L2.St} {H : Hp} {Q : VK} {n : Nat} (hn : ∀ env h ms h', fs env h = .ok ms h' → ms.length = n) (q : tE K W (evCall m fs) σ H Q) : tCallS (spOf K n m) (WE W) (tA K W fs) σ H Q := by
  obtain ⟨fi, Z, env, h, re, rh, p⟩ := q
  refine ⟨fi, Z, env, h, re, rh, ?_⟩
  unfold evCall at p
  cases er : fs env h with
  | err => rw [er] at p; exact p
  | exc x h1 => rw [er] at p; exact p
  | ok ms h1 =>
    rw [er] at p
    intro vs H1 fi1 g1 rh1 rl
    exact ⟨by rw [← rl.length]; exact hn env h ms h1 er, fi1, Z, h1, ms, rh1, rl, (Pst.mono g1 p).wx fun _ _ _ z => z⟩
theorem me_call (F : FnOk X.prog X.w X.K X.mg X.base (L2.CX X.prog X.w) k f fd ps (spOf X.K ps.length m)) (hr : Room k X.A) (hg : Gl X x) (hm : X.mg x = some (.ref f)) (hk : PySem.W.keepIn X.K (.ref f) = true) (hb : Binds X.K fd ps []) (tk : Takes X W)
    (hn : ∀ env h ms h', fs env h = .ok ms h' → ms.length = ps.length) (ha : PA X (e :: es) (tA X.K W fs)) (hdb : (x == ("__debug__" : Str)) = false) (he : starEach (e :: es) X.env = (false, eval e X.env) :: starEach es X.env) (hpl : (backTo pos (starEach es X.env)).any (·.1) = false) :
    PE X (.Call (.Name x p) (e :: es) [] pos) (tE X.K W (evCall m fs)) :=
  (pe_callS F hr hg hm hk hb (fun σ => passAt tk σ) ha hdb he hpl).imp fun _ _ _ q => tCall_of hn q
end
mutual
def refsLt (n : Nat) : MV → Bool
  | .tup xs => refsLtL n xs
  | .lst xs => refsLtL n xs
  | .exc _ _ xs => refsLtL n xs
  | .ref i => decide (i < n)
  | _ => true
def refsLtL (n : Nat) : List MV → Bool
  | [] => true
  | m :: ms => refsLt n m && refsLtL n ms
end
section
variable {K : PySem.W.Frag} {fi fi' Z : List Addr} {H H' : Hp}
mutual
theorem R.refs : ∀ (m : MV) (v : V), R K fi Z H m v → refsLt fi.length m = true
  | .non, v, _ => by simp only [refsLt]
  | .bl b, v, _ => by simp only [refsLt]
  | .int i, v, _ => by simp only [refsLt]
  | .str s, v, _ => by simp only [refsLt]
  | .tup xs, v, h => by
    simp only [R] at h
    obtain ⟨a, vs, _, _, _, _, r⟩ := h
    simp only [refsLt]
    exact RL.refs xs vs r
  | .lst xs, v, h => by
    simp only [R] at h
    obtain ⟨a, vs, _, _, _, _, _, r⟩ := h
    simp only [refsLt]
    exact RL.refs xs vs r
  | .scr ns, v, _ => by simp only [refsLt]
  | .rng lo hi, v, _ => by simp only [refsLt]
  | .ref n, v, h => by
    simp only [R] at h
    obtain ⟨a, e, _⟩ := h
    simp only [refsLt, decide_eq_true_eq]
    exact (List.getElem?_eq_some_iff.mp e).1
  | .exc c ks xs, v, h => by
    simp only [R] at h
    obtain ⟨a, d, _, _, _, q⟩ := h
    simp only [refsLt]
    rcases q with ⟨_, rfl, _⟩ | ⟨dd, vs, _, _, _, _, r⟩
    · simp only [refsLtL]
    · exact RL.refs xs vs r
theorem RL.refs : ∀ (ms : List MV) (vs : List V), RL K fi Z H ms vs → refsLtL fi.length ms = true
  | [], vs, _ => by simp only [refsLtL]
  | m :: ms, vs, h => by
    simp only [RL] at h
    obtain ⟨v, r, rfl, h1, h2⟩ := h
    simp only [refsLtL, Bool.and_eq_true]
    exact ⟨R.refs m v h1, RL.refs ms r h2⟩
end
mutual
theorem R.less (pre : ∀ (n : Nat) (a : Addr), fi[n]? = some a → fi'[n]? = some a) (sub : ∀ a ∈ fi, a ∈ fi') : ∀ (m : MV) (v : V), refsLt fi.length m = true → R K fi' Z H m v → R K fi Z H m v
  | .non, v, _, h => by simpa only [R] using h
  | .bl b, v, _, h => by simpa only [R] using h
  | .int i, v, _, h => by simpa only [R] using h
  | .str s, v, _, h => by simpa only [R] using h
  | .tup xs, v, q, h => by
    simp only [R] at h ⊢
    simp only [refsLt] at q
    obtain ⟨a, vs, rfl, e, n, l, r⟩ := h
    exact ⟨a, vs, rfl, e, fun z => n (sub a z), l, RL.less pre sub xs vs q r⟩
  | .lst xs, v, q, h => by
    simp only [R] at h ⊢
    simp only [refsLt] at q
    obtain ⟨a, vs, rfl, e, n, z, l, r⟩ := h
    exact ⟨a, vs, rfl, e, fun z => n (sub a z), z, l, RL.less pre sub xs vs q r⟩
  | .scr ns, v, _, h => by
    simp only [R] at h ⊢
    obtain ⟨a, rfl, e⟩ := h
    refine ⟨a, rfl, ?_⟩
    rcases e with ⟨o, e, n⟩ | e
    · exact .inl ⟨o, e, fun z => n (sub a z)⟩
    · exact .inr e
  | .rng lo hi, v, _, h => by
    simp only [R] at h ⊢
    obtain ⟨a, rfl, e, n, b⟩ := h
    exact ⟨a, rfl, e, fun z => n (sub a z), b⟩
  | .ref n, v, q, h => by
    simp only [R] at h ⊢
    simp only [refsLt, decide_eq_true_eq] at q
    obtain ⟨a, e, rfl⟩ := h
    have e2 := pre n _ (List.getElem?_eq_getElem q)
    rw [e] at e2; cases e2
    exact ⟨_, List.getElem?_eq_getElem q, rfl⟩
  | .exc c ks xs, v, q, h => by
    simp only [R] at h ⊢
    simp only [refsLt] at q
    obtain ⟨a, d, rfl, e, n, p⟩ := h
    refine ⟨a, d, rfl, e, fun z => n (sub a z), ?_⟩
    rcases p with p | ⟨dd, vs, q1, q2, q3, q4, q5⟩
    · exact .inl p
    · exact .inr ⟨dd, vs, q1, q2, fun z => q3 (sub dd z), q4, RL.less pre sub xs vs q q5⟩
theorem RL.less (pre : ∀ (n : Nat) (a : Addr), fi[n]? = some a → fi'[n]? = some a) (sub : ∀ a ∈ fi, a ∈ fi') : ∀ (ms : List MV) (vs : List V), refsLtL fi.length ms = true → RL K fi' Z H ms vs → RL K fi Z H ms vs
  | [], vs, _, h => by simpa only [RL] using h
  | m :: ms, vs, q, h => by
    simp only [RL] at h ⊢
    simp only [refsLtL, Bool.and_eq_true] at q
    obtain ⟨v, r, rfl, h1, h2⟩ := h
    exact ⟨v, r, rfl, R.less pre sub m v q.1 h1, RL.less pre sub ms r q.2 h2⟩
end
def refsLtK (n : Nat) : List (List Key × MV) → Bool
  | [] => true
  | p :: r => refsLt n p.2 && refsLtK n r
def refsLtO (n : Nat) : MO → Bool
  | .lst xs => refsLtL n xs
  | .dct _ kvs => refsLtK n kvs
  | .lck _ kvs => refsLtK n kvs
  | .ins _ _ xs => refsLtL n xs
  | .gone => true
theorem RKs.less (pre : ∀ (n : Nat) (a : Addr), fi[n]? = some a → fi'[n]? = some a) (sub : ∀ a ∈ fi, a ∈ fi') : ∀ {ms : List (List Key × MV)} {ks : List (Key × V)}, refsLtK fi.length ms = true → RKs K fi' Z H' ms ks → RKs K fi Z H' ms ks
  | [], ks, _, h => h
  | p :: r, ks, q, ⟨k, v, ks', e, e2, h1, h2⟩ => by
    simp only [refsLtK, Bool.and_eq_true] at q
    exact ⟨k, v, ks', e, e2, R.less pre sub _ _ q.1 h1, RKs.less pre sub q.2 h2⟩
theorem RTs.less (pre : ∀ (n : Nat) (a : Addr), fi[n]? = some a → fi'[n]? = some a) (sub : ∀ a ∈ fi, a ∈ fi') : ∀ {ms : List (List Key × MV)} {ks : List (List Key × V)}, refsLtK fi.length ms = true → RTs K fi' Z H' ms ks → RTs K fi Z H' ms ks
  | [], ks, _, h => h
  | p :: r, ks, q, ⟨v, ks', e, h1, h2⟩ => by
    simp only [refsLtK, Bool.and_eq_true] at q
    exact ⟨v, ks', e, R.less pre sub _ _ q.1 h1, RTs.less pre sub q.2 h2⟩
theorem RO.less (pre : ∀ (n : Nat) (a : Addr), fi[n]? = some a → fi'[n]? = some a) (sub : ∀ a ∈ fi, a ∈ fi') {a : Addr} {o : MO} (q : refsLtO fi.length o = true) (r : RO K fi' Z H' a o) : RO K fi Z H' a o := by
  cases o with
  | lst xs => obtain ⟨vs, e, l, r⟩ := r; exact ⟨vs, e, l, RL.less pre sub _ _ q r⟩
  | dct t kvs => cases t <;> (obtain ⟨ks, e, r⟩ := r; first | exact ⟨ks, e, RKs.less pre sub q r⟩ | exact ⟨ks, e, RTs.less pre sub q r⟩)
  | lck t kvs => cases t <;> (obtain ⟨o, ks, e, r⟩ := r; first | exact ⟨o, ks, e, RKs.less pre sub q r⟩ | exact ⟨o, ks, e, RTs.less pre sub q r⟩)
  | ins C ks xs => obtain ⟨dx, vs, e, e2, n, l, r⟩ := r; exact ⟨dx, vs, e, e2, fun z => n (sub _ z), l, RL.less pre sub _ _ q r⟩
  | gone => exact r
end
/-- the objects that a call made and that nobody knows are forgotten -/
def keepO (n : Nat) (h : MH) : Bool := (h.take n).all (refsLtO n)
def gcR (h0 : MH) (r : Res MV) : Res MV := match r with
  | .ok m h => if refsLt h0.length m = true ∧ keepO h0.length h = true then .ok m (h.take h0.length) else .err
  | .exc e h => if refsLtL h0.length e.xs = true ∧ keepO h0.length h = true then .exc e (h.take h0.length) else .err
  | .err => .err
mutual
theorem refsLt.le {n k : Nat} (h : n ≤ k) : ∀ m : MV, refsLt n m = true → refsLt k m = true
  | .non, _ => by simp only [refsLt]
  | .bl b, _ => by simp only [refsLt]
  | .int i, _ => by simp only [refsLt]
  | .str s, _ => by simp only [refsLt]
  | .tup xs, q => by simp only [refsLt] at q ⊢; exact refsLtL.le h xs q
  | .lst xs, q => by simp only [refsLt] at q ⊢; exact refsLtL.le h xs q
  | .scr ns, _ => by simp only [refsLt]
  | .rng lo hi, _ => by simp only [refsLt]
  | .ref i, q => by simp only [refsLt, decide_eq_true_eq] at q ⊢; omega
  | .exc c ks xs, q => by simp only [refsLt] at q ⊢; exact refsLtL.le h xs q
theorem refsLtL.le {n k : Nat} (h : n ≤ k) : ∀ ms : List MV, refsLtL n ms = true → refsLtL k ms = true
  | [], _ => by simp only [refsLtL]
  | m :: ms, q => by
    simp only [refsLtL, Bool.and_eq_true] at q ⊢
    exact ⟨refsLt.le h m q.1, refsLtL.le h ms q.2⟩
end
section
variable {K : PySem.W.Frag} {W : WX} {fi Z : List Addr} {H : Hp} {σ : L2.St}
theorem RH.back {n : Nat} {h : MH} {fi' : List Addr} {H' : Hp} (nd : fi.Nodup) (hn : fi.length = n) (g : Grow fi fi' H H') (rh' : RH K fi' Z H' h) (e : keepO n h = true) : RH K fi Z H' (h.take n) where
  len := by
    have h1 : fi.length ≤ fi'.length := by
      by_cases z : fi.length = 0
      · omega
      · have := g.pre (fi.length - 1) _ (List.getElem?_eq_getElem (by omega))
        have := (List.getElem?_eq_some_iff.mp this).1
        omega
    rw [List.length_take, ← rh'.len, hn]
    omega
  nd := nd
  at_ := fun i o a e1 e2 => by
    have hi : i < n := by rw [← hn]; exact (List.getElem?_eq_some_iff.mp e2).1
    have e3 : h[i]? = some o := by rw [List.getElem?_take_of_lt hi] at e1; exact e1
    have q : refsLtO n o = true := by
      unfold keepO at e
      rw [List.all_eq_true] at e
      exact e o (List.mem_of_getElem? e1)
    exact (rh'.at_ i o a e3 (g.pre i a e2)).less g.pre g.sub (by rw [hn]; exact q)
  z := fun a ha => ⟨(rh'.z a ha).1, fun z => (rh'.z a ha).2 (g.sub a z)⟩
theorem Grow.back {fi' : List Addr} {H' : Hp} (g : Grow fi fi' H H') : Grow fi fi H H' := ⟨fun _ _ e => e, g.keep, fun _ h h' => absurd h h', g.frz⟩
theorem Pst.gc {h0 : MH} {r : Res MV} {Q : VK} (rh : RH K fi Z H h0) (p : Pst K (R K) W fi Z H σ (gcR h0 r) Q) : Pst K (R K) W fi Z H σ r Q := by
  cases r with
  | err => exact p
  | ok m h =>
    unfold gcR at p
    simp only at p
    split at p
    · rename_i hc
      intro v H' fi' g rh' rv
      exact p v H' fi g.back (RH.back rh.nd rh.len g rh' hc.2) (R.less g.pre g.sub _ _ (by rw [rh.len]; exact hc.1) rv)
    · exact p.elim
  | exc e h =>
    unfold gcR at p
    simp only at p
    split at p
    · rename_i hc
      intro H' fi' c d g rh' rx
      refine p H' fi c d g.back (RH.back rh.nd rh.len g rh' hc.2) ⟨rx.1, ?_⟩
      rcases rx.2 with q | ⟨dd, vs, q1, q2, q3, q4, q5⟩
      · exact .inl q
      · exact .inr ⟨dd, vs, q1, q2, fun z => q3 (g.sub dd z), q4, RL.less g.pre g.sub _ _ (by rw [rh.len]; exact hc.1) q5⟩
    · exact p.elim
end
def bodyR (r : SRes) : Res MV := match r with
  | .ok .nx _ h => .ok .non h
  | .ok (.rt m) _ h => .ok m h
  | .exc e _ h => .exc e h
  | _ => .err
def startM (N : List Str) (ms : List MV) : MEnv := ms.map some ++ List.replicate (N.length - ms.length) none
theorem RE.start {K : PySem.W.Frag} {fi Z : List Addr} {H : Hp} {ms : List MV} {vs : List V} (N : List Str) (r : RL K fi Z H ms vs) : RE K fi Z H (L2.start N vs) (startM N ms) := by
  refine ⟨by simp [L2.start, startM, r.length], fun i m e => ?_⟩
  unfold startM at e
  by_cases hi : i < ms.length
  · rw [List.getElem?_append_left (by simpa using hi), List.getElem?_map, List.getElem?_eq_getElem hi] at e
    cases e
    obtain ⟨v, ev, rv⟩ := r.get (List.getElem?_eq_getElem hi)
    refine ⟨v, ?_, rv⟩
    unfold L2.start
    rw [List.getElem?_append_left (by simp [← r.length]; exact hi), List.getElem?_map, ev]
    rfl
  · rw [List.getElem?_append_right (by simpa using hi), List.getElem?_replicate] at e
    split at e <;> cases e
theorem PstS.body {K : PySem.W.Frag} {fi Z : List Addr} {H : Hp} {r : SRes} {Q : VK} {E : XK} {σ : L2.St} (p : Pst K (R K) (fun c d _ H => E c d H) fi Z H σ (bodyR r) Q) : PstS K (fun c d _ H => E c d H) { nx := fun _ H' => Q .non H', rt := Q } fi Z H r := by
  cases r with
  | err => exact p
  | exc e env h => exact fun H' fi' c d σ' g r1 r2 r3 => p H' fi' c d g r1 r3
  | ok f env h =>
    cases f with
    | nx => exact fun σ' H' fi' g r1 r2 => p .non H' fi' g r1 (by simp only [R])
    | rt m => exact fun v H' fi' g r1 r2 => p v H' fi' g r1 r2
    | bk => exact p.elim
    | ct => exact p.elim
/-- a def keeps the promise of its body's reading -/
theorem fn_mi {P : Program} {w : World} {K : PySem.W.Frag} {mg : Str → Option Value} {base : Heap} {k : Nat} {f : Addr} {fd : FuncData} {x qual : Str} {params : Arguments} {body : List Stmt} {scope : Scope} {dvs : List V} {kws : List (Str × V)} {N ps : List Str} {m : List MV → MH → Res MV} {b : MEnv → MH → SRes}
    (F : FunD K x qual params body scope dvs kws f fd) (S : FnScope N ps scope) (hm : ∀ ms h, m ms h = bodyR (b (startM N ms) h) ∨ m ms h = gcR h (bodyR (b (startM N ms) h)))
    (hb : ∀ X : Cx, X.prog = P → X.w = w → X.K = K → X.mg = mg → X.base = base → X.N = N → X.env.scope = scope → Room k X.A → X.calm = true → (∀ x, X.fn x = true) → X.stack = X.env :: X.outer → X.env.frame = some X.env.locals → PassesOwn (model X.prog X.w) X.A X.env X.xe →
      ∀ W, Takes X W → PSs X body (tS K W b)) : FnOk P w K mg base (L2.CX P w) (k + 1) f fd ps (spOf K ps.length m) := by
  refine F.ok S (fun vs H Q E h => h.1) (fun cdv A outer s H vs Q E hr h => ?_)
  obtain ⟨hl, fi, Z, hp, ms, rh, rl, p⟩ := h
  have p2 : Pst K (R K) (fun c d _ H => E c d H) fi Z H [] (bodyR (b (startM N ms) hp)) Q := by
    rcases hm ms hp with e | e
    · rw [e] at p; exact p
    · rw [e] at p; exact p.gc rh
  refine ⟨_, hb (cxOf (L2.CX P w) P w K mg base N qual scope f cdv A outer s H E) rfl rfl rfl rfl rfl rfl rfl hr rfl (fun _ => rfl) rfl rfl (passes_of rfl) (fun cls d _ H => E cls d H) (takes_of rfl rfl rfl rfl), fi, Z, startM N ms, hp, RE.start N rl, rh, PstS.body p2⟩
end Mi

set_option Elab.async false
set_option linter.all false
set_option maxRecDepth 100000
set_option maxHeartbeats 1000000
namespace Mi
open PySem PySem.Spec L2
set_option autoImplicit false

def lstOf (h : MH) : MV → Option (List MV)
  | .lst xs => some xs
  | .ref n => match h[n]? with
    | some (.lst xs) => some xs
    | _ => none
  | _ => none
def sqLOf (h : MH) : MV → Option (List MV)
  | .scr ns => some (ns.map MV.int)
  | m => lstOf h m
def tupOf : MV → Option (List MV)
  | .tup xs => some xs
  | _ => none
def sqOf (h : MH) (m : MV) : Option (List MV) := match m with
  | .tup xs => some xs
  | m => sqLOf h m
/-- a new list -/
def newL (m : Bool) (xs : List MV) (h : MH) : Option (MV × MH) := if xs.length ≤ 16777216 then (if m = true then some (.ref h.length, h ++ [.lst xs]) else some (.lst xs, h)) else none
def newT (xs : List MV) (h : MH) : Option (MV × MH) := if xs.length ≤ 16777216 then some (.tup xs, h) else none
section
variable {K : PySem.W.Frag} {fi Z : List Addr} {H : Hp} {h : MH} {m : MV} {v : V} {xs : List MV} {Q : VK}
theorem RL.ints_eq : ∀ {ns : List Int} {vs : List V}, RL K fi Z H (ns.map MV.int) vs → vs = ns.map V.int
  | [], vs, r => by simpa only [List.map, RL] using r
  | n :: ns, vs, r => by
    simp only [List.map, RL] at r
    obtain ⟨v, t, rfl, h1, h2⟩ := r
    simp only [R] at h1
    rw [h1, RL.ints_eq h2]; rfl
theorem lstOf_R (rh : RH K fi Z H h) (r : R K fi Z H m v) (e : lstOf h m = some xs) : ∃ a vs, v = .ref a ∧ H a = some (.lst vs) ∧ vs.length ≤ sizeLine ∧ RL K fi Z H xs vs := by
  unfold lstOf at e
  cases m with
  | lst ys =>
    cases e
    simp only [R] at r
    obtain ⟨a, vs, rfl, e1, _, _, l, rl⟩ := r
    exact ⟨a, vs, rfl, e1, l, rl⟩
  | ref n =>
    simp only [R] at r
    obtain ⟨a, ea, rfl⟩ := r
    simp only at e
    split at e
    · rename_i ys eo
      cases e
      obtain ⟨vs, e1, l, rl⟩ := rh.at_ n _ a eo ea
      exact ⟨a, vs, rfl, e1, l, rl⟩
    · cases e
  | _ => cases e
theorem sqLOf_R (rh : RH K fi Z H h) (r : R K fi Z H m v) (e : sqLOf h m = some xs) : ∃ a vs, v = .ref a ∧ SqL K H a vs ∧ RL K fi Z H xs vs := by
  unfold sqLOf at e
  split at e
  · cases e
    simp only [R] at r
    obtain ⟨a, rfl, e1⟩ := r
    exact ⟨a, _, rfl, e1.sq, RL.ints _⟩
  · obtain ⟨a, vs, q1, q2, _, q4⟩ := lstOf_R rh r e
    exact ⟨a, vs, q1, SqL.of q2, q4⟩
theorem tup_R {xs : List MV} (r : R K fi Z H (.tup xs) v) : ∃ a vs, v = .ref a ∧ SqT K H a vs ∧ vs.length ≤ sizeLine ∧ RL K fi Z H xs vs := by
  simp only [R] at r
  obtain ⟨a, vs, rfl, e1, _, l, rl⟩ := r
  exact ⟨a, vs, rfl, SqT.of e1, l, rl⟩
theorem sqOf_R (rh : RH K fi Z H h) (r : R K fi Z H m v) (e : sqOf h m = some xs) : ∃ a vs, v = .ref a ∧ (SqL K H a vs ∨ SqT K H a vs) ∧ RL K fi Z H xs vs := by
  unfold sqOf at e
  split at e
  · cases e
    obtain ⟨a, vs, q1, q2, _, q4⟩ := tup_R r
    exact ⟨a, vs, q1, .inr q2, q4⟩
  · obtain ⟨a, vs, q1, q2, q4⟩ := sqLOf_R rh r e
    exact ⟨a, vs, q1, .inl q2, q4⟩
theorem PV.newL {b : Bool} {vs : List V} (p : PV K fi Z H (Mi.newL b xs h) Q) (rh : RH K fi Z H h) (rl : RL K fi Z H xs vs) : vs.length ≤ sizeLine ∧ ∀ q, H q = none → Q (.ref q) (L2.upd H q (.lst vs)) := by
  unfold Mi.newL at p
  split at p
  · rename_i hl
    have l : vs.length ≤ sizeLine := by rw [← rl.length]; exact line_of hl
    refine ⟨l, fun q hq => ?_⟩
    cases b with
    | false => rw [if_neg Bool.false_ne_true] at p; exact p _ _ fi (Grow.laid hq) (rh.laid hq) (R.lst_new rh hq rl l)
    | true => rw [if_pos rfl] at p; exact p _ _ (fi ++ [q]) (Grow.more hq) (rh.more hq ⟨vs, L2.upd_same, l, RL.mono (Grow.more hq) _ _ rl⟩) (R.ref_new rh)
  · exact p.elim
theorem PV.newT {vs : List V} (p : PV K fi Z H (Mi.newT xs h) Q) (rh : RH K fi Z H h) (rl : RL K fi Z H xs vs) : vs.length ≤ sizeLine ∧ ∀ q, H q = none → Q (.ref q) (L2.upd H q (.tup vs)) := by
  unfold Mi.newT at p
  split at p
  · rename_i hl
    have l : vs.length ≤ sizeLine := by rw [← rl.length]; exact line_of hl
    exact ⟨l, fun q hq => p _ _ fi (Grow.laid hq) (rh.laid hq) (R.tup_new rh hq rl l)⟩
  · exact p.elim
theorem PV.newT' (p : PV K fi Z H (Mi.newT xs h) Q) (rh : RH K fi Z H h) (r : R K fi Z H (.tup xs) v) : Q v H := by
  unfold Mi.newT at p
  split at p
  · exact p.ok rh r
  · exact p.elim
theorem PV.none' {r : Option (MV × MH)} (e : r = none) (p : PV K fi Z H r Q) : False := by subst e; exact p
end
/-- |i| is at most n: written so that the kernel never counts n down -/
def absLe (n : Nat) (i : Int) : Bool := Nat.ble i.natAbs n
theorem absLe_iff {n : Nat} {i : Int} : absLe n i = true ↔ i.natAbs ≤ n := by
  unfold absLe; exact ⟨Nat.le_of_ble_eq_true, Nat.ble_eq_true_of_le⟩
def mulOk (i j : Int) : Bool := absLe 18446744073709551615 i || absLe 18446744073709551615 j || Nat.ble (Builtin.Int.intBits i + Builtin.Int.intBits j) 134217728
theorem mulOk_ok {i j : Int} (h : mulOk i j = true) : IntMulOk i j := by
  unfold mulOk at h
  simp only [Bool.or_eq_true, absLe_iff] at h
  rcases h with (h | h) | h
  · exact CMul.ok (.inl ⟨by omega, by omega⟩)
  · exact CMul.ok (.inr ⟨by omega, by omega⟩)
  · refine CMulX.ok ?_
    have := Nat.le_of_ble_eq_true h
    unfold CMulX
    omega
def b2i (b : Bool) : Int := if b then 1 else 0
def addM (m : Bool) : Op2 := fun a b h => match a, b with
  | .int i, .int j => some (.int (i + j), h)
  | .int i, .bl k => some (.int (i + PyProof.Rows.b2i k), h)
  | .str x, .str y => if x.length + y.length ≤ 16777216 then some (.str (x ++ y), h) else none
  | .tup xs, .tup ys => newT (xs ++ ys) h
  | a, b => match lstOf h a, lstOf h b with
    | some xs, some ys => newL m (xs ++ ys) h
    | _, _ => none
def mulM (m : Bool) : Op2 := fun a b h => match a, b with
  | .int i, .int j => if mulOk i j = true then some (.int (i * j), h) else none
  | .tup xs, .int k => if xs ≠ [] ∧ 1 ≤ k ∧ k ≤ 1000 ∧ xs.length ≤ 1000 then some (.tup (List.replicate k.toNat xs).flatten, h) else none
  | a, .int k => match lstOf h a with
    | some xs => if absLe 4611686018427387904 k = true ∧ xs.length * k.toNat ≤ 16777216 then newL m (List.replicate k.toNat xs).flatten h else none
    | none => none
  | _, _ => none
def iiM (f : Int → Int → Option Int) : Op2 := fun a b h => match a, b with
  | .int i, .int j => (f i j).map fun k => (.int k, h)
  | _, _ => none
def subI (i j : Int) : Option Int := some (i - j)
def fdivI (i j : Int) : Option Int := if 0 < j ∧ j.natAbs.log2 < 9000 then some (i / j) else none
def modI (i j : Int) : Option Int := if 0 < j then some (i % j) else none
def powI (i j : Int) : Option Int := if 0 ≤ j ∧ absLe 1000000 j = true ∧ absLe 18446744073709551615 i = true then some (i ^ j.toNat) else none
def shlI (i j : Int) : Option Int := if 0 ≤ j ∧ absLe 1000000 j = true ∧ absLe 18446744073709551615 i = true then some (i * 2 ^ j.toNat) else none
def shrI (i j : Int) : Option Int := if 0 ≤ j then some (i / 2 ^ j.toNat) else none
def andI (i j : Int) : Option Int := some (Builtin.bitAnd i j)
def orI (i j : Int) : Option Int := some (Builtin.bitOr i j)
def xorI (i j : Int) : Option Int := some (Builtin.bitXor i j)
section
variable {X : Cx}
theorem opRI {f : Value → Value → Sem Value} {r r' : R2} (h : OpR X f r) (i : ∀ x y H Q, r' x y H Q → r x y H Q) : OpR X f r' := fun pins s σ H x y v u Q I rx ry q => h pins s σ H x y v u Q I rx ry (i x y H Q q)
theorem unRI {f : Value → Sem Value} {r r' : V → Hp → VK → Prop} (h : UnR X f r) (i : ∀ x H Q, r' x H Q → r x H Q) : UnR X f r' := fun pins s σ H x v Q I rx q => h pins s σ H x v Q I rx (i x H Q q)
theorem callRI {f : Value} {r r' : List V → Hp → VK → Prop} (h : CallR X f r) (i : ∀ x H Q, r' x H Q → r x H Q) : CallR X f r' := fun pins s σ H x v Q I rx q => h pins s σ H x v Q I rx (i x H Q q)
theorem ixRI {r r' : R2} (h : IxR X r) (i : ∀ x y H Q, r' x y H Q → r x y H Q) : IxR X r' := fun v s pins sh σ H x y a b Q I rx ry q => h v s pins sh σ H x y a b Q I rx ry (i x y H Q q)
theorem mtRI {id : String} {r r' : V → List V → Hp → VK → Prop} (h : MtR X id r) (i : ∀ x y H Q, r' x y H Q → r x y H Q) : MtR X id r' := fun pins sh σ H x y a b Q I rx ry q => h pins sh σ H x y a b Q I rx ry (i x y H Q q)
theorem slRI {r r' : V → Option Int → Option Int → Hp → VK → Prop} (h : L2.SlR X r) (i : ∀ x lo hi H Q, r' x lo hi H Q → r x lo hi H Q) : L2.SlR X r' := fun pins sh σ H x a b c lo hi sl Q I rx hs pl pu q => h pins sh σ H x a b c lo hi sl Q I rx hs pl pu (i x lo hi H Q q)
theorem ii_of {op : Operator} {f : Int → Int → Option Int} {C : Int → Int → Prop} {g : Int → Int → Int} (h : OpR X (binaryOp op) (rI C fun i j => .int (g i j))) (e : ∀ i j k, f i j = some k → C i j ∧ k = g i j) : OpR X (binaryOp op) (r2 X.K (iiM f)) :=
  opRI h fun x y H Q ⟨fi, Z, h, a, b, rh, ra, rb, p⟩ => by
    unfold iiM at p
    split at p
    · rename_i i j
      simp only [R] at ra rb
      cases ef : f i j with
      | none => rw [ef] at p; exact p.elim
      | some k =>
        rw [ef] at p
        obtain ⟨c, rfl⟩ := e i j k ef
        exact ⟨i, j, ra, rb, c, p.ok rh (by simp only [R])⟩
    · exact p.elim
theorem ii0_of {op : Operator} {f : Int → Int → Option Int} {g : Int → Int → Int} (h : OpR X (binaryOp op) (rI0 fun i j => .int (g i j))) (e : ∀ i j k, f i j = some k → k = g i j) : OpR X (binaryOp op) (r2 X.K (iiM f)) :=
  ii_of (C := fun _ _ => True) (opRI h fun x y H Q ⟨i, j, h1, h2, _, q⟩ => ⟨i, j, h1, h2, q⟩) fun i j k q => ⟨trivial, e i j k q⟩
theorem or_sub : OpR X (binaryOp .Sub) (r2 X.K (iiM subI)) := ii0_of op_sub fun i j k q => by cases q; rfl
theorem or_fdiv : OpR X (binaryOp .FloorDiv) (r2 X.K (iiM fdivI)) := ii_of op_fdivW fun i j k q => by
  unfold fdivI at q
  split at q
  · rename_i c; cases q; exact ⟨c, rfl⟩
  · cases q
theorem or_mod : OpR X (binaryOp .Mod) (r2 X.K (iiM modI)) := ii_of op_mod fun i j k q => by
  unfold modI at q
  split at q
  · rename_i c; cases q; exact ⟨c, rfl⟩
  · cases q
theorem or_pow : OpR X (binaryOp .Pow) (r2 X.K (iiM powI)) := ii_of op_pow fun i j k q => by
  unfold powI at q
  split at q
  · rename_i c; cases q; exact ⟨⟨c.1, by have := absLe_iff.mp c.2.1; omega, by have := absLe_iff.mp c.2.2; omega⟩, rfl⟩
  · cases q
theorem or_shl : OpR X (binaryOp .LShift) (r2 X.K (iiM shlI)) := ii_of op_shl fun i j k q => by
  unfold shlI at q
  split at q
  · rename_i c; cases q; exact ⟨⟨c.1, by have := absLe_iff.mp c.2.1; omega, by have := absLe_iff.mp c.2.2; omega⟩, rfl⟩
  · cases q
theorem or_shr : OpR X (binaryOp .RShift) (r2 X.K (iiM shrI)) := ii_of op_shr fun i j k q => by
  unfold shrI at q
  split at q
  · rename_i c; cases q; exact ⟨c, rfl⟩
  · cases q
theorem or_band : OpR X (binaryOp .BitAnd) (r2 X.K (iiM andI)) := ii0_of op_and fun i j k q => by cases q; rfl
theorem or_bor : OpR X (binaryOp .BitOr) (r2 X.K (iiM orI)) := ii0_of op_or fun i j k q => by cases q; rfl
theorem or_bxor : OpR X (binaryOp .BitXor) (r2 X.K (iiM xorI)) := ii0_of op_xor fun i j k q => by cases q; rfl
theorem or_add (m : Bool) : OpR X (binaryOp .Add) (r2 X.K (addM m)) :=
  opRI (OpR.or (OpR.or (OpR.or (OpR.or op_add op_add_ib) op_add_str) op_catA) op_cat) fun x y H Q ⟨fi, Z, h, a, b, rh, ra, rb, p⟩ => by
    unfold addM at p
    split at p
    · simp only [R] at ra rb
      exact .inl (.inl (.inl (.inl ⟨_, _, ra, rb, p.ok rh (by simp only [R])⟩)))
    · simp only [R] at ra rb
      exact .inl (.inl (.inl (.inr ⟨_, _, ra, rb, p.ok rh (by simp only [R])⟩)))
    · simp only [R] at ra rb
      split at p
      · rename_i hl
        exact .inl (.inl (.inr ⟨_, _, ra, rb, line_of hl, p.ok rh (by simp only [R])⟩))
      · exact p.elim
    · rename_i xs ys
      obtain ⟨a, vs, rfl, e1, l1, r1⟩ := tup_R ra
      obtain ⟨b, us, rfl, e2, l2, r2⟩ := tup_R rb
      obtain ⟨l, q⟩ := p.newT rh (r1.append r2)
      refine .inl (.inr ⟨a, b, vs, us, rfl, rfl, e1, e2, by simpa using l, fun e => ?_, fun _ e => ?_, fun _ _ => q⟩)
      · subst e
        have : xs = [] := by have := r1.length; simpa using this
        subst this
        exact p.newT' rh (by simpa using rb)
      · subst e
        have : ys = [] := by have := r2.length; simpa using this
        subst this
        exact p.newT' rh (by simpa using ra)
    · split at p
      · rename_i xs ys ex ey
        obtain ⟨a, vs, rfl, e1, l1, r1⟩ := lstOf_R rh ra ex
        obtain ⟨b, us, rfl, e2, l2, r2⟩ := lstOf_R rh rb ey
        obtain ⟨l, q⟩ := p.newL rh (r1.append r2)
        exact .inr ⟨a, b, vs, us, rfl, rfl, e1, e2, by simpa using l, q⟩
      · exact p.elim
theorem mul_one {l : Addr} {xs : List V} {Q : Value → Shared → Prop} {pins : List (Addr × Obj)} {s : Shared} {σ : L2.St} {H : Hp} {t : Tok} (I : L2.Inv X pins σ H s) (hT : SqT X.K H l xs) (q : Q (.ref l) s) :
    wpAny (model X.prog X.w) X.A (binaryOp .Mult (.ref l) (.int 1 t)) Q X.xe s := by
  obtain ⟨its, r, ⟨⟨cls, dd, data, sl⟩, ho, hc, n, hd⟩, hs⟩ := I.tuple hT
  simp only at hc hd
  subst hc hd
  have hm : Meets (Builtin.«tuple.__mul__» ⟨[.ref l, .int 1 t], []⟩) (fun _ R s => s.heap.get? l = some { cls := .type "tuple", dict := dd, data := .seq its.toArray n, slots := sl } ∧ R (.ok (.ret (Value.ref l))) s) :=
    .of_wp fun prog w A R s h => by
      obtain ⟨hp, g, d, tk, os⟩ := s
      obtain ⟨hl, h⟩ := h
      have f1 := AutoSeq1.idx_int
      have c0 : (decide ((1 : Int) < -(2 ^ 63)) || decide ((1 : Int) ≥ 2 ^ 63)) = false := by decide
      have c1 : (its.toArray.isEmpty || (1 : Int) == 1) = true := by simp
      wp_walk using wpAny_loadPart' hl
      repeat (first
        | (refine wpAny_ite_false (decide_eq_false (by rw [c0]; exact Bool.false_ne_true)) ?_; wp_walk using wpAny_loadPart' hl)
        | (refine wpAny_ite_true (decide_eq_true (by rw [c1])) ?_; wp_walk using wpAny_loadPart' hl))
      exact ⟨_, rfl, h⟩
  refine PySem.wpAny_binaryOp_repeat_ref (T := "tuple") (U := "int") (by decide) ⟨_, ho, rfl⟩ (fun s' => typeIs_int s' 1 t) noFill_tuple_mul F.fills_int_mul F.slot_int_rmul repeat_tuple F.slot_int_index.lookup
    (PySem.call_meets F.slot_int_rmul (typeIs_int s 1 t) F.entry_int_rmul (F.args_int_rmul_2 _ _) (int_rmul_tuple 1 t l its.toArray n dd sl)
      ⟨ho, rfl, ⟨_, ho, rfl⟩, PySem.call_meets F.slot_tuple_mul ⟨_, ho, rfl⟩ F.entry_tuple_mul (F.args_tuple_mul_2 _ _) hm ⟨ho, q⟩⟩)
end
end Mi

set_option Elab.async false
set_option linter.all false
set_option maxRecDepth 100000
set_option maxHeartbeats 1000000
namespace Mi
open PySem PySem.Spec L2
set_option autoImplicit false
section
variable {K : PySem.W.Frag} {fi Z : List Addr} {H : Hp} {h : MH} {m : MV} {v : V} {xs : List MV} {Q : VK}
theorem RL.rep {xs : List MV} {vs : List V} (r : RL K fi Z H xs vs) : ∀ n : Nat, RL K fi Z H (List.replicate n xs).flatten (List.replicate n vs).flatten
  | 0 => RL.nil
  | n + 1 => by
    rw [List.replicate_succ, List.replicate_succ, List.flatten_cons, List.flatten_cons]
    exact r.append (RL.rep r n)
theorem rep_len {α : Type} (xs : List α) : ∀ n : Nat, (List.replicate n xs).flatten.length = n * xs.length
  | 0 => by simp
  | n + 1 => by rw [List.replicate_succ, List.flatten_cons, List.length_append, rep_len xs n, Nat.succ_mul]; omega
end
section
variable {X : Cx}
def rMul1 (K : PySem.W.Frag) : R2 := fun x y H Q => ∃ l xs, x = .ref l ∧ y = .int 1 ∧ SqT K H l xs ∧ Q (.ref l) H
theorem op_mul1 : OpR X (binaryOp .Mult) (rMul1 X.K) := by
  intro pins s σ H x y v u Q I rx ry h
  obtain ⟨l, xs, rfl, rfl, hT, q⟩ := h
  cases rx
  obtain ⟨t, rfl⟩ := ry
  exact mul_one I hT ⟨.ref l, H, I, rfl, q⟩
theorem op_mulA : OpR X (binaryOp .Mult) (rI IntMulOk fun i j => .int (i * j)) := opI fun _ _ _ _ _ _ _ hc q => PyProof.Rows.mul_int q hc
theorem or_mul (m : Bool) : OpR X (binaryOp .Mult) (r2 X.K (mulM m)) :=
  opRI (OpR.or (OpR.or (OpR.or op_mulA op_mul1) op_repT) op_rep) fun x y H Q ⟨fi, Z, h, a, b, rh, ra, rb, p⟩ => by
    unfold mulM at p
    split at p
    · rename_i i j
      simp only [R] at ra rb
      split at p
      · rename_i hm
        exact .inl (.inl (.inl ⟨i, j, ra, rb, mulOk_ok hm, p.ok rh (by simp only [R])⟩))
      · exact p.elim
    · rename_i xs k
      split at p
      · rename_i hc
        obtain ⟨c1, c2, c3, c4⟩ := hc
        obtain ⟨a, vs, rfl, e1, l1, r1⟩ := tup_R ra
        simp only [R] at rb
        subst rb
        by_cases hk : k = 1
        · subst hk
          refine .inl (.inl (.inr ⟨a, vs, rfl, rfl, e1, p.ok rh ?_⟩))
          simpa using ra
        · have hl : vs.length = xs.length := r1.length.symm
          refine .inl (.inr ⟨a, k, vs, rfl, rfl, e1, fun e => c1 (by subst e; simpa using hl.symm), by omega, c3, by omega, fun q hq => ?_⟩)
          have l2 : (List.replicate k.toNat vs).flatten.length ≤ sizeLine := by
            rw [rep_len, hl, sizeLine_eq]
            have : k.toNat * xs.length ≤ 1000 * 1000 := Nat.mul_le_mul (by omega) c4
            omega
          exact p _ _ fi (Grow.laid hq) (rh.laid hq) (R.tup_new rh hq (r1.rep _) l2)
      · exact p.elim
    · rename_i k hn1 hn2
      split at p
      · rename_i xs ex
        split at p
        · rename_i hc
          obtain ⟨c0, c3⟩ := hc
          have c1 := absLe_iff.mp c0
          obtain ⟨a, vs, rfl, e1, l1, r1⟩ := lstOf_R rh ra ex
          simp only [R] at rb
          obtain ⟨l, q⟩ := p.newL rh (r1.rep k.toNat)
          exact .inr ⟨a, k, vs, rfl, rb, e1, by omega, by omega, by rw [← r1.length]; exact line_of c3, q⟩
        · exact p.elim
      · exact p.elim
    · exact p.elim
def pdM (h : MH) : Nat → MV → Option PyData
  | 0, _ => none
  | _ + 1, .non => some .none
  | _ + 1, .bl b => some (.bool b)
  | _ + 1, .int i => some (.int i)
  | _ + 1, .str x => some (.str x)
  | k + 1, .tup xs => (xs.mapM (pdM h k)).map .tuple
  | k + 1, m => match sqLOf h m with
    | some xs => (xs.mapM (pdM h k)).map .list
    | none => none
end
section
variable {K : PySem.W.Frag} {fi Z : List Addr} {H : Hp} {h : MH} {m : MV} {v : V} {xs : List MV} {Q : VK}
theorem pdAll_R {f : MV → Option PyData} (hf : ∀ m v d, R K fi Z H m v → f m = some d → Dp K H v d) : ∀ {xs : List MV} {vs : List V} {ds : List PyData}, RL K fi Z H xs vs → xs.mapM f = some ds → DpAll K H vs ds
  | [], vs, ds, r, e => by
    simp only [RL] at r
    simp only [List.mapM_nil] at e
    cases e; subst r; exact .nil
  | x :: xs, vs, ds, r, e => by
    simp only [RL] at r
    obtain ⟨v, t, rfl, h1, h2⟩ := r
    rw [List.mapM_cons] at e
    cases e1 : f x with
    | none => rw [e1] at e; cases e
    | some d =>
      rw [e1] at e
      cases e2 : xs.mapM f with
      | none => rw [e2] at e; cases e
      | some es =>
        rw [e2] at e
        cases e
        exact .cons (hf x v d h1 e1) (pdAll_R hf h2 e2)
theorem pd_R (rh : RH K fi Z H h) : ∀ (k : Nat) (m : MV) (v : V) (d : PyData), R K fi Z H m v → pdM h k m = some d → Dp K H v d
  | 0, m, v, d, r, e => by cases e
  | k + 1, m, v, d, r, e => by
    have sq : ∀ {xs : List MV}, sqLOf h m = some xs → (xs.mapM (pdM h k)).map PyData.list = some d → Dp K H v d := by
      intro xs ex e
      obtain ⟨a, vs, rfl, e1, r1⟩ := sqLOf_R rh r ex
      cases e2 : xs.mapM (pdM h k) with
      | none => rw [e2] at e; cases e
      | some es => rw [e2] at e; cases e; exact .lst e1 (pdAll_R (fun m v d r q => pd_R rh k m v d r q) r1 e2)
    have fin : (match sqLOf h m with | some xs => (xs.mapM (pdM h k)).map PyData.list | none => none) = some d → Dp K H v d := by
      intro e
      split at e
      · rename_i xs ex; exact sq ex e
      · cases e
    cases m with
    | non => simp only [R] at r; subst r; cases e; exact .non
    | bl b => simp only [R] at r; subst r; cases e; exact .bl _
    | int b => simp only [R] at r; subst r; cases e; exact .int _
    | str b => simp only [R] at r; subst r; cases e; exact .str _
    | tup xs =>
      obtain ⟨a, vs, rfl, e1, _, r1⟩ := tup_R r
      simp only [pdM] at e
      cases e2 : xs.mapM (pdM h k) with
      | none => rw [e2] at e; cases e
      | some es => rw [e2] at e; cases e; exact .tup e1 (pdAll_R (fun m v d r q => pd_R rh k m v d r q) r1 e2)
    | lst xs => exact fin e
    | scr xs => exact fin e
    | ref xs => exact fin e
    | rng lo hi => exact fin e
    | exc c ks xs => exact fin e
end
def eqM : Op2 := fun a b h => match a, b with
  | .int i, .int j => some (.bl (i == j), h)
  | a, b => match pdM h 66 a, pdM h 66 b with
    | some d, some e => if SeqAt.shaped d = true ∧ SeqAt.shaped e = true then some (.bl (PyData.eqv d e), h) else none
    | _, _ => none
def neM : Op2 := fun a b h => match a, b with
  | .int i, .int j => some (.bl (!(i == j)), h)
  | a, b => match pdM h 66 a, pdM h 66 b with
    | some d, some e => if SeqAt.shaped d = true ∧ SeqAt.shaped e = true then some (.bl (!PyData.eqv d e), h) else none
    | _, _ => none
section
variable {X : Cx}
theorem or_eq (hu : X.A.units + 64 < cLine) : OpR X (compareOp .Eq) (r2 X.K eqM) :=
  opRI (op_eqD hu) fun x y H Q ⟨fi, Z, h, a, b, rh, ra, rb, p⟩ => by
    unfold eqM at p
    split at p
    · rename_i i j
      exact ⟨.int i, .int j, pd_R rh 66 _ _ _ ra rfl, pd_R rh 66 _ _ _ rb rfl, rfl, rfl, p.ok rh (by simp only [R, PyData.eqv])⟩
    · split at p
      · rename_i d e e1 e2
        split at p
        · rename_i hs
          exact ⟨d, e, pd_R rh 66 _ _ _ ra e1, pd_R rh 66 _ _ _ rb e2, hs.1, hs.2, p.ok rh (by simp only [R])⟩
        · exact p.elim
      · exact p.elim
theorem or_ne (hu : X.A.units + 64 < cLine) : OpR X (compareOp .NotEq) (r2 X.K neM) :=
  opRI (op_neD hu) fun x y H Q ⟨fi, Z, h, a, b, rh, ra, rb, p⟩ => by
    unfold neM at p
    split at p
    · rename_i i j
      exact ⟨.int i, .int j, pd_R rh 66 _ _ _ ra rfl, pd_R rh 66 _ _ _ rb rfl, rfl, rfl, p.ok rh (by simp only [R, PyData.eqv])⟩
    · split at p
      · rename_i d e e1 e2
        split at p
        · rename_i hs
          exact ⟨d, e, pd_R rh 66 _ _ _ ra e1, pd_R rh 66 _ _ _ rb e2, hs.1, hs.2, p.ok rh (by simp only [R])⟩
        · exact p.elim
      · exact p.elim
end
def allInts : List MV → Option (List Int)
  | [] => some []
  | .int i :: r => match allInts r with
    | some is => some (i :: is)
    | none => none
  | _ :: _ => none
theorem allInts_eq : ∀ {xs : List MV} {ns : List Int}, allInts xs = some ns → xs = ns.map MV.int
  | [], ns, e => by cases e; rfl
  | x :: r, ns, e => by
    cases x with
    | int i =>
      unfold allInts at e
      split at e
      · rename_i is e1
        cases e
        rw [List.map_cons, ← allInts_eq e1]
      · cases e
    | _ => cases e
def ltM : Op2 := fun a b h => match a, b with
  | .int i, .int j => some (.bl (decide (i < j)), h)
  | .str i, .str j => some (.bl (decide (i.cps.toList < j.cps.toList)), h)
  | .tup xs, .tup ys => match allInts xs, allInts ys with
    | some ns, some ms => some (.bl (HT.lexLt ns ms), h)
    | _, _ => none
  | _, _ => none
def leM : Op2 := fun a b h => match a, b with
  | .int i, .int j => some (.bl (decide (i ≤ j)), h)
  | _, _ => none
def gtM : Op2 := fun a b h => match a, b with
  | .int i, .int j => some (.bl (decide (j < i)), h)
  | _, _ => none
def geM : Op2 := fun a b h => match a, b with
  | .int i, .int j => some (.bl (decide (j ≤ i)), h)
  | _, _ => none
section
variable {X : Cx}
theorem or_lt (hu : X.A.units < cLine) : OpR X (compareOp .Lt) (r2 X.K ltM) :=
  opRI (OpR.or (OpR.or op_lt op_lt_str) (op_ltT hu)) fun x y H Q ⟨fi, Z, h, a, b, rh, ra, rb, p⟩ => by
    unfold ltM at p
    split at p
    · simp only [R] at ra rb
      exact .inl (.inl ⟨_, _, ra, rb, p.ok rh (by simp only [R])⟩)
    · simp only [R] at ra rb
      exact .inl (.inr ⟨_, _, ra, rb, p.ok rh (by simp only [R])⟩)
    · split at p
      · rename_i ns ms e1 e2
        rw [allInts_eq e1] at ra
        rw [allInts_eq e2] at rb
        obtain ⟨a, vs, rfl, t1, _, r1⟩ := tup_R ra
        obtain ⟨b, us, rfl, t2, _, r2⟩ := tup_R rb
        rw [r1.ints_eq] at t1
        rw [r2.ints_eq] at t2
        exact .inr ⟨a, b, ns, ms, rfl, rfl, t1, t2, p.ok rh (by simp only [R])⟩
      · exact p.elim
    · exact p.elim
theorem or_le : OpR X (compareOp .LtE) (r2 X.K leM) :=
  opRI op_le fun x y H Q ⟨fi, Z, h, a, b, rh, ra, rb, p⟩ => by
    unfold leM at p
    split at p
    · simp only [R] at ra rb
      exact ⟨_, _, ra, rb, p.ok rh (by simp only [R])⟩
    · exact p.elim
theorem or_gt : OpR X (compareOp .Gt) (r2 X.K gtM) :=
  opRI op_gt fun x y H Q ⟨fi, Z, h, a, b, rh, ra, rb, p⟩ => by
    unfold gtM at p
    split at p
    · simp only [R] at ra rb
      exact ⟨_, _, ra, rb, p.ok rh (by simp only [R])⟩
    · exact p.elim
theorem or_ge : OpR X (compareOp .GtE) (r2 X.K geM) :=
  opRI op_ge fun x y H Q ⟨fi, Z, h, a, b, rh, ra, rb, p⟩ => by
    unfold geM at p
    split at p
    · simp only [R] at ra rb
      exact ⟨_, _, ra, rb, p.ok rh (by simp only [R])⟩
    · exact p.elim
def isNone : MV → Bool
  | .non => true
  | _ => false
def isM : Op2 := fun a b h => match a, b with
  | a, .non => some (.bl (isNone a), h)
  | .bl i, .bl j => some (.bl (decide (i = j)), h)
  | _, _ => none
def isNotM : Op2 := fun a b h => match a, b with
  | a, .non => some (.bl (!isNone a), h)
  | .bl i, .bl j => some (.bl (!decide (i = j)), h)
  | _, _ => none
theorem isNone_R {K : PySem.W.Frag} {fi Z : List Addr} {H : Hp} {m : MV} {v : V} (r : R K fi Z H m v) : decide (v = .non) = isNone m := by
  cases m with
  | non => simp only [R] at r; subst r; rfl
  | bl b => simp only [R] at r; subst r; rfl
  | int b => simp only [R] at r; subst r; rfl
  | str b => simp only [R] at r; subst r; rfl
  | tup xs => simp only [R] at r; obtain ⟨a, vs, rfl, _⟩ := r; rfl
  | lst xs => simp only [R] at r; obtain ⟨a, vs, rfl, _⟩ := r; rfl
  | scr xs => simp only [R] at r; obtain ⟨a, rfl, _⟩ := r; rfl
  | rng lo hi => simp only [R] at r; obtain ⟨a, rfl, _⟩ := r; rfl
  | ref n => simp only [R] at r; obtain ⟨a, _, rfl⟩ := r; rfl
  | exc c ks xs => simp only [R] at r; obtain ⟨a, d, rfl, _⟩ := r; rfl
theorem or_is : OpR X (compareOp .Is) (r2 X.K isM) :=
  opRI (OpR.or op_isN op_isBl) fun x y H Q ⟨fi, Z, h, a, b, rh, ra, rb, p⟩ => by
    unfold isM at p
    split at p
    · simp only [R] at rb
      exact .inl ⟨rb, by rw [isNone_R ra]; exact p.ok rh (by simp only [R])⟩
    · simp only [R] at ra rb
      exact .inr ⟨_, _, ra, rb, p.ok rh (by simp only [R])⟩
    · exact p.elim
theorem or_isNot : OpR X (compareOp .IsNot) (r2 X.K isNotM) :=
  opRI (OpR.or op_notN op_notBl) fun x y H Q ⟨fi, Z, h, a, b, rh, ra, rb, p⟩ => by
    unfold isNotM at p
    split at p
    · simp only [R] at rb
      exact .inl ⟨rb, by rw [isNone_R ra]; exact p.ok rh (by simp only [R])⟩
    · simp only [R] at ra rb
      exact .inr ⟨_, _, ra, rb, p.ok rh (by simp only [R])⟩
    · exact p.elim
end
end Mi

set_option Elab.async false
set_option linter.all false
set_option maxRecDepth 100000
set_option maxHeartbeats 1000000
namespace Mi
open PySem PySem.Spec L2
set_option autoImplicit false

abbrev KVs := List (List Key × MV)
def dctOf (h : MH) : MV → Option (Bool × KVs)
  | .ref n => match h[n]? with
    | some (.dct t kvs) => some (t, kvs)
    | some (.lck t kvs) => some (t, kvs)
    | _ => none
  | _ => none
def getK (kvs : KVs) (k : List Key) : Option MV := (kvs.find? fun kv => decide (kv.1 = k)).map (·.2)
def setK (kvs : KVs) (k : List Key) (v : MV) : KVs := if (kvs.any fun kv => decide (kv.1 = k)) = true then kvs.map (fun kv => if kv.1 = k then (kv.1, v) else kv) else kvs ++ [(k, v)]
def delK (kvs : KVs) (k : List Key) : KVs := kvs.filter fun kv => decide (kv.1 ≠ k)
theorem getK_nil {k : List Key} : getK [] k = none := rfl
theorem getK_cons {p : List Key × MV} {r : KVs} {k : List Key} : getK (p :: r) k = if p.1 = k then some p.2 else getK r k := by
  by_cases e : p.1 = k <;> simp [getK, List.find?_cons, e]
section
variable {K : PySem.W.Frag} {fi Z : List Addr} {H : Hp} {h : MH} {m : MV} {v : V} {xs : List MV} {Q : VK}
theorem RKs.get : ∀ {kvs : KVs} {ks : List (Key × V)} (k : Key), RKs K fi Z H kvs ks → (getK kvs [k] = none ∧ valV ks k = none) ∨ ∃ m v, getK kvs [k] = some m ∧ valV ks k = some v ∧ R K fi Z H m v
  | [], ks, k, r => by cases r; exact .inl ⟨rfl, rfl⟩
  | p :: q, ks, k, r => by
    obtain ⟨k', v, ks', rfl, e2, h1, h2⟩ := r
    rw [getK_cons, e2]
    by_cases e : k' = k
    · subst e
      rw [if_pos rfl, valV_pos (p := (k', v)) rfl]
      exact .inr ⟨_, _, rfl, rfl, h1⟩
    · rw [if_neg (by simpa using e), valV_neg (p := (k', v)) e]
      exact RKs.get k h2
theorem RTs.get : ∀ {kvs : KVs} {ks : List (List Key × V)} (k : List Key), RTs K fi Z H kvs ks → (getK kvs k = none ∧ valV ks k = none) ∨ ∃ m v, getK kvs k = some m ∧ valV ks k = some v ∧ R K fi Z H m v
  | [], ks, k, r => by cases r; exact .inl ⟨rfl, rfl⟩
  | p :: q, ks, k, r => by
    obtain ⟨v, ks', rfl, h1, h2⟩ := r
    rw [getK_cons]
    by_cases e : p.1 = k
    · rw [if_pos e, valV_pos (p := (p.1, v)) e]
      exact .inr ⟨_, _, rfl, rfl, h1⟩
    · rw [if_neg e, valV_neg (p := (p.1, v)) e]
      exact RTs.get k h2
theorem kOf_R {k : Key} (r : R K fi Z H m v) (e : keyOf m = some k) : v = kV k := by
  unfold keyOf at e
  split at e <;> first | cases e | skip
  · simp only [R] at r; subst r; rfl
  · simp only [R] at r; subst r; rfl
theorem ksOf_R : ∀ {ms : List MV} {vs : List V} {ks : List Key}, RL K fi Z H ms vs → keysOf ms = some ks → vs = ks.map kV
  | [], vs, ks, r, e => by simp only [RL] at r; cases e; subst r; rfl
  | m :: ms, vs, ks, r, e => by
    simp only [RL] at r
    obtain ⟨v, t, rfl, h1, h2⟩ := r
    unfold keysOf at e
    split at e
    · rename_i k ks' e1 e2
      cases e
      rw [kOf_R h1 e1, ksOf_R h2 e2]; rfl
    · cases e
/-- what stands in a dict at a key -/
theorem dct_R {t : Bool} {kvs : KVs} {b : MV} {y : V} {k : List Key} (rh : RH K fi Z H h) (r : R K fi Z H m v) (e : dctOf h m = some (t, kvs)) (rb : R K fi Z H b y) (ek : dkey t b = some k) :
    ∃ a, v = .ref a ∧ ((getK kvs k = none ∧ DGet H a y none) ∨ ∃ x u, getK kvs k = some x ∧ DGet H a y (some u) ∧ R K fi Z H x u) := by
  unfold dctOf at e
  split at e
  · rename_i n
    simp only [R] at r
    obtain ⟨a, ea, rfl⟩ := r
    refine ⟨a, rfl, ?_⟩
    have fin : (t = false → ∃ ks, Rd H a (.dK ks) ∧ RKs K fi Z H kvs ks) → (t = true → ∃ ks, Rd H a (.dT ks) ∧ RTs K fi Z H kvs ks) → (getK kvs k = none ∧ DGet H a y none) ∨ ∃ x u, getK kvs k = some x ∧ DGet H a y (some u) ∧ R K fi Z H x u := by
      intro f1 f2
      cases t with
      | false =>
        obtain ⟨ks, rd, rk⟩ := f1 rfl
        simp only [dkey, Option.map_eq_some_iff] at ek
        obtain ⟨k1, e1, rfl⟩ := ek
        have ey := kOf_R rb e1
        rcases rk.get k1 with ⟨q1, q2⟩ | ⟨x, u, q1, q2, q3⟩
        · exact .inl ⟨q1, .inl ⟨ks, k1, rd, ey, q2.symm⟩⟩
        · exact .inr ⟨x, u, q1, .inl ⟨ks, k1, rd, ey, q2.symm⟩, q3⟩
      | true =>
        obtain ⟨ks, rd, rk⟩ := f2 rfl
        simp only [dkey] at ek
        unfold tkeyOf at ek
        split at ek
        · rename_i ms
          simp only [R] at rb
          obtain ⟨b, vs, rfl, eb, _, _, rl⟩ := rb
          rw [ksOf_R rl ek] at eb
          rcases rk.get k with ⟨q1, q2⟩ | ⟨x, u, q1, q2, q3⟩
          · exact .inl ⟨q1, .inr ⟨ks, k, b, rd, rfl, eb, q2.symm⟩⟩
          · exact .inr ⟨x, u, q1, .inr ⟨ks, k, b, rd, rfl, eb, q2.symm⟩, q3⟩
        · cases ek
    split at e
    · rename_i t' kvs' eo
      cases e
      have ro := rh.at_ n _ a eo ea
      exact fin (fun q => by subst q; obtain ⟨ks, e1, r1⟩ := ro; exact ⟨ks, .inl e1, r1⟩) (fun q => by subst q; obtain ⟨ks, e1, r1⟩ := ro; exact ⟨ks, .inl e1, r1⟩)
    · rename_i t' kvs' eo
      cases e
      have ro := rh.at_ n _ a eo ea
      exact fin (fun q => by subst q; obtain ⟨o, ks, e1, r1⟩ := ro; exact ⟨ks, .inr ⟨o, e1⟩, r1⟩) (fun q => by subst q; obtain ⟨o, ks, e1, r1⟩ := ro; exact ⟨ks, .inr ⟨o, e1⟩, r1⟩)
    · cases e
  · cases e
end
def inD (a : MV) (xs : List MV) (h : MH) : Option Bool := match pdM h 66 a, xs.mapM (pdM h 65) with
  | some d, some ds => if SeqAt.shaped d = true ∧ SeqAt.shaped (.list ds) = true then some (ds.any fun z => PyData.eqv z d) else none
  | _, _ => none
def inB (a b : MV) (h : MH) : Option Bool := match a, b with
  | .str x, .str y => some (!(Builtin.Str.occurrences y x 0 y.length 1).isEmpty)
  | .int i, .rng lo hi => some (decide (lo ≤ i ∧ i < hi))
  | a, b => match dctOf h b with
    | some (t, kvs) => (dkey t a).map fun k => (getK kvs k).isSome
    | none => match sqOf h b with
      | some xs => inD a xs h
      | none => none
def inM : Op2 := fun a b h => (inB a b h).map fun k => (.bl k, h)
def isRng : MV → Bool
  | .rng _ _ => true
  | _ => false
def notInM : Op2 := fun a b h => if isRng b = true then none else (inB a b h).map fun k => (.bl (!k), h)
section
variable {X : Cx}
def rInDict (g : Bool → Bool) : R2 := fun x y H Q => ∃ a o, y = .ref a ∧ DGet H a x o ∧ Q (.bl (g o.isSome)) H
theorem op_inDict (hu : X.A.units + 1 < cLine) : OpR X (compareOp .In) (rInDict id) := by
  intro pins s σ H x y v u Q I rx ry h
  obtain ⟨a, o, rfl, g, q⟩ := h
  cases ry
  exact d_in hu I g rx fun s3 I3 => ⟨.bl o.isSome, H, I3, rfl, q⟩
theorem op_notInDict (hu : X.A.units + 1 < cLine) : OpR X (compareOp .NotIn) (rInDict not) := by
  intro pins s σ H x y v u Q I rx ry h
  obtain ⟨a, o, rfl, g, q⟩ := h
  cases ry
  exact d_notIn hu I g rx fun s3 I3 => ⟨.bl (!o.isSome), H, I3, rfl, q⟩
def rInSq (K : PySem.W.Frag) (g : Bool → Bool) : R2 := fun x y H Q => ∃ p xs d ds, y = .ref p ∧ (SqL K H p xs ∨ SqT K H p xs) ∧ Dp K H x d ∧ DpAll K H xs ds ∧ SeqAt.shaped d = true ∧ SeqAt.shaped (.list ds) = true ∧ Q (.bl (g (ds.any fun z => PyData.eqv z d))) H
theorem op_inSq (hu : X.A.units + 65 < cLine) : OpR X (compareOp .In) (rInSq X.K id) := by
  intro pins s σ H x y v u Q I rx ry h
  obtain ⟨p, xs, d, ds, rfl, hq, hd, ha, sd, se, q⟩ := h
  obtain ⟨as, r1⟩ := Dp.reads I d x v hd rx
  rcases hq with hq | hq
  · obtain ⟨bs, r2⟩ := Dp.reads I (.list ds) (.ref p) u (.lst hq ha) ry
    exact SeqAt.in_list_reads r2 r1 (SeqAt.canLay_of_shaped se) (SeqAt.canLay_of_shaped sd) (PyProof.Rows.room_in_shaped sd hu) ⟨.bl _, H, I, rfl, q⟩
  · obtain ⟨bs, r2⟩ := Dp.reads I (.tuple ds) (.ref p) u (.tup hq ha) ry
    exact SeqAt.in_tuple_reads r2 r1 (SeqAt.canLay_of_shaped se) (SeqAt.canLay_of_shaped sd) (PyProof.Rows.room_in_shaped sd hu) ⟨.bl _, H, I, rfl, q⟩
theorem op_notInSq (hu : X.A.units + 65 < cLine) : OpR X (compareOp .NotIn) (rInSq X.K not) := by
  intro pins s σ H x y v u Q I rx ry h
  obtain ⟨p, xs, d, ds, rfl, hq, hd, ha, sd, se, q⟩ := h
  obtain ⟨as, r1⟩ := Dp.reads I d x v hd rx
  rcases hq with hq | hq
  · obtain ⟨bs, r2⟩ := Dp.reads I (.list ds) (.ref p) u (.lst hq ha) ry
    exact SeqAt.notIn_list_reads r2 r1 (SeqAt.canLay_of_shaped se) (SeqAt.canLay_of_shaped sd) (PyProof.Rows.room_in_shaped sd hu) ⟨.bl _, H, I, rfl, q⟩
  · obtain ⟨bs, r2⟩ := Dp.reads I (.tuple ds) (.ref p) u (.tup hq ha) ry
    exact SeqAt.notIn_tuple_reads r2 r1 (SeqAt.canLay_of_shaped se) (SeqAt.canLay_of_shaped sd) (PyProof.Rows.room_in_shaped sd hu) ⟨.bl _, H, I, rfl, q⟩
def rInRng (g : Bool → Bool) : R2 := fun x y H Q => ∃ i a lo hi, x = V.int i ∧ y = V.ref a ∧ H a = some (.rng lo hi) ∧ Q (.bl (g (decide (lo ≤ i ∧ i < hi)))) H
def rInStr (g : Bool → Bool) : R2 := fun x y H Q => ∃ i j, x = .str i ∧ y = .str j ∧ Q (.bl (g (!(Builtin.Str.occurrences j i 0 j.length 1).isEmpty))) H
theorem in_cases {K : PySem.W.Frag} {fi Z : List Addr} {H : Hp} {h : MH} {a b : MV} {x y : V} {k : Bool} {Q : VK} (g : Bool → Bool) (rh : RH K fi Z H h) (ra : R K fi Z H a x) (rb : R K fi Z H b y) (e : inB a b h = some k) (q : Q (.bl (g k)) H) :
    ((rInStr g x y H Q ∨ (isRng b = true ∧ rInRng g x y H Q)) ∨ rInDict g x y H Q) ∨ rInSq K g x y H Q := by
  unfold inB at e
  split at e
  · simp only [R] at ra rb; cases e; exact .inl (.inl (.inl ⟨_, _, ra, rb, q⟩))
  · simp only [R] at ra rb; cases e
    obtain ⟨p, rfl, ep, _⟩ := rb
    exact .inl (.inl (.inr ⟨rfl, _, p, _, _, ra, rfl, ep, q⟩))
  · split at e
    · rename_i t kvs ed
      simp only [Option.map_eq_some_iff] at e
      obtain ⟨ky, e1, rfl⟩ := e
      obtain ⟨p, rfl, hh⟩ := dct_R rh rb ed ra e1
      rcases hh with ⟨q1, q2⟩ | ⟨m, u, q1, q2, q3⟩
      · rw [q1] at q; exact .inl (.inr ⟨p, none, rfl, q2, q⟩)
      · rw [q1] at q; exact .inl (.inr ⟨p, some u, rfl, q2, q⟩)
    · split at e
      · rename_i xs es
        obtain ⟨p, vs, rfl, hs, rl⟩ := sqOf_R rh rb es
        unfold inD at e
        split at e
        · rename_i d ds e1 e2
          split at e
          · rename_i hc
            cases e
            exact .inr ⟨p, vs, d, ds, rfl, hs, pd_R rh 66 _ _ _ ra e1, pdAll_R (fun m v d r q => pd_R rh 65 m v d r q) rl e2, hc.1, hc.2, q⟩
          · cases e
        · cases e
      · cases e
theorem or_in (hu : X.A.units + 65 < cLine) : OpR X (compareOp .In) (r2 X.K inM) :=
  opRI (OpR.or (OpR.or (OpR.or (r := rInStr id) (r' := rInRng id) op_in_str op_in_rng) (op_inDict (by omega))) (op_inSq hu)) fun x y H Q ⟨fi, Z, h, a, b, rh, ra, rb, p⟩ => by
    unfold inM at p
    cases e : inB a b h with
    | none => rw [e] at p; exact p.elim
    | some k =>
      rw [e] at p
      rcases in_cases id rh ra rb e (p.ok rh (by simp only [R, id])) with ((q | q) | q) | q
      · exact .inl (.inl (.inl q))
      · exact .inl (.inl (.inr q.2))
      · exact .inl (.inr q)
      · exact .inr q
theorem or_notIn (hu : X.A.units + 65 < cLine) : OpR X (compareOp .NotIn) (r2 X.K notInM) :=
  opRI (OpR.or (OpR.or (r := rInStr not) (r' := rInDict not) op_notIn_str (op_notInDict (by omega))) (op_notInSq hu)) fun x y H Q ⟨fi, Z, h, a, b, rh, ra, rb, p⟩ => by
    unfold notInM at p
    split at p
    · exact p.elim
    rename_i hr
    cases e : inB a b h with
    | none => rw [e] at p; exact p.elim
    | some k =>
      rw [e] at p
      rcases in_cases not rh ra rb e (p.ok rh (by simp only [R])) with ((q | q) | q) | q
      · exact .inl (.inl q)
      · exact absurd q.1 hr
      · exact .inl (.inr q)
      · exact .inr q
end
end Mi

set_option Elab.async false
set_option linter.all false
set_option maxRecDepth 100000
set_option maxHeartbeats 1000000
namespace Mi
open PySem PySem.Spec L2
set_option autoImplicit false

def ixM : Op2 := fun a b h => match a, b with
  | .str z, .int i => if z.length ≤ 16777216 then (atI z.cps.toList i).map fun c => (.str ⟨#[c]⟩, h) else none
  | a, b => match dctOf h a with
    | some (t, kvs) => match dkey t b with
      | some k => (getK kvs k).map fun m => (m, h)
      | none => none
    | none => match sqOf h a, b with
      | some xs, .int i => (atI xs i).map fun m => (m, h)
      | _, _ => none
section
variable {X : Cx}
theorem RL.atI {K : PySem.W.Frag} {fi Z : List Addr} {H : Hp} {ms : List MV} {vs : List V} {i : Int} {m : MV} (r : RL K fi Z H ms vs) (e : L2.atI ms i = some m) : ∃ v, L2.atI vs i = some v ∧ R K fi Z H m v := by
  unfold L2.atI at e ⊢
  rw [← r.length]
  cases e1 : ixN ms.length i with
  | none => rw [e1] at e; cases e
  | some j => rw [e1] at e; exact r.get e
def rIxDct : R2 := fun x y H Q => ∃ a v, x = .ref a ∧ DGet H a y (some v) ∧ Q v H
theorem ix_dct (hu : X.A.units + 1 < cLine) : IxR X rIxDct := by
  intro value slice pins s σ H x y v u Q I rx ry h hs
  obtain ⟨a, w, rfl, g, q⟩ := h
  cases rx
  exact PyProof.Rows.tail_any (dict_typeIs I g) PySem.F.slot_dict_getitem.lookup (d_getItem hu I g ry fun w' s3 I3 rw' => ⟨w, H, I3, rw', q⟩) hs
theorem or_ix (hu : X.A.units + 1 < cLine) : IxR X (r2 X.K ixM) :=
  ixRI (IxR.or (ix_dct hu) ix_seq) fun x y H Q ⟨fi, Z, h, a, b, rh, ra, rb, p⟩ => by
    unfold ixM at p
    split at p
    · rename_i z i
      simp only [R] at ra rb
      split at p
      · rename_i hl
        cases e : atI z.cps.toList i with
        | none => rw [e] at p; exact p.elim
        | some c => rw [e] at p; exact .inr (.inr (.inr ⟨z, i, c, ra, rb, line_of hl, e, p.ok rh (by simp only [R])⟩))
      · exact p.elim
    · split at p
      · rename_i t kvs ed
        split at p
        · rename_i k ek
          obtain ⟨c, rfl, hh⟩ := dct_R rh ra ed rb ek
          rcases hh with ⟨q1, _⟩ | ⟨m, u, q1, q2, q3⟩
          · rw [q1] at p; exact p.elim
          · rw [q1] at p; exact .inl ⟨c, u, rfl, q2, p.ok rh q3⟩
        · exact p.elim
      · split at p
        · rename_i _ xs i es _
          simp only [R] at rb
          cases e : atI xs i with
          | none => rw [e] at p; exact p.elim
          | some m =>
            rw [e] at p
            obtain ⟨c, vs, rfl, hq, rl⟩ := sqOf_R rh ra es
            obtain ⟨v, ev, rv⟩ := rl.atI e
            rcases hq with hq | hq
            · exact .inr (.inl ⟨c, vs, i, v, rfl, rb, hq, ev, p.ok rh rv⟩)
            · exact .inr (.inr (.inl ⟨c, vs, i, v, rfl, rb, hq, ev, p.ok rh rv⟩))
        · exact p.elim
end
def evIx (a b : MEnv → MH → Res MV) : MEnv → MH → Res MV := ev2 ixM a b
section
variable {X : Cx} {W : WX} {pos p2 : Pos} {a b c : Expr} {fa fb fc : MEnv → MH → Res MV}
theorem me_ix (hu : X.A.units + 1 < cLine) (ha : PE X a (tE X.K W fa)) (hb : PE X b (tE X.K W fb)) (hs : PlainIx b) : PE X (.Subscript a b pos) (tE X.K W (evIx fa fb)) :=
  (pe_ix (or_ix hu) ha hb hs).imp fun _ _ _ h => t2_of h
def relO : List Addr → List Addr → Hp → Option Int → Option Int → Prop := fun _ _ _ a b => a = b
abbrev tO (K : PySem.W.Frag) (W : WX) (f : MEnv → MH → Res (Option Int)) : TO := tG K relO W f
def evNo (env : MEnv) (h : MH) : Res (Option Int) := .ok none h
def evPart (f : MEnv → MH → Res MV) (env : MEnv) (h : MH) : Res (Option Int) := (f env h).bind fun m h1 => match m with
  | .int i => .ok (some i) h1
  | _ => .err
theorem mo_no : PO X none (tO X.K W evNo) := ⟨fun pins s σ H Q I ⟨fi, Z, env, h, re, rh, p⟩ => po_none.run pins s σ H Q I (p.ok rh rfl)⟩
theorem mo_some (h : PE X a (tE X.K W fa)) : PO X (some a) (tO X.K W (evPart fa)) := ⟨fun pins s σ H Q I ⟨fi, Z, env, h0, re, rh, p⟩ => (po_some h).run pins s σ H Q I (by
  refine ⟨fi, Z, env, h0, re, rh, (Pst.bind (rel' := R X.K) p).imp ?_⟩
  rintro x H1 ⟨fi1, m, h1, g1, rh1, ra, p1⟩
  cases m with
  | int i => simp only [R] at ra; exact ⟨i, ra, p1.ok rh1 rfl⟩
  | _ => exact p1.elim)⟩
def cutM (xs : List MV) (lo hi : Option Int) : List MV := (xs.drop (HT.sIx xs.length 0 lo)).take (HT.sIx xs.length xs.length hi - HT.sIx xs.length 0 lo)
def slM (m : Bool) (a : MV) (lo hi : Option Int) (h : MH) : Option (MV × MH) := match a with
  | .str z => if z.length ≤ 16777216 then some (.str (cutS z lo hi), h) else none
  | .tup xs => some (.tup (cutM xs lo hi), h)
  | a => match sqLOf h a with
    | some xs => newL m (cutM xs lo hi) h
    | none => none
def evSl (m : Bool) (f : MEnv → MH → Res MV) (lo hi : MEnv → MH → Res (Option Int)) (env : MEnv) (h : MH) : Res MV := (f env h).bind fun x h1 => (lo env h1).bind fun l h2 => (hi env h2).bind fun u h3 => ofO (slM m x l u h3)
theorem RL.cut {K : PySem.W.Frag} {fi Z : List Addr} {H : Hp} {ms : List MV} {vs : List V} (r : RL K fi Z H ms vs) (lo hi : Option Int) : RL K fi Z H (cutM ms lo hi) (cutV vs lo hi) := by
  unfold cutM cutV
  rw [← r.length]
  exact (r.drop _).take _
theorem cut_whole {xs : List MV} {lo hi : Option Int} (h : HT.sIx xs.length 0 lo = 0 ∧ HT.sIx xs.length xs.length hi = xs.length) : cutM xs lo hi = xs := by
  unfold cutM
  rw [h.1, h.2]; simp
def rSlM (K : PySem.W.Frag) (m : Bool) : V → Option Int → Option Int → Hp → VK → Prop := fun x lo hi H Q => ∃ fi Z h a, RH K fi Z H h ∧ R K fi Z H a x ∧ PV K fi Z H (slM m a lo hi h) Q
theorem or_sl (m : Bool) : L2.SlR X (rSlM X.K m) :=
  slRI (SlR.or (SlR.or sl_str sl_tupA) sl_list) fun x lo hi H Q ⟨fi, Z, h, a, rh, ra, p⟩ => by
    unfold slM at p
    split at p
    · simp only [R] at ra
      split at p
      · rename_i hl
        exact .inl (.inl ⟨_, ra, line_of hl, p.ok rh (by simp only [R])⟩)
      · exact p.elim
    · rename_i xs
      obtain ⟨a, vs, rfl, e1, l, rl⟩ := tup_R ra
      refine .inl (.inr ⟨a, vs, rfl, e1, fun w => ?_, fun _ q hq => ?_⟩)
      · have e2 : cutM xs lo hi = xs := cut_whole (by rw [rl.length]; exact w)
        rw [e2] at p
        exact p.ok rh ra
      · exact p _ _ fi (Grow.laid hq) (rh.laid hq) (R.tup_new rh hq (rl.cut lo hi) (Nat.le_trans (cutV_length vs lo hi) l))
    · split at p
      · rename_i xs ex
        obtain ⟨a, vs, rfl, e1, rl⟩ := sqLOf_R rh ra ex
        obtain ⟨_, q⟩ := p.newL rh (rl.cut lo hi)
        exact .inr ⟨a, vs, rfl, e1, q⟩
      · exact p.elim
theorem me_sl (m : Bool) {lo hi : Option Expr} {fl fh : MEnv → MH → Res (Option Int)} (ha : PE X a (tE X.K W fa)) (hl : PO X lo (tO X.K W fl)) (hh : PO X hi (tO X.K W fh)) : PE X (.Subscript a (.Slice lo hi none p2) pos) (tE X.K W (evSl m fa fl fh)) :=
  (pe_slice (or_sl m) ha hl hh).imp fun σ H Q ⟨fi, Z, env, h, re, rh, p⟩ => by
    refine ⟨fi, Z, env, h, re, rh, (Pst.bind (rel' := R X.K) p).imp ?_⟩
    rintro x H1 ⟨fi1, m1, h1, g1, rh1, ra, p1⟩
    refine ⟨fi1, Z, env, h1, re.mono g1, rh1, (Pst.bind (rel' := relO) p1).imp ?_⟩
    rintro l H2 ⟨fi2, l', h2, g2, rh2, el, p2⟩
    cases el
    refine ⟨fi2, Z, env, h2, (re.mono g1).mono g2, rh2, (Pst.bind (rel' := relO) p2).imp ?_⟩
    rintro u H3 ⟨fi3, u', h3, g3, rh3, eu, p3⟩
    cases eu
    exact ⟨fi3, Z, h3, m1, rh3, (ra.mono g2).mono g3, PV.of p3⟩
/-- xs[::-1] of a list -/
def revM (m : Bool) : Op1 := fun a h => match sqLOf h a with
  | some xs => newL m xs.reverse h
  | none => none
theorem RL.reverse {K : PySem.W.Frag} {fi Z : List Addr} {H : Hp} : ∀ {ms : List MV} {vs : List V}, RL K fi Z H ms vs → RL K fi Z H ms.reverse vs.reverse
  | [], vs, r => by simp only [RL] at r; subst r; exact RL.nil
  | m :: ms, vs, r => by
    simp only [RL] at r
    obtain ⟨v, t, rfl, h1, h2⟩ := r
    rw [List.reverse_cons, List.reverse_cons]
    exact (RL.reverse h2).append (RL.cons h1 RL.nil)
theorem me_revL (m : Bool) {k : Nat} {p1 p2 p3 : Pos} (ha : PE X a (tE X.K W fa)) : PE X (.Subscript a (.Slice none none (some (.UnaryOp .USub (.Constant (.int 1) k p1) p2)) p3) pos) (tE X.K W (ev1 (revM m) fa)) :=
  (pe_revL ha).imp fun σ H Q h => by
    obtain ⟨fi, Z, env, h, re, rh, p⟩ := h
    refine ⟨fi, Z, env, h, re, rh, (Pst.bind (rel' := R X.K) p).imp ?_⟩
    rintro x H1 ⟨fi1, m1, h1, g1, rh1, ra, p1⟩
    have p2 := PV.of p1
    unfold revM at p2
    split at p2
    · rename_i xs ex
      obtain ⟨a, vs, rfl, e1, rl⟩ := sqLOf_R rh1 ra ex
      exact ⟨a, vs, rfl, e1, (p2.newL rh1 rl.reverse).2⟩
    · exact p2.elim
def negM : Op1 := fun a h => match a with
  | .int i => some (.int (-i), h)
  | _ => none
theorem or_neg : UnR X (unaryOp .USub) (r1 X.K negM) := unRI un_neg fun x H Q ⟨fi, Z, h, a, rh, ra, p⟩ => by
  unfold negM at p
  split at p
  · simp only [R] at ra; exact ⟨_, ra, p.ok rh (by simp only [R])⟩
  · exact p.elim
end
def putM (o i v : MV) (h : MH) : Option MH := match o with
  | .ref n => match h[n]? with
    | some (.lst xs) => match i with
      | .int k => (ixN xs.length k).map fun j => h.set n (.lst (xs.set j v))
      | _ => none
    | some (.dct t kvs) => match dkey t i with
      | some k => if kvs.length < 16777216 then some (h.set n (.dct t (setK kvs k v))) else none
      | none => none
    | _ => none
  | _ => none
section
variable {K : PySem.W.Frag} {fi Z : List Addr} {H : Hp} {h : MH} {m : MV} {v : V} {Q : VK}
theorem RKs.len : ∀ {kvs : KVs} {ks : List (Key × V)}, RKs K fi Z H kvs ks → kvs.length = ks.length
  | [], ks, r => by cases r; rfl
  | p :: q, ks, r => by obtain ⟨k', v, ks', rfl, e2, h1, h2⟩ := r; simp [RKs.len h2]
theorem RTs.len : ∀ {kvs : KVs} {ks : List (List Key × V)}, RTs K fi Z H kvs ks → kvs.length = ks.length
  | [], ks, r => by cases r; rfl
  | p :: q, ks, r => by obtain ⟨v, ks', rfl, h1, h2⟩ := r; simp [RTs.len h2]
theorem RKs.any : ∀ {kvs : KVs} {ks : List (Key × V)} (k : Key), RKs K fi Z H kvs ks → (kvs.any fun kv => decide (kv.1 = [k])) = ks.any fun kv => decide (kv.1 = k)
  | [], ks, k, r => by cases r; rfl
  | p :: q, ks, k, r => by
    obtain ⟨k', v, ks', rfl, e2, h1, h2⟩ := r
    rw [List.any_cons, List.any_cons, RKs.any k h2, e2]
    congr 1
    by_cases e : k' = k <;> simp [e]
theorem RTs.any : ∀ {kvs : KVs} {ks : List (List Key × V)} (k : List Key), RTs K fi Z H kvs ks → (kvs.any fun kv => decide (kv.1 = k)) = ks.any fun kv => decide (kv.1 = k)
  | [], ks, k, r => by cases r; rfl
  | p :: q, ks, k, r => by
    obtain ⟨v, ks', rfl, h1, h2⟩ := r
    rw [List.any_cons, List.any_cons, RTs.any k h2]
theorem RKs.app : ∀ {kvs kvs2 : KVs} {ks ks2 : List (Key × V)}, RKs K fi Z H kvs ks → RKs K fi Z H kvs2 ks2 → RKs K fi Z H (kvs ++ kvs2) (ks ++ ks2)
  | [], kvs2, ks, ks2, r, r2 => by cases r; exact r2
  | p :: q, kvs2, ks, ks2, r, r2 => by obtain ⟨k', v, ks', rfl, e2, h1, h2⟩ := r; exact ⟨k', v, ks' ++ ks2, rfl, e2, h1, RKs.app h2 r2⟩
theorem RTs.app : ∀ {kvs kvs2 : KVs} {ks ks2 : List (List Key × V)}, RTs K fi Z H kvs ks → RTs K fi Z H kvs2 ks2 → RTs K fi Z H (kvs ++ kvs2) (ks ++ ks2)
  | [], kvs2, ks, ks2, r, r2 => by cases r; exact r2
  | p :: q, kvs2, ks, ks2, r, r2 => by obtain ⟨v, ks', rfl, h1, h2⟩ := r; exact ⟨v, ks' ++ ks2, rfl, h1, RTs.app h2 r2⟩
theorem RKs.map : ∀ {kvs : KVs} {ks : List (Key × V)} (k : Key), RKs K fi Z H kvs ks → R K fi Z H m v → RKs K fi Z H (kvs.map fun kv => if kv.1 = [k] then (kv.1, m) else kv) (ks.map fun kv => if kv.1 = k then (kv.1, v) else kv)
  | [], ks, k, r, rv => by cases r; rfl
  | p :: q, ks, k, r, rv => by
    obtain ⟨k', u, ks', rfl, e2, h1, h2⟩ := r
    rw [List.map_cons, List.map_cons]
    by_cases e : k' = k
    · rw [if_pos (by rw [e2, e]), if_pos e]; exact ⟨k', v, _, rfl, e2, rv, RKs.map k h2 rv⟩
    · rw [if_neg (by rw [e2]; simpa using e), if_neg e]; exact ⟨k', u, _, rfl, e2, h1, RKs.map k h2 rv⟩
theorem RTs.map : ∀ {kvs : KVs} {ks : List (List Key × V)} (k : List Key), RTs K fi Z H kvs ks → R K fi Z H m v → RTs K fi Z H (kvs.map fun kv => if kv.1 = k then (kv.1, m) else kv) (ks.map fun kv => if kv.1 = k then (kv.1, v) else kv)
  | [], ks, k, r, rv => by cases r; rfl
  | p :: q, ks, k, r, rv => by
    obtain ⟨u, ks', rfl, h1, h2⟩ := r
    rw [List.map_cons, List.map_cons]
    by_cases e : p.1 = k
    · rw [if_pos e, if_pos e]; exact ⟨v, _, rfl, rv, RTs.map k h2 rv⟩
    · rw [if_neg e, if_neg e]; exact ⟨u, _, rfl, h1, RTs.map k h2 rv⟩
theorem RKs.put {kvs : KVs} {ks : List (Key × V)} (k : Key) (r : RKs K fi Z H kvs ks) (rv : R K fi Z H m v) : RKs K fi Z H (setK kvs [k] m) (putK ks k v) := by
  unfold setK putK
  rw [r.any k]
  split
  · exact r.map k rv
  · exact r.app ⟨k, v, [], rfl, rfl, rv, rfl⟩
theorem RTs.put {kvs : KVs} {ks : List (List Key × V)} (k : List Key) (r : RTs K fi Z H kvs ks) (rv : R K fi Z H m v) : RTs K fi Z H (setK kvs k m) (putK ks k v) := by
  unfold setK putK
  rw [r.any k]
  split
  · exact r.map k rv
  · exact r.app ⟨v, [], rfl, rv, rfl⟩
end
def PH (K : PySem.W.Frag) (fi Z : List Addr) (H : Hp) (r : Option MH) (Q : Hp → Prop) : Prop := match r with
  | some h' => ∀ H' fi', Grow fi fi' H H' → RH K fi' Z H' h' → Q H'
  | none => False
def rPut (K : PySem.W.Frag) : TSet := fun o i v H Q => ∃ fi Z h mo mi mv, RH K fi Z H h ∧ R K fi Z H mo o ∧ R K fi Z H mi i ∧ R K fi Z H mv v ∧ PH K fi Z H (putM mo mi mv h) Q
section
variable {X : Cx}
def rPutD : TSet := fun o i v H Q => ∃ a H', o = .ref a ∧ DPut H a i v H' ∧ Q H'
theorem set_dct (hu : X.A.units + 1 < cLine) : PSet X rPutD := by
  intro pins s σ H o i v ov iv u Q I ro ri rv h
  obtain ⟨a, H', rfl, g, q⟩ := h
  cases ro
  exact d_setItem hu I g ri rv fun s4 I4 => ⟨H', I4, q⟩
theorem or_put (hu : X.A.units + 1 < cLine) : PSet X (rPut X.K) := by
  intro pins s σ H o i v ov iv u Q I ro ri rv h
  obtain ⟨fi, Z, h, mo, mi, mv, rh, rmo, rmi, rmv, p⟩ := h
  unfold putM at p
  split at p
  · rename_i n
    simp only [R] at rmo
    obtain ⟨a, ea, rfl⟩ := rmo
    have ha : a ∈ fi := List.mem_iff_getElem?.mpr ⟨n, ea⟩
    split at p
    · rename_i xs eo
      split at p
      · rename_i k
        obtain ⟨vs, e1, l, rl⟩ := rh.at_ n _ a eo ea
        simp only [R] at rmi
        cases ej : ixN xs.length k with
        | none => rw [ej] at p; exact p.elim
        | some j =>
          rw [ej] at p
          refine set_list pins s σ H _ i v ov iv u Q I ro ri rv ⟨a, vs, k, j, rfl, rmi, e1, by rw [← rl.length]; exact ej, p _ fi (Grow.upd ha (nfL e1)) (rh.put ea ⟨_, L2.upd_same, by rw [List.length_set]; exact l, RL.set j (rl.tr (Tr.upd ha)) (rmv.tr (Tr.upd ha))⟩)⟩
      · exact p.elim
    · rename_i t kvs eo
      split at p
      · rename_i k ek
        split at p
        · rename_i hl
          have ro' := rh.at_ n _ a eo ea
          refine set_dct hu pins s σ H _ i v ov iv u Q I ro ri rv ?_
          cases t with
          | false =>
            obtain ⟨ks, e1, rk⟩ := ro'
            simp only [dkey, Option.map_eq_some_iff] at ek
            obtain ⟨k1, e2, rfl⟩ := ek
            have ei := kOf_R rmi e2
            exact ⟨a, _, rfl, .inl ⟨ks, k1, e1, ei, by rw [← rk.len, sizeLine_eq]; exact hl, rfl⟩, p _ fi (Grow.upd ha (nfK e1)) (rh.put ea ⟨_, L2.upd_same, RKs.put k1 (rk.tr (Tr.upd ha)) (rmv.tr (Tr.upd ha))⟩)⟩
          | true =>
            obtain ⟨ks, e1, rk⟩ := ro'
            simp only [dkey] at ek
            unfold tkeyOf at ek
            split at ek
            · simp only [R] at rmi
              obtain ⟨b, us, rfl, eb, _, _, rl⟩ := rmi
              rw [ksOf_R rl ek] at eb
              exact ⟨a, _, rfl, .inr ⟨ks, k, b, e1, rfl, eb, by rw [← rk.len, sizeLine_eq]; exact hl, rfl⟩, p _ fi (Grow.upd ha (nfT e1)) (rh.put ea ⟨_, L2.upd_same, RTs.put k (rk.tr (Tr.upd ha)) (rmv.tr (Tr.upd ha))⟩)⟩
            · cases ek
        · exact p.elim
      · exact p.elim
    · exact p.elim
  · exact p.elim
variable {W : WX} {pos tpos : Pos} {o i e : Expr} {fo fx fe : MEnv → MH → Res MV}
def evsPut (fe fo fx : MEnv → MH → Res MV) (env : MEnv) (h : MH) : SRes := ofE (fe env h) env fun v h1 => ofE (fo env h1) env fun o h2 => ofE (fx env h2) env fun i h3 => match putM o i v h3 with
  | some h4 => .ok .nx env h4
  | none => .err
theorem ms_put (hu : X.A.units + 1 < cLine) (he : PE X e (tE X.K W fe)) (ho : PE X o (tE X.K W fo)) (hi : PE X i (tE X.K W fx))
    (ha : ∀ v, assign (.Subscript o i tpos) X.env v = (do
      let ov ← holding [v] (eval o X.env)
      let iv ← holding [v, ov] (eval i X.env)
      standAt tpos
      holding [v, ov, iv] (setItem ov iv v)
      release [v, ov, iv] []))
    (hs : swapsWithSole [.Subscript o i tpos] e pos.line X.env = pure false) (hw : swappedStores [.Subscript o i tpos] e X.env = pure none)
    (h1 : (assignEach [.Subscript o i tpos] X.env).map (·.2) = [assign (.Subscript o i tpos) X.env]) : PS X (.Assign [.Subscript o i tpos] e pos) (tS X.K W (evsPut fe fo fx)) :=
  (ps_asg he (pg_sub ho hi (or_put hu) ha) hs hw h1).imp fun D σ H ⟨fi, Z, env, h, re, rh, p⟩ => by
    refine ⟨fi, Z, env, h, re, rh, (PstS.ofE (rel := R X.K) re p).imp ?_⟩
    rintro v H1 ⟨fi1, mv, h1, g1, rh1, rv, p1⟩
    refine ⟨fi1, Z, env, h1, re.mono g1, rh1, (PstS.ofE (rel := R X.K) (re.mono g1) p1).imp ?_⟩
    rintro ov H2 ⟨fi2, mo, h2, g2, rh2, ro, p2⟩
    refine ⟨fi2, Z, env, h2, (re.mono g1).mono g2, rh2, (PstS.ofE (rel := R X.K) ((re.mono g1).mono g2) p2).imp ?_⟩
    rintro iv H3 ⟨fi3, mi, h3, g3, rh3, ri, p3⟩
    refine ⟨fi3, Z, h3, mo, mi, mv, rh3, ro.mono g3, ri, (rv.mono g2).mono g3, ?_⟩
    split at p3
    · rename_i h4 e4
      rw [e4]
      exact fun H4 fi4 g4 rh4 => p3 σ H4 fi4 g4 rh4 ((((re.mono g1).mono g2).mono g3).mono g4)
    · exact p3.elim
end
end Mi

set_option Elab.async false
set_option linter.all false
set_option maxRecDepth 100000
set_option maxHeartbeats 1000000
namespace Mi
open PySem PySem.Spec L2
set_option autoImplicit false

def extM : Op2 := fun a b h => match a with
  | .ref n => match h[n]?, lstOf h b with
    | some (.lst xs), some ys => if xs.length + ys.length ≤ 16777216 then some (.ref n, h.set n (.lst (xs ++ ys))) else none
    | _, _ => none
  | _ => none
def iaddM : Op2 := fun a b h => match a, b with
  | .int i, .int j => some (.int (i + j), h)
  | .str x, .str y => if x.length + y.length ≤ 16777216 then some (.str (x ++ y), h) else none
  | a, b => extM a b h
section
variable {K : PySem.W.Frag} {fi Z : List Addr} {H : Hp} {h : MH} {n : Nat} {xs : List MV} {Q : VK}
theorem ref_lst (rh : RH K fi Z H h) {v : V} (r : R K fi Z H (.ref n) v) (e : h[n]? = some (.lst xs)) : ∃ a vs, v = .ref a ∧ fi[n]? = some a ∧ a ∈ fi ∧ H a = some (.lst vs) ∧ vs.length ≤ sizeLine ∧ RL K fi Z H xs vs := by
  simp only [R] at r
  obtain ⟨a, ea, rfl⟩ := r
  obtain ⟨vs, e1, l, rl⟩ := rh.at_ n _ a e ea
  exact ⟨a, vs, rfl, ea, List.mem_iff_getElem?.mpr ⟨n, ea⟩, e1, l, rl⟩
/-- a list of the small heap is written -/
theorem PV.wr {m : MV} {v : V} {a : Addr} {ys : List MV} {us : List V} (p : PV K fi Z H (some (m, h.set n (.lst ys))) Q) (rh : RH K fi Z H h) (ea : fi[n]? = some a) {vs0 : List V} (e0 : H a = some (.lst vs0)) (l : us.length ≤ sizeLine) (rl : RL K fi Z H ys us) (r : R K fi Z H m v) : Q v (L2.upd H a (.lst us)) := by
  have ha : a ∈ fi := List.mem_iff_getElem?.mpr ⟨n, ea⟩
  exact p v _ fi (Grow.upd ha (nfL e0)) (rh.put ea ⟨us, L2.upd_same, l, rl.tr (Tr.upd ha)⟩) (r.tr (Tr.upd ha))
end
section
variable {X : Cx}
theorem or_iadd : OpR X (inplaceOp .Add) (r2 X.K iaddM) :=
  opRI (OpR.or (OpR.or iop_add iop_add_str) iop_ext) fun x y H Q ⟨fi, Z, h, a, b, rh, ra, rb, p⟩ => by
    unfold iaddM at p
    split at p
    · simp only [R] at ra rb
      exact .inl (.inl ⟨_, _, ra, rb, p.ok rh (by simp only [R])⟩)
    · simp only [R] at ra rb
      split at p
      · rename_i hl
        exact .inl (.inr ⟨_, _, ra, rb, line_of hl, p.ok rh (by simp only [R])⟩)
      · exact p.elim
    · unfold extM at p
      split at p
      · split at p
        · rename_i xs ys e1 e2
          split at p
          · rename_i hl
            obtain ⟨a, vs, rfl, ea, ha, h1, l1, r1⟩ := ref_lst rh ra e1
            obtain ⟨b, us, rfl, h2, l2, r2⟩ := lstOf_R rh rb e2
            have l : vs.length + us.length ≤ sizeLine := by rw [← r1.length, ← r2.length]; exact line_of hl
            exact .inr ⟨a, b, vs, us, rfl, rfl, h1, h2, l, p.wr rh ea h1 (by simpa using l) (r1.append r2) ra⟩
          · exact p.elim
        · exact p.elim
      · exact p.elim
theorem iii_of {op : Operator} {f : Int → Int → Option Int} {C : Int → Int → Prop} {g : Int → Int → Int} (h : OpR X (inplaceOp op) (rI C fun i j => .int (g i j))) (e : ∀ i j k, f i j = some k → C i j ∧ k = g i j) : OpR X (inplaceOp op) (r2 X.K (iiM f)) :=
  opRI h fun x y H Q ⟨fi, Z, h, a, b, rh, ra, rb, p⟩ => by
    unfold iiM at p
    split at p
    · rename_i i j
      simp only [R] at ra rb
      cases ef : f i j with
      | none => rw [ef] at p; exact p.elim
      | some k =>
        rw [ef] at p
        obtain ⟨c, rfl⟩ := e i j k ef
        exact ⟨i, j, ra, rb, c, p.ok rh (by simp only [R])⟩
    · exact p.elim
theorem iii0_of {op : Operator} {f : Int → Int → Option Int} {g : Int → Int → Int} (h : OpR X (inplaceOp op) (rI0 fun i j => .int (g i j))) (e : ∀ i j k, f i j = some k → k = g i j) : OpR X (inplaceOp op) (r2 X.K (iiM f)) :=
  iii_of (C := fun _ _ => True) (opRI h fun x y H Q ⟨i, j, h1, h2, _, q⟩ => ⟨i, j, h1, h2, q⟩) fun i j k q => ⟨trivial, e i j k q⟩
theorem or_isub : OpR X (inplaceOp .Sub) (r2 X.K (iiM subI)) := iii0_of iop_sub fun i j k q => by cases q; rfl
theorem or_iand : OpR X (inplaceOp .BitAnd) (r2 X.K (iiM andI)) := iii0_of iop_and fun i j k q => by cases q; rfl
theorem or_ior : OpR X (inplaceOp .BitOr) (r2 X.K (iiM orI)) := iii0_of iop_or fun i j k q => by cases q; rfl
variable {W : WX} {pos tpos : Pos} {e o ix : Expr} {fe fo fx : MEnv → MH → Res MV} {i : Nat} {x : Str} {op : Operator} {f : Op2}
def evsAug (i : Nat) (f : Op2) (fe : MEnv → MH → Res MV) (env : MEnv) (h : MH) : SRes := match env[i]? with
  | some (some x) => ofE (fe env h) env fun y h1 => match f x y h1 with
    | some (m, h2) => .ok .nx (env.set i (some m)) h2
    | none => .err
  | _ => .err
theorem ms_aug (hN : X.N.Nodup) (hi : X.N[i]? = some x) (hx : Loc X.env.scope x) (hf : X.fn x = true ∨ X.env.scope.names.lookup x = some .local) (ho : OpR X (inplaceOp op) (r2 X.K f)) (he : PE X e (tE X.K W fe)) :
    PS X (.AugAssign (.Name x tpos) op e pos) (tS X.K W (evsAug i f fe)) :=
  (ps_aug hN hi hx he ho hf).imp fun D σ H ⟨fi, Z, env, h, re, rh, p⟩ => by
    unfold evsAug at p
    split at p
    · rename_i m em
      obtain ⟨v, ev, rv⟩ := re.2 i m em
      refine ⟨v, ev, fi, Z, env, h, re, rh, (PstS.ofE (rel := R X.K) re p).imp ?_⟩
      rintro y H1 ⟨fi1, m1, h1, g1, rh1, r1, p1⟩
      refine ⟨fi1, Z, h1, m, m1, rh1, rv.mono g1, r1, ?_⟩
      split at p1
      · rename_i mz h2 ez
        rw [ez]
        exact fun z H2 fi2 g2 rh2 rz => p1 _ H2 fi2 g2 rh2 (((re.mono g1).mono g2).set rz)
      · exact p1.elim
    · exact p.elim
end
def tyM (h : MH) : MV → Option String
  | .str _ => some "str"
  | .int _ => some "int"
  | .lst _ => some "list"
  | .scr _ => some "list"
  | .ref n => match h[n]? with
    | some (.lst _) => some "list"
    | some (.dct _ _) => some "dict"
    | some (.lck _ _) => some "dict"
    | _ => none
  | _ => none
theorem tyM_is {X : Cx} {pins : List (Addr × Obj)} {σ : L2.St} {H : Hp} {s : Shared} {fi Z : List Addr} {h : MH} {m : MV} {x : V} {v : Value} {T : String} (I : L2.Inv X pins σ H s) (rv : RelV x v) (rh : RH X.K fi Z H h) (r : R X.K fi Z H m x) (e : tyM h m = some T) :
    s.TypeIs v T ∧ ∀ a, v = .ref a → ∃ ob, s.heap.get? a = some ob ∧ ob.dict = none := by
  have lst : ∀ {a : Addr} {vs : List V}, x = .ref a → SqL X.K H a vs → s.TypeIs v "list" ∧ ∀ a, v = .ref a → ∃ ob, s.heap.get? a = some ob ∧ ob.dict = none := by
    intro a vs ex hq
    subst ex
    cases rv
    obtain ⟨its, _, pl, _⟩ := I.list hq
    refine ⟨pl.isList.typeIs, fun a e => ?_⟩
    cases e
    obtain ⟨o, n, e, c, hd, _⟩ := pl
    exact ⟨o, e, hd⟩
  have dct : ∀ {a : Addr}, x = .ref a → IsD H a → s.TypeIs v "dict" ∧ ∀ a, v = .ref a → ∃ ob, s.heap.get? a = some ob ∧ ob.dict = none := by
    intro a ex hd
    subst ex
    cases rv
    exact ⟨(isD_at I hd).1, (isD_at I hd).2.1⟩
  cases m with
  | str z =>
    cases e
    simp only [R] at r; subst r
    obtain ⟨t, rfl⟩ := rv
    exact ⟨typeIs_str s z t, fun _ e => nomatch e⟩
  | int i =>
    cases e
    simp only [R] at r; subst r
    obtain ⟨t, rfl⟩ := rv
    exact ⟨typeIs_int s i t, fun _ e => nomatch e⟩
  | lst xs => cases e; obtain ⟨a, vs, ex, hq, _⟩ := sqLOf_R (m := .lst xs) rh r rfl; exact lst ex hq
  | scr ns => cases e; obtain ⟨a, vs, ex, hq, _⟩ := sqLOf_R (m := .scr ns) rh r rfl; exact lst ex hq
  | ref n =>
    simp only [R] at r
    obtain ⟨a, ea, ex⟩ := r
    unfold tyM at e
    simp only at e
    split at e
    · rename_i xs eo; cases e; obtain ⟨vs, e1, _, _⟩ := rh.at_ n _ a eo ea; exact lst ex (SqL.of e1)
    · rename_i t kvs eo; cases e
      have ro := rh.at_ n _ a eo ea
      refine dct ex ?_
      cases t with
      | false => obtain ⟨ks, e1, _⟩ := ro; exact .inl ⟨ks, .inl e1⟩
      | true => obtain ⟨ks, e1, _⟩ := ro; exact .inr ⟨ks, .inl e1⟩
    · rename_i t kvs eo; cases e
      have ro := rh.at_ n _ a eo ea
      refine dct ex ?_
      cases t with
      | false => obtain ⟨o, ks, e1, _⟩ := ro; exact .inl ⟨ks, .inr ⟨o, e1⟩⟩
      | true => obtain ⟨o, ks, e1, _⟩ := ro; exact .inr ⟨ks, .inr ⟨o, e1⟩⟩
    · cases e
  | _ => cases e
def rM (K : PySem.W.Frag) (f : MV → List MV → MH → Option (MV × MH)) : V → List V → Hp → VK → Prop := fun x xs H Q => ∃ fi Z h a as, RH K fi Z H h ∧ R K fi Z H a x ∧ RL K fi Z H as xs ∧ PV K fi Z H (f a as h) Q
abbrev OpM := String → MV → List MV → MH → Option (MV × MH)
/-- o.name(args), by o's type -/
def evMeth (okT : String → Bool) (f : OpM) (fo : MEnv → MH → Res MV) (fs : MEnv → MH → Res (List MV)) (env : MEnv) (h : MH) : Res MV := (fo env h).bind fun x h1 => match tyM h1 x with
  | some T => if okT T = true then (fs env h1).bind fun xs h2 => ofO (f T x xs h2) else .err
  | none => .err
section
variable {X : Cx} {W : WX} {apos cpos : Pos} {o e : Expr} {es : List Expr} {name : Str} {fo : MEnv → MH → Res MV} {fs : MEnv → MH → Res (List MV)} {okT : String → Bool} {f : OpM}
/-- the methods of that name -/
def Meths (X : Cx) (name : Str) (okT : String → Bool) (f : OpM) : Prop := ∀ T, okT T = true → ∃ id, PlainAttrs T ∧ Slot T name id ∧ typeOf (.builtin id) = pure (.type "method_descriptor") ∧ MtR X id (rM X.K (f T))
theorem me_meth0 (hm : Meths X name okT f) (ho : PE X o (tE X.K W fo)) (hbase : attributeBase o name X.env (eval o X.env) = eval o X.env) (hline : (apos.endLine == cpos.line) = true) :
    PE X (.Call (.Attribute o name apos) [] [] cpos) (tE X.K W (evMeth okT f fo evNil)) := by
  refine ⟨fun pins s σ H Q I ⟨fi, Z, env, h, re, rh, p⟩ => ?_⟩
  refine wpAny_Call_method0_late hbase hline (thn (ho.run pins s σ H _ I ⟨fi, Z, env, h, re, rh, Pst.bind (rel' := R X.K) p⟩) fun v s1 ⟨x, H1, I1, r1, fi1, m, h1, g1, rh1, ra, p1⟩ => ?_)
  split at p1
  · rename_i T eT
    split at p1
    · rename_i hk
      obtain ⟨id, pa, slot, hty, hmt⟩ := hm T hk
      obtain ⟨t1, t2⟩ := tyM_is I1 r1 rh1 ra eT
      exact ⟨T, id, pa, slot, hty, t1, t2, PySem.Calls.callWith_builtin rfl (PySem.evalArgs_none (hmt pins s1 σ H1 x [] v [] Q I1 r1 .nil ⟨fi1, Z, h1, m, [], rh1, ra, RL.nil, PV.of p1⟩))⟩
    · exact p1.elim
  · exact p1.elim
theorem me_meth (hm : Meths X name okT f) (ho : PE X o (tE X.K W fo)) (ha : PA X (e :: es) (tA X.K W fs)) (hbase : attributeBase o name X.env (eval o X.env) = eval o X.env)
    (hfew : ((backTo cpos (starEach (e :: es) X.env)).all (fun x => !x.1) && (backToKw cpos (keywordEach [] X.env)).all (fun x => x.1.isSome)
      && decide ((e :: es).length + ([] : List Keyword).length + (if ([] : List Keyword).isEmpty then 0 else 1) < 30)) = true)
    (hline : (apos.endLine == cpos.line) = true) (hs : starEach (e :: es) X.env = (false, eval e X.env) :: starEach es X.env) (hplain : (backTo cpos (starEach es X.env)).any (·.1) = false) :
    PE X (.Call (.Attribute o name apos) (e :: es) [] cpos) (tE X.K W (evMeth okT f fo fs)) := by
  refine ⟨fun pins s σ H Q I ⟨fi, Z, env, h, re, rh, p⟩ => ?_⟩
  refine wpAny_Call_method_late hbase hfew hline rfl (thn (ho.run pins s σ H _ I ⟨fi, Z, env, h, re, rh, Pst.bind (rel' := R X.K) p⟩) fun v s1 ⟨x, H1, I1, r1, fi1, m, h1, g1, rh1, ra, p1⟩ => ?_)
  split at p1
  · rename_i T eT
    split at p1
    · rename_i hk
      obtain ⟨id, pa, slot, hty, hmt⟩ := hm T hk
      obtain ⟨t1, t2⟩ := tyM_is I1 r1 rh1 ra eT
      refine ⟨T, id, pa, slot, hty, t1, t2, ?_⟩
      have hA := ha.run cpos pins s1 σ H1 _ I1 ⟨fi1, Z, env, h1, re.mono g1, rh1, Pst.bind (rel' := RL X.K) p1⟩
      rw [hs] at hA ⊢
      refine PySem.Calls.callWith_builtin (by show (false || (backTo cpos (starEach es X.env)).any (·.1)) = false; rw [hplain] <;> rfl) (PySem.Calls.evalArgs_plain ?_)
      exact thn hA fun us s2 ⟨vs, H2, I2, r2, fi2, ms, h2, g2, rh2, rs, p2⟩ => hmt pins s2 σ H2 x vs v us Q I2 r1 r2 ⟨fi2, Z, h2, m, ms, rh2, ra.mono g2, rs, PV.of p2⟩
    · exact p1.elim
  · exact p1.elim
theorem me_callB {id : String} {x : Str} {p pos : Pos} {g : OpN} (hc : CallR X (.builtin id) (rN X.K g)) (hg : Gl X x) (hm : X.mg x = none) (hv : bootBuiltins x = some (.builtin id)) (ha : PA X (e :: es) (tA X.K W fs)) (hn : x ≠ "__name__") (hdb : (x == ("__debug__" : Str)) = false)
    (he : starEach (e :: es) X.env = (false, eval e X.env) :: starEach es X.env) (hpl : (backTo pos (starEach es X.env)).any (·.1) = false) : PE X (.Call (.Name x p) (e :: es) [] pos) (tE X.K W (evN g fs)) :=
  (pe_callB hc hg hm hv ha hn hdb he hpl).imp fun _ _ _ h => tN_of h
theorem me_callTy {T : String} {x : Str} {p pos : Pos} {g : OpN} (hc : CallR X (.type T) (rN X.K g)) (hg : Gl X x) (hm : X.mg x = none) (hv : bootBuiltins x = some (.type T)) (ha : PA X (e :: es) (tA X.K W fs)) (hn : x ≠ "__name__") (hdb : (x == ("__debug__" : Str)) = false)
    (he : starEach (e :: es) X.env = (false, eval e X.env) :: starEach es X.env) (hpl : (backTo pos (starEach es X.env)).any (·.1) = false) : PE X (.Call (.Name x p) (e :: es) [] pos) (tE X.K W (evN g fs)) :=
  (pe_callTy hc hg hm hv ha hn hdb he hpl).imp fun _ _ _ h => tN_of h
end
end Mi

set_option Elab.async false
set_option linter.all false
set_option maxRecDepth 100000
set_option maxHeartbeats 1000000
namespace Mi
open PySem PySem.Spec L2
set_option autoImplicit false

def lenM : OpN := fun xs h => match xs with
  | [.str z] => if z.length ≤ 16777216 then some (.int z.length, h) else none
  | [.rng _ _] => none
  | [m] => match dctOf h m with
    | some (_, kvs) => some (.int kvs.length, h)
    | none => (sqOf h m).map fun xs => (.int xs.length, h)
  | _ => none
def rangeM : OpN := fun xs h => match xs with
  | [.int n] => if absLe 2305843009213693952 n = true then some (.rng 0 n, h) else none
  | [.int m, .int n] => if absLe 2305843009213693952 m = true ∧ absLe 2305843009213693952 n = true then some (.rng m n, h) else none
  | _ => none
def tupleM : OpN := fun xs h => match xs with
  | [.tup xs] => some (.tup xs, h)
  | [m] => match sqLOf h m with
    | some xs => newT xs h
    | none => none
  | _ => none
def listM (b : Bool) : OpN := fun xs h => match xs with
  | [m] => match dctOf h m with
    | some (t, kvs) => if (t = true → ∀ kv ∈ kvs, kv.1.length ≤ 1000) then newL b (kvs.map fun kv => unkey t kv.1) h else none
    | none => match sqOf h m with
      | some xs => newL b xs h
      | none => none
  | _ => none
def sumM : OpN := fun xs h => match xs with
  | [m] => match sqLOf h m with
    | some xs => match allInts xs with
      | some ns => some (.int ns.sum, h)
      | none => none
    | none => none
  | _ => none
def minI : List Int → Option Int
  | [] => none
  | a :: r => match minI r with
    | none => some a
    | some b => some (if b < a then b else a)
def maxI : List Int → Option Int
  | [] => none
  | a :: r => match maxI r with
    | none => some a
    | some b => some (if b > a then b else a)
theorem minI_spec : ∀ {ns : List Int} {m : Int}, minI ns = some m → m ∈ ns ∧ ∀ a ∈ ns, m ≤ a
  | [], m, e => by cases e
  | a :: r, m, e => by
    unfold minI at e
    cases er : minI r with
    | none =>
      rw [er] at e; cases e
      have hr : r = [] := by
        cases r with
        | nil => rfl
        | cons b t =>
          unfold minI at er
          split at er <;> cases er
      subst hr
      exact ⟨List.mem_cons_self, fun b hb => by simp at hb; omega⟩
    | some b =>
      rw [er] at e
      obtain ⟨h1, h2⟩ := minI_spec er
      simp only at e
      split at e
      · cases e
        exact ⟨List.mem_cons_of_mem _ h1, fun c hc => by rcases List.mem_cons.mp hc with q | q; · omega
                                                         · exact h2 c q⟩
      · cases e
        exact ⟨List.mem_cons_self, fun c hc => by rcases List.mem_cons.mp hc with q | q; · omega
                                                  · have := h2 c q; omega⟩
theorem maxI_spec : ∀ {ns : List Int} {m : Int}, maxI ns = some m → m ∈ ns ∧ ∀ a ∈ ns, a ≤ m
  | [], m, e => by cases e
  | a :: r, m, e => by
    unfold maxI at e
    cases er : maxI r with
    | none =>
      rw [er] at e; cases e
      have hr : r = [] := by
        cases r with
        | nil => rfl
        | cons b t =>
          unfold maxI at er
          split at er <;> cases er
      subst hr
      exact ⟨List.mem_cons_self, fun b hb => by simp at hb; omega⟩
    | some b =>
      rw [er] at e
      obtain ⟨h1, h2⟩ := maxI_spec er
      simp only at e
      split at e
      · cases e
        exact ⟨List.mem_cons_of_mem _ h1, fun c hc => by rcases List.mem_cons.mp hc with q | q; · omega
                                                         · exact h2 c q⟩
      · cases e
        exact ⟨List.mem_cons_self, fun c hc => by rcases List.mem_cons.mp hc with q | q; · omega
                                                  · have := h2 c q; omega⟩
def minM : OpN := fun xs h => match xs with
  | [.int i, .int j] => some (.int (if j < i then j else i), h)
  | [m] => match sqLOf h m with
    | some xs => match allInts xs with
      | some ns => (minI ns).map fun k => (.int k, h)
      | none => none
    | none => none
  | _ => none
def maxM : OpN := fun xs h => match xs with
  | [.int i, .int j] => some (.int (if j > i then j else i), h)
  | [m] => match sqLOf h m with
    | some xs => match allInts xs with
      | some ns => (maxI ns).map fun k => (.int k, h)
      | none => none
    | none => none
  | _ => none
def allBls : List MV → Option (List Bool)
  | [] => some []
  | .bl i :: r => match allBls r with
    | some is => some (i :: is)
    | none => none
  | _ :: _ => none
theorem allBls_eq : ∀ {xs : List MV} {ns : List Bool}, allBls xs = some ns → xs = ns.map MV.bl
  | [], ns, e => by cases e; rfl
  | x :: r, ns, e => by
    cases x with
    | bl i =>
      unfold allBls at e
      split at e
      · rename_i is e1
        cases e
        rw [List.map_cons, ← allBls_eq e1]
      · cases e
    | _ => cases e
def allM : OpN := fun xs h => match xs with
  | [m] => match sqLOf h m with
    | some xs => match allBls xs with
      | some ns => some (.bl (ns.all id), h)
      | none => none
    | none => none
  | _ => none
def anyM : OpN := fun xs h => match xs with
  | [m] => match sqLOf h m with
    | some xs => match allBls xs with
      | some ns => some (.bl (ns.any id), h)
      | none => none
    | none => none
  | _ => none
def absM : OpN := fun xs h => match xs with
  | [.int i] => some (.int (if i < 0 then -i else i), h)
  | _ => none
def intM : OpN := fun xs h => match xs with
  | [.int i] => some (.int i, h)
  | [.bl k] => some (.int (if k then 1 else 0), h)
  | _ => none
section
variable {K : PySem.W.Frag} {fi Z : List Addr} {H : Hp} {h : MH} {m : MV} {v : V} {Q : VK}
theorem RL.bls : ∀ {ns : List Bool} {vs : List V}, RL K fi Z H (ns.map MV.bl) vs → vs = ns.map V.bl
  | [], vs, r => by simpa only [List.map, RL] using r
  | n :: ns, vs, r => by
    simp only [List.map, RL] at r
    obtain ⟨v, t, rfl, h1, h2⟩ := r
    simp only [R] at h1
    rw [h1, RL.bls h2]; rfl
/-- an address of the small heap holds no tuple -/
theorem RH.notTup (rh : RH K fi Z H h) {a : Addr} {vs : List V} (e : H a = some (.tup vs)) : a ∉ fi := fun hm => by
  obtain ⟨n, en⟩ := List.mem_iff_getElem?.mp hm
  have hn : n < h.length := by rw [← rh.len]; exact (List.getElem?_eq_some_iff.mp en).1
  have ro := rh.at_ n _ a (List.getElem?_eq_getElem hn) en
  revert ro
  cases h[n] with
  | lst xs => intro ⟨vs, e1, _⟩; rw [e] at e1; cases e1
  | dct t kvs => cases t <;> (intro ⟨vs, e1, _⟩; rw [e] at e1; cases e1)
  | lck t kvs => cases t <;> (intro ⟨o, vs, e1, _⟩; rw [e] at e1; cases e1)
  | ins C ks xs => intro ⟨dx, vs, e1, _⟩; rw [e] at e1; cases e1
  | gone => intro z; exact z.elim
theorem dct_rd {t : Bool} {kvs : KVs} (rh : RH K fi Z H h) (r : R K fi Z H m v) (e : dctOf h m = some (t, kvs)) :
    ∃ a, v = .ref a ∧ ((t = false ∧ ∃ ks, Rd H a (.dK ks) ∧ RKs K fi Z H kvs ks) ∨ (t = true ∧ ∃ ks, Rd H a (.dT ks) ∧ RTs K fi Z H kvs ks)) := by
  unfold dctOf at e
  split at e
  · rename_i n
    simp only [R] at r
    obtain ⟨a, ea, rfl⟩ := r
    refine ⟨a, rfl, ?_⟩
    split at e
    · rename_i t' kvs' eo
      cases e
      have ro := rh.at_ n _ a eo ea
      cases t with
      | false => obtain ⟨ks, e1, r1⟩ := ro; exact .inl ⟨rfl, ks, .inl e1, r1⟩
      | true => obtain ⟨ks, e1, r1⟩ := ro; exact .inr ⟨rfl, ks, .inl e1, r1⟩
    · rename_i t' kvs' eo
      cases e
      have ro := rh.at_ n _ a eo ea
      cases t with
      | false => obtain ⟨o, ks, e1, r1⟩ := ro; exact .inl ⟨rfl, ks, .inr ⟨o, e1⟩, r1⟩
      | true => obtain ⟨o, ks, e1, r1⟩ := ro; exact .inr ⟨rfl, ks, .inr ⟨o, e1⟩, r1⟩
    · cases e
  · cases e
theorem R.kMV {k : Key} : R K fi Z H (Mi.kMV k) (kV k) := by
  cases k <;> simp only [Mi.kMV, kV, R]
theorem RL.kMVs : ∀ ks : List Key, RL K fi Z H (ks.map Mi.kMV) (ks.map kV)
  | [] => RL.nil
  | k :: ks => RL.cons R.kMV (RL.kMVs ks)
theorem RKs.keys : ∀ {kvs : KVs} {ks : List (Key × V)}, RKs K fi Z H kvs ks → RL K fi Z H (kvs.map fun kv => unkey false kv.1) (ks.map fun kv => kV kv.1)
  | [], ks, r => by cases r; exact RL.nil
  | p :: q, ks, r => by
    obtain ⟨k', v, ks', rfl, e2, h1, h2⟩ := r
    rw [List.map_cons, List.map_cons, e2]
    exact RL.cons R.kMV (RKs.keys h2)
end
section
variable {X : Cx}
theorem cr_range1 : CallR X (.type "range") (fun vs H Q => ∃ j, vs = [V.int j] ∧ ∀ p, H p = none → Q (.ref p) (L2.upd H p (.rng 0 j))) := by
  intro pins s σ H vs us Q I r h
  obtain ⟨j, rfl, q⟩ := h
  obtain ⟨u, rfl, rj⟩ := L2.vals1 r
  obtain ⟨t, rfl⟩ := rj
  refine PySem.call_range_1 ⟨.ref s.heap.objs.size, L2.upd H s.heap.objs.size (.rng 0 j), I.laid (t' := s.toks + 2) (fun b o e => Heap.get?_push_of_some _ e) (Nat.le_refl _) ?_, rfl, q _ (I.hok.fresh (Nat.le_refl _))⟩
  exact ⟨_, _, _, Heap.get?_push_size _ rfl⟩
def rLenTR : List V → Hp → VK → Prop := fun xs H Q => ∃ (p : Addr) (kvs : List (List Key × V)), xs = [.ref p] ∧ Rd H p (.dT kvs) ∧ Q (.int ((kvs.length : Nat) : Int)) H
def rLenKR : List V → Hp → VK → Prop := fun xs H Q => ∃ (p : Addr) (kvs : List (Key × V)), xs = [.ref p] ∧ Rd H p (.dK kvs) ∧ Q (.int ((kvs.length : Nat) : Int)) H
theorem call_len_dTR : CallR X (.builtin "len") rLenTR := by
  intro pins s σ H xs us Q I r h
  obtain ⟨p, kvs, rfl, hp, q⟩ := h
  obtain ⟨u, rfl, rx⟩ := L2.vals1 r
  obtain rfl : u = .ref p := rx
  obtain ⟨z, hd, ys, rel, dd⟩ := L2.dt_rd I.hok hp
  have hl : kvs.length = ys.length := PySem.Paired.length rel
  exact PySem.call_len_dictH hd dd (by rw [← hl]; rw [sizeLine_eq] at z; omega) ⟨V.int ((kvs.length : Nat) : Int), H, I.tok _, ⟨_, by rw [hl]⟩, q⟩
theorem call_len_dKR : CallR X (.builtin "len") rLenKR := by
  intro pins s σ H xs us Q I r h
  obtain ⟨p, kvs, rfl, hp, q⟩ := h
  obtain ⟨u, rfl, rx⟩ := L2.vals1 r
  obtain rfl : u = .ref p := rx
  exact d_len I hp fun t s' I' => ⟨V.int ((kvs.length : Nat) : Int), H, I', ⟨t, rfl⟩, q⟩
theorem cb_len : CallR X (.builtin "len") (rN X.K lenM) :=
  callRI (CallR.or (CallR.or call_len_str call_len_seq) (CallR.or call_len_dKR call_len_dTR)) fun xs H Q ⟨fi, Z, h, as, rh, ra, p⟩ => by
    unfold lenM at p
    split at p
    · obtain ⟨v, rfl, r⟩ := ra.one
      simp only [R] at r; subst r
      split at p
      · rename_i hl
        exact .inl (.inl ⟨_, rfl, line_of hl, p.ok rh (by simp only [R])⟩)
      · exact p.elim
    · exact p.elim
    · rename_i m hm1 hm2
      obtain ⟨v, rfl, r⟩ := ra.one
      split at p
      · rename_i t kvs ed
        obtain ⟨a, rfl, hh⟩ := dct_rd rh r ed
        rcases hh with ⟨_, ks, e1, rk⟩ | ⟨_, ks, e1, rk⟩
        · exact .inr (.inl ⟨a, ks, rfl, e1, p.ok rh (by simp only [R]; rw [rk.len])⟩)
        · exact .inr (.inr ⟨a, ks, rfl, e1, p.ok rh (by simp only [R]; rw [rk.len])⟩)
      · cases es : sqOf h m with
        | none => rw [es] at p; exact p.elim
        | some ys =>
          rw [es] at p
          obtain ⟨a, vs, rfl, hq, rl⟩ := sqOf_R rh r es
          exact .inl (.inr ⟨a, vs, rfl, hq, p.ok rh (by simp only [R]; rw [rl.length])⟩)
    · exact p.elim
theorem cb_range : CallR X (.type "range") (rN X.K rangeM) :=
  callRI (CallR.or cr_range1 cr_range2) fun xs H Q ⟨fi, Z, h, as, rh, ra, p⟩ => by
    unfold rangeM at p
    have fin : ∀ {lo hi : Int}, (-(2 ^ 62) ≤ lo ∧ lo < 2 ^ 62) → (-(2 ^ 62) ≤ hi ∧ hi < 2 ^ 62) → PV X.K fi Z H (some (.rng lo hi, h)) Q → ∀ q, H q = none → Q (.ref q) (L2.upd H q (.rng lo hi)) := by
      intro lo hi c1 c2 p q hq
      refine p _ _ fi (Grow.laid hq) (rh.laid hq) ?_
      simp only [R]
      exact ⟨q, rfl, L2.upd_same, (rh.fresh hq).1, c1.1, c1.2, c2.1, c2.2⟩
    split at p
    · obtain ⟨v, rfl, r⟩ := ra.one
      simp only [R] at r; subst r
      split at p
      · rename_i hl
        have hb := absLe_iff.mp hl
        exact .inl ⟨_, rfl, fin (by decide) ⟨by omega, by omega⟩ p⟩
      · exact p.elim
    · obtain ⟨v, w, rfl, r1, r2⟩ := ra.two
      simp only [R] at r1 r2; subst r1 r2
      split at p
      · rename_i hl
        have hb := absLe_iff.mp hl.1
        have hb2 := absLe_iff.mp hl.2
        exact .inr ⟨_, _, rfl, fin ⟨by omega, by omega⟩ ⟨by omega, by omega⟩ p⟩
      · exact p.elim
    · exact p.elim
theorem cb_tuple : CallR X (.type "tuple") (rN X.K tupleM) :=
  callRI call_tuple_of fun xs H Q ⟨fi, Z, h, as, rh, ra, p⟩ => by
    unfold tupleM at p
    split at p
    · obtain ⟨v, rfl, r⟩ := ra.one
      obtain ⟨a, vs, rfl, e1, l, rl⟩ := tup_R r
      exact ⟨a, vs, rfl, .inr ⟨e1, p.ok rh r⟩⟩
    · obtain ⟨v, rfl, r⟩ := ra.one
      split at p
      · rename_i ys es
        obtain ⟨a, vs, rfl, e1, rl⟩ := sqLOf_R rh r es
        exact ⟨a, vs, rfl, .inl ⟨e1, (p.newT rh rl).2⟩⟩
      · exact p.elim
    · exact p.elim
theorem keys_R {K : PySem.W.Frag} {fi Z : List Addr} {H : Hp} {h : MH} (rh : RH K fi Z H h) : ∀ {kvs : KVs} {ks : List (List Key × V)} {bs : List Addr}, RTs K fi Z H kvs ks → (∀ kv ∈ kvs, kv.1.length ≤ 16777216) → IsKeys H ks bs → RL K fi Z H (kvs.map fun kv => unkey true kv.1) (bs.map V.ref)
  | [], ks, bs, r, hl, ik => by cases r; cases ik; exact RL.nil
  | p :: q, ks, bs, r, hl, ik => by
    obtain ⟨v, ks', rfl, h1, h2⟩ := r
    unfold IsKeys at ik
    cases ik with
    | cons e t =>
      refine RL.cons ?_ (keys_R rh h2 (fun kv hk => hl kv (List.mem_cons_of_mem _ hk)) t)
      show R K fi Z H (.tup (p.1.map kMV)) _
      simp only [R]
      exact ⟨_, _, rfl, e, rh.notTup e, by rw [List.length_map]; exact line_of (hl p List.mem_cons_self), RL.kMVs _⟩
theorem cb_list (hc : X.calm = true) (b : Bool) : CallR X (.type "list") (rN X.K (listM b)) :=
  callRI (CallR.or (CallR.or (call_listD hc) (call_list_dT hc)) call_list_of) fun xs H Q ⟨fi, Z, h, as, rh, ra, p⟩ => by
    unfold listM at p
    split at p
    · obtain ⟨v, rfl, r⟩ := ra.one
      split at p
      · rename_i t kvs ed
        obtain ⟨a, rfl, hh⟩ := dct_rd rh r ed
        split at p
        · rename_i hl
          rcases hh with ⟨rfl, ks, e1, rk⟩ | ⟨rfl, ks, e1, rk⟩
          · exact .inl (.inl ⟨a, ks, rfl, e1, (p.newL rh rk.keys).2⟩)
          · refine .inl (.inr ⟨a, ks, rfl, e1, fun q bs hq ik => ?_⟩)
            exact (p.newL rh (keys_R rh rk (fun kv hk => Nat.le_trans (hl rfl kv hk) (by decide)) ik)).2 q hq
        · exact p.elim
      · split at p
        · rename_i ys es
          obtain ⟨a, vs, rfl, e1, rl⟩ := sqOf_R rh r es
          exact .inr ⟨a, vs, rfl, e1, (p.newL rh rl).2⟩
        · exact p.elim
    · exact p.elim
theorem cb_sum (hc : X.calm = true) : CallR X (.builtin "sum") (rN X.K sumM) :=
  callRI (cr_sum hc) fun xs H Q ⟨fi, Z, h, as, rh, ra, p⟩ => by
    unfold sumM at p
    split at p
    · obtain ⟨v, rfl, r⟩ := ra.one
      split at p
      · rename_i ys es
        split at p
        · rename_i ns en
          obtain ⟨a, vs, rfl, e1, rl⟩ := sqLOf_R rh r es
          rw [allInts_eq en] at rl
          rw [rl.ints_eq] at e1
          exact ⟨a, ns, rfl, e1, p.ok rh (by simp only [R])⟩
        · exact p.elim
      · exact p.elim
    · exact p.elim
theorem minI_len {ns : List Int} {m : Int} (e : minI ns = some m) : 0 < ns.length := by
  cases ns with
  | nil => cases e
  | cons a r => simp
theorem maxI_len {ns : List Int} {m : Int} (e : maxI ns = some m) : 0 < ns.length := by
  cases ns with
  | nil => cases e
  | cons a r => simp
theorem cb_min (hc : X.calm = true) : CallR X (.builtin "min") (rN X.K minM) :=
  callRI (CallR.or (call_min2 hc) (cr_min hc)) fun xs H Q ⟨fi, Z, h, as, rh, ra, p⟩ => by
    unfold minM at p
    split at p
    · obtain ⟨v, w, rfl, r1, r2⟩ := ra.two
      simp only [R] at r1 r2; subst r1 r2
      exact .inl ⟨_, _, rfl, p.ok rh (by simp only [R])⟩
    · obtain ⟨v, rfl, r⟩ := ra.one
      split at p
      · rename_i ys es
        split at p
        · rename_i ns en
          obtain ⟨a, vs, rfl, e1, rl⟩ := sqLOf_R rh r es
          rw [allInts_eq en] at rl
          rw [rl.ints_eq] at e1
          cases em : minI ns with
          | none => rw [em] at p; exact p.elim
          | some k =>
            rw [em] at p
            obtain ⟨k1, k2⟩ := minI_spec em
            refine .inr ⟨a, ns, rfl, e1, minI_len em, fun m hm hle => ?_⟩
            have : m = k := by have := hle k k1; have := k2 m hm; omega
            subst this
            exact p.ok rh (by simp only [R])
        · exact p.elim
      · exact p.elim
    · exact p.elim
theorem cb_max (hc : X.calm = true) : CallR X (.builtin "max") (rN X.K maxM) :=
  callRI (CallR.or (call_max2 hc) (cr_max hc)) fun xs H Q ⟨fi, Z, h, as, rh, ra, p⟩ => by
    unfold maxM at p
    split at p
    · obtain ⟨v, w, rfl, r1, r2⟩ := ra.two
      simp only [R] at r1 r2; subst r1 r2
      exact .inl ⟨_, _, rfl, p.ok rh (by simp only [R])⟩
    · obtain ⟨v, rfl, r⟩ := ra.one
      split at p
      · rename_i ys es
        split at p
        · rename_i ns en
          obtain ⟨a, vs, rfl, e1, rl⟩ := sqLOf_R rh r es
          rw [allInts_eq en] at rl
          rw [rl.ints_eq] at e1
          cases em : maxI ns with
          | none => rw [em] at p; exact p.elim
          | some k =>
            rw [em] at p
            obtain ⟨k1, k2⟩ := maxI_spec em
            refine .inr ⟨a, ns, rfl, e1, maxI_len em, fun m hm hle => ?_⟩
            have : m = k := by have := hle k k1; have := k2 m hm; omega
            subst this
            exact p.ok rh (by simp only [R])
        · exact p.elim
      · exact p.elim
    · exact p.elim
theorem cb_all (hc : X.calm = true) : CallR X (.builtin "all") (rN X.K allM) :=
  callRI (cr_all hc) fun xs H Q ⟨fi, Z, h, as, rh, ra, p⟩ => by
    unfold allM at p
    split at p
    · obtain ⟨v, rfl, r⟩ := ra.one
      split at p
      · rename_i ys es
        split at p
        · rename_i ns en
          obtain ⟨a, vs, rfl, e1, rl⟩ := sqLOf_R rh r es
          rw [allBls_eq en] at rl
          rw [rl.bls] at e1
          exact ⟨a, ns, rfl, e1, p.ok rh (by simp only [R])⟩
        · exact p.elim
      · exact p.elim
    · exact p.elim
theorem cb_any (hc : X.calm = true) : CallR X (.builtin "any") (rN X.K anyM) :=
  callRI (cr_any hc) fun xs H Q ⟨fi, Z, h, as, rh, ra, p⟩ => by
    unfold anyM at p
    split at p
    · obtain ⟨v, rfl, r⟩ := ra.one
      split at p
      · rename_i ys es
        split at p
        · rename_i ns en
          obtain ⟨a, vs, rfl, e1, rl⟩ := sqLOf_R rh r es
          rw [allBls_eq en] at rl
          rw [rl.bls] at e1
          exact ⟨a, ns, rfl, e1, p.ok rh (by simp only [R])⟩
        · exact p.elim
      · exact p.elim
    · exact p.elim
theorem cb_abs : CallR X (.builtin "abs") (rN X.K absM) :=
  callRI call_abs fun xs H Q ⟨fi, Z, h, as, rh, ra, p⟩ => by
    unfold absM at p
    split at p
    · obtain ⟨v, rfl, r⟩ := ra.one
      simp only [R] at r; subst r
      exact ⟨_, rfl, p.ok rh (by simp only [R])⟩
    · exact p.elim
theorem cb_int : CallR X (.type "int") (rN X.K intM) :=
  callRI call_int1 fun xs H Q ⟨fi, Z, h, as, rh, ra, p⟩ => by
    unfold intM at p
    split at p
    · obtain ⟨v, rfl, r⟩ := ra.one
      simp only [R] at r; subst r
      exact .inl ⟨_, rfl, p.ok rh (by simp only [R])⟩
    · obtain ⟨v, rfl, r⟩ := ra.one
      simp only [R] at r; subst r
      exact .inr ⟨_, rfl, p.ok rh (by simp only [R])⟩
    · exact p.elim
end
end Mi

set_option Elab.async false
set_option linter.all false
set_option maxRecDepth 100000
set_option maxHeartbeats 1000000
namespace Mi
open PySem PySem.Spec L2
set_option autoImplicit false

def isT (a b : String) : Bool := a == b
def appendM : OpM := fun _ x as h => match x, as with
  | .ref n, [y] => match h[n]? with
    | some (.lst xs) => if xs.length < 16777216 then some (.non, h.set n (.lst (xs ++ [y]))) else none
    | _ => none
  | _, _ => none
def extendM : OpM := fun _ x as h => match x, as with
  | .ref n, [y] => match h[n]?, lstOf h y with
    | some (.lst xs), some ys => if xs.length + ys.length ≤ 16777216 then some (.non, h.set n (.lst (xs ++ ys))) else none
    | _, _ => none
  | _, _ => none
def reverseM : OpM := fun _ x as h => match x, as with
  | .ref n, [] => match h[n]? with
    | some (.lst xs) => some (.non, h.set n (.lst xs.reverse))
    | _ => none
  | _, _ => none
def clearM : OpM := fun _ x as h => match x, as with
  | .ref n, [] => match h[n]? with
    | some (.lst xs) => some (.non, h.set n (.lst []))
    | _ => none
  | _, _ => none
def insertM : OpM := fun _ x as h => match x, as with
  | .ref n, [.int i, y] => match h[n]? with
    | some (.lst xs) => if xs.length < 16777216 ∧ 0 ≤ i ∧ absLe 9223372036854775807 i = true then some (.non, h.set n (.lst (xs.take i.toNat ++ [y] ++ xs.drop i.toNat))) else none
    | _ => none
  | _, _ => none
def lpopM : OpM := fun _ x as h => match x, as with
  | .ref n, [] => match h[n]? with
    | some (.lst xs) => (xs[xs.length - 1]?).map fun y => (y, h.set n (.lst xs.dropLast))
    | _ => none
  | .ref n, [.int i] => match h[n]? with
    | some (.lst xs) => if absLe 9223372036854775807 i = true then (match seqIndex? i xs.length with
      | some k => (xs[k]?).map fun y => (y, h.set n (.lst (xs.eraseIdx k)))
      | none => none) else none
    | _ => none
  | _, _ => none
/-- the first place of an equal one -/
def firstAt (d : PyData) : List PyData → Option Nat
  | [] => none
  | z :: r => if PyData.eqv z d = true then some 0 else (firstAt d r).map (· + 1)
def indexM : OpM := fun _ x as h => match as with
  | [y] => match sqLOf h x, pdM h 66 y with
    | some xs, some d => match xs.mapM (pdM h 65) with
      | some ds => if SeqAt.shaped (.list ds) = true ∧ SeqAt.shaped d = true then (firstAt d ds).map fun j => (.int (j : Nat), h) else none
      | none => none
    | _, _ => none
  | _ => none
def removeM : OpM := fun _ x as h => match x, as with
  | .ref n, [.int k] => match h[n]? with
    | some (.lst xs) => match allInts xs with
      | some ns => match ns.idxOf? k with
        | some j => some (.non, h.set n (.lst ((ns.eraseIdx j).map MV.int)))
        | none => none
      | none => none
    | _ => none
  | _, _ => none
def lcountM : OpM := fun _ x as h => match as with
  | [.int k] => match sqLOf h x with
    | some xs => match allInts xs with
      | some ns => some (.int (ns.count k : Nat), h)
      | none => none
    | none => none
  | _ => none
theorem firstAt_spec {d : PyData} : ∀ {ds : List PyData} {j : Nat}, firstAt d ds = some j → ∃ z, ds[j]? = some z ∧ PyData.eqv z d = true ∧ ∀ (m : Nat) (z' : PyData), m < j → ds[m]? = some z' → PyData.eqv z' d = false
  | [], j, e => by cases e
  | z :: r, j, e => by
    unfold firstAt at e
    split at e
    · rename_i hz
      cases e
      exact ⟨z, rfl, hz, fun m z' hm => absurd hm (Nat.not_lt_zero _)⟩
    · rename_i hz
      simp only [Option.map_eq_some_iff] at e
      obtain ⟨i, e1, rfl⟩ := e
      obtain ⟨w, h1, h2, h3⟩ := firstAt_spec e1
      refine ⟨w, by simpa using h1, h2, fun m z' hm hz' => ?_⟩
      cases m with
      | zero =>
        simp at hz'; subst hz'
        simpa using hz
      | succ m => exact h3 m z' (by omega) (by simpa using hz')
section
variable {K : PySem.W.Frag} {fi Z : List Addr} {H : Hp} {h : MH} {m : MV} {v : V} {Q : VK}
theorem RL.dropLast {ms : List MV} {vs : List V} (r : RL K fi Z H ms vs) : RL K fi Z H ms.dropLast vs.dropLast := by
  rw [List.dropLast_eq_take, List.dropLast_eq_take, r.length]
  exact r.take _
theorem RL.eraseIdx : ∀ {ms : List MV} {vs : List V} (k : Nat), RL K fi Z H ms vs → RL K fi Z H (ms.eraseIdx k) (vs.eraseIdx k)
  | [], vs, k, r => by simp only [RL] at r; subst r; simp [RL]
  | m :: ms, vs, 0, r => by
    simp only [RL] at r
    obtain ⟨v, t, rfl, h1, h2⟩ := r
    exact h2
  | m :: ms, vs, k + 1, r => by
    simp only [RL] at r
    obtain ⟨v, t, rfl, h1, h2⟩ := r
    exact RL.cons h1 (RL.eraseIdx k h2)
end
section
variable {X : Cx}
theorem ml_append : Meths X "append" (isT "list") appendM := fun T hT => by
  obtain rfl := (eq_of_beq hT)
  refine ⟨"list.append", PySem.F.plainAttrs_list, PySem.F.slot_list_append, PySem.F.type_list_append, mtRI (show MtR X "list.append" rAppend from mt_append) fun x xs H Q ⟨fi, Z, h, a, as, rh, ra, rs, p⟩ => ?_⟩
  unfold appendM at p
  split at p
  · obtain ⟨y, rfl, ry⟩ := rs.one
    split at p
    · rename_i ys eo
      split at p
      · rename_i hl
        obtain ⟨a, vs, rfl, ea, _, h1, l1, r1⟩ := ref_lst rh ra eo
        have l : (vs ++ [y]).length ≤ sizeLine := by rw [List.length_append, ← r1.length, sizeLine_eq, List.length_singleton]; omega
        exact ⟨a, vs, y, rfl, rfl, h1, by rw [← r1.length, sizeLine_eq]; exact hl, p.wr rh ea h1 l (r1.append (RL.cons ry RL.nil)) (by simp only [R])⟩
      · exact p.elim
    · exact p.elim
  · exact p.elim
theorem ml_extend : Meths X "extend" (isT "list") extendM := fun T hT => by
  obtain rfl := (eq_of_beq hT)
  refine ⟨"list.extend", PySem.F.plainAttrs_list, PySem.F.slot_list_extend, PySem.F.type_list_extend, mtRI (show MtR X "list.extend" rExtend from mt_extend) fun x xs H Q ⟨fi, Z, h, a, as, rh, ra, rs, p⟩ => ?_⟩
  unfold extendM at p
  split at p
  · obtain ⟨y, rfl, ry⟩ := rs.one
    split at p
    · rename_i ys zs eo ez
      split at p
      · rename_i hl
        obtain ⟨a, vs, rfl, ea, _, h1, l1, r1⟩ := ref_lst rh ra eo
        obtain ⟨b, us, rfl, h2, l2, r2⟩ := lstOf_R rh ry ez
        have l : vs.length + us.length ≤ sizeLine := by rw [← r1.length, ← r2.length, sizeLine_eq]; exact hl
        exact ⟨a, b, vs, us, rfl, rfl, h1, h2, l, p.wr rh ea h1 (by simpa using l) (r1.append r2) (by simp only [R])⟩
      · exact p.elim
    · exact p.elim
  · exact p.elim
theorem ml_reverse : Meths X "reverse" (isT "list") reverseM := fun T hT => by
  obtain rfl := (eq_of_beq hT)
  refine ⟨"list.reverse", PySem.F.plainAttrs_list, PySem.F.slot_list_reverse, PySem.F.type_list_reverse, mtRI (show MtR X "list.reverse" rReverse from mt_reverse) fun x xs H Q ⟨fi, Z, h, a, as, rh, ra, rs, p⟩ => ?_⟩
  unfold reverseM at p
  split at p
  · simp only [RL] at rs; subst rs
    split at p
    · rename_i ys eo
      obtain ⟨a, vs, rfl, ea, _, h1, l1, r1⟩ := ref_lst rh ra eo
      exact ⟨a, vs, rfl, rfl, h1, p.wr rh ea h1 (by simpa using l1) r1.reverse (by simp only [R])⟩
    · exact p.elim
  · exact p.elim
theorem ml_insert : Meths X "insert" (isT "list") insertM := fun T hT => by
  obtain rfl := (eq_of_beq hT)
  refine ⟨"list.insert", PySem.F.plainAttrs_list, PySem.F.slot_list_insert, PySem.F.type_list_insert, mtRI mt_insert fun x xs H Q ⟨fi, Z, h, a, as, rh, ra, rs, p⟩ => ?_⟩
  unfold insertM at p
  split at p
  · obtain ⟨i', y, rfl, ri, ry⟩ := rs.two
    simp only [R] at ri; subst ri
    split at p
    · rename_i ys eo
      split at p
      · rename_i hl
        obtain ⟨a, vs, rfl, ea, _, h1, l1, r1⟩ := ref_lst rh ra eo
        refine ⟨a, vs, _, y, rfl, rfl, h1, by rw [← r1.length, sizeLine_eq]; exact hl.1, hl.2.1, (by have := absLe_iff.mp hl.2.2; omega), p.wr rh ea h1 ?_ (((r1.take _).append (RL.cons ry RL.nil)).append (r1.drop _)) (by simp only [R])⟩
        have := hl.1
        rw [r1.length] at this
        rw [sizeLine_eq]
        simp only [List.length_append, List.length_take, List.length_drop, List.length_cons, List.length_nil]
        omega
      · exact p.elim
    · exact p.elim
  · exact p.elim
theorem ml_index (hu : X.A.units + 65 < cLine) : Meths X "index" (isT "list") indexM := fun T hT => by
  obtain rfl := (eq_of_beq hT)
  refine ⟨"list.index", PySem.F.plainAttrs_list, PySem.F.slot_list_index, PySem.F.type_list_index, mtRI (mt_indexD hu) fun x xs H Q ⟨fi, Z, h, a, as, rh, ra, rs, p⟩ => ?_⟩
  unfold indexM at p
  split at p
  · obtain ⟨y, rfl, ry⟩ := rs.one
    split at p
    · rename_i ys d es ed
      split at p
      · rename_i ds em
        split at p
        · rename_i hs
          obtain ⟨a, vs, rfl, h1, r1⟩ := sqLOf_R rh ra es
          cases ej : firstAt d ds with
          | none => rw [ej] at p; exact p.elim
          | some j =>
            rw [ej] at p
            obtain ⟨z, z1, z2, z3⟩ := firstAt_spec ej
            exact ⟨a, y, d, ds, j, z, rfl, rfl, .lst h1 (pdAll_R (fun m v d r q => pd_R rh 65 m v d r q) r1 em), pd_R rh 66 _ _ _ ry ed, hs.1, hs.2, z1, z2, z3, p.ok rh (by simp only [R])⟩
        · exact p.elim
      · exact p.elim
    · exact p.elim
  · exact p.elim
def dgetM : OpM := fun _ x as h => match dctOf h x, as with
  | some (t, kvs), [y] => (dkey t y).map fun k => ((getK kvs k).getD .non, h)
  | some (t, kvs), [y, z] => (dkey t y).map fun k => ((getK kvs k).getD z, h)
  | _, _ => none
def rGet1 : V → List V → Hp → VK → Prop := fun x xs H Q => ∃ a y o, x = .ref a ∧ xs = [y] ∧ DGet H a y o ∧ Q (o.getD .non) H
def rGet2 : V → List V → Hp → VK → Prop := fun x xs H Q => ∃ a y z o, x = .ref a ∧ xs = [y, z] ∧ DGet H a y o ∧ Q (o.getD z) H
theorem mt_get1 (hu : X.A.units + 1 < cLine) : MtR X "dict.get" rGet1 := by
  intro pins s σ H x xs v us Q I rx rxs h
  obtain ⟨a, y, o, rfl, rfl, g, q⟩ := h
  cases rx
  obtain ⟨u, rfl, ru⟩ := L2.vals1 rxs
  exact d_get1 hu I g ru fun w' s' I' r' => ⟨_, H, I', r', q⟩
theorem mt_get2 (hu : X.A.units + 1 < cLine) : MtR X "dict.get" rGet2 := by
  intro pins s σ H x xs v us Q I rx rxs h
  obtain ⟨a, y, z, o, rfl, rfl, g, q⟩ := h
  cases rx
  obtain ⟨u, w, rfl, ru, rw'⟩ := L2.vals2 rxs
  exact d_get2 hu I g ru rw' fun w' s' I' r' => ⟨_, H, I', r', q⟩
theorem md_get (hu : X.A.units + 1 < cLine) : Meths X "get" (isT "dict") dgetM := fun T hT => by
  obtain rfl := (eq_of_beq hT)
  refine ⟨"dict.get", PySem.F.plainAttrs_dict, PySem.F.slot_dict_get, PySem.F.type_dict_get, mtRI (MtR.or (mt_get1 hu) (mt_get2 hu)) fun x xs H Q ⟨fi, Z, h, a, as, rh, ra, rs, p⟩ => ?_⟩
  unfold dgetM at p
  split at p
  · rename_i t kvs y ed
    obtain ⟨yv, rfl, ry⟩ := rs.one
    cases ek : dkey t y with
    | none => rw [ek] at p; exact p.elim
    | some k =>
      rw [ek] at p
      dsimp only [Option.map] at p
      obtain ⟨c, rfl, hh⟩ := dct_R rh ra ed ry ek
      rcases hh with ⟨q1, q2⟩ | ⟨m, u, q1, q2, q3⟩
      · rw [q1] at p; exact .inl ⟨c, yv, none, rfl, rfl, q2, p.ok rh (by simp only [R, Option.getD])⟩
      · rw [q1] at p; exact .inl ⟨c, yv, some u, rfl, rfl, q2, p.ok rh q3⟩
  · rename_i t kvs y z ed
    obtain ⟨yv, zv, rfl, ry, rz⟩ := rs.two
    cases ek : dkey t y with
    | none => rw [ek] at p; exact p.elim
    | some k =>
      rw [ek] at p
      dsimp only [Option.map] at p
      obtain ⟨c, rfl, hh⟩ := dct_R rh ra ed ry ek
      rcases hh with ⟨q1, q2⟩ | ⟨m, u, q1, q2, q3⟩
      · rw [q1] at p; exact .inr ⟨c, yv, zv, none, rfl, rfl, q2, p.ok rh rz⟩
      · rw [q1] at p; exact .inr ⟨c, yv, zv, some u, rfl, rfl, q2, p.ok rh q3⟩
  · exact p.elim
end
def dpopM : OpM := fun _ x as h => match x, as with
  | .ref n, [y] => match h[n]? with
    | some (.dct t kvs) => match dkey t y with
      | some k => (getK kvs k).map fun m => (m, h.set n (.dct t (delK kvs k)))
      | none => none
    | _ => none
  | _, _ => none
def rPopK1 : V → List V → Hp → VK → Prop := fun x xs H Q => ∃ (a : Addr) (kvs : List (Key × V)) (k : Key) (v : V), x = .ref a ∧ xs = [kV k] ∧ H a = some (.dK kvs) ∧ valV kvs k = some v ∧ Q v (L2.upd H a (.dK (dropK kvs k)))
def rPopT1 : V → List V → Hp → VK → Prop := fun x xs H Q => ∃ (a : Addr) (kvs : List (List Key × V)) (k : List Key) (b : Addr) (v : V), x = .ref a ∧ xs = [.ref b] ∧ H a = some (.dT kvs) ∧ H b = some (.tup (k.map kV)) ∧ valV kvs k = some v ∧ Q v (L2.upd H a (.dT (dropK kvs k)))
section
variable {prog : Program} {w : World} {K : Type} [DecidableEq K] {knd : HeapKind prog w K}
theorem meetsPop1 {d b : Addr} {k : K} (hd : (d == sysModules) = false) :
    MeetsIn prog w (Builtin.«dict.pop» ⟨[.ref d, .ref b], []⟩) (fun A R s => ∃ xs p, knd.room A.in1 ∧ knd.is s.heap k b ∧ s.heap.DictOfH knd d xs ∧ xs.length ≤ sizeLine ∧
      atKey xs k = some p ∧ ∀ h' tk, h'.DictOfH knd d (DT.dropH xs k) → Heap.SameBut d s.heap h' → R (.ok (.ret p.2)) { s with heap := h', toks := tk }) :=
  .of_wp fun A R s ⟨xs, p, hu, hkey, hm, hsz, hp0, hsome⟩ => by
    obtain ⟨o, es, ep, ho, hc, hdat, he, his, hn⟩ := id hm
    have hes : es.size = xs.length := size_of_entries he
    have hpart : (keyPart (Value.ref b)).isSome = false := rfl
    unfold Builtin.«dict.pop»
    refine wpAny_bind ?_
    unfold Builtin.Dict.keyAndDefault
    refine wpAny_bind (wpAny_notOrdered_dict hm.typeIs ?_)
    show wpAny _ _ (pure (d, Value.ref b, none)) _ _ s
    refine wpAny_pure ?_
    simp only [hpart, Bool.false_eq_true, if_false]
    refine wpAny_bind (wpAny_dictEntries ho hdat (wpAny_bind (wpAny_pure ?_)))
    cases hem : es.isEmpty with
    | true =>
      exfalso
      have h0 : xs = [] := by
        have z : es.size = 0 := by simpa using hem
        exact List.length_eq_zero_iff.mp (by omega)
      subst h0
      cases hp0
    | false =>
      simp only [Bool.false_eq_true, if_false]
      refine wpAny_bind (DT.takeH hu hkey hm hsz (fun hno => ?_) fun q e hq hev h' hm' hs' => ?_)
      · rw [hp0] at hno; cases hno
      · rw [hp0] at hq
        cases hq
        simp only [Option.isNone_some, Bool.false_eq_true, if_false]
        exact wpAny_bind (wpAny_letGo (wpAny_pure ⟨e.val, rfl, by rw [hev]; exact hsome h' _ hm' hs'⟩))
end
section
variable {X : Cx}
theorem mt_popK1 : MtR X "dict.pop" rPopK1 := by
  intro pins s σ H x xs v us Q I rx rxs h
  obtain ⟨a, kvs, k, m, rfl, rfl, ha, hv, q⟩ := h
  cases rx
  obtain ⟨u, rfl, ru⟩ := L2.vals1 rxs
  exact d_pop I ha ru hv (.inl rfl) fun w' s' I' r' => ⟨_, _, I', r', q⟩
theorem mt_popT1 (hu : X.A.units + 1 < cLine) : MtR X "dict.pop" rPopT1 := by
  intro pins s σ H x xs v us Q I rx rxs h
  obtain ⟨a, kvs, k, b, m, rfl, rfl, ha, hb, hv, q⟩ := h
  cases rx
  obtain ⟨u1, rfl, r1⟩ := L2.vals1 rxs
  cases r1
  obtain ⟨z, hd, xs', rel, dd⟩ := L2.dt_of I.hok ha
  have hz : xs'.length ≤ sizeLine := by rw [← PySem.Paired.length rel]; exact z
  have r := rel.val k
  rw [hv] at r
  obtain ⟨p, hp, rv⟩ : ∃ p, atKey xs' k = some p ∧ RelV m p.2 := by
    cases e : atKey xs' k with
    | none => rw [e] at r; exact (show False from r).elim
    | some p => rw [e] at r; exact ⟨p, rfl, r⟩
  refine PySem.call_meetsIn PySem.F.slot_dict_pop dd.typeIs PySem.F.entry_dict_pop (PySem.F.args_dict_pop_2 _ _) (meetsPop1 (knd := tupleKind (mixKind X.prog X.w)) (k := k) hd)
    ⟨xs', p, PySem.tupleKind_room_in1 hu, L2.key_of I.hok hb, dd, hz, hp, fun h' tk dd' hs => ?_⟩
  obtain ⟨o, es, ep, hq, h2, h3, h4, _, h5⟩ := dd'
  have I2 : L2.Inv X pins σ (L2.upd H a (.dT (dropK kvs k))) { s with heap := h', toks := tk } :=
    d_write I (by rw [ha]; exact True.intro) hs ⟨o, hq⟩ ⟨Nat.le_trans (dropK_le kvs k) z, hd, _, (L2.DX.KT_drop k rel).keeps (fun c ys ec => (by rw [L2.upd_ne (ne_of ec ha (fun z => nomatch z))]; exact ec)), o, es, ep, hq, h2, h3, h4, h5⟩
  show EP X pins σ Q p.2 _
  exact ⟨m, _, I2, rv, q⟩
theorem RKs.drop {K : PySem.W.Frag} {fi Z : List Addr} {H : Hp} : ∀ {kvs : KVs} {ks : List (Key × V)} (k : Key), RKs K fi Z H kvs ks → RKs K fi Z H (delK kvs [k]) (dropK ks k)
  | [], ks, k, r => by cases r; rfl
  | p :: q, ks, k, r => by
    obtain ⟨k', u, ks', rfl, e2, h1, h2⟩ := r
    unfold delK dropK
    rw [List.filter_cons, List.filter_cons]
    by_cases e : k' = k
    · rw [if_neg (by simp [e2, e]), if_neg (by simp [e])]; exact RKs.drop k h2
    · rw [if_pos (by simp [e2, e]), if_pos (by simp [e])]; exact ⟨k', u, _, rfl, e2, h1, RKs.drop k h2⟩
theorem RTs.drop {K : PySem.W.Frag} {fi Z : List Addr} {H : Hp} : ∀ {kvs : KVs} {ks : List (List Key × V)} (k : List Key), RTs K fi Z H kvs ks → RTs K fi Z H (delK kvs k) (dropK ks k)
  | [], ks, k, r => by cases r; rfl
  | p :: q, ks, k, r => by
    obtain ⟨u, ks', rfl, h1, h2⟩ := r
    unfold delK dropK
    rw [List.filter_cons, List.filter_cons]
    by_cases e : p.1 = k
    · rw [if_neg (by simp [e]), if_neg (by simp [e])]; exact RTs.drop k h2
    · rw [if_pos (by simp [e]), if_pos (by simp [e])]; exact ⟨u, _, rfl, h1, RTs.drop k h2⟩
theorem RKs.get_of {K : PySem.W.Frag} {fi Z : List Addr} {H : Hp} {kvs : KVs} {ks : List (Key × V)} {k : Key} {m : MV} (r : RKs K fi Z H kvs ks) (e : getK kvs [k] = some m) : ∃ v, valV ks k = some v ∧ R K fi Z H m v := by
  rcases r.get k with ⟨q, _⟩ | ⟨m', v, q1, q2, q3⟩
  · rw [q] at e; cases e
  · rw [q1] at e; cases e; exact ⟨v, q2, q3⟩
theorem RTs.get_of {K : PySem.W.Frag} {fi Z : List Addr} {H : Hp} {kvs : KVs} {ks : List (List Key × V)} {k : List Key} {m : MV} (r : RTs K fi Z H kvs ks) (e : getK kvs k = some m) : ∃ v, valV ks k = some v ∧ R K fi Z H m v := by
  rcases r.get k with ⟨q, _⟩ | ⟨m', v, q1, q2, q3⟩
  · rw [q] at e; cases e
  · rw [q1] at e; cases e; exact ⟨v, q2, q3⟩
def popOk (T : String) : Bool := T == "list" || T == "dict"
def popM : OpM := fun T => if (T == "list") = true then lpopM T else dpopM T
theorem md_pop (hu : X.A.units + 1 < cLine) : Meths X "pop" popOk popM := fun T hT => by
  unfold popOk at hT
  simp only [Bool.or_eq_true, beq_iff_eq] at hT
  rcases hT with rfl | rfl
  · refine ⟨"list.pop", PySem.F.plainAttrs_list, PySem.F.slot_list_pop, PySem.F.type_list_pop, mtRI (MtR.or (show MtR X "list.pop" rPop from mt_pop) (show MtR X "list.pop" rPopAt from mt_popAt)) fun x xs H Q ⟨fi, Z, h, a, as, rh, ra, rs, p⟩ => ?_⟩
    unfold popM at p
    rw [if_pos (by rfl)] at p
    unfold lpopM at p
    split at p
    · simp only [RL] at rs; subst rs
      split at p
      · rename_i ys eo
        obtain ⟨a, vs, rfl, ea, _, h1, l1, r1⟩ := ref_lst rh ra eo
        cases ey : ys[ys.length - 1]? with
        | none => rw [ey] at p; exact p.elim
        | some y =>
          rw [ey] at p
          dsimp only [Option.map] at p
          obtain ⟨v, ev, rv⟩ := r1.get ey
          exact .inl ⟨a, vs, v, rfl, rfl, h1, by rw [← r1.length]; exact ev, p.wr rh ea h1 (by rw [List.length_dropLast]; omega) r1.dropLast rv⟩
      · exact p.elim
    · obtain ⟨v, rfl, ri⟩ := rs.one
      simp only [R] at ri; subst ri
      split at p
      · rename_i ys eo
        split at p
        · rename_i hi
          split at p
          · rename_i k ek
            obtain ⟨a, vs, rfl, ea, _, h1, l1, r1⟩ := ref_lst rh ra eo
            cases ey : ys[k]? with
            | none => rw [ey] at p; exact p.elim
            | some y =>
              rw [ey] at p
              dsimp only [Option.map] at p
              obtain ⟨v, ev, rv⟩ := r1.get ey
              refine .inr ⟨a, vs, _, k, v, rfl, rfl, h1, (by have := absLe_iff.mp hi; omega), (by have := absLe_iff.mp hi; omega), by rw [← r1.length]; exact ek, ev, p.wr rh ea h1 ?_ (r1.eraseIdx k) rv⟩
              exact Nat.le_trans (by rw [List.length_eraseIdx]; split <;> omega) l1
          · exact p.elim
        · exact p.elim
      · exact p.elim
    · exact p.elim
  · refine ⟨"dict.pop", PySem.F.plainAttrs_dict, PySem.F.slot_dict_pop, PySem.F.type_dict_pop, mtRI (MtR.or mt_popK1 (mt_popT1 hu)) fun x xs H Q ⟨fi, Z, h, a, as, rh, ra, rs, p⟩ => ?_⟩
    unfold popM at p
    rw [if_neg (by decide)] at p
    unfold dpopM at p
    split at p
    · rename_i n y
      obtain ⟨yv, rfl, ry⟩ := rs.one
      split at p
      · rename_i t kvs eo
        split at p
        · rename_i k ek
          cases em : getK kvs k with
          | none => rw [em] at p; exact p.elim
          | some m =>
            rw [em] at p
            dsimp only [Option.map] at p
            simp only [R] at ra
            obtain ⟨c, ea, rfl⟩ := ra
            have hc : c ∈ fi := List.mem_iff_getElem?.mpr ⟨n, ea⟩
            have ro := rh.at_ n _ c eo ea
            cases t with
            | false =>
              obtain ⟨ks, e1, rk⟩ := ro
              simp only [dkey, Option.map_eq_some_iff] at ek
              obtain ⟨k1, e2, rfl⟩ := ek
              obtain ⟨v, ev, rv⟩ := rk.get_of em
              rw [kOf_R ry e2]
              exact .inl ⟨c, ks, k1, v, rfl, rfl, e1, ev, p v _ fi (Grow.upd hc (nfK e1)) (rh.put ea ⟨_, L2.upd_same, RKs.drop k1 (rk.tr (Tr.upd hc))⟩) (rv.tr (Tr.upd hc))⟩
            | true =>
              obtain ⟨ks, e1, rk⟩ := ro
              simp only [dkey] at ek
              unfold tkeyOf at ek
              split at ek
              · obtain ⟨v, ev, rv⟩ := rk.get_of em
                simp only [R] at ry
                obtain ⟨b, us, rfl, eb, _, _, rl⟩ := ry
                rw [ksOf_R rl ek] at eb
                exact .inr ⟨c, ks, k, b, v, rfl, rfl, e1, eb, ev, p v _ fi (Grow.upd hc (nfT e1)) (rh.put ea ⟨_, L2.upd_same, RTs.drop k (rk.tr (Tr.upd hc))⟩) (rv.tr (Tr.upd hc))⟩
              · cases ek
        · exact p.elim
      · exact p.elim
    · exact p.elim
end
end Mi

set_option Elab.async false
set_option linter.all false
set_option maxRecDepth 100000
set_option maxHeartbeats 2000000
namespace Mi
open PySem PySem.Spec L2
set_option autoImplicit false

theorem Tr.trans {fi fi1 fi2 Z Z1 Z2 : List Addr} {H H1 H2 : Hp} (a : Tr fi Z H fi1 Z1 H1) (b : Tr fi1 Z1 H1 fi2 Z2 H2) : Tr fi Z H fi2 Z2 H2 where
  pre := fun n x e => b.pre n x (a.pre n x e)
  fz := fun x xs e n z => let ⟨e1, n1, z1⟩ := a.fz x xs e n z; b.fz x xs e1 n1 z1
  ot := fun x o e ne n => let ⟨e1, n1⟩ := a.ot x o e ne n; b.ot x o e1 ne n1
theorem Tr.refl {fi Z : List Addr} {H : Hp} : Tr fi Z H fi Z H := ⟨fun _ _ e => e, fun _ _ e n z => ⟨e, n, z⟩, fun _ _ e _ n => ⟨e, n⟩⟩
/-- the turns of the outer for: the list so far, what is left -/
def compL2 (c : Chk) (tg : MV → MEnv → Option MEnv) (t : MEnv → MH → Res Bool) (it1 : MEnv → MH → Res (List MV × Chk)) (tg1 : MV → MEnv → Option MEnv) (t1 : MEnv → MH → Res Bool) (e : MEnv → MH → Res MV) (vs1 : List Nat) (env : MEnv) : List MV → List MV → MH → Res (List MV)
  | acc, [], h => if c.ok h ∧ acc.length ≤ 16777216 then .ok acc h else .err
  | acc, x :: xs, h => if c.ok h then (match tg x env with
    | some env1 => (noX (t env1 h)).bind fun k h1 => if k = true then (noX (it1 env1 h1)).bind fun p h2 => (compL p.2 tg1 t1 e (wipeM env1 vs1) acc p.1 h2).bind fun acc' h3 => compL2 c tg t it1 tg1 t1 e vs1 env acc' xs h3
      else compL2 c tg t it1 tg1 t1 e vs1 env acc xs h1
    | none => .err) else .err
def evComp2 (m : Bool) (it : MEnv → MH → Res (List MV × Chk)) (tg : MV → MEnv → Option MEnv) (t : MEnv → MH → Res Bool) (it1 : MEnv → MH → Res (List MV × Chk)) (tg1 : MV → MEnv → Option MEnv) (t1 : MEnv → MH → Res Bool) (e : MEnv → MH → Res MV) (vs vs1 : List Nat) (env : MEnv) (h : MH) : Res MV :=
  (it env h).bind fun p h1 => (compL2 p.2 tg t it1 tg1 t1 e vs1 (wipeM env vs) [] p.1 h1).bind fun r h2 => if m = true then .ok (.ref h2.length) (h2 ++ [.lst r]) else .ok (.lst r) h2
section
variable {c : Chk} {tg : MV → MEnv → Option MEnv} {t : MEnv → MH → Res Bool} {it1 : MEnv → MH → Res (List MV × Chk)} {tg1 : MV → MEnv → Option MEnv} {t1 : MEnv → MH → Res Bool} {e : MEnv → MH → Res MV} {vs1 : List Nat} {env : MEnv}
theorem compL2_len : ∀ {xs acc : List MV} {h : MH} {r : List MV} {h' : MH}, compL2 c tg t it1 tg1 t1 e vs1 env acc xs h = .ok r h' → acc.length ≤ r.length ∧ r.length ≤ 16777216
  | [], acc, h, r, h', q => by
    unfold compL2 at q
    split at q
    · rename_i hc; cases q; exact ⟨Nat.le_refl _, hc.2⟩
    · cases q
  | x :: xs, acc, h, r, h', q => by
    unfold compL2 at q
    split at q
    · split at q
      · rename_i env1 e1
        cases et : noX (t env1 h) with
        | err => rw [et] at q; cases q
        | exc _ _ => rw [et] at q; cases q
        | ok k h1 =>
          rw [et] at q
          simp only [Res.bind] at q
          split at q
          · cases ei : noX (it1 env1 h1) with
            | err => rw [ei] at q; cases q
            | exc _ _ => rw [ei] at q; cases q
            | ok p h2 =>
              rw [ei] at q
              simp only at q
              cases ec : compL p.2 tg1 t1 e (wipeM env1 vs1) acc p.1 h2 with
              | err => rw [ec] at q; cases q
              | exc _ _ => exact absurd ec compL_noexc
              | ok acc' h3 =>
                rw [ec] at q
                simp only at q
                have l1 := compL_len ec
                have l2 := compL2_len q
                omega
          · exact compL2_len q
      · cases q
    · cases q
theorem compL2_noexc : ∀ {xs acc : List MV} {h : MH} {x : MX} {h' : MH}, compL2 c tg t it1 tg1 t1 e vs1 env acc xs h ≠ .exc x h'
  | [], acc, h, x, h', q => by
    unfold compL2 at q
    split at q <;> cases q
  | y :: xs, acc, h, x, h', q => by
    unfold compL2 at q
    split at q
    · split at q
      · rename_i env1 e1
        cases et : noX (t env1 h) with
        | err => rw [et] at q; cases q
        | exc _ _ => cases eq : t env1 h <;> (rw [eq] at et; cases et)
        | ok k h1 =>
          rw [et] at q
          simp only [Res.bind] at q
          split at q
          · cases ei : noX (it1 env1 h1) with
            | err => rw [ei] at q; cases q
            | exc _ _ => cases eq : it1 env1 h1 <;> (rw [eq] at ei; cases ei)
            | ok p h2 =>
              rw [ei] at q
              simp only at q
              cases ec : compL p.2 tg1 t1 e (wipeM env1 vs1) acc p.1 h2 with
              | err => rw [ec] at q; cases q
              | exc _ _ => exact absurd ec compL_noexc
              | ok acc' h3 => rw [ec] at q; exact compL2_noexc q
          · exact compL2_noexc q
      · cases q
    · cases q
end
section
variable {X : Cx} {W : WX} {pos : Pos} {elt tg iter tg1 iter1 : Expr} {ifs ifs1 : List Expr} {scope : Scope} {own : List (Str × Nat)} {it it1 : MEnv → MH → Res (List MV × Chk)} {T T1 : ITg} {t t1 : MEnv → MH → Res Bool} {e : MEnv → MH → Res MV}
theorem tLc2_of {K : PySem.W.Frag} {m : Bool} {vs vs1 : List Nat} {σ : L2.St} {H : Hp} {Q : VK} (hs : ∀ i ∈ T.slots, i ∈ vs) (hs1 : ∀ i ∈ T1.slots, i ∈ vs1) (h : tE K W (evComp2 m it (asT T) t it1 (asT T1) t1 e vs vs1) σ H Q) :
    tLc2 (tI K W it) (gM K T) (tT K W0 t) (tI K W0 it1) (gM K T1) (tT K W0 t1) (tE K W0 e) vs vs1 σ H Q := by
  obtain ⟨fi0, Z, env, h, re, rh, p⟩ := h
  refine ⟨fi0, Z, env, h, re, rh, (Pst.bind (rel' := RI K) p).imp ?_⟩
  rintro J H1 ⟨fi1, xc, h1, g1, rh1, ri, p1⟩
  obtain ⟨xs, c⟩ := xc
  intro D hD
  have nz : D ∉ Z := (rh1.fresh hD).2
  have io : ItOk K (D :: Z) J xs c fi1 H1 := ri (D :: Z) fun a ha => by
    rcases List.mem_cons.mp ha with q | q
    · exact .inr (q ▸ hD)
    · exact .inl q
  cases er : compL2 c (asT T) t it1 (asT T1) t1 e vs1 (wipeM env vs) [] xs h1 with
  | err => rw [er] at p1; exact p1.elim
  | exc x hx => exact absurd er compL2_noexc
  | ok r hf =>
    rw [er] at p1
    have p2 : Pst K (R K) W fi1 Z H1 σ (if m = true then .ok (.ref hf.length) (hf ++ [.lst r]) else .ok (.lst r) hf) Q := p1
    let IO : Nat → Hp → Prop := fun i H => ∃ fi h accM acc, Grow fi1 fi H1 H ∧ RH K fi (D :: Z) H h ∧ H D = some (.lst acc) ∧ RL K fi (D :: Z) H accM acc ∧ compL2 c (asT T) t it1 (asT T1) t1 e vs1 (wipeM env vs) accM (xs.drop i) h = .ok r hf
    refine ⟨fun i mm H => mm = xs.length - i ∧ i ≤ xs.length ∧ IO i H, ⟨xs.length, by simp, Nat.zero_le _, fi1, h1, [], [], Grow.laid hD, rh1.begin_ hD, L2.upd_same, RL.nil, by simpa using er⟩, ?_⟩
    rintro i mm H ⟨rfl, hi, fi, h, accM, acc, g, rh, eD, rl, ec⟩
    by_cases hlt : i < xs.length
    · refine .inr ?_
      have ed : xs.drop i = xs[i] :: xs.drop (i + 1) := List.drop_eq_getElem_cons hlt
      rw [ed] at ec
      unfold compL2 at ec
      split at ec
      · rename_i hc
        split at ec
        · rename_i env1 eg
          obtain ⟨go, gy⟩ := io.go i fi H h xs[i] g.tr g.frz rh hc (List.getElem?_eq_getElem hlt)
          refine ⟨go, IO (i + 1), fun H' q => ⟨xs.length - (i + 1), by omega, rfl, hlt, q⟩, fun x H2 hy => ?_⟩
          obtain ⟨g2, rh2, rx⟩ := gy x H2 hy
          have eD2 : H2 D = some (.lst acc) := g2.keep D _ eD (rh.z D List.mem_cons_self).2
          have zh : ∀ a ∈ D :: Z, a ∈ Z ∨ H1 a = none := fun a ha => by
            rcases List.mem_cons.mp ha with q | q
            · exact .inr (q ▸ hD)
            · exact .inl q
          have re1 : RE K fi (D :: Z) H2 (L2.wipe σ vs) (wipeM env vs) := (RE.mono g2 (RE.mono g ((RE.mono g1 re).tr (Tr.zch zh)))).wipe vs
          refine ⟨fi, D :: Z, wipeM env vs, h, xs[i], env1, re1, rh2, rx, eg, fun σ2 re2 wp => ⟨(wp vs hs).trans (wipe_wipe vs), ?_⟩⟩
          refine ⟨fi, D :: Z, env1, h, re2, rh2, ?_⟩
          cases et : noX (t env1 h) with
          | err => rw [et] at ec; cases ec
          | exc _ _ => rw [et] at ec; cases ec
          | ok k h3 =>
            rw [et] at ec
            simp only [Res.bind] at ec
            refine Pst.of_ok et ?_
            rintro b H3 fi3 g3 rh3 rfl
            have g13 : Grow fi1 fi3 H1 H3 := (g.trans g2).trans g3
            have eD3 : H3 D = some (.lst acc) := g3.keep D _ eD2 (rh2.z D List.mem_cons_self).2
            have rl3 : RL K fi3 (D :: Z) H3 accM acc := (rl.mono g2).mono g3
            cases k with
            | false =>
              rw [if_neg Bool.false_ne_true] at ec ⊢
              exact ⟨fi3, h3, accM, acc, g13, rh3, eD3, rl3, ec⟩
            | true =>
              rw [if_pos rfl] at ec ⊢
              refine ⟨fi3, D :: Z, env1, h3, RE.mono g3 re2, rh3, ?_⟩
              cases ei : noX (it1 env1 h3) with
              | err => rw [ei] at ec; cases ec
              | exc _ _ => rw [ei] at ec; cases ec
              | ok p h4 =>
                rw [ei] at ec
                simp only at ec
                obtain ⟨ys, c1⟩ := p
                refine Pst.of_ok ei ?_
                intro J1 H4 fi4 g4 rh4 ri1
                have io1 : ItOk K (D :: Z) J1 ys c1 fi4 H4 := ri1 (D :: Z) fun a ha => .inl ha
                have re4 : RE K fi4 (D :: Z) H4 σ2 env1 := RE.mono g4 (RE.mono g3 re2)
                have eD4 : H4 D = some (.lst acc) := g4.keep D _ eD3 (rh3.z D List.mem_cons_self).2
                simp only at ec
                let I1 : Nat → Hp → Prop := fun j H => ∃ fi h accM acc, Grow fi1 fi H1 H ∧ Tr fi4 (D :: Z) H4 fi (D :: Z) H ∧ (∀ a o u, H4 a = some (.frz o u) → H a = some (.frz o u)) ∧ RH K fi (D :: Z) H h ∧ H D = some (.lst acc) ∧ RL K fi (D :: Z) H accM acc ∧
                  ((compL c1 (asT T1) t1 e (wipeM env1 vs1) accM (ys.drop j) h).bind fun acc' h3 => compL2 c (asT T) t it1 (asT T1) t1 e vs1 (wipeM env vs) acc' (xs.drop (i + 1)) h3) = .ok r hf
                refine ⟨fun j kk H => kk = ys.length - j ∧ j ≤ ys.length ∧ I1 j H, ⟨ys.length, by simp, Nat.zero_le _, fi4, h4, accM, acc, g13.trans g4, Tr.refl, fun _ _ _ z => z, rh4, eD4, rl3.mono g4, by rw [List.drop_zero]; exact ec⟩, ?_⟩
                rintro j kk H5 ⟨rfl, hj, fi5, h5, accM5, acc5, g5, t5, f5, rh5, eD5, rl5, ec5⟩
                by_cases hlt1 : j < ys.length
                · refine .inr ?_
                  have ed1 : ys.drop j = ys[j] :: ys.drop (j + 1) := List.drop_eq_getElem_cons hlt1
                  rw [ed1] at ec5
                  unfold compL at ec5
                  split at ec5
                  · rename_i hc1
                    split at ec5
                    · rename_i env2 eg1
                      obtain ⟨go1, gy1⟩ := io1.go j fi5 H5 h5 ys[j] t5 f5 rh5 hc1 (List.getElem?_eq_getElem hlt1)
                      refine ⟨go1, I1 (j + 1), fun H' q => ⟨ys.length - (j + 1), by omega, rfl, hlt1, q⟩, fun y H6 hy1 => ?_⟩
                      obtain ⟨g6, rh6, ry⟩ := gy1 y H6 hy1
                      have eD6 : H6 D = some (.lst acc5) := g6.keep D _ eD5 (rh5.z D List.mem_cons_self).2
                      have re6 : RE K fi5 (D :: Z) H6 (L2.wipe σ2 vs1) (wipeM env1 vs1) := (RE.mono g6 (re4.tr t5)).wipe vs1
                      refine ⟨fi5, D :: Z, wipeM env1 vs1, h5, ys[j], env2, re6, rh6, ry, eg1, fun σ3 re7 wp1 => ⟨(wp1 vs1 hs1).trans (wipe_wipe vs1), ?_⟩⟩
                      refine ⟨fi5, D :: Z, env2, h5, re7, rh6, ?_⟩
                      cases et1 : noX (t1 env2 h5) with
                      | err => rw [et1] at ec5; cases ec5
                      | exc _ _ => rw [et1] at ec5; cases ec5
                      | ok k1 h7 =>
                        rw [et1] at ec5
                        simp only [Res.bind] at ec5
                        refine Pst.of_ok et1 ?_
                        rintro b1 H7 fi7 g7 rh7 rfl
                        have g17 : Grow fi1 fi7 H1 H7 := (g5.trans g6).trans g7
                        have t7 : Tr fi4 (D :: Z) H4 fi7 (D :: Z) H7 := (t5.trans g6.tr).trans g7.tr
                        have f7 : ∀ a o u, H4 a = some (.frz o u) → H7 a = some (.frz o u) := fun a o u z => g7.frz a o u (g6.frz a o u (f5 a o u z))
                        have eD7 : H7 D = some (.lst acc5) := g7.keep D _ eD6 (rh6.z D List.mem_cons_self).2
                        have rl7 : RL K fi7 (D :: Z) H7 accM5 acc5 := (rl5.mono g6).mono g7
                        cases k1 with
                        | false =>
                          rw [if_neg Bool.false_ne_true] at ec5 ⊢
                          exact ⟨fi7, h7, accM5, acc5, g17, t7, f7, rh7, eD7, rl7, ec5⟩
                        | true =>
                          rw [if_pos rfl] at ec5 ⊢
                          refine ⟨fi7, D :: Z, env2, h7, RE.mono g7 re7, rh7, ?_⟩
                          cases ee : noX (e env2 h7) with
                          | err => rw [ee] at ec5; cases ec5
                          | exc _ _ => rw [ee] at ec5; cases ec5
                          | ok z h8 =>
                            rw [ee] at ec5
                            simp only at ec5
                            refine Pst.of_ok ee ?_
                            intro v H8 fi8 g8 rh8 rv
                            have eD8 : H8 D = some (.lst acc5) := g8.keep D _ eD7 (rh7.z D List.mem_cons_self).2
                            have lz : acc5.length < 16777216 := by
                              have la : acc5.length = accM5.length := rl5.length.symm
                              cases ex : compL c1 (asT T1) t1 e (wipeM env1 vs1) (accM5 ++ [z]) (ys.drop (j + 1)) h8 with
                              | err => rw [ex] at ec5; cases ec5
                              | exc _ _ => exact absurd ex compL_noexc
                              | ok a9 h9 =>
                                have l2 := compL_len ex
                                simp only [List.length_append, List.length_cons, List.length_nil] at l2
                                omega
                            have g18 : Grow fi1 fi8 H1 (L2.upd H8 D (.lst (acc5 ++ [v]))) := by
                              refine ⟨(g17.trans g8).pre, fun a o ea na => ?_, (g17.trans g8).new, fun a ob u ea => by rw [L2.upd_ne (ne_of_none ea hD)]; exact (g17.trans g8).frz a ob u ea⟩
                              rw [L2.upd_ne (ne_of_none ea hD)]
                              exact (g17.trans g8).keep a o ea na
                            refine ⟨acc5, eD8, by rw [sizeLine_eq]; omega, fi8, h8, accM5 ++ [z], acc5 ++ [v], g18, (t7.trans g8.tr).trans (Tr.updZ eD8 List.mem_cons_self), fun a ob u z => by rw [L2.upd_ne (fun q => by subst q; have := g8.frz _ ob u (f7 _ ob u z); rw [eD8] at this; cases this)]; exact g8.frz a ob u (f7 a ob u z), rh8.updZ eD8 List.mem_cons_self, L2.upd_same, ?_, ec5⟩
                            exact RL.append ((rl7.mono g8).tr (Tr.updZ eD8 List.mem_cons_self)) (RL.cons (rv.tr (Tr.updZ eD8 List.mem_cons_self)) RL.nil)
                    · cases ec5
                  · cases ec5
                · have e2 : j = ys.length := by omega
                  refine .inl ?_
                  rw [List.drop_of_length_le (by omega)] at ec5
                  unfold compL at ec5
                  split at ec5
                  · rename_i hc1
                    exact ⟨io1.stop j fi5 H5 _ t5 f5 rh5 hc1.1 (by omega), fi5, h5, accM5, acc5, g5, rh5, eD5, rl5, ec5⟩
                  · cases ec5
        · cases ec
      · cases ec
    · have e2 : i = xs.length := by omega
      refine .inl ?_
      rw [List.drop_of_length_le (by omega)] at ec
      unfold compL2 at ec
      split at ec
      · rename_i hc
        cases ec
        exact ⟨io.stop i fi H _ g.tr g.frz rh hc.1 (by omega), comp_fin m hD nz p2 g rh eD rl (by rw [sizeLine_eq, ← rl.length]; exact hc.2)⟩
      · cases ec
theorem me_comp2 {m : Bool} {vs1 : List Nat} (hc : X.calm = true) (hN : X.N.Nodup) (ok : BlkOk X.N X.env.scope scope own) (hs : ∀ i ∈ T.slots, i ∈ own.map (·.2)) (hs1 : ∀ i ∈ T1.slots, i ∈ vs1) (hv : ∀ i ∈ vs1, i ∈ own.map (·.2)) (hi : PI X tg iter (tI X.K W it))
    (hg : ∀ (s : Shared) (H : Hp) (C : Addr) (cl : List (Str × Addr)) (fp : List Addr), PG (X.blk s H scope (compEnvC scope cl C X.env) fp) tg (gM X.K T))
    (ht : ∀ (s : Shared) (H : Hp) (C : Addr) (cl : List (Str × Addr)) (fp : List Addr), PTs (X.blk s H scope (compEnvC scope cl C X.env) fp) ifs (tT X.K W0 t))
    (hi1 : ∀ (s : Shared) (H : Hp) (C : Addr) (cl : List (Str × Addr)) (fp : List Addr), PI (X.blk s H scope (compEnvC scope cl C X.env) fp) tg1 iter1 (tI X.K W0 it1))
    (hg1 : ∀ (s : Shared) (H : Hp) (C : Addr) (cl : List (Str × Addr)) (fp : List Addr), PG (X.blk s H scope (compEnvC scope cl C X.env) fp) tg1 (gM X.K T1))
    (ht1 : ∀ (s : Shared) (H : Hp) (C : Addr) (cl : List (Str × Addr)) (fp : List Addr), PTs (X.blk s H scope (compEnvC scope cl C X.env) fp) ifs1 (tT X.K W0 t1))
    (he : ∀ (s : Shared) (H : Hp) (C : Addr) (cl : List (Str × Addr)) (fp : List Addr), PE (X.blk s H scope (compEnvC scope cl C X.env) fp) elt (tE X.K W0 e)) (hf : ∀ x, foldedSetIterable iter X.env x = pure x) (hf1 : ∀ env x, foldedSetIterable iter1 env x = pure x) :
    PE X (.ListComp elt [⟨tg, iter, ifs, 0⟩, ⟨tg1, iter1, ifs1, 0⟩] scope pos) (tE X.K W (evComp2 m it (asT T) t it1 (asT T1) t1 e (own.map (·.2)) vs1)) :=
  (pe_lc2 hc hN hi ok hv hg ht hi1 hg1 ht1 he hf hf1).imp fun _ _ _ h => tLc2_of hs hs1 h
theorem tE_imp {K : PySem.W.Frag} {f : MEnv → MH → Res MV} {σ : L2.St} {H : Hp} {Q Q' : VK} (h : tE K W f σ H Q) (i : ∀ x H', Q x H' → Q' x H') : tE K W f σ H Q' := by
  obtain ⟨fi, Z, env, h0, re, rh, p⟩ := h
  exact ⟨fi, Z, env, h0, re, rh, p.imp i⟩
theorem gName_of {K : PySem.W.Frag} {i : Nat} {v : V} {σ : L2.St} {H : Hp} {Q : L2.St → Hp → Prop} (h : gM K (.name i) v σ H Q) : gName i v σ H Q := by
  obtain ⟨fi, Z, env, h0, m, env', re, rh, r, e, q⟩ := h
  simp only [asT, Option.some.injEq] at e
  subst e
  exact q _ (re.set r) fun vs hv => wipe_in (hv i (by simp [ITg.slots]))
theorem ms_setLc {m : Bool} {i : Nat} {y : Str} {py spos : Pos} (hc : X.calm = true) (hN : X.N.Nodup) (hy : X.N[i]? = some y) (hyl : X.env.scope.names.lookup y = some .local)
    (hsw : swapsWith (.ListComp elt [⟨tg, iter, ifs, 0⟩] scope pos) (some (.Name y py)) spos.line X.env = pure true) (ok : BlkOk X.N X.env.scope scope own) (hs : ∀ i ∈ T.slots, i ∈ own.map (·.2)) (hi : PI X tg iter (tI X.K W it))
    (hg : ∀ (s : Shared) (H : Hp) (C : Addr) (cl : List (Str × Addr)) (fp : List Addr), PG (X.blk s H scope (compEnvC scope cl C X.env) fp) tg (gM X.K T))
    (ht : ∀ (s : Shared) (H : Hp) (C : Addr) (cl : List (Str × Addr)) (fp : List Addr), PTs (X.blk s H scope (compEnvC scope cl C X.env) fp) ifs (tT X.K W0 t))
    (he : ∀ (s : Shared) (H : Hp) (C : Addr) (cl : List (Str × Addr)) (fp : List Addr), PE (X.blk s H scope (compEnvC scope cl C X.env) fp) elt (tE X.K W0 e)) (hf : ∀ x, foldedSetIterable iter X.env x = pure x) :
    PS X (.Assign [.Name y py] (.ListComp elt [⟨tg, iter, ifs, 0⟩] scope pos) spos) (tS X.K W (evsAsg (evComp m it (asT T) t e (own.map (·.2))) (.name i))) :=
  (ps_setLc hc hN hy hyl hsw hi ok hg ht he hf).imp fun D σ H q => tLc_of hs (tE_imp (tAsg_of q) fun _ _ => gName_of)
theorem ms_setLc2 {m : Bool} {vs1 : List Nat} {i : Nat} {y : Str} {py spos : Pos} (hc : X.calm = true) (hN : X.N.Nodup) (hy : X.N[i]? = some y) (hyl : X.env.scope.names.lookup y = some .local)
    (hsw : swapsWith (.ListComp elt [⟨tg, iter, ifs, 0⟩, ⟨tg1, iter1, ifs1, 0⟩] scope pos) (some (.Name y py)) spos.line X.env = pure true) (ok : BlkOk X.N X.env.scope scope own) (hs : ∀ i ∈ T.slots, i ∈ own.map (·.2)) (hs1 : ∀ i ∈ T1.slots, i ∈ vs1) (hv : ∀ i ∈ vs1, i ∈ own.map (·.2)) (hi : PI X tg iter (tI X.K W it))
    (hg : ∀ (s : Shared) (H : Hp) (C : Addr) (cl : List (Str × Addr)) (fp : List Addr), PG (X.blk s H scope (compEnvC scope cl C X.env) fp) tg (gM X.K T))
    (ht : ∀ (s : Shared) (H : Hp) (C : Addr) (cl : List (Str × Addr)) (fp : List Addr), PTs (X.blk s H scope (compEnvC scope cl C X.env) fp) ifs (tT X.K W0 t))
    (hi1 : ∀ (s : Shared) (H : Hp) (C : Addr) (cl : List (Str × Addr)) (fp : List Addr), PI (X.blk s H scope (compEnvC scope cl C X.env) fp) tg1 iter1 (tI X.K W0 it1))
    (hg1 : ∀ (s : Shared) (H : Hp) (C : Addr) (cl : List (Str × Addr)) (fp : List Addr), PG (X.blk s H scope (compEnvC scope cl C X.env) fp) tg1 (gM X.K T1))
    (ht1 : ∀ (s : Shared) (H : Hp) (C : Addr) (cl : List (Str × Addr)) (fp : List Addr), PTs (X.blk s H scope (compEnvC scope cl C X.env) fp) ifs1 (tT X.K W0 t1))
    (he : ∀ (s : Shared) (H : Hp) (C : Addr) (cl : List (Str × Addr)) (fp : List Addr), PE (X.blk s H scope (compEnvC scope cl C X.env) fp) elt (tE X.K W0 e)) (hf : ∀ x, foldedSetIterable iter X.env x = pure x) (hf1 : ∀ env x, foldedSetIterable iter1 env x = pure x) :
    PS X (.Assign [.Name y py] (.ListComp elt [⟨tg, iter, ifs, 0⟩, ⟨tg1, iter1, ifs1, 0⟩] scope pos) spos) (tS X.K W (evsAsg (evComp2 m it (asT T) t it1 (asT T1) t1 e (own.map (·.2)) vs1) (.name i))) :=
  (ps_setLc2 hc hN hy hyl hsw hi ok hv hg ht hi1 hg1 ht1 he hf hf1).imp fun D σ H q => tLc2_of hs hs1 (tE_imp (tAsg_of q) fun _ _ => gName_of)
end
end Mi

set_option Elab.async false
set_option linter.all false
set_option maxRecDepth 100000
set_option maxHeartbeats 2000000
namespace L2
open PySem PySem.Spec PyProof.Rows
/-- d[y] = v by a comprehension, keys of either kind -/
theorem d_dictPut {X : Cx} {pins : List (Addr × Obj)} {σ : St} {H H' : Hp} {s : Shared} {E : Value → Shared → Prop} {D : Addr} {y v : V} {u r : Value} {Q : Unit → Shared → Prop} (hu : X.A.units + 1 < cLine) (I : Inv X pins σ H s) (g : DPut H D y v H') (ry : RelV y u) (rv : RelV v r)
    (h : ∀ s', Inv X pins σ H' s' → Q () s') : wpAny (model X.prog X.w) X.A (dictSet D u r) Q E s := by
  rcases g with ⟨kvs, k, e, rfl, hz, rfl⟩ | ⟨kvs, k, b, e, rfl, eb, hz, rfl⟩
  · exact d_dictSet I e hz ry rv h
  · obtain rfl : u = Value.ref b := ry
    obtain ⟨z, hd, xs, rel, dd⟩ := dt_of I.hok e
    have hzx : xs.length ≤ sizeLine := by rw [← Paired.length rel]; exact z
    have hl : (putK kvs k v).length ≤ sizeLine := by have := length_putK kvs k v; omega
    refine wpAny_dictSet_heap (knd := tupleKind (mixKind X.prog X.w)) (hsz := hzx) (show X.A.units < cLine by omega) (key_of I.hok eb) dd fun h' dd' hs => h _ ?_
    obtain ⟨q, es, ep, hq, h2, h3, h4, _, h5⟩ := dd'
    refine d_write I (by rw [e]; exact True.intro) hs ⟨q, hq⟩ ⟨hl, hd, _, (rel.put k eb rv).keeps fun c ys ec => ?_, q, es, ep, hq, h2, h3, h4, h5⟩
    rw [upd_ne (ne_of ec e (fun z => nomatch z))]
    exact ec
section
variable {X : Cx}
def tDcA (o0 : HO) (wi : TI) (g : TG) (tt : TT) (tk tv : TE) (vs : List Nat) : TE := fun σ H Q => wi σ H fun J H1 => ∀ D, H1 D = none → ∃ W : Nat → Nat → Hp → Prop, (∃ m, W 0 m (upd H1 D o0)) ∧ ∀ i m H, W i m H →
  (J.stop i H ∧ Q (.ref D) H) ∨ (J.go i H ∧ ∃ Nx : Hp → Prop, (∀ H', Nx H' → ∃ m', m' < m ∧ W (i + 1) m' H') ∧ ∀ x H', J.yld i H x H' → g x (wipe σ vs) H' fun σ2 H2 => wipe σ2 vs = wipe σ vs ∧ tt σ2 H2 fun b H3 =>
    if b = true then tk σ2 H3 fun y H4 => tv σ2 H4 fun z H5 => ∃ H6, DPut H5 D y z H6 ∧ Nx H6 else Nx H3)
theorem dcA_core {o0 : HO} {pins : List (Addr × Obj)} {s : Shared} {σ : St} {H : Hp} {Q : VK} {kx vx tg iter : Expr} {ifs : List Expr} {scope : Scope} {own : List (Str × Nat)} {pos pos' : Pos} {wi : TI} {g : TG} {tt : TT} {tk tv : TE} {use : Option (Value → Sem Unit)} {Qf : Value → Shared → Prop}
    (h0 : ∀ (h : Heap) (H : Hp), sysModules < h.objs.size → ObjOk X.prog X.w H (h.push { cls := .type "dict", data := .dict #[] }) h.objs.size o0) (hu : X.A.units + 1 < cLine) (hc : X.calm = true) (hN : X.N.Nodup) (I : Inv X pins σ H s) (hi : PI X tg iter wi) (ok : BlkOk X.N X.env.scope scope own)
    (hg : ∀ (s : Shared) (H : Hp) (C : Addr) (cl : List (Str × Addr)) (fp : List Addr), PG (X.blk s H scope (compEnvC scope cl C X.env) fp) tg g) (ht : ∀ (s : Shared) (H : Hp) (C : Addr) (cl : List (Str × Addr)) (fp : List Addr), PTs (X.blk s H scope (compEnvC scope cl C X.env) fp) ifs tt)
    (hk : ∀ (s : Shared) (H : Hp) (C : Addr) (cl : List (Str × Addr)) (fp : List Addr), PE (X.blk s H scope (compEnvC scope cl C X.env) fp) kx tk)
    (he : ∀ (s : Shared) (H : Hp) (C : Addr) (cl : List (Str × Addr)) (fp : List Addr), PE (X.blk s H scope (compEnvC scope cl C X.env) fp) vx tv) (hs : ∀ x, foldedSetIterable iter X.env x = pure x)
    (h : tDcA o0 wi g tt tk tv (own.map (·.2)) σ H Q)
    (hRR : ∀ D C s' m H', Inv X pins σ H' s' → Q (.ref D) H' → s'.heap.Ns C m → FpOk X pins H' C → compPost (model X.prog X.w) X.A X.xe use Qf (.ref D) C (.ok .next) s') :
    wpAny (model X.prog X.w) X.A (comprehension (.DictComp kx vx [⟨tg, iter, ifs, 0⟩] scope pos) scope X.env pos' newDict false (eval iter X.env) use) Qf X.xe s := by
  have hfree : ∀ y ∈ scope.names, y.2 = .free → ∃ c, X.env.cells.lookup y.1 = some c := fun y hy e => by
    rcases ok.free y hy e with k | k
    · exact I.ok.has _ (.inl k)
    · exact I.ok.has _ (.inr k)
  refine wpAny_comprehension_free (use := use) rfl hs (closure_ok hfree) ok.kind (fun y hy e => by rw [ok.uniq y hy, e])
    (thn (hi.run pins s σ H _ I h) fun xv s1 hx => thn hx fun itv s2 h2 => ?_)
  obtain ⟨it, fp, tn, J, H2, e, I2, T, st2, f2, q⟩ := h2
  subst e
  refine wpAny_newObj_type (newEnv_comp ?_)
  generalize hD : s2.heap.objs.size = D
  have hDn : H2 D = none := I2.hok.fresh (Nat.le_of_eq hD)
  obtain ⟨W, ⟨m0, w0⟩, turn⟩ := q D hDn
  -- the new list
  generalize hs3 : ({ s2 with heap := s2.heap.push { cls := .type "dict", data := .dict #[] } } : Shared) = s3
  have I3 : Inv X pins σ (upd H2 D o0) s3 := by
    rw [← hs3]
    refine I2.laid (t' := s2.toks) (fun b o e => Heap.get?_push_of_some _ e) (Nat.le_of_eq hD) ?_
    rw [← hD]
    exact h0 s2.heap _ I2.big
  have h3 : s3.heap = s2.heap.push { cls := .type "dict", data := .dict #[] } := by rw [← hs3]
  have sz : ∀ b ∈ fp, b < s2.heap.objs.size := fun b hb => by
    obtain ⟨o, e, _⟩ := T.obj _ _ st2 b hb
    exact Heap.lt_size e
  have f3 : ∀ b ∈ fp, FpOk X pins (upd H2 D o0) b ∧ b < s3.heap.objs.size := fun b hb => by
    have hlt := sz b hb
    refine ⟨⟨?_, (f2 b hb).2⟩, by rw [h3, Heap.size_push]; exact Nat.lt_succ_of_lt hlt⟩
    rw [upd_ne (by rw [← hD]; exact Nat.ne_of_lt hlt)]
    exact (f2 b hb).1
  have st3 : tn 0 s3.heap := T.keep _ _ _ st2 fun b _ o e => by rw [h3]; exact Heap.get?_push_of_some _ e
  have I4 := block_start I3 ok hN f3
  have pg := hg s3 (upd H2 D o0) s3.heap.objs.size (cellsFrom (s3.heap.objs.size + 1) scope.names (cloFrom X.env.cells scope.names [])) fp
  have pt := ht s3 (upd H2 D o0) s3.heap.objs.size (cellsFrom (s3.heap.objs.size + 1) scope.names (cloFrom X.env.cells scope.names [])) fp
  have pk := hk s3 (upd H2 D o0) s3.heap.objs.size (cellsFrom (s3.heap.objs.size + 1) scope.names (cloFrom X.env.cells scope.names [])) fp
  have pe := he s3 (upd H2 D o0) s3.heap.objs.size (cellsFrom (s3.heap.objs.size + 1) scope.names (cloFrom X.env.cells scope.names [])) fp
  show codeAny _ _ (.compStart (.DictComp kx vx [⟨tg, iter, ifs, 0⟩] scope pos) 0 (.ref it) (.ref D) (compEnvC scope (cellsFrom (s3.heap.objs.size + 1) scope.names (cloFrom X.env.cells scope.names [])) s3.heap.objs.size X.env)) (compPost (model X.prog X.w) X.A X.xe use Qf (.ref D) s3.heap.objs.size) { s3 with heap := pushCells (s3.heap.push { cls := .type "dict", data := .dict #[] }) scope.names }
  have nfp : ∀ b ∈ fp, (upd H2 D o0) b = none := fun b hb => (f3 b hb).1.1
  generalize hce : compEnvC scope (cellsFrom (s3.heap.objs.size + 1) scope.names (cloFrom X.env.cells scope.names [])) s3.heap.objs.size X.env = ce at I4 pg pt pk pe ⊢
  have cL : ce.locals = s3.heap.objs.size := by subst hce; rfl
  generalize hH3 : upd H2 D o0 = H3 at I3 I4 pg pt pk pe w0 nfp f3
  generalize hs4 : ({ s3 with heap := pushCells (s3.heap.push { cls := .type "dict", data := .dict #[] }) scope.names } : Shared) = s4 at I4 ⊢
  have st4 : tn 0 s4.heap := T.keep _ _ _ st3 fun b _ o e => by rw [← hs4]; exact pushCells_keeps _ _ _ _ (Heap.get?_push_of_some _ e)
  have stat : ∀ {σ' : St} {H' : Hp} {s' : Shared}, Inv (X.blk s3 H3 scope ce fp) [] σ' H' s' → (∀ b ∈ fp, H' b = none) → ∀ b ∈ fp, FpOk (X.blk s3 H3 scope ce fp) [] H' b := fun {σ' H' s'} I' hn b hb =>
    ⟨hn b hb, (I'.ok.exf b hb).1, I'.ok.exfs b hb, .inl hb, fun x c e => (I'.ok.exf b hb).2 x c e, fun p hp => absurd (show p ∈ ([] : List (Addr × Obj)) ++ [] from hp) (by simp)⟩
  have loop : codeAny (model X.prog X.w) X.A (.compLoop (.DictComp kx vx [⟨tg, iter, ifs, 0⟩] scope pos) 0 (.ref it) (.ref D) ce) (compPost (model X.prog X.w) X.A X.xe use Qf (.ref D) s3.heap.objs.size) s4 := by
    refine L2.compLoop_anyD (fun n s' => ∃ i H', Inv (X.blk s3 H3 scope ce fp) [] (wipe σ (own.map (·.2))) H' s' ∧ tn i s'.heap ∧ (∀ b ∈ fp, H' b = none) ∧ W i n H') ?_ m0 ⟨0, H3, I4, st4, nfp, w0⟩
    rintro n s5 ⟨i, H5, I5, st5, n5, w5⟩
    rcases turn i n H5 w5 with ⟨stop, qq⟩ | ⟨go, Nx, hNx, step⟩
    · have td := T.done (X.blk s3 H3 scope ce fp) rfl rfl rfl hc i [] s5 _ H5 (fun _ _ => False) I5 (stat I5 n5) st5 stop
      refine thnF td fun r s6 ⟨hr, I6⟩ => ?_
      subst hr
      -- back in the def's context
      have I7 : Inv X pins σ H5 s6 := I3.call' (ch := fp) I6.os I6.base I6.hok I6.bare fun b hb => ⟨(f3 b hb).1.2.2.2.1, (f3 b hb).1.2.1, (f3 b hb).1.2.2.2.2.1, (f3 b hb).1.2.2.2.2.2⟩
      have nC : H5 s3.heap.objs.size = none := by
        have z : H5 ce.locals = none := I6.free
        rw [cL] at z
        exact z
      obtain ⟨m, hn, _⟩ := I6.loc
      have hn : s6.heap.Ns ce.locals m := hn
      rw [cL] at hn
      exact hRR D s3.heap.objs.size s6 m H5 I7 qq hn (I3.fpOk (Nat.le_refl _) nC)
    · have ti := T.item (X.blk s3 H3 scope ce fp) rfl rfl rfl hc i [] s5 _ H5 (fun _ _ => False) I5 (stat I5 n5) st5 go
      refine thnF ti fun r s6 ⟨u, hr, h6⟩ => ?_
      subst hr
      refine thnF h6 fun _ s7 ⟨x, H7, I7, r7, y7, st7, n7⟩ => ?_
      have I7' := I7.pinned (stat I7 n7) (T.obj _ _ st7)
      refine thnF (pg.run _ s7 _ H7 x u _ I7' r7 (step x H7 y7)) fun _ s8 ⟨σ8, H8, I8, hw8, q8⟩ => ?_
      refine thnF (pt.run _ s8 σ8 H8 _ I8 q8) fun b s9 ⟨H9, I9, q9⟩ => ?_
      -- the turn's end
      have fin : ∀ {s' : Shared} {H' : Hp}, Inv (X.blk s3 H3 scope ce fp) ([] ++ pinsAt fp s7.heap) σ8 H' s' → Nx H' → ∃ m, m < n ∧ ∃ i H', Inv (X.blk s3 H3 scope ce fp) [] (wipe σ (own.map (·.2))) H' s' ∧ tn i s'.heap ∧ (∀ b ∈ fp, H' b = none) ∧ W i m H' := fun {s' H'} I' nx => by
        obtain ⟨m', hm, w'⟩ := hNx H' nx
        have pin' : ∀ b ∈ fp, ∀ o, s7.heap.get? b = some o → s'.heap.get? b = some o ∧ H' b = none := fun b hb o e =>
          let z := I'.pin (b, o) (List.mem_append_right _ (List.mem_append_right _ (mem_pinsAt hb e)))
          ⟨z.1, z.2.1⟩
        have hl : (wipe σ (own.map (·.2))).length = σ8.length := by rw [← hw8, wipe_length]
        refine ⟨m', hm, i + 1, H', (I'.unpinned (pins := [])).weak hl (fun j v e => ?_), T.keep _ _ _ st7 fun b hb o e => (pin' b hb o e).1, fun b hb => ?_, w'⟩
        · rw [← hw8] at e
          exact (wipe_some e).1
        · obtain ⟨o, e, _⟩ := T.obj _ _ st7 b hb
          exact (pin' b hb o e).2
      cases b with
      | false =>
        simp only [Bool.false_eq_true, if_false] at q9 ⊢
        exact fin I9 q9
      | true =>
        simp only [if_true] at q9 ⊢
        refine thnF (pk.run _ s9 σ8 H9 _ I9 q9) fun z s10 ⟨yk, H10, I10, r10, q10⟩ => ?_
        refine thnF (pe.run _ s10 σ8 H10 _ I10 q10) fun z2 s11 ⟨yv, H11, I11, r11, H6, dp, nx⟩ => ?_
        exact d_dictPut (X := X.blk s3 H3 scope ce fp) hu I11 dp r10 r11 fun s12 I12 => fin I12 nx
  exact codeAny_compStart_dict loop (T.self X.A 0 _ _ _ st4 loop)
/-- as a value -/
theorem pe_dcA {o0 : HO} (h0 : ∀ (h : Heap) (H : Hp), sysModules < h.objs.size → ObjOk X.prog X.w H (h.push { cls := .type "dict", data := .dict #[] }) h.objs.size o0) (hu : X.A.units + 1 < cLine) {kx vx tg iter : Expr} {ifs : List Expr} {scope : Scope} {own : List (Str × Nat)} {pos : Pos} {wi : TI} {g : TG} {tt : TT} {tk tv : TE} (hc : X.calm = true) (hN : X.N.Nodup) (hi : PI X tg iter wi) (ok : BlkOk X.N X.env.scope scope own)
    (hg : ∀ (s : Shared) (H : Hp) (C : Addr) (cl : List (Str × Addr)) (fp : List Addr), PG (X.blk s H scope (compEnvC scope cl C X.env) fp) tg g) (ht : ∀ (s : Shared) (H : Hp) (C : Addr) (cl : List (Str × Addr)) (fp : List Addr), PTs (X.blk s H scope (compEnvC scope cl C X.env) fp) ifs tt)
    (hk : ∀ (s : Shared) (H : Hp) (C : Addr) (cl : List (Str × Addr)) (fp : List Addr), PE (X.blk s H scope (compEnvC scope cl C X.env) fp) kx tk)
    (he : ∀ (s : Shared) (H : Hp) (C : Addr) (cl : List (Str × Addr)) (fp : List Addr), PE (X.blk s H scope (compEnvC scope cl C X.env) fp) vx tv) (hs : ∀ x, foldedSetIterable iter X.env x = pure x) :
    PE X (.DictComp kx vx [⟨tg, iter, ifs, 0⟩] scope pos) (tDcA o0 wi g tt tk tv (own.map (·.2))) := by
  refine ⟨fun pins s σ H Q I h => ?_⟩
  rw [arm_eval_DictComp]
  refine dcA_core h0 hu hc hN I hi ok hg ht hk he hs h fun D C s' m H' I' q hn f => ⟨m, hn, fun h'' sb => ?_⟩
  obtain ⟨f0, f1, f2, f3, f4, f5⟩ := f
  exact ⟨.ref D, H', I'.turned (t' := s'.toks) (fun b o hb e => (sb.2 b hb).trans e) f0 f1 f3 f4 f5, rfl, q⟩
end
end L2

set_option Elab.async false
set_option linter.all false
set_option maxRecDepth 100000
set_option maxHeartbeats 2000000
namespace Mi
open PySem PySem.Spec L2
set_option autoImplicit false

def dO (t : Bool) : HO := match t with
  | true => .dT []
  | false => .dK []
theorem dO_ok {P : Program} {w : World} (t : Bool) (h : Heap) (H : Hp) (hb : sysModules < h.objs.size) : ObjOk P w H (h.push { cls := .type "dict", data := .dict #[] }) h.objs.size (dO t) := by
  cases t with
  | true => exact dt_empty h hb
  | false => exact dk_empty h hb
theorem RO.dnew {K : PySem.W.Frag} {fi Z : List Addr} {H : Hp} {D : Addr} (t : Bool) : RO K fi Z (L2.upd H D (dO t)) D (.dct t []) := by
  cases t with
  | true => exact ⟨[], L2.upd_same, rfl⟩
  | false => exact ⟨[], L2.upd_same, rfl⟩
section
variable {X : Cx} {W : WX} {pos : Pos}
def evDn (t : Bool) (_ : MEnv) (h : MH) : Res MV := .ok (.ref h.length) (h ++ [.dct t []])
theorem me_dnew (t : Bool) : PE X (.Dict [] [] pos) (tE X.K W (evDn t)) := by
  have fin : ∀ {σ : L2.St} {H : Hp} {Q : VK}, tE X.K W (evDn t) σ H Q → ∀ p, H p = none → Q (.ref p) (L2.upd H p (dO t)) := by
    rintro σ H Q ⟨fi, Z, env, h, re, rh, p⟩ D hD
    exact p _ _ (fi ++ [D]) (Grow.more hD) (rh.more hD (RO.dnew t)) (R.ref_new rh)
  cases t with
  | true => exact pe_dnewT.imp fun σ H Q h => fin h
  | false => exact pe_dnewK.imp fun σ H Q h => fin h
/-- a put in a dict of the small heap -/
theorem put_D {K : PySem.W.Frag} {fi Z : List Addr} {H : Hp} {h h4 : MH} {n : Nat} {t : Bool} {kvs : KVs} {my mz : MV} {y z : V} {D : Addr} (rh : RH K fi Z H h) (ea : fi[n]? = some D) (eo : h[n]? = some (.dct t kvs)) (ry : R K fi Z H my y) (rz : R K fi Z H mz z)
    (e : putM (.ref n) my mz h = some h4) : ∃ H6, DPut H D y z H6 ∧ Grow fi fi H H6 ∧ RH K fi Z H6 h4 ∧ ∃ kvs', h4[n]? = some (.dct t kvs') := by
  have hn : n < h.length := (List.getElem?_eq_some_iff.mp eo).1
  have ha : D ∈ fi := List.mem_iff_getElem?.mpr ⟨n, ea⟩
  unfold putM at e
  simp only [eo] at e
  split at e
  · rename_i k ek
    split at e
    · rename_i hl
      cases e
      have ro' := rh.at_ n _ D eo ea
      cases t with
      | false =>
        obtain ⟨ks, e1, rk⟩ := ro'
        simp only [dkey, Option.map_eq_some_iff] at ek
        obtain ⟨k1, e2, rfl⟩ := ek
        have ei := kOf_R ry e2
        exact ⟨_, .inl ⟨ks, k1, e1, ei, by rw [← rk.len, sizeLine_eq]; exact hl, rfl⟩, Grow.upd ha (nfK e1), rh.put ea ⟨_, L2.upd_same, RKs.put k1 (rk.tr (Tr.upd ha)) (rz.tr (Tr.upd ha))⟩, _, List.getElem?_set_self hn⟩
      | true =>
        obtain ⟨ks, e1, rk⟩ := ro'
        simp only [dkey] at ek
        unfold tkeyOf at ek
        split at ek
        · simp only [R] at ry
          obtain ⟨b, us, rfl, eb, _, _, rl⟩ := ry
          rw [ksOf_R rl ek] at eb
          exact ⟨_, .inr ⟨ks, k, b, e1, rfl, eb, by rw [← rk.len, sizeLine_eq]; exact hl, rfl⟩, Grow.upd ha (nfT e1), rh.put ea ⟨_, L2.upd_same, RTs.put k (rk.tr (Tr.upd ha)) (rz.tr (Tr.upd ha))⟩, _, List.getElem?_set_self hn⟩
        · cases ek
    · cases e
  · cases e
def compD (n : Nat) (c : Chk) (tg : MV → MEnv → Option MEnv) (t : MEnv → MH → Res Bool) (k v : MEnv → MH → Res MV) (env : MEnv) : List MV → MH → Res Unit
  | [], h => if c.ok h then .ok () h else .err
  | x :: xs, h => if c.ok h then (match tg x env with
    | some env1 => (noX (t env1 h)).bind fun b h1 => if b = true then (noX (k env1 h1)).bind fun y h2 => (noX (v env1 h2)).bind fun z h3 => (match h3[n]?, putM (.ref n) y z h3 with
        | some (.dct _ _), some h4 => compD n c tg t k v env xs h4
        | _, _ => .err) else compD n c tg t k v env xs h1
    | none => .err) else .err
def evDc (u : Bool) (it : MEnv → MH → Res (List MV × Chk)) (tg : MV → MEnv → Option MEnv) (t : MEnv → MH → Res Bool) (k v : MEnv → MH → Res MV) (vs : List Nat) (env : MEnv) (h : MH) : Res MV :=
  (it env h).bind fun p h1 => (compD h1.length p.2 tg t k v (wipeM env vs) p.1 (h1 ++ [.dct u []])).bind fun _ h2 => .ok (.ref h1.length) h2
theorem compD_noexc {n : Nat} {c : Chk} {tg : MV → MEnv → Option MEnv} {t : MEnv → MH → Res Bool} {k v : MEnv → MH → Res MV} {env : MEnv} : ∀ {xs : List MV} {h : MH} {x : MX} {h' : MH}, compD n c tg t k v env xs h ≠ .exc x h'
  | [], h, x, h', q => by
    unfold compD at q
    split at q <;> cases q
  | y :: xs, h, x, h', q => by
    unfold compD at q
    split at q
    · split at q
      · rename_i env1 e1
        cases et : noX (t env1 h) with
        | err => rw [et] at q; cases q
        | exc _ _ => cases eq : t env1 h <;> (rw [eq] at et; cases et)
        | ok b h1 =>
          rw [et] at q
          simp only [Res.bind] at q
          split at q
          · cases ek : noX (k env1 h1) with
            | err => rw [ek] at q; cases q
            | exc _ _ => cases eq : k env1 h1 <;> (rw [eq] at ek; cases ek)
            | ok y h2 =>
              rw [ek] at q
              simp only at q
              cases ev : noX (v env1 h2) with
              | err => rw [ev] at q; cases q
              | exc _ _ => cases eq : v env1 h2 <;> (rw [eq] at ev; cases ev)
              | ok z h3 =>
                rw [ev] at q
                simp only at q
                split at q
                · exact compD_noexc q
                · cases q
          · exact compD_noexc q
      · cases q
    · cases q
variable {kx vx tg iter : Expr} {ifs : List Expr} {scope : Scope} {own : List (Str × Nat)} {it : MEnv → MH → Res (List MV × Chk)} {T : ITg} {t : MEnv → MH → Res Bool} {k v : MEnv → MH → Res MV}
theorem tDc_of {K : PySem.W.Frag} {u : Bool} {vs : List Nat} {σ : L2.St} {H : Hp} {Q : VK} (hs : ∀ i ∈ T.slots, i ∈ vs) (h : tE K W (evDc u it (asT T) t k v vs) σ H Q) : tDcA (dO u) (tI K W it) (gM K T) (tT K W0 t) (tE K W0 k) (tE K W0 v) vs σ H Q := by
  obtain ⟨fi0, Z, env, h, re, rh, p⟩ := h
  refine ⟨fi0, Z, env, h, re, rh, (Pst.bind (rel' := RI K) p).imp ?_⟩
  rintro J H1 ⟨fi1, xc, h1, g1, rh1, ri, p1⟩
  obtain ⟨xs, c⟩ := xc
  intro D hD
  have io : ItOk K Z J xs c fi1 H1 := ri Z fun a ha => .inl ha
  cases er : compD h1.length c (asT T) t k v (wipeM env vs) xs (h1 ++ [.dct u []]) with
  | err => rw [er] at p1; exact p1.elim
  | exc x hx => exact absurd er compD_noexc
  | ok r hf =>
    rw [er] at p1
    have p2 : Pst K (R K) W fi1 Z H1 σ (.ok (.ref h1.length) hf) Q := p1
    have eD0 : (fi1 ++ [D])[h1.length]? = some D := by rw [← rh1.len]; simp
    let IO : Nat → Hp → Prop := fun i H => ∃ fi h, Grow fi1 fi H1 H ∧ fi[h1.length]? = some D ∧ RH K fi Z H h ∧ compD h1.length c (asT T) t k v (wipeM env vs) (xs.drop i) h = .ok () hf
    refine ⟨fun i mm H => mm = xs.length - i ∧ i ≤ xs.length ∧ IO i H, ⟨xs.length, by simp, Nat.zero_le _, fi1 ++ [D], h1 ++ [.dct u []], Grow.more hD, eD0, rh1.more hD (RO.dnew u), by simpa using er⟩, ?_⟩
    rintro i mm H ⟨rfl, hi, fi, h, g, eD, rh, ec⟩
    by_cases hlt : i < xs.length
    · refine .inr ?_
      have ed : xs.drop i = xs[i] :: xs.drop (i + 1) := List.drop_eq_getElem_cons hlt
      rw [ed] at ec
      unfold compD at ec
      split at ec
      · rename_i hc
        split at ec
        · rename_i env1 eg
          obtain ⟨go, gy⟩ := io.go i fi H h xs[i] g.tr g.frz rh hc (List.getElem?_eq_getElem hlt)
          refine ⟨go, IO (i + 1), fun H' q => ⟨xs.length - (i + 1), by omega, rfl, hlt, q⟩, fun x H2 hy => ?_⟩
          obtain ⟨g2, rh2, rx⟩ := gy x H2 hy
          have re1 : RE K fi Z H2 (L2.wipe σ vs) (wipeM env vs) := (RE.mono g2 (RE.mono g (RE.mono g1 re))).wipe vs
          refine ⟨fi, Z, wipeM env vs, h, xs[i], env1, re1, rh2, rx, eg, fun σ2 re2 wp => ⟨(wp vs hs).trans (wipe_wipe vs), ?_⟩⟩
          refine ⟨fi, Z, env1, h, re2, rh2, ?_⟩
          cases et : noX (t env1 h) with
          | err => rw [et] at ec; cases ec
          | exc _ _ => rw [et] at ec; cases ec
          | ok b0 h3 =>
            rw [et] at ec
            simp only [Res.bind] at ec
            refine Pst.of_ok et ?_
            rintro b H3 fi3 g3 rh3 rfl
            have g13 : Grow fi1 fi3 H1 H3 := (g.trans g2).trans g3
            cases b0 with
            | false =>
              rw [if_neg Bool.false_ne_true] at ec ⊢
              exact ⟨fi3, h3, g13, g3.pre _ _ eD, rh3, ec⟩
            | true =>
              rw [if_pos rfl] at ec ⊢
              refine ⟨fi3, Z, env1, h3, RE.mono g3 re2, rh3, ?_⟩
              cases ek : noX (k env1 h3) with
              | err => rw [ek] at ec; cases ec
              | exc _ _ => rw [ek] at ec; cases ec
              | ok y h4 =>
                rw [ek] at ec
                simp only at ec
                refine Pst.of_ok ek ?_
                intro yv H4 fi4 g4 rh4 ry
                refine ⟨fi4, Z, env1, h4, RE.mono g4 (RE.mono g3 re2), rh4, ?_⟩
                cases ev : noX (v env1 h4) with
                | err => rw [ev] at ec; cases ec
                | exc _ _ => rw [ev] at ec; cases ec
                | ok z h5 =>
                  rw [ev] at ec
                  simp only at ec
                  refine Pst.of_ok ev ?_
                  intro zv H5 fi5 g5 rh5 rz
                  split at ec
                  · rename_i t' kvs5 h6 eo5 ep
                    have eD5 : fi5[h1.length]? = some D := g5.pre _ _ (g4.pre _ _ (g3.pre _ _ eD))
                    obtain ⟨H6, dp, g6, rh6, kvs6, eo6⟩ := put_D rh5 eD5 eo5 (ry.mono g5) rz ep
                    exact ⟨H6, dp, fi5, h6, ((g13.trans g4).trans g5).trans g6, eD5, rh6, ec⟩
                  · cases ec
        · cases ec
      · cases ec
    · have e2 : i = xs.length := by omega
      refine .inl ?_
      rw [List.drop_of_length_le (by omega)] at ec
      unfold compD at ec
      split at ec
      · rename_i hc
        cases ec
        refine ⟨io.stop i fi H _ g.tr g.frz rh hc (by omega), p2 _ _ fi g rh ?_⟩
        simp only [R]
        exact ⟨D, eD, rfl⟩
      · cases ec
theorem me_dc {u : Bool} (hu : X.A.units + 1 < cLine) (hc : X.calm = true) (hN : X.N.Nodup) (ok : BlkOk X.N X.env.scope scope own) (hs : ∀ i ∈ T.slots, i ∈ own.map (·.2)) (hi : PI X tg iter (tI X.K W it))
    (hg : ∀ (s : Shared) (H : Hp) (C : Addr) (cl : List (Str × Addr)) (fp : List Addr), PG (X.blk s H scope (compEnvC scope cl C X.env) fp) tg (gM X.K T))
    (ht : ∀ (s : Shared) (H : Hp) (C : Addr) (cl : List (Str × Addr)) (fp : List Addr), PTs (X.blk s H scope (compEnvC scope cl C X.env) fp) ifs (tT X.K W0 t))
    (hk : ∀ (s : Shared) (H : Hp) (C : Addr) (cl : List (Str × Addr)) (fp : List Addr), PE (X.blk s H scope (compEnvC scope cl C X.env) fp) kx (tE X.K W0 k))
    (he : ∀ (s : Shared) (H : Hp) (C : Addr) (cl : List (Str × Addr)) (fp : List Addr), PE (X.blk s H scope (compEnvC scope cl C X.env) fp) vx (tE X.K W0 v)) (hf : ∀ x, foldedSetIterable iter X.env x = pure x) :
    PE X (.DictComp kx vx [⟨tg, iter, ifs, 0⟩] scope pos) (tE X.K W (evDc u it (asT T) t k v (own.map (·.2)))) :=
  (pe_dcA (o0 := dO u) (fun h H hb => dO_ok u h H hb) hu hc hN hi ok hg ht hk he hf).imp fun _ _ _ h => tDc_of hs h
end
end Mi

set_option Elab.async false
set_option linter.all false
set_option maxRecDepth 100000
set_option maxHeartbeats 2000000
namespace Mi
open PySem PySem.Spec L2
set_option autoImplicit false

/-- wherever c stands, the list (tuple) at a holds ms -/
def SeqW (K : PySem.W.Frag) (fi Z : List Addr) (H : Hp) (u : Bool) (a : Addr) (ms : List MV) (c : Chk) : Prop := ∀ Z', (∀ b ∈ Z', b ∈ Z ∨ H b = none) → ∀ fi' H' h, Tr fi Z' H fi' Z' H' → RH K fi' Z' H' h → c.ok h →
  ∃ vs, (match u with | true => SqT K H' a vs | false => SqL K H' a vs) ∧ RL K fi' Z' H' ms vs
def walkM (h : MH) : MV → Option (Bool × List MV × Chk)
  | .tup xs => some (true, xs, .no)
  | .lst xs => some (false, xs, .no)
  | .scr ns => some (false, ns.map MV.int, .no)
  | .ref n => match h[n]? with
    | some (.lst xs) => some (false, xs, .lst n xs)
    | _ => none
  | _ => none
section
variable {K : PySem.W.Frag} {fi Z : List Addr} {H : Hp} {h : MH} {m : MV} {v : V}
theorem walk_R {u : Bool} {ms : List MV} {c : Chk} (rh : RH K fi Z H h) (r : R K fi Z H m v) (e : walkM h m = some (u, ms, c)) : ∃ a, v = .ref a ∧ SeqW K fi Z H u a ms c ∧ ∃ vs, (match u with | true => SqT K H a vs | false => SqL K H a vs) := by
  cases m with
  | tup xs =>
    simp only [R] at r
    obtain ⟨a, vs, rfl, ea, na, l, rl⟩ := r
    cases e
    exact ⟨a, rfl, fun Z' hz fi' H' h' g _ _ => ⟨vs, SqT.of (g.ot _ _ ea (fun _ z => nomatch z) na).1, (rl.tr (Tr.zch hz)).tr g⟩, vs, SqT.of ea⟩
  | lst xs =>
    simp only [R] at r
    obtain ⟨a, vs, rfl, ea, na, nz, l, rl⟩ := r
    cases e
    refine ⟨a, rfl, fun Z' hz fi' H' h' g _ _ => ⟨vs, SqL.of (g.fz _ _ ea na fun hm => ?_).1, (rl.tr (Tr.zch hz)).tr g⟩, vs, SqL.of ea⟩
    rcases hz a hm with q | q
    · exact nz q
    · rw [ea] at q; cases q
  | scr ns =>
    simp only [R] at r
    obtain ⟨a, rfl, ea⟩ := r
    cases e
    exact ⟨a, rfl, fun Z' hz fi' H' h' g _ _ => ⟨_, (ea.tr g).sq, RL.ints _⟩, _, ea.sq⟩
  | ref n =>
    simp only [R] at r
    obtain ⟨a, ea, rfl⟩ := r
    unfold walkM at e
    simp only at e
    split at e
    · rename_i xs eo
      cases e
      obtain ⟨vs, e1, _, _⟩ := rh.at_ n _ a eo ea
      refine ⟨a, rfl, fun Z' hz fi' H' h' g rh' c => ?_, vs, SqL.of e1⟩
      obtain ⟨us, e2, _, rl⟩ := rh'.at_ n _ a c (g.pre _ _ ea)
      exact ⟨us, SqL.of e2, rl⟩
    · cases e
  | _ => cases e
theorem SeqW.mono {fi' : List Addr} {H' : Hp} {u : Bool} {a : Addr} {ms : List MV} {c : Chk} (s : SeqW K fi Z H u a ms c) (g : Grow fi fi' H H') (hn : ∀ b, H' b = none → H b = none) : SeqW K fi' Z H' u a ms c := fun Z' hz fi2 H2 h2 g2 rh2 ok =>
  s Z' (fun b hb => (hz b hb).imp id (hn b)) fi2 H2 h2 (Tr.trans g.tr g2) rh2 ok
theorem pair_R {p : Addr} {x y : V} {mx my : MV} (rh : RH K fi Z H h) (hp : H p = none) (rx : R K fi Z H mx x) (ry : R K fi Z H my y) : Grow fi fi H (L2.upd H p (.tup [x, y])) ∧ RH K fi Z (L2.upd H p (.tup [x, y])) h ∧ R K fi Z (L2.upd H p (.tup [x, y])) (.tup [mx, my]) (.ref p) :=
  ⟨Grow.laid hp, rh.laid hp, R.tup_new rh hp (RL.cons rx (RL.cons ry RL.nil)) (by show 2 ≤ sizeLine; decide)⟩
end
def zipPairs (xs ys : List MV) : List MV := List.zipWith (fun x y => .tup [x, y]) xs ys
def zipIt (xs : List MV) (h : MH) : Option (List MV × Chk) := match xs with
  | [a, b] => match walkM h a, walkM h b with
    | some (true, xs, c), some (true, ys, d) => some (zipPairs xs ys, .both c d)
    | some (false, xs, c), some (false, ys, d) => some (zipPairs xs ys, .both c d)
    | _, _ => none
  | _ => none
theorem zip_at {xs ys : List MV} {i : Nat} {m : MV} (e : (zipPairs xs ys)[i]? = some m) : ∃ x y, xs[i]? = some x ∧ ys[i]? = some y ∧ m = .tup [x, y] := by
  unfold zipPairs at e
  rw [List.getElem?_zipWith] at e
  cases ex : xs[i]? with
  | none => rw [ex] at e; cases e
  | some x =>
    cases ey : ys[i]? with
    | none => rw [ex, ey] at e; cases e
    | some y => rw [ex, ey] at e; cases e; exact ⟨x, y, rfl, rfl, rfl⟩
theorem zip_end {xs ys : List MV} {i : Nat} (e : (zipPairs xs ys).length ≤ i) : xs.length ≤ i ∨ ys.length ≤ i := by
  unfold zipPairs at e
  rw [List.length_zipWith] at e
  omega
section
variable {K : PySem.W.Frag} {fi Z : List Addr} {H : Hp}
theorem RI.zipL {a b : Addr} {xs ys : List MV} {c d : Chk} (s1 : SeqW K fi Z H false a xs c) (s2 : SeqW K fi Z H false b ys d) : RI K fi Z H (zipPairs xs ys, .both c d) (Itz K a b) := fun Z' hz => by
  refine ⟨fun i fi' H' h m g gf rh ok e => ?_, fun i fi' H' h g gf rh ok l => ?_⟩
  · obtain ⟨x, y, ex, ey, rfl⟩ := zip_at e
    obtain ⟨vs, h1, r1⟩ := s1 Z' hz fi' H' h g rh ok.1
    obtain ⟨us, h2, r2⟩ := s2 Z' hz fi' H' h g rh ok.2
    obtain ⟨v, ev, rv⟩ := r1.get ex
    obtain ⟨u, eu, ru⟩ := r2.get ey
    refine ⟨⟨vs, us, v, u, h1, h2, ev, eu⟩, ?_⟩
    rintro w H2 ⟨T, x', y', rfl, hT, rfl, hx, hy⟩
    have := hx vs h1; rw [ev] at this; cases this
    have := hy us h2; rw [eu] at this; cases this
    exact pair_R rh hT rv ru
  · obtain ⟨vs, h1, r1⟩ := s1 Z' hz fi' H' h g rh ok.1
    obtain ⟨us, h2, r2⟩ := s2 Z' hz fi' H' h g rh ok.2
    refine ⟨vs, us, h1, h2, ?_⟩
    rw [← r1.length, ← r2.length]
    exact zip_end l
theorem RI.zipT {a b : Addr} {xs ys : List MV} {c d : Chk} (s1 : SeqW K fi Z H true a xs c) (s2 : SeqW K fi Z H true b ys d) : RI K fi Z H (zipPairs xs ys, .both c d) (RZ.ItzT K a b) := fun Z' hz => by
  refine ⟨fun i fi' H' h m g gf rh ok e => ?_, fun i fi' H' h g gf rh ok l => ?_⟩
  · obtain ⟨x, y, ex, ey, rfl⟩ := zip_at e
    obtain ⟨vs, h1, r1⟩ := s1 Z' hz fi' H' h g rh ok.1
    obtain ⟨us, h2, r2⟩ := s2 Z' hz fi' H' h g rh ok.2
    obtain ⟨v, ev, rv⟩ := r1.get ex
    obtain ⟨u, eu, ru⟩ := r2.get ey
    refine ⟨⟨vs, us, v, u, h1, h2, ev, eu⟩, ?_⟩
    rintro w H2 ⟨T, x', y', rfl, hT, rfl, hx, hy⟩
    have := hx vs h1; rw [ev] at this; cases this
    have := hy us h2; rw [eu] at this; cases this
    exact pair_R rh hT rv ru
  · obtain ⟨vs, h1, r1⟩ := s1 Z' hz fi' H' h g rh ok.1
    obtain ⟨us, h2, r2⟩ := s2 Z' hz fi' H' h g rh ok.2
    refine ⟨vs, us, h1, h2, ?_⟩
    rw [← r1.length, ← r2.length]
    exact zip_end l
end
def evZip (f : MEnv → MH → Res (List MV)) (env : MEnv) (h : MH) : Res (List MV × Chk) := (f env h).bind fun xs h1 => match zipIt xs h1 with
  | some p => .ok p h1
  | none => .err
section
variable {X : Cx} {W : WX} {e e2 : Expr} {p pos tpos : Pos} {elts : List Expr} {kk : Nat} {fs : MEnv → MH → Res (List MV)}
theorem mi_zip (hg : Gl X "zip") (hm : X.mg "zip" = none) (ha : PA X [e, e2] (tA X.K W fs)) (hs : starEach [e, e2] X.env = (false, eval e X.env) :: starEach [e2] X.env) (hpl : (backTo pos (starEach [e2] X.env)).any (·.1) = false) :
    PI X (.Tuple elts kk tpos) (.Call (.Name "zip" p) [e, e2] [] pos) (tI X.K W (evZip fs)) := by
  refine ⟨fun pins s σ H Rr I ⟨fi, Z, env, h, re, rh, q⟩ => (RZ.pi_zipA hg hm ha hs hpl).run pins s σ H Rr I ⟨fi, Z, env, h, re, rh, (Pst.bind (rel' := RL X.K) q).imp ?_⟩⟩
  rintro vs H1 ⟨fi1, ms, h1, g1, rh1, rl, q1⟩
  unfold zipIt at q1
  split at q1
  · rename_i pr ep
    split at ep
    · rename_i a b
      obtain ⟨va, vb, rfl, ra, rb⟩ := rl.two
      split at ep
      · rename_i xs c ys d e1 e2
        cases ep
        obtain ⟨pa, rfl, s1, vs1, hv1⟩ := walk_R rh1 ra e1
        obtain ⟨pb, rfl, s2, vs2, hv2⟩ := walk_R rh1 rb e2
        exact ⟨pa, pb, vs1, vs2, rfl, .inr ⟨hv1, hv2, q1.ok rh1 (RI.zipT s1 s2)⟩⟩
      · rename_i xs c ys d e1 e2
        cases ep
        obtain ⟨pa, rfl, s1, vs1, hv1⟩ := walk_R rh1 ra e1
        obtain ⟨pb, rfl, s2, vs2, hv2⟩ := walk_R rh1 rb e2
        exact ⟨pa, pb, vs1, vs2, rfl, .inl ⟨hv1, hv2, q1.ok rh1 (RI.zipL s1 s2)⟩⟩
      · cases ep
    · cases ep
  · exact q1.elim
end
def enumPairs (xs : List MV) : List MV := (List.range xs.length).zipWith (fun i x => .tup [.int (i : Nat), x]) xs
theorem enum_at {xs : List MV} {i : Nat} {m : MV} (e : (enumPairs xs)[i]? = some m) : ∃ x, xs[i]? = some x ∧ m = .tup [.int (i : Nat), x] := by
  unfold enumPairs at e
  rw [List.getElem?_zipWith] at e
  cases ex : xs[i]? with
  | none =>
    rw [ex] at e
    cases er : (List.range xs.length)[i]? <;> (rw [er] at e; cases e)
  | some x =>
    have hi : i < xs.length := (List.getElem?_eq_some_iff.mp ex).1
    rw [ex, List.getElem?_range hi] at e
    cases e
    exact ⟨x, rfl, rfl⟩
theorem enum_len {xs : List MV} : (enumPairs xs).length = xs.length := by simp [enumPairs]
/-- the tuple at a, each item in a new pair -/
def IteT (K : PySem.W.Frag) (a : Addr) : It :=
  ⟨fun i H => ∃ (xs : List V) (x : V), SqT K H a xs ∧ xs[i]? = some x, fun i H v H' => ∃ T x, v = .ref T ∧ H T = none ∧ H' = L2.upd H T (.tup [.int (i : Nat), x]) ∧ ∀ xs, SqT K H a xs → xs[i]? = some x, fun i H => ∃ xs : List V, SqT K H a xs ∧ xs.length ≤ i⟩
section
variable {K : PySem.W.Frag} {fi Z : List Addr} {H : Hp}
theorem RI.enumL {a : Addr} {xs : List MV} {c : Chk} (s1 : SeqW K fi Z H false a xs c) : RI K fi Z H (enumPairs xs, c) (Ite K a) := fun Z' hz => by
  refine ⟨fun i fi' H' h m g gf rh ok e => ?_, fun i fi' H' h g gf rh ok l => ?_⟩
  · obtain ⟨x, ex, rfl⟩ := enum_at e
    obtain ⟨vs, h1, r1⟩ := s1 Z' hz fi' H' h g rh ok
    obtain ⟨v, ev, rv⟩ := r1.get ex
    refine ⟨⟨vs, v, h1, ev⟩, ?_⟩
    rintro w H2 ⟨T, x', rfl, hT, rfl, hx⟩
    have := hx vs h1; rw [ev] at this; cases this
    exact pair_R rh hT (by simp only [R]) rv
  · obtain ⟨vs, h1, r1⟩ := s1 Z' hz fi' H' h g rh ok
    refine ⟨vs, h1, ?_⟩
    rw [← r1.length, ← enum_len]
    exact l
theorem RI.enumT {a : Addr} {xs : List MV} {c : Chk} (s1 : SeqW K fi Z H true a xs c) : RI K fi Z H (enumPairs xs, c) (IteT K a) := fun Z' hz => by
  refine ⟨fun i fi' H' h m g gf rh ok e => ?_, fun i fi' H' h g gf rh ok l => ?_⟩
  · obtain ⟨x, ex, rfl⟩ := enum_at e
    obtain ⟨vs, h1, r1⟩ := s1 Z' hz fi' H' h g rh ok
    obtain ⟨v, ev, rv⟩ := r1.get ex
    refine ⟨⟨vs, v, h1, ev⟩, ?_⟩
    rintro w H2 ⟨T, x', rfl, hT, rfl, hx⟩
    have := hx vs h1; rw [ev] at this; cases this
    exact pair_R rh hT (by simp only [R]) rv
  · obtain ⟨vs, h1, r1⟩ := s1 Z' hz fi' H' h g rh ok
    refine ⟨vs, h1, ?_⟩
    rw [← r1.length, ← enum_len]
    exact l
end
section
open PySem.AutoSeq1 (wpAny_loadPart')
theorem meets_enum_new1 {v : Value} {o : Obj} {H : Heap → Prop} (B : Begins v o H) :
    Meets (Builtin.«enumerate.__new__» ⟨[.type "enumerate", v], []⟩) (fun _ R s => H s.heap ∧
      R (.ok (.ret (.ref (s.heap.push o).objs.size))) { s with heap := (s.heap.push o).push { cls := .type "enumerate", data := .fields #[.none, .bool false, .ref s.heap.objs.size, rawInt 0, .none, .none] } }) :=
  .of_wp fun prog w A R s h => by
    obtain ⟨hp, g, d, tk, os⟩ := s; obtain ⟨h1, h⟩ := h
    have hsub := sub_enumerate
    have q1 : ∀ {A' : Around} {E : Value → Shared → Prop} {Q : Value → Shared → Prop}, Q (.ref hp.objs.size) ⟨hp.push o, g, d, tk, os⟩ → wpAny (model prog w) A' (pyIter v) Q E ⟨hp, g, d, tk, os⟩ :=
      fun q => B.iter prog w _ _ ⟨hp, g, d, tk, os⟩ _ h1 q
    wp_walk using q1
    refine wpAny_stack_any fun st => wpAny_pure ?_
    split
    · rename_i c _ _ _ _ _
      cases (c == Value.type "enumerate")
      · wp_walk using q1
        exact ⟨_, rfl, h⟩
      · wp_walk using q1
        exact ⟨_, rfl, h⟩
    · wp_walk using q1
      exact ⟨_, rfl, h⟩
end
section
variable {prog : Program} {w : World} {A : Around} {E : Value → Shared → Prop} {s : Shared}
theorem call_enum1 {v : Value} {o : Obj} {H : Heap → Prop} {Q : Value → Shared → Prop} (B : Begins v o H) (h1 : H s.heap)
    (h : ∀ h', IsEnum h' (s.heap.objs.size + 1) s.heap.objs.size 0 .none → h'.get? s.heap.objs.size = some o → h'.objs.size = s.heap.objs.size + 2 →
      (∀ b o, s.heap.get? b = some o → h'.get? b = some o) → Q (.ref (s.heap.objs.size + 1)) { s with heap := h' }) :
    wpAny (model prog w) A (call (.type "enumerate") [v]) Q E s := by
  refine callType_new F.called_enumerate (by decide) (F.typeCall_enumerate_1 _) (F.newCall_enumerate_1 _) (fun obj => F.args_object_init_2 obj _) F.entry_enumerate_new
    (meets_enum_new1 B) ⟨h1, ?_⟩
  have hz : (s.heap.push o).objs.size = s.heap.objs.size + 1 := Heap.size_push ..
  show _ ∧ _
  rw [hz]
  have he : IsEnum ((s.heap.push o).push { cls := .type "enumerate", data := .fields #[.none, .bool false, .ref s.heap.objs.size, rawInt 0, .none, .none] }) (s.heap.objs.size + 1) s.heap.objs.size 0 .none := by
    have := Heap.get?_push_size (s.heap.push o) (o := { cls := .type "enumerate", data := .fields #[.none, .bool false, .ref s.heap.objs.size, rawInt 0, .none, .none] }) rfl
    rw [hz] at this; exact this
  refine ⟨⟨_, he, rfl⟩, h _ he (Heap.get?_push_of_some _ (Heap.get?_push_size _ B.free)) (by rw [Heap.size_push, hz]) fun b o x => Heap.get?_push_of_some _ (Heap.get?_push_of_some _ x)⟩
theorem enum_endT {e it t : Addr} {n : Int} {items : Array Value} {i : Nat} {old : Value} {Q : Option Value → Shared → Prop} (hh : A.handled = none) (he : IsEnum s.heap e it n old) (hit : s.heap.IsTupleIter it t i) (hl : s.heap.IsTuple t items) (hx : items[i]? = none)
    (hQ : ∀ h', Heap.ExtBut it s.heap h' → Q none { s with heap := h' }) : wpAny (model prog w) A (pyNext (.ref e)) Q E s := by
  have hT : s.TypeIs (.ref e) "enumerate" := ⟨_, he, rfl⟩
  unfold pyNext
  refine wpAny_bind (wpAny_attempt (wpAny_callSpecial?_slot (name := Str.ofString "__next__") hT PySem.F.slot_enumerate_next
    (wpAny_call_entry PySem.F.slot_enumerate_next hT PySem.F.entry_enumerate_next ?_ (PySem.F.args_enumerate_next_1 _))))
  show wpAny _ _ (field (.ref e) 2 >>= _) _ _ _
  refine wpAny_bind (wpAny_field he rfl (x := .ref it) rfl ?_)
  refine wpAny_bind (wpAny_nextOf_tuple_end (A := A.in1) hh hit hl hx fun h' x he' hx' => ?_)
  obtain ⟨o, ho, hc⟩ := hx'
  refine wpAny_bind (wpAny_isInstance (T := "StopIteration") (b := true) ⟨o, ho, hc⟩ isSubtype_stop ?_)
  exact wpAny_pure (hQ _ he')
end
theorem turn_enumT {P : Program} {w : World} {K : PySem.W.Frag} {elts : List Expr} {kk : Nat} {tpos : Pos} (a e it : Addr) :
    Turn P w K (.Tuple elts kk tpos) (IteT K a) [e, it] e (fun i h => (∃ old, IsEnum h e it ((i : Nat) : Int) old) ∧ h.IsTupleIter it a i ∧ e ≠ it) where
  mem := by simp
  obj := fun i h st b hb => by
    obtain ⟨⟨old, he⟩, ⟨o, ho, hc, hd⟩, _⟩ := st
    have e' : b = e ∨ b = it := by simpa using hb
    rcases e' with z | z
    · rw [z]; exact ⟨_, he, fun v q => nomatch q⟩
    · rw [z]; exact ⟨o, ho, fun v q => by rw [hd] at q; cases q⟩
  keep := fun i h h' st k => let ⟨⟨old, he⟩, hi, hne⟩ := st; ⟨⟨old, k e (by simp) _ he⟩, hi.at fun o q => k it (by simp) o q, hne⟩
  item := by
    intro X hP hw hK hc i pins s σ H E I hf st hg
    subst hP hw hK
    obtain ⟨⟨old, he⟩, hit, hne⟩ := st
    obtain ⟨xs, x, hq, hx⟩ := hg
    obtain ⟨its, rv, p, hz⟩ := I.tuple hq
    obtain ⟨u, hu, ru⟩ := rv.get hx
    have hel : e < s.heap.objs.size := Heap.lt_size he
    have hil : it < s.heap.objs.size := by obtain ⟨_, q, _⟩ := hit; exact Heap.lt_size q
    have hil2 : i < its.length := (List.getElem?_eq_some_iff.mp hu).1
    have nea : e ≠ a := fun z => by
      obtain ⟨o, h1, h2, _⟩ := (show s.heap.IsTuple a its.toArray from p)
      rw [← z, he] at h1; cases h1; injection h2 with h2; exact absurd h2 (by decide)
    have nia : a ≠ it := fun z => by
      obtain ⟨o, h1, h2, _⟩ := (show s.heap.IsTuple a its.toArray from p)
      obtain ⟨o2, g1, g2, _⟩ := id hit
      rw [z, g1] at h1; cases h1; rw [g2] at h2; injection h2 with h2; exact absurd h2 (by decide)
    refine wpAny_pyNext_enum_itemD (Draws.tuple (A := X.A.in1) (I.ok.hd hc) it a nia its.toArray) he ⟨hit, p⟩ (by simpa using hil2) hne (by simp [hne, nea]) fun y h' tk hy ho st' hT hsz hk => ?_
    have ey : y = u := by
      have : its.toArray[i]? = some u := by simpa using hu
      rw [this] at hy; exact (Option.some.inj hy).symm
    subst ey
    refine ⟨_, rfl, wpAny_letOwnedTupleGo_enum (s := { s with heap := h', toks := tk + 1 }) ho fun h'' he' sb => ?_⟩
    have hT2 : h''.get? s.heap.objs.size = some { cls := .type "tuple", data := .seq #[.int i tk, y] } := (sb.2 _ (Nat.ne_of_gt hel)).trans hT
    have new : ObjOk X.prog X.w (L2.upd H s.heap.objs.size (.tup [.int (i : Nat), x])) h'' s.heap.objs.size (.tup [.int (i : Nat), x]) :=
      ⟨by show 2 ≤ sizeLine; decide, [.int i tk, y], .cons ⟨_, rfl⟩ (.cons ru .nil), ⟨_, hT2, rfl, _, rfl⟩⟩
    have I1 : L2.Inv X pins σ (L2.upd H s.heap.objs.size (.tup [.int (i : Nat), x])) { s with heap := h'', toks := tk + 1 } :=
      I.turnedNew (ch := [e, it]) (fun b ob hb q => (sb.2 b (fun z => hb (by simp [z]))).trans (hk b ob (fun z => hb (by simp [z])) (fun z => hb (by simp [z])) q)) hf (Nat.le_refl _) new
    refine ⟨.ref s.heap.objs.size, _, I1, rfl, ⟨_, x, rfl, I.hok.fresh (Nat.le_refl _), rfl, fun ys hy => by rw [I.tuple_inj hy hq]; exact hx⟩, ⟨⟨y, ?_⟩, st'.1.at fun o q => (sb.2 it (Ne.symm hne)).trans q, hne⟩, fun b hb => ?_⟩
    · have e1 : ((i + 1 : Nat) : Int) = (i : Int) + 1 := by omega
      rw [e1]; exact he'
    · have hb' : b < s.heap.objs.size := by
        have e' : b = e ∨ b = it := by simpa using hb
        rcases e' with z | z
        · rw [z]; exact hel
        · rw [z]; exact hil
      rw [L2.upd_ne (Nat.ne_of_lt hb')]
      exact (hf b hb).1
  done := by
    intro X hP hw hK hc i pins s σ H E I hf st hg
    subst hP hw hK
    obtain ⟨⟨old, he⟩, hit, hne⟩ := st
    obtain ⟨xs, hq, hx⟩ := hg
    obtain ⟨its, rv, p, hz⟩ := I.tuple hq
    obtain ⟨f0, f1, f2, f3, f4, f5⟩ := hf it (by simp)
    have hl := rv.length
    exact enum_endT (I.ok.hd hc) he hit p (by simp; omega) fun h' eb => ⟨rfl, I.turned (t' := s.toks) (fun b o hb q => eb b o hb q) f0 f1 f3 f4 f5⟩
  self := fun A i s Q E st h => let ⟨⟨_, he⟩, _⟩ := st; wpAny_pyIter_enum he h
end Mi

set_option Elab.async false
set_option linter.all false
set_option maxRecDepth 100000
set_option maxHeartbeats 2000000
namespace Mi
open PySem PySem.Spec L2
set_option autoImplicit false

def evEnum (f : MEnv → MH → Res (List MV)) (env : MEnv) (h : MH) : Res (List MV × Chk) := (f env h).bind fun xs h1 => match xs with
  | [m] => match walkM h1 m with
    | some (_, xs, c) => .ok (enumPairs xs, c) h1
    | none => .err
  | _ => .err
section
variable {X : Cx} {W : WX} {e : Expr} {p pos tpos apos cpos : Pos} {elts : List Expr} {kk : Nat} {fs : MEnv → MH → Res (List MV)} {fe : MEnv → MH → Res MV}
theorem mi_enum (hg : Gl X "enumerate") (hm : X.mg "enumerate" = none) (ha : PA X [e] (tA X.K W fs)) (hs : starEach [e] X.env = [(false, eval e X.env)]) :
    PI X (.Tuple elts kk tpos) (.Call (.Name "enumerate" p) [e] [] pos) (tI X.K W (evEnum fs)) := by
  refine ⟨fun pins s σ H Rr I ⟨fi, Z, env, h, re, rh, q⟩ => ?_⟩
  refine PyProof.Rows.Call_ (ld_blt I hg hm PyProof.Rows.boot_enumerate (PyProof.Rows.callWith_type1 (thn (ha.run pos pins s σ H _ I ⟨fi, Z, env, h, re, rh, Pst.bind (rel' := RL X.K) q⟩) fun us s1 ⟨vs, H1, I1, r1, fi1, ms, h1, g1, rh1, rl, q1⟩ => ?_) hs rfl))
  split at q1
  · rename_i m
    obtain ⟨v, rfl, rv⟩ := rl.one
    obtain ⟨u, rfl, ru⟩ := L2.vals1 r1
    split at q1
    · rename_i b xs c ew
      obtain ⟨a, rfl, sw, ws, hw⟩ := walk_R rh1 rv ew
      cases ru
      cases b with
      | false =>
        obtain ⟨its, rv', p', hz⟩ := I1.list hw
        refine call_enumerate_list p'.isList fun h' he hit hsz hk => wpAny_pyIter_enum he ?_
        have I2 : L2.Inv X pins σ H1 { s1 with heap := h' } := I1.kept (t' := s1.toks) hk
        refine ⟨s1.heap.objs.size + 1, [s1.heap.objs.size + 1, s1.heap.objs.size], _, _, H1, rfl, I2, turn_enum a (s1.heap.objs.size + 1) s1.heap.objs.size, ⟨⟨.none, he⟩, hit, Nat.succ_ne_self _⟩, fun b hb => ?_, q1.ok rh1 (RI.enumL sw)⟩
        have e' : b = s1.heap.objs.size + 1 ∨ b = s1.heap.objs.size := by simpa using hb
        have hle : s1.heap.objs.size ≤ b := by
          rcases e' with z | z
          · rw [z]; exact Nat.le_add_right _ _
          · rw [z]; exact Nat.le_refl _
        exact I1.fpOk hle (I1.hok.fresh hle)
      | true =>
        obtain ⟨its, rv', p', hz⟩ := I1.tuple hw
        refine call_enum1 (begins_tuple a its.toArray) (show s1.heap.IsTuple a its.toArray from p') fun h' he hit hsz hk => wpAny_pyIter_enum he ?_
        have I2 : L2.Inv X pins σ H1 { s1 with heap := h' } := I1.kept (t' := s1.toks) hk
        refine ⟨s1.heap.objs.size + 1, [s1.heap.objs.size + 1, s1.heap.objs.size], _, _, H1, rfl, I2, turn_enumT a (s1.heap.objs.size + 1) s1.heap.objs.size, ⟨⟨.none, he⟩, ⟨_, hit, rfl, rfl⟩, Nat.succ_ne_self _⟩, fun b hb => ?_, q1.ok rh1 (RI.enumT sw)⟩
        have e' : b = s1.heap.objs.size + 1 ∨ b = s1.heap.objs.size := by simpa using hb
        have hle : s1.heap.objs.size ≤ b := by
          rcases e' with z | z
          · rw [z]; exact Nat.le_add_right _ _
          · rw [z]; exact Nat.le_refl _
        exact I1.fpOk hle (I1.hok.fresh hle)
    · exact q1.elim
  · exact q1.elim
end
/-- the pairs of the locked dict with tuple keys -/
def ItiT (d : Addr) (o : Obj) (kvs : List (List Key × V)) : It :=
  ⟨fun i H => H d = some (.frz o (.dT kvs)) ∧ i < kvs.length, fun i H x H' => ∃ T k v q, kvs[i]? = some (k, v) ∧ x = .ref T ∧ H q = some (.tup (k.map kV)) ∧ H T = none ∧ H' = L2.upd H T (.tup [.ref q, v]), fun i H => H d = some (.frz o (.dT kvs)) ∧ kvs.length ≤ i⟩
section
variable {X : Cx} {pins : List (Addr × Obj)} {σ : L2.St} {H : Hp} {s : Shared} {d : Addr} {o : Obj}
theorem frzT2 {kvs : List (List Key × V)} (I : L2.Inv X pins σ H s) (h : H d = some (.frz o (.dT kvs))) :
    (d == sysModules) = false ∧ s.heap.get? d = some o ∧ o.ExactDict ∧ ∃ (es : Array DictEntry) (ep : Nat), o.data = .dict es ep ∧ es.size = kvs.length ∧
      ∀ (i : Nat) (k : List Key) (v : V), kvs[i]? = some (k, v) → ∃ (en : DictEntry) (q : Addr), es[i]? = some en ∧ en.key = .ref q ∧ H q = some (.tup (k.map kV)) ∧ RelV v en.val := by
  obtain ⟨hd, z, hs, xs, pr, o', es, ep, ho, hx, hdt, he, _⟩ := I.hok d _ h
  rw [hd] at ho
  cases ho
  refine ⟨hs, hd, hx, es, ep, hdt, ?_, fun i k v e => ?_⟩
  · have l1 : es.size = xs.length := size_of_entries he
    have l2 : kvs.length = xs.length := PySem.Paired.length pr
    omega
  · obtain ⟨b, hb, e1, e2, e3⟩ := L2.paired_get pr e
    have q := entry_at he i
    rw [hb] at q
    exact ⟨_, b.2.1, q, rfl, e2, e3⟩
end
section
variable {P : Program} {w : World} {K : PySem.W.Frag} {d : Addr} {o : Obj} {es : Array DictEntry} {ep : Nat}
theorem turn_itemsT {kvs : List (List Key × V)} {elts : List Expr} {kk : Nat} {tpos : Pos} (it : Addr) (hod : o.data = .dict es ep) :
    Turn P w K (.Tuple elts kk tpos) (ItiT d o kvs) [it] it (fun i h => ∃ ok ov, IsItemIter h it d i kvs.length ep ok ov) where
  mem := by simp
  obj := fun i h st b hb => by
    have e : b = it := by simpa using hb
    subst e
    obtain ⟨ok, ov, e⟩ := st
    exact ⟨_, e, fun v z => nomatch z⟩
  keep := fun i h h' st k => let ⟨ok, ov, e⟩ := st; ⟨ok, ov, k it (by simp) _ e⟩
  item := by
    intro X hP hw hK hc i pins s σ H E I hf st hg
    subst hP hw hK
    obtain ⟨hd, hi⟩ := hg
    obtain ⟨hs, hgd, hx, es', ep', hdt, hsz, ent⟩ := frzT2 I hd
    obtain ⟨rfl, rfl⟩ := dict_ep hod hdt
    obtain ⟨⟨k, v⟩, hkv⟩ : ∃ p, kvs[i]? = some p := ⟨kvs[i], List.getElem?_eq_getElem hi⟩
    obtain ⟨en, q, hen, hkey, hq, hv⟩ := ent i k v hkv
    have hlt : i < es'.size := (Array.getElem?_eq_some_iff.mp hen).1
    have een : es'[i] = en := (Array.getElem?_eq_some_iff.mp hen).2
    obtain ⟨ok, ov, he⟩ := st
    rw [← hsz] at he
    have hil : it < s.heap.objs.size := Heap.lt_size he
    refine wpAny_pyNext_items_item_raw he ⟨o, hgd, hx, hdt⟩ hlt fun h' ho hT hz hk => ?_
    rw [een] at ho hT
    refine ⟨_, rfl, wpAny_letOwnedTupleGo_items (s := { s with heap := h' }) ho fun h'' he' sb => ?_⟩
    have hT2 : h''.get? s.heap.objs.size = some { cls := .type "tuple", data := .seq #[en.key, en.val] } := (sb.2 _ (Nat.ne_of_gt hil)).trans hT
    have new : ObjOk X.prog X.w (L2.upd H s.heap.objs.size (.tup [.ref q, v])) h'' s.heap.objs.size (.tup [.ref q, v]) :=
      ⟨by show 2 ≤ sizeLine; decide, [en.key, en.val], .cons hkey (.cons hv .nil), ⟨_, hT2, rfl, _, rfl⟩⟩
    have I1 : L2.Inv X pins σ (L2.upd H s.heap.objs.size (.tup [.ref q, v])) { s with heap := h'' } :=
      I.turnedNew (t' := s.toks) (ch := [it]) (fun b ob hb e => (sb.2 b (by simpa using hb)).trans (hk b ob (by simpa using hb) e)) hf (Nat.le_refl _) new
    refine ⟨.ref s.heap.objs.size, _, I1, rfl, ⟨_, k, v, q, hkv, rfl, hq, I.hok.fresh (Nat.le_refl _), rfl⟩, ⟨en.key, en.val, ?_⟩, fun b hb => ?_⟩
    · rw [← hsz]; exact he'
    · have e : b = it := by simpa using hb
      rw [e, L2.upd_ne (Nat.ne_of_lt hil)]
      exact (hf it (by simp)).1
  done := by
    intro X hP hw hK hc i pins s σ H E I hf st hg
    subst hP hw hK
    obtain ⟨hd, hi⟩ := hg
    obtain ⟨f0, f1, f2, f3, f4, f5⟩ := hf it (by simp)
    obtain ⟨hs, hgd, hx, es', ep', hdt, hsz, ent⟩ := frzT2 I hd
    obtain ⟨rfl, rfl⟩ := dict_ep hod hdt
    obtain ⟨ok, ov, he⟩ := st
    rw [← hsz] at he
    exact wpAny_pyNext_items_end_raw (I.ok.hd hc) he ⟨o, hgd, hx, hdt⟩ (by omega) fun h' eb => ⟨rfl, I.turned (t' := s.toks) (fun b ob hb e => eb b ob hb e) f0 f1 f3 f4 f5⟩
  self := fun A i s Q E st h => let ⟨_, _, e⟩ := st; PySem.W.kcp_self e h
end
def itemPairs (t : Bool) (kvs : KVs) : List MV := kvs.map fun kv => .tup [unkey t kv.1, kv.2]
/-- the dict is locked for good -/
def lockM (m : MV) (h : MH) : Option ((List MV × Chk) × MH) := match m with
  | .ref n => match h[n]? with
    | some (.dct t kvs) => if (t = true → ∀ kv ∈ kvs, kv.1.length ≤ 1000) then some ((itemPairs t kvs, .lck n t kvs), h.set n (.lck t kvs)) else none
    | some (.lck t kvs) => if (t = true → ∀ kv ∈ kvs, kv.1.length ≤ 1000) then some ((itemPairs t kvs, .lck n t kvs), h) else none
    | _ => none
  | _ => none
def evItems (f : MEnv → MH → Res MV) (env : MEnv) (h : MH) : Res (List MV × Chk) := (f env h).bind fun m h1 => match lockM m h1 with
  | some (p, h2) => .ok p h2
  | none => .err
section
variable {K : PySem.W.Frag} {fi Z : List Addr} {H : Hp} {h : MH}
theorem RKs.nth : ∀ {kvs : KVs} {ks : List (Key × V)} {i : Nat} {kv : List Key × MV}, RKs K fi Z H kvs ks → kvs[i]? = some kv → ∃ k v, ks[i]? = some (k, v) ∧ kv.1 = [k] ∧ R K fi Z H kv.2 v
  | [], ks, i, kv, r, e => by simp at e
  | p :: q, ks, 0, kv, r, e => by
    obtain ⟨k, v, ks', rfl, e2, h1, h2⟩ := r
    simp at e; subst e
    exact ⟨k, v, rfl, e2, h1⟩
  | p :: q, ks, i + 1, kv, r, e => by
    obtain ⟨k, v, ks', rfl, e2, h1, h2⟩ := r
    simpa using RKs.nth h2 (by simpa using e)
theorem RTs.nth : ∀ {kvs : KVs} {ks : List (List Key × V)} {i : Nat} {kv : List Key × MV}, RTs K fi Z H kvs ks → kvs[i]? = some kv → ∃ v, ks[i]? = some (kv.1, v) ∧ R K fi Z H kv.2 v
  | [], ks, i, kv, r, e => by simp at e
  | p :: q, ks, 0, kv, r, e => by
    obtain ⟨v, ks', rfl, h1, h2⟩ := r
    simp at e; subst e
    exact ⟨v, rfl, h1⟩
  | p :: q, ks, i + 1, kv, r, e => by
    obtain ⟨v, ks', rfl, h1, h2⟩ := r
    simpa using RTs.nth h2 (by simpa using e)
theorem item_at {t : Bool} {kvs : KVs} {i : Nat} {m : MV} (e : (itemPairs t kvs)[i]? = some m) : ∃ kv, kvs[i]? = some kv ∧ m = .tup [unkey t kv.1, kv.2] := by
  unfold itemPairs at e
  rw [List.getElem?_map] at e
  cases ex : kvs[i]? with
  | none => rw [ex] at e; cases e
  | some kv => rw [ex] at e; cases e; exact ⟨kv, rfl, rfl⟩
theorem RI.itemsK {n : Nat} {a : Addr} {o : Obj} {kvs : KVs} {ks : List (Key × V)} (ea : fi[n]? = some a) (e0 : H a = some (.frz o (.dK ks))) (hl : kvs.length = ks.length) : RI K fi Z H (itemPairs false kvs, .lck n false kvs) (Iti a o ks) := fun Z' hz => by
  refine ⟨fun i fi' H' h m g gf rh ok e => ?_, fun i fi' H' h g gf rh ok l => ?_⟩
  · obtain ⟨kv, ekv, rfl⟩ := item_at e
    have e1 := gf a o _ e0
    obtain ⟨o', ks', e2, rk⟩ := rh.at_ n _ a ok (g.pre _ _ ea)
    rw [e1] at e2; cases e2
    obtain ⟨k, v, ek, ekk, rv⟩ := rk.nth ekv
    refine ⟨⟨e1, (List.getElem?_eq_some_iff.mp ek).1⟩, ?_⟩
    rintro w H2 ⟨T, k', v', hkv, rfl, hT, rfl⟩
    rw [ek] at hkv; cases hkv
    rw [ekk]
    exact pair_R rh hT R.kMV rv
  · have l' : kvs.length ≤ i := by simpa [itemPairs] using l
    exact ⟨gf a o _ e0, by omega⟩
theorem RI.itemsT {n : Nat} {a : Addr} {o : Obj} {kvs : KVs} {ks : List (List Key × V)} (ea : fi[n]? = some a) (e0 : H a = some (.frz o (.dT ks))) (hl : kvs.length = ks.length) (hk : ∀ kv ∈ kvs, kv.1.length ≤ 1000) : RI K fi Z H (itemPairs true kvs, .lck n true kvs) (ItiT a o ks) := fun Z' hz => by
  refine ⟨fun i fi' H' h m g gf rh ok e => ?_, fun i fi' H' h g gf rh ok l => ?_⟩
  · obtain ⟨kv, ekv, rfl⟩ := item_at e
    have e1 := gf a o _ e0
    obtain ⟨o', ks', e2, rk⟩ := rh.at_ n _ a ok (g.pre _ _ ea)
    rw [e1] at e2; cases e2
    obtain ⟨v, ek, rv⟩ := rk.nth ekv
    refine ⟨⟨e1, (List.getElem?_eq_some_iff.mp ek).1⟩, ?_⟩
    rintro w H2 ⟨T, k', v', q, hkv, rfl, hq, hT, rfl⟩
    rw [ek] at hkv; cases hkv
    have hlen := hk kv (List.mem_of_getElem? ekv)
    refine pair_R rh hT ?_ rv
    show R K fi' Z' H' (.tup (kv.1.map kMV)) _
    simp only [R]
    exact ⟨q, _, rfl, hq, rh.notTup hq, by rw [List.length_map, sizeLine_eq]; omega, RL.kMVs _⟩
  · have l' : kvs.length ≤ i := by simpa [itemPairs] using l
    exact ⟨gf a o _ e0, by omega⟩
end
section
variable {X : Cx} {W : WX} {e : Expr} {p pos tpos apos cpos : Pos} {elts : List Expr} {kk : Nat} {fe : MEnv → MH → Res MV}
/-- the view of a locked dict's items, walked -/
theorem items_iter {pins : List (Addr × Obj)} {σ : L2.St} {H : Hp} {s : Shared} {Rr : It → Hp → Prop} {d : Addr} {o : Obj} (I : L2.Inv X pins σ H s)
    (h : (∃ ks, H d = some (.frz o (.dK ks)) ∧ Rr (Iti d o ks) H) ∨ ∃ ks, H d = some (.frz o (.dT ks)) ∧ Rr (ItiT d o ks) H) :
    (∃ es ep, s.heap.DictRaw d es ep) ∧ (d == sysModules) = false ∧ wpAny (model X.prog X.w) X.A (pyIter (.ref s.heap.objs.size)) (PIE X pins σ (.Tuple elts kk tpos) Rr) X.xe { s with heap := s.heap.push { cls := .type "dict_items", data := .fields #[.ref d] } } := by
  have I2 : L2.Inv X pins σ H { s with heap := s.heap.push { cls := .type "dict_items", data := .fields #[.ref d] } } := I.kept (t' := s.toks) fun b ob q => Heap.get?_push_of_some _ q
  rcases h with ⟨ks, hd, q⟩ | ⟨ks, hd, q⟩
  · obtain ⟨hs, hgd, hx, es, ep, vs, hdt, hsz, kv, hm⟩ := I.frzK hd
    refine ⟨⟨es, ep, o, hgd, hx, hdt⟩, hs, wpAny_pyIter_items_raw (d := d) ⟨_, Heap.get?_push_size _ rfl, rfl, rfl⟩ ⟨o, Heap.get?_push_of_some _ hgd, hx, hdt⟩ (pi_one (tk := s.toks) I2 _ (turn_items _ hdt) ⟨.none, .none, ?_⟩ q)⟩
    rw [← hsz]
    exact Heap.get?_push_size _ rfl
  · obtain ⟨hs, hgd, hx, es, ep, hdt, hsz, ent⟩ := frzT2 I hd
    refine ⟨⟨es, ep, o, hgd, hx, hdt⟩, hs, wpAny_pyIter_items_raw (d := d) ⟨_, Heap.get?_push_size _ rfl, rfl, rfl⟩ ⟨o, Heap.get?_push_of_some _ hgd, hx, hdt⟩ (pi_one (tk := s.toks) I2 _ (turn_itemsT _ hdt) ⟨.none, .none, ?_⟩ q)⟩
    rw [← hsz]
    exact Heap.get?_push_size _ rfl
theorem mi_items (he : PE X e (tE X.K W fe)) (hbase : attributeBase e "items" X.env (eval e X.env) = eval e X.env) (hline : (apos.endLine == cpos.line) = true) :
    PI X (.Tuple elts kk tpos) (.Call (.Attribute e "items" apos) [] [] cpos) (tI X.K W (evItems fe)) := by
  refine ⟨fun pins s σ H Rr I ⟨fi, Z, env, h, re, rh, q⟩ => ?_⟩
  refine wpAny_Call_method (T := "dict") (id := "dict.items") hbase rfl hline PySem.F.plainAttrs_dict PySem.F.slot_dict_items PySem.F.type_dict_items (thn (he.run pins s σ H _ I ⟨fi, Z, env, h, re, rh, Pst.bind (rel' := R X.K) q⟩) fun u s1 ⟨x, H1, I1, rx, fi1, m, h1, g1, rh1, rm, q1⟩ => ?_)
  have key : ∃ (H2 : Hp) (d : Addr) (o : Obj), u = .ref d ∧ L2.Inv X pins σ H2 s1 ∧ ((∃ ks, H2 d = some (.frz o (.dK ks)) ∧ Rr (Iti d o ks) H2) ∨ ∃ ks, H2 d = some (.frz o (.dT ks)) ∧ Rr (ItiT d o ks) H2) := by
    split at q1
    · rename_i pr h2 el
      unfold lockM at el
      split at el
      · rename_i n
        simp only [R] at rm
        obtain ⟨d, ea, rfl⟩ := rm
        cases rx
        have hd : d ∈ fi1 := List.mem_iff_getElem?.mpr ⟨n, ea⟩
        split at el
        · rename_i t kvs eo
          split at el
          · rename_i hk
            cases el
            have ro := rh1.at_ n _ d eo ea
            cases t with
            | false =>
              obtain ⟨ks, e1, rk⟩ := ro
              obtain ⟨od, I2⟩ := I1.lock e1 trivial
              exact ⟨_, d, _, rfl, I2, .inl ⟨ks, L2.upd_same, q1 _ _ fi1 (Grow.upd hd (nfK e1)) (rh1.put ea ⟨od, ks, L2.upd_same, rk.tr (Tr.upd hd)⟩) (RI.itemsK ea L2.upd_same rk.len)⟩⟩
            | true =>
              obtain ⟨ks, e1, rk⟩ := ro
              obtain ⟨od, I2⟩ := I1.lock e1 trivial
              exact ⟨_, d, _, rfl, I2, .inr ⟨ks, L2.upd_same, q1 _ _ fi1 (Grow.upd hd (nfT e1)) (rh1.put ea ⟨od, ks, L2.upd_same, rk.tr (Tr.upd hd)⟩) (RI.itemsT ea L2.upd_same rk.len (hk rfl))⟩⟩
          · cases el
        · rename_i t kvs eo
          split at el
          · rename_i hk
            cases el
            have ro := rh1.at_ n _ d eo ea
            cases t with
            | false =>
              obtain ⟨o, ks, e1, rk⟩ := ro
              exact ⟨_, d, _, rfl, I1, .inl ⟨ks, e1, q1 _ _ fi1 Grow.refl rh1 (RI.itemsK ea e1 rk.len)⟩⟩
            | true =>
              obtain ⟨o, ks, e1, rk⟩ := ro
              exact ⟨_, d, _, rfl, I1, .inr ⟨ks, e1, q1 _ _ fi1 Grow.refl rh1 (RI.itemsT ea e1 rk.len (hk rfl))⟩⟩
          · cases el
        · cases el
      · cases el
    · exact q1.elim
  obtain ⟨H2, d, o, rfl, I2, hh⟩ := key
  obtain ⟨⟨es, ep, hr⟩, hs, w⟩ := items_iter (elts := elts) (kk := kk) (tpos := tpos) I2 hh
  obtain ⟨ob, ho, hx, hdt⟩ := id hr
  refine ⟨hr.typeIs, fun a ea => ?_, ?_⟩
  · cases ea; exact ⟨ob, ho, hx.2.1⟩
  · show wpAny _ _ (callWith cpos (.builtin "dict.items") [.ref d] [] []) _ X.xe s1
    exact PySem.method_meetsIn PySem.F.slot_dict_items PySem.F.entry_dict_items rfl (PySem.evalArgs_none ⟨rfl, hr.typeIs, PySem.F.args_dict_items_1 _, _, meets_dict_items_raw d hs, ⟨es, ep, hr⟩, w⟩)
end
end Mi

set_option Elab.async false
set_option linter.all false
set_option maxRecDepth 100000
set_option maxHeartbeats 2000000
namespace Mi
open PySem PySem.Spec L2
set_option autoImplicit false

def tyN (h : MH) : MV → Option String
  | .non => some "NoneType"
  | .bl _ => some "bool"
  | .int _ => some "int"
  | .str _ => some "str"
  | .tup _ => some "tuple"
  | .lst _ => some "list"
  | .ref n => match h[n]? with
    | some (.lst _) => some "list"
    | some (.dct _ _) => some "dict"
    | _ => none
  | _ => none
/-- isinstance's answers for the built-in types in use -/
def isB (a b : String) : Bool := a == b || (a == "bool" && b == "int")
def isiM (T : String) : Op1 := fun m h => (tyN h m).map fun a => (.bl (isB a T), h)
def tyIn (T : String) : Bool := ["int", "bool", "str", "tuple", "list", "dict"].contains T
theorem kitB_all : ∀ a ∈ ["NoneType", "bool", "int", "str", "tuple", "list", "dict"], ∀ T ∈ ["int", "bool", "str", "tuple", "list", "dict"], kitB a T = some (isB a T) := by decide +kernel
theorem kitB_ok {a T : String} (ha : a ∈ ["NoneType", "bool", "int", "str", "tuple", "list", "dict"]) (hT : tyIn T = true) : kitB a T = some (isB a T) := by
  unfold tyIn at hT
  simp only [List.contains_iff_mem] at hT
  exact kitB_all a ha T hT
section
variable {X : Cx} {W : WX} {e : Expr} {p pT pos : Pos} {fe : MEnv → MH → Res MV}
theorem tyN_R {fi Z : List Addr} {H : Hp} {h : MH} {m : MV} {v : V} {a : String} (rh : RH X.K fi Z H h) (r : R X.K fi Z H m v) (e : tyN h m = some a) : TyX X.K H v (.type a) ∧ a ∈ ["NoneType", "bool", "int", "str", "tuple", "list", "dict"] := by
  cases m with
  | non => cases e; simp only [R] at r; subst r; exact ⟨.base .non, by decide⟩
  | bl b => cases e; simp only [R] at r; subst r; exact ⟨.base (.bl b), by decide⟩
  | int b => cases e; simp only [R] at r; subst r; exact ⟨.base (.int b), by decide⟩
  | str b => cases e; simp only [R] at r; subst r; exact ⟨.base (.str b), by decide⟩
  | tup xs => cases e; simp only [R] at r; obtain ⟨a, vs, rfl, ea, _⟩ := r; exact ⟨.base (.tup ea), by decide⟩
  | lst xs => cases e; simp only [R] at r; obtain ⟨a, vs, rfl, ea, _⟩ := r; exact ⟨.base (.lst ea), by decide⟩
  | scr xs => cases e
  | ref n =>
    simp only [R] at r
    obtain ⟨a, ea, rfl⟩ := r
    unfold tyN at e
    simp only at e
    split at e
    · rename_i xs eo; cases e; obtain ⟨vs, e1, _, _⟩ := rh.at_ n _ a eo ea; exact ⟨.base (.lst e1), by decide⟩
    · rename_i t kvs eo; cases e
      have ro := rh.at_ n _ a eo ea
      cases t with
      | false => obtain ⟨ks, e1, _⟩ := ro; exact ⟨.base (.dK e1), by decide⟩
      | true => obtain ⟨ks, e1, _⟩ := ro; exact ⟨.base (.dT e1), by decide⟩
    · cases e
  | rng lo hi => cases e
  | exc c ks xs => cases e
theorem me_isi {T : String} {x : Str} (hT : tyIn T = true) (hg : Gl X "isinstance") (hm : X.mg "isinstance" = none) (gT : Gl X x) (mT : X.mg x = none) (vT : bootBuiltins x = some (.type T)) (nT : x ≠ "__name__") (dT : (x == ("__debug__" : Str)) = false) (he : PE X e (tE X.K W fe))
    (hs : ∀ es env, starEach (e :: es) env = (false, eval e env) :: starEach es env) : PE X (.Call (.Name "isinstance" p) [e, .Name x pT] [] pos) (tE X.K W (ev1 (isiM T) fe)) := by
  have hc : PE X (.Name x pT) (tC (.ty T)) := pe_bltn gT mT vT rfl nT dT
  have ha : PA X [e, .Name x pT] (tCons (tE X.K W fe) (tCons (tC (.ty T)) tNil)) := pa_cons he (pa_cons hc pa_nil rfl) (hs _ _)
  refine (pe_callB (call_isi) hg hm PyProof.Rows.boot_isinstance ha (by decide) (by decide) (hs _ _) rfl).imp fun σ H Q ⟨fi, Z, env, h, re, rh, q⟩ => ?_
  refine ⟨fi, Z, env, h, re, rh, (Pst.bind (rel' := R X.K) q).imp ?_⟩
  rintro x H1 ⟨fi1, m, h1, g1, rh1, ra, p1⟩
  have p2 := PV.of p1
  unfold isiM at p2
  cases e1 : tyN h1 m with
  | none => rw [e1] at p2; exact p2.elim
  | some a =>
    rw [e1] at p2
    dsimp only [Option.map] at p2
    obtain ⟨t1, t2⟩ := tyN_R rh1 ra e1
    exact ⟨x, .ty T, _, _, _, rfl, .ty T, t1, kit_ty (kitB_ok t2 hT), p2.ok rh1 (by simp only [R])⟩
end
def updAll (kvs more : KVs) : KVs := more.foldl (fun acc kv => setK acc kv.1 kv.2) kvs
/-- the hash of a tuple of numbers -/
def hashT (ks : List Key) : Option Int := match ks.mapM (fun k => match k with | .inl i => some i | .inr _ => none) with
  | some is => some (PySem.reduceHash (Builtin.Tuple.tupleHashOf (is.map PySem.hashInt)))
  | none => none
theorem hashT_ok {P : Program} {w : World} {ks : List Key} {i : Int} (e : hashT ks = some i) : (tupleKind (mixKind P w)).hash ks = i := by
  unfold hashT at e
  split at e
  · rename_i is em
    cases e
    show PySem.reduceHash (Builtin.Tuple.tupleHashOf (ks.map (keyH w))) = _
    have h2 : ks.map (keyH w) = is.map PySem.hashInt := by
      induction ks generalizing is with
      | nil => simp at em; subst em; rfl
      | cons k r ih =>
        rw [List.mapM_cons] at em
        cases k with
        | inr x => cases em
        | inl j =>
          cases er : r.mapM (fun k : Key => match k with | .inl i => some i | .inr _ => (none : Option Int)) with
          | none => rw [er] at em; cases em
          | some js =>
            rw [er] at em
            cases em
            rw [List.map_cons, List.map_cons, ih _ er]; rfl
    rw [h2]
  · cases e
/-- the hashes of the keys, all apart -/
def apartT (kvs : KVs) : Bool := match kvs.mapM (fun kv => hashT kv.1) with
  | some hs => decide hs.Nodup
  | none => false
theorem apartT_ok {P : Program} {w : World} {kvs : KVs} (e : apartT kvs = true) : (kvs.map fun kv => (tupleKind (mixKind P w)).hash kv.1).Nodup := by
  unfold apartT at e
  split at e
  · rename_i hs em
    have h2 : (kvs.map fun kv => (tupleKind (mixKind P w)).hash kv.1) = hs := by
      clear e
      induction kvs generalizing hs with
      | nil => simp at em; subst em; rfl
      | cons kv r ih =>
        rw [List.mapM_cons] at em
        cases ek : hashT kv.1 with
        | none => rw [ek] at em; cases em
        | some i =>
          cases er : r.mapM (fun kv : List Key × MV => hashT kv.1) with
          | none => rw [ek, er] at em; cases em
          | some js =>
            rw [ek, er] at em
            cases em
            rw [List.map_cons, hashT_ok ek, ih _ er]
    rw [h2]
    simpa using e
  · cases e
def updateM : OpM := fun _ x as h => match x, as with
  | .ref n, [.ref k] => if n = k then none else (match h[n]?, dctOf h (.ref k) with
    | some (.dct t kvs), some (u, more) => if t = u ∧ kvs.length + more.length ≤ 16777216 ∧ (t = true → kvs ≠ [] ∨ apartT more = true) then some (.non, h.set n (.dct t (updAll kvs more))) else none
    | _, _ => none)
  | _, _ => none
def mergeT (kvs more : List (List Key × V)) : List (List Key × V) := more.foldl (fun acc kv => putK acc kv.1 kv.2) kvs
def rUpdK : V → List V → Hp → VK → Prop := fun x xs H Q => ∃ (a b : Addr) (ks ls : List (Key × V)), x = .ref a ∧ xs = [.ref b] ∧ a ≠ b ∧ H a = some (.dK ks) ∧ Rd H b (.dK ls) ∧ ks.length + ls.length ≤ sizeLine ∧ Q .non (L2.upd H a (.dK (mergeK ks ls)))
def rUpdT : V → List V → Hp → VK → Prop := fun x xs H Q => ∃ (a b : Addr) (ks ls : List (List Key × V)), x = .ref a ∧ xs = [.ref b] ∧ a ≠ b ∧ H a = some (.dT ks) ∧ Rd H b (.dT ls) ∧ ks.length + ls.length ≤ sizeLine ∧
  (ks ≠ [] ∨ ∀ (P : Program) (w : World), (ls.map fun kv => (tupleKind (mixKind P w)).hash kv.1).Nodup) ∧ Q .non (L2.upd H a (.dT (mergeT ks ls)))
theorem mergeK_le (ks ls : List (Key × V)) : (mergeK ks ls).length ≤ ks.length + ls.length := by
  unfold mergeK
  induction ls generalizing ks with
  | nil => simp
  | cons l r ih =>
    rw [List.foldl_cons]
    have := ih (putK ks l.1 l.2)
    have h2 := length_putK ks l.1 l.2
    simp only [List.length_cons]
    omega
theorem mergeT_le (ks ls : List (List Key × V)) : (mergeT ks ls).length ≤ ks.length + ls.length := by
  unfold mergeT
  induction ls generalizing ks with
  | nil => simp
  | cons l r ih =>
    rw [List.foldl_cons]
    have := ih (putK ks l.1 l.2)
    have h2 := length_putK ks l.1 l.2
    simp only [List.length_cons]
    omega
theorem KT_keys {H : Hp} {ls : List (List Key × V)} {ws : List (List Key × Addr × Value)} (r : L2.KT H ls ws) : ws.map (·.1) = ls.map (·.1) := by
  unfold L2.KT at r
  induction r with
  | nil => rfl
  | cons h t ih => rw [List.map_cons, List.map_cons, ih, h.1]
theorem KT_mem {H : Hp} {ls : List (List Key × V)} {ws : List (List Key × Addr × Value)} (r : L2.KT H ls ws) {x : List Key × Addr × Value} (hx : x ∈ ws) : ∃ k : List Key, H x.2.1 = some (.tup (k.map kV)) := by
  unfold L2.KT at r
  induction r with
  | nil => cases hx
  | cons h t ih =>
    rcases List.mem_cons.mp hx with e | hx
    · rw [e]; exact ⟨_, h.2.1⟩
    · exact ih hx
theorem KT_merge {H : Hp} : ∀ {ls : List (List Key × V)} {ys : List (List Key × Addr × Value)} {ks : List (List Key × V)} {xs : List (List Key × Addr × Value)}, L2.KT H ls ys → L2.KT H ks xs → L2.KT H (mergeT ks ls) (PySem.storedAllH xs ys) := by
  intro ls ys ks xs r
  unfold L2.KT at r
  induction r generalizing ks xs with
  | nil => exact fun h => h
  | @cons p q ps qs h t ih =>
    intro h2
    obtain ⟨e1, e2, e3⟩ := h
    have := ih (L2.KT.put h2 p.1 (b := q.2.1) (by exact e2) e3)
    show L2.KT H (mergeT (putK ks p.1 p.2) ps) (PySem.storedAllH (storedH xs q.1 q.2.1 q.2.2) qs)
    rw [← e1]
    exact this
section
variable {X : Cx}
theorem mt_updK : MtR X "dict.update" rUpdK := by
  intro pins s σ H x xs v us Q I rx rxs h
  obtain ⟨a, b, ks, ls, rfl, rfl, hne, ha, hb, hz, q⟩ := h
  cases rx
  obtain ⟨u, rfl, ru⟩ := L2.vals1 rxs
  cases ru
  obtain ⟨z1, hd1, vs, rel, dd⟩ := L2.dk_of I.hok ha
  obtain ⟨z2, hd2, ws, rel2, dd2⟩ := L2.dk_rd I.hok hb
  refine PySem.call_meetsIn PySem.F.slot_dict_update dd.typeIs PySem.F.entry_dict_update (PySem.F.args_dict_update_2 _ _) (meets_dict_update (mixKind X.prog X.w) a b hne hd2)
    ⟨vs, ws, dd, dd2, by rw [← rel.length, ← rel2.length]; exact hz, fun h' dd' _ hs => ?_⟩
  have he : ∃ q, h'.get? a = some q := let ⟨q, _, _, hq, _⟩ := dd'; ⟨q, hq⟩
  exact ⟨.non, _, L2.d_write (t' := s.toks) I (by rw [ha]; exact True.intro) hs he (L2.dk_new (Nat.le_trans (mergeK_le ks ls) hz) hd1 (KV.merge rel2 rel) dd'), rfl, q⟩
theorem mt_updT (hu : X.A.units + 1 < cLine) : MtR X "dict.update" rUpdT := by
  intro pins s σ H x xs v us Q I rx rxs h
  obtain ⟨a, b, ks, ls, rfl, rfl, hne, ha, hb, hz, hap, q⟩ := h
  cases rx
  obtain ⟨u, rfl, ru⟩ := L2.vals1 rxs
  cases ru
  obtain ⟨z1, hd1, vs, rel, dd⟩ := L2.dt_of I.hok ha
  obtain ⟨z2, hd2, ws, rel2, dd2⟩ := L2.dt_rd I.hok hb
  have l1 : ks.length = vs.length := PySem.Paired.length rel
  have l2 : ls.length = ws.length := PySem.Paired.length rel2
  have kw : ws.map (·.1) = ls.map (·.1) := KT_keys rel2
  refine PySem.call_update_dictH (knd := tupleKind (mixKind X.prog X.w)) (PySem.tupleKind_room_in1 hu) hne hd2 dd dd2 ?_ (by omega) fun h' dd' _ hs => ?_
  · rcases hap with h | h
    · exact .inl fun e => h (by rw [e] at l1; exact List.length_eq_zero_iff.mp l1)
    · refine .inr ⟨fun x hx => ?_, ?_⟩
      · obtain ⟨k, hk⟩ := KT_mem rel2 hx
        obtain ⟨_, its, _, hT⟩ := (show ObjOk X.prog X.w H s.heap x.2.1 (.tup (k.map kV)) from I.hok _ _ hk)
        exact hT.typeIs
      · have := h X.prog X.w
        have e : (ws.map fun x => (tupleKind (mixKind X.prog X.w)).hash x.1) = ls.map fun kv => (tupleKind (mixKind X.prog X.w)).hash kv.1 := by
          have := congrArg (List.map (tupleKind (mixKind X.prog X.w)).hash) kw
          rw [List.map_map, List.map_map] at this
          exact this
        rw [e]; exact this
  · obtain ⟨o, es, ep, hq, h2, h3, h4, _, h5⟩ := dd'
    have I2 : L2.Inv X pins σ (L2.upd H a (.dT (mergeT ks ls))) { s with heap := h' } :=
      L2.d_write (t' := s.toks) I (by rw [ha]; exact True.intro) hs ⟨o, hq⟩ ⟨Nat.le_trans (mergeT_le ks ls) hz, hd1, _, (KT_merge rel2 rel).keeps (fun c ys ec => (by rw [L2.upd_ne (ne_of ec ha (fun z => nomatch z))]; exact ec)), o, es, ep, hq, h2, h3, h4, h5⟩
    exact ⟨.non, _, I2, rfl, q⟩
theorem RKs.upd {K : PySem.W.Frag} {fi Z : List Addr} {H : Hp} : ∀ {more : KVs} {ls : List (Key × V)} {kvs : KVs} {ks : List (Key × V)}, RKs K fi Z H more ls → RKs K fi Z H kvs ks → RKs K fi Z H (updAll kvs more) (mergeK ks ls)
  | [], ls, kvs, ks, r, r0 => by cases r; exact r0
  | p :: q, ls, kvs, ks, r, r0 => by
    obtain ⟨k, v, ls', rfl, e2, h1, h2⟩ := r
    show RKs K fi Z H (updAll (setK kvs p.1 p.2) q) (mergeK (putK ks k v) ls')
    rw [e2]
    exact RKs.upd h2 (RKs.put k r0 h1)
theorem RTs.upd {K : PySem.W.Frag} {fi Z : List Addr} {H : Hp} : ∀ {more : KVs} {ls : List (List Key × V)} {kvs : KVs} {ks : List (List Key × V)}, RTs K fi Z H more ls → RTs K fi Z H kvs ks → RTs K fi Z H (updAll kvs more) (mergeT ks ls)
  | [], ls, kvs, ks, r, r0 => by cases r; exact r0
  | p :: q, ls, kvs, ks, r, r0 => by
    obtain ⟨v, ls', rfl, h1, h2⟩ := r
    show RTs K fi Z H (updAll (setK kvs p.1 p.2) q) (mergeT (putK ks p.1 v) ls')
    exact RTs.upd h2 (RTs.put p.1 r0 h1)
theorem RTs.keys {K : PySem.W.Frag} {fi Z : List Addr} {H : Hp} : ∀ {kvs : KVs} {ks : List (List Key × V)}, RTs K fi Z H kvs ks → ks.map (·.1) = kvs.map (·.1)
  | [], ks, r => by cases r; rfl
  | p :: q, ks, r => by
    obtain ⟨v, ls', rfl, h1, h2⟩ := r
    rw [List.map_cons, List.map_cons, RTs.keys h2]
theorem md_update (hu : X.A.units + 1 < cLine) : Meths X "update" (isT "dict") updateM := fun T hT => by
  obtain rfl := (eq_of_beq hT)
  refine ⟨"dict.update", PySem.F.plainAttrs_dict, PySem.F.slot_dict_update, PySem.F.type_dict_update, mtRI (MtR.or mt_updK (mt_updT hu)) fun x xs H Q ⟨fi, Z, h, a, as, rh, ra, rs, p⟩ => ?_⟩
  unfold updateM at p
  split at p
  · rename_i n k
    obtain ⟨y, rfl, ry⟩ := rs.one
    split at p
    · exact p.elim
    · rename_i hne
      split at p
      · rename_i t kvs u more eo ed
        split at p
        · rename_i hc
          obtain ⟨rfl, hl, hap⟩ := hc
          obtain ⟨b, rfl, hh⟩ := dct_rd rh ry ed
          simp only [R] at ra ry
          obtain ⟨a, ea, rfl⟩ := ra
          obtain ⟨b', eb, ebb⟩ := ry
          cases ebb
          have ha : a ∈ fi := List.mem_iff_getElem?.mpr ⟨n, ea⟩
          have nab : a ≠ b := fun e => hne ((List.getElem?_inj (List.getElem?_eq_some_iff.mp ea).1 rh.nd).mp (ea.trans (by rw [e]; exact eb.symm)))
          have ro := rh.at_ n _ a eo ea
          rcases hh with ⟨rfl, ls, e2, rl⟩ | ⟨rfl, ls, e2, rl⟩
          · obtain ⟨ks, e1, rk⟩ := ro
            exact .inl ⟨a, b, ks, ls, rfl, rfl, nab, e1, e2, by rw [← rk.len, ← rl.len, sizeLine_eq]; exact hl, p _ _ fi (Grow.upd ha (nfK e1)) (rh.put ea ⟨_, L2.upd_same, (RKs.upd rl rk).tr (Tr.upd ha)⟩) (by simp only [R])⟩
          · obtain ⟨ks, e1, rk⟩ := ro
            refine .inr ⟨a, b, ks, ls, rfl, rfl, nab, e1, e2, by rw [← rk.len, ← rl.len, sizeLine_eq]; exact hl, ?_, p _ _ fi (Grow.upd ha (nfT e1)) (rh.put ea ⟨_, L2.upd_same, (RTs.upd rl rk).tr (Tr.upd ha)⟩) (by simp only [R])⟩
            rcases hap rfl with q | q
            · refine .inl fun e => q ?_
              have := rk.len
              rw [e] at this
              exact List.length_eq_zero_iff.mp this
            · refine .inr fun P w => ?_
              have e3 : (ls.map fun kv => (tupleKind (mixKind P w)).hash kv.1) = more.map fun kv => (tupleKind (mixKind P w)).hash kv.1 := by
                have := congrArg (List.map (tupleKind (mixKind P w)).hash) rl.keys
                rw [List.map_map, List.map_map] at this
                exact this
              rw [e3]
              exact apartT_ok q
        · exact p.elim
      · exact p.elim
  · exact p.elim
end
end Mi

set_option Elab.async false
set_option linter.all false
set_option maxRecDepth 100000
set_option maxHeartbeats 2000000
namespace Mi
open PySem PySem.Spec L2
set_option autoImplicit false

namespace RvT
open PyProof.Rows HT
theorem places (n : Nat) : Builtin.Slice.slicePlaces ((n : Int) - 1) (-1) (-1) = n := by
  unfold Builtin.Slice.slicePlaces
  have h1 : ¬ ((-1 : Int) > 0) := by omega
  simp only [h1, if_false]
  have e : (- (-1) : Int) = 1 := by decide
  rw [e, Int.ediv_one]
  split <;> omega
theorem adjust (n : Nat) : Builtin.Slice.sliceAdjust none none (-1) (n : Int) = ((n : Int) - 1, -1) := by
  unfold Builtin.Slice.sliceAdjust
  have h1 : (-1 : Int) < 0 := by omega
  simp only [h1, if_true]
theorem pick (xs : Array Value) : ((List.range xs.size).filterMap fun (k : Nat) => xs[(((xs.size : Int) - 1) + (k : Int) * -1).toNat]?) = xs.toList.reverse := by
  have e : (fun (k : Nat) => xs[(((xs.size : Int) - 1) + (k : Int) * -1).toNat]?) = fun k => xs[xs.size - 1 - k]? := by
    funext k
    have : (((xs.size : Int) - 1) + (k : Int) * -1).toNat = xs.size - 1 - k := by omega
    rw [this]
  rw [e]
  have := PySem.W.krv_pick xs
  unfold slicePick at this
  rw [PySem.W.krv_bounds] at this
  have t2 : ((sliceRange ((xs.size : Int) - 1) (-1) (-1)).filterMap (xs[·]?)).toArray = xs.toList.reverse.toArray := this
  rw [PySem.W.krv_sliceRange, List.filterMap_map] at t2
  have t3 := congrArg Array.toList t2
  simp only [List.toList_toArray] at t3
  exact t3
section
variable {prog : Program} {w : World} {A : Around} {E : Value → Shared → Prop} {s : Shared}
theorem applied {sl : Addr} {vl vu vs : Value} {n : Nat} {Q : Int × Int × Nat → Shared → Prop} (hs : s.heap.IsSliceOf sl vl vu vs) (pl : IsPart vl none) (pu : IsPart vu none) (ps : IsPart vs (some (-1)))
    (h : Q ((n : Int) - 1, -1, n) s) : wpAny (model prog w) A (Builtin.Slice.sliceApplied (.ref sl) (pure (n : Int))) Q E s := by
  obtain ⟨os, hos, hcs, hds⟩ := id hs
  unfold Builtin.Slice.sliceApplied Builtin.Slice.sliceFields
  refine wpAny_bind (wpAny_bind (wpAny_field hos hds (x := vl) rfl (wpAny_bind (wpAny_field hos hds (x := vu) rfl (wpAny_bind (wpAny_field hos hds (x := vs) rfl (wpAny_pure ?_)))))))
  refine wpAny_bind (slicePart_ ps ?_)
  show wpAny _ _ (if ((-1 : Int) == 0) = true then _ else _) _ _ s
  rw [if_neg (by decide)]
  refine wpAny_bind (slicePart_ pl (wpAny_bind (slicePart_ pu (wpAny_bind (wpAny_pure ?_)))))
  show wpAny _ _ (match Builtin.Slice.sliceAdjust none none (-1) (n : Int) with | (lo, hi) => pure (lo, (-1 : Int), Builtin.Slice.slicePlaces lo hi (-1))) _ _ s
  rw [adjust n]
  show wpAny _ _ (pure ((n : Int) - 1, (-1 : Int), Builtin.Slice.slicePlaces ((n : Int) - 1) (-1) (-1))) _ _ s
  rw [places]
  exact wpAny_pure h
theorem getItem_rev {t sl : Addr} {items : Array Value} {vl vu vs : Value} {Q : Value → Shared → Prop} (ht : IsTup s.heap t items) (hs : s.heap.IsSliceOf sl vl vu vs) (pl : IsPart vl none) (pu : IsPart vu none) (ps : IsPart vs (some (-1)))
    (h : Q (.ref s.heap.objs.size) { s with heap := s.heap.push { cls := .type "tuple", data := .seq items.toList.reverse.toArray } })
    (hsz : items.size ≤ sizeLine) : wpAny (model prog w) A (getItem (.ref t) (.ref sl)) Q E s := by
  have htake : sizeOk (.seq items.toList.reverse.toArray) := by
    show items.toList.reverse.toArray.size ≤ sizeLine
    rw [List.size_toArray, List.length_reverse, Array.length_toList]
    omega
  obtain ⟨os, hos, hcs, hds⟩ := id hs
  have hTs : s.TypeIs (.ref sl) "slice" := ⟨os, hos, hcs⟩
  unfold getItem
  try with_reducible refine wpAny_holding ?_
  first | refine wpAny_bind (wpAny_pure ?_) | skip
  refine wpAny_bind (wpAny_sequenceKey ht.typeIs (by decide) ?_)
  refine wpAny_bind (wpAny_callSpecial?_slot (name := Str.ofString "__getitem__") ht.typeIs PyProof.Rows.slot_tuple_getitem
    (wpAny_call_entry PyProof.Rows.slot_tuple_getitem ht.typeIs entry_tuple_getitem ?_ (args_tuple_getitem _ _)))
  show wpAny _ _ (Builtin.Tuple.tupleItemsOf (.ref t) >>= _) _ _ s
  refine wpAny_bind (tupleItemsOf_ ht ?_)
  refine wpAny_bind (wpAny_typeOf hTs ?_)
  rw [if_pos (by decide)]
  refine wpAny_bind (applied hs pl pu ps ?_)
  have hno : ¬ ((((items.size : Int) - 1) == 0 && (-1 : Int) == 1 && items.size == items.size) = true) := by
    intro q
    rw [Bool.and_eq_true, Bool.and_eq_true] at q
    exact absurd (eq_of_beq q.1.2) (by decide)
  show wpAny _ _ (if (((items.size : Int) - 1) == 0 && (-1 : Int) == 1 && items.size == items.size) = true then _ else _) _ _ s
  rw [if_neg hno, pick]
  first
    | exact wpAny_bind (m := Builtin.Tuple.tupleExact _) (wpAny_newObj_type (wpAny_pure ⟨_, rfl, wpAny_pure h⟩) htake)
    | exact wpAny_bind (m := Builtin.Tuple.tupleExact _) (wpAny_newObj_type (wpAny_bind (wpAny_pure (wpAny_pure ⟨_, rfl, wpAny_pure h⟩))) htake)
    | exact wpAny_bind (wpAny_bind (m := Builtin.Tuple.tupleExact _) (wpAny_newObj_type (wpAny_pure (wpAny_pure ⟨_, rfl, wpAny_pure h⟩)) htake))
    | exact wpAny_bind (wpAny_bind (m := Builtin.Tuple.tupleExact _) (wpAny_newObj_type (wpAny_pure ⟨_, rfl, wpAny_pure h⟩) htake))
end
end RvT
def revTM (m : Bool) : Op1 := fun a h => match a with
  | .tup xs => some (.tup xs.reverse, h)
  | a => revM m a h
section
variable {X : Cx} {W : WX} {a : Expr} {fa : MEnv → MH → Res MV} {pos : Pos}
theorem me_rev (m : Bool) {k : Nat} {q1 q2 q3 : Pos} (he : PE X a (tE X.K W fa)) : PE X (.Subscript a (.Slice none none (some (.UnaryOp .USub (.Constant (.int 1) k q1) q2)) q3) pos) (tE X.K W (ev1 (revTM m) fa)) := by
  refine ⟨fun pins s σ H Q I ⟨fi, Z, env, h, re, rh, p⟩ => ?_⟩
  refine PyProof.Rows.Subscript_ (thn (he.run pins s σ H _ I ⟨fi, Z, env, h, re, rh, Pst.bind (rel' := R X.K) p⟩) fun v s1 ⟨x, H1, I1, r1, fi1, m1, h1, g1, rh1, ra, p1⟩ => ?_)
  have hst : PO X (some (.UnaryOp .USub (.Constant (.int 1) k q1) q2)) (tPart (tUn (rU fun i => .int (-i)) (tC (.int 1)))) := po_some (pe_un un_neg pe_int)
  refine PySem.wpAny_Slice (thn (po_none.run pins s1 σ H1 (fun o H2 => o = none ∧ H2 = H1) I1 ⟨rfl, rfl⟩) fun vl s2 ⟨l, H2, I2, pl, el, e2⟩ => ?_)
  subst el e2
  refine thn (po_none.run pins s2 σ H2 (fun o H3 => o = none ∧ H3 = H2) I2 ⟨rfl, rfl⟩) fun vu s3 ⟨u, H3, I3, pu, eu, e3⟩ => ?_
  subst eu e3
  refine thn (hst.run pins s3 σ H3 (fun o H4 => o = some (-1) ∧ H4 = H3) I3 ⟨1, rfl, -1, rfl, rfl, rfl⟩) fun vs s4 ⟨o, H4, I4, ps, eo, e4⟩ => ?_
  subst eo e4
  have I5 : Inv X pins σ H4 { s4 with heap := s4.heap.push { cls := .type "slice", data := .fields #[vl, vu, vs] } } := I4.kept (t' := s4.toks) fun b ob q => Heap.get?_push_of_some _ q
  have p2 := PV.of p1
  have fin : PV X.K fi1 Z H4 (revM m m1 h1) Q → wpAny (model X.prog X.w) X.A (PyProof.Rows.subscriptTail a (.Slice none none (some (.UnaryOp .USub (.Constant (.int 1) k q1) q2)) q3) v (.ref s4.heap.objs.size)) (EP X pins σ Q) X.xe { s4 with heap := s4.heap.push { cls := .type "slice", data := .fields #[vl, vu, vs] } } := fun p2 => by
    unfold revM at p2
    split at p2
    · rename_i xs ex
      obtain ⟨b, ys, rfl, e1, rl⟩ := sqLOf_R rh1 ra ex
      cases r1
      obtain ⟨its, r, ht, hz⟩ := I5.list e1
      refine PyProof.Rows.tail_any (ops := [.ref b, .ref s4.heap.objs.size]) ht.isList.typeIs (PySem.slot_list_getitem.lookup) ?_ (by with_unfolding_all rfl)
      refine wpAny_getItem_list_slice ht.isList (Heap.IsSliceOf.new _ vl vu vs) pl pu ps (by decide) ?_ (by rw [List.size_toArray]; rw [r.length] at hz; exact hz)
      rw [PySem.W.krv_pick]
      refine ⟨.ref _, _, I5.laid (t' := s4.toks) (o := .lst ys.reverse) (fun b ob q => Heap.get?_push_of_some _ q) (Nat.le_refl _) ?_, rfl, (p2.newL rh1 rl.reverse).2 _ (I5.hok.fresh (Nat.le_refl _))⟩
      exact ⟨by rw [List.length_reverse]; exact hz, _, 0, r.reverse, Heap.get?_push_size _ rfl⟩
    · exact p2.elim
  unfold revTM at p2
  split at p2
  · rename_i xs
    obtain ⟨b, ys, rfl, e1, l, rl⟩ := tup_R ra
    cases r1
    obtain ⟨its, r, ht, hz⟩ := I5.tuple e1
    refine PyProof.Rows.tail_any (ops := [.ref b, .ref s4.heap.objs.size]) ht.typeIs (PyProof.Rows.slot_tuple_getitem.lookup) ?_ (by with_unfolding_all rfl)
    refine RvT.getItem_rev ht (Heap.IsSliceOf.new _ vl vu vs) pl pu ps ?_ (by rw [List.size_toArray]; rw [r.length] at hz; exact hz)
    have hn := I5.hok.fresh (Nat.le_refl _)
    refine ⟨.ref _, _, I5.laid (t' := s4.toks) (o := .tup ys.reverse) (fun b ob q => Heap.get?_push_of_some _ q) (Nat.le_refl _) ?_, rfl, p2 _ _ fi1 (Grow.laid hn) (rh1.laid hn) (R.tup_new rh1 hn rl.reverse (by rw [List.length_reverse]; exact l))⟩
    exact ⟨by rw [List.length_reverse]; exact hz, _, r.reverse, _, Heap.get?_push_size _ rfl, rfl, 0, rfl⟩
  · exact fin p2
end
end Mi

set_option Elab.async false
set_option linter.all false
set_option maxRecDepth 100000
set_option maxHeartbeats 2000000
namespace Mi
open PySem PySem.Spec L2
set_option autoImplicit false

theorem depthAll_le {n : Nat} : ∀ {ds : List PyData}, (∀ d ∈ ds, d.depth ≤ n) → PyData.depthAll ds ≤ n
  | [], _ => by simp [PyData.depthAll]
  | d :: ds, h => by
    rw [PyData.depthAll]
    exact Nat.max_le.mpr ⟨h d List.mem_cons_self, depthAll_le fun e he => h e (List.mem_cons_of_mem _ he)⟩
theorem mapM_mem {α β : Type} {f : α → Option β} : ∀ {xs : List α} {ys : List β}, xs.mapM f = some ys → ∀ y ∈ ys, ∃ x ∈ xs, f x = some y
  | [], ys, e, y, hy => by
    rw [List.mapM_nil] at e
    cases e; cases hy
  | x :: xs, ys, e, y, hy => by
    rw [List.mapM_cons] at e
    cases e1 : f x with
    | none => rw [e1] at e; cases e
    | some z =>
      rw [e1] at e
      cases e2 : xs.mapM f with
      | none => rw [e2] at e; cases e
      | some zs =>
        rw [e2] at e
        cases e
        rcases List.mem_cons.mp hy with q | q
        · exact ⟨x, List.mem_cons_self, q ▸ e1⟩
        · obtain ⟨u, hu, eu⟩ := mapM_mem e2 y q
          exact ⟨u, List.mem_cons_of_mem _ hu, eu⟩
theorem mapM_len {α β : Type} {f : α → Option β} : ∀ {xs : List α} {ys : List β}, xs.mapM f = some ys → xs.length = ys.length
  | [], ys, e => by
    rw [List.mapM_nil] at e
    cases e; rfl
  | x :: xs, ys, e => by
    rw [List.mapM_cons] at e
    cases e1 : f x with
    | none => rw [e1] at e; cases e
    | some z =>
      rw [e1] at e
      cases e2 : xs.mapM f with
      | none => rw [e2] at e; cases e
      | some zs =>
        rw [e2] at e
        cases e
        rw [List.length_cons, List.length_cons, mapM_len e2]
theorem pdM_depth (h : MH) : ∀ (k : Nat) (m : MV) (d : PyData), pdM h k m = some d → d.depth ≤ k
  | 0, m, d, e => by cases e
  | k + 1, m, d, e => by
    have all : ∀ {xs : List MV} {ds : List PyData}, xs.mapM (pdM h k) = some ds → PyData.depthAll ds ≤ k := fun {xs ds} e =>
      depthAll_le fun d hd => by
        obtain ⟨x, _, ex⟩ := mapM_mem e d hd
        exact pdM_depth h k x d ex
    have fin : (match sqLOf h m with | some xs => (xs.mapM (pdM h k)).map PyData.list | none => none) = some d → d.depth ≤ k + 1 := by
      intro e
      split at e
      · rename_i xs ex
        cases e2 : xs.mapM (pdM h k) with
        | none => rw [e2] at e; cases e
        | some ds => rw [e2] at e; cases e; rw [PyData.depth]; have := all e2; omega
      · cases e
    cases m with
    | non => cases e; simp [PyData.depth]
    | bl b => cases e; simp [PyData.depth]
    | int b => cases e; simp [PyData.depth]
    | str b => cases e; simp [PyData.depth]
    | tup xs =>
      simp only [pdM] at e
      cases e2 : xs.mapM (pdM h k) with
      | none => rw [e2] at e; cases e
      | some ds => rw [e2] at e; cases e; rw [PyData.depth]; have := all e2; omega
    | lst xs => exact fin e
    | scr xs => exact fin e
    | ref xs => exact fin e
    | rng lo hi => exact fin e
    | exc c ks xs => exact fin e
def alikeB (ds : List PyData) : Bool := ds.all fun d => ds.all fun e => PySem.W.alike d e
def isTup1 : PyData → Bool
  | .tuple (_ :: _) => true
  | _ => false
def notNT : PyData → Bool
  | .none => false
  | .tuple _ => false
  | _ => true
def notN : PyData → Bool
  | .none => false
  | _ => true
def sortOk (ds : List PyData) : Bool := alikeB ds && (ds.all isTup1 || ds.all notNT)
theorem alikeB_ok {ds : List PyData} (h : alikeB ds = true) : PySem.W.AllAlike ds := fun d hd e he => by
  unfold alikeB at h
  rw [List.all_eq_true] at h
  have := h d hd
  rw [List.all_eq_true] at this
  exact this e he
theorem sortOk_ok {ds : List PyData} (h : sortOk ds = true) : PySem.W.AllAlike ds ∧ PySem.W.Sortable ds := by
  unfold sortOk at h
  rw [Bool.and_eq_true, Bool.or_eq_true] at h
  refine ⟨alikeB_ok h.1, ?_⟩
  rcases h.2 with q | q
  · refine .inl fun d hd => ?_
    have := List.all_eq_true.mp q d hd
    unfold isTup1 at this
    split at this
    · exact ⟨_, _, rfl⟩
    · cases this
  · refine .inr fun d hd => ?_
    have := List.all_eq_true.mp q d hd
    unfold notNT at this
    split at this
    · cases this
    · cases this
    · rename_i h1 h2
      exact ⟨h1, h2⟩
def pdL (h : MH) (xs : List MV) : Option (List PyData) := xs.mapM (pdM h 60)
def sortV (xs : List MV) (ds : List PyData) : List MV := ((xs.zip ds).mergeSort (PySem.W.dataLe false Prod.snd)).map Prod.fst
def sortedM (m : Bool) : OpN := fun xs h => match xs with
  | [x] => match sqLOf h x with
    | some xs => match pdL h xs with
      | some ds => if sortOk ds = true then newL m (sortV xs ds) h else none
      | none => none
    | none => none
  | _ => none
section
variable {K : PySem.W.Frag} {fi Z : List Addr} {H : Hp}
/-- .. what stands behind the items of a list -/
theorem each_of {P : V → MV → Prop} : ∀ {vs : List V} {its : List Value} {xs : List MV} {ds : List PyData}, Vals vs its → xs.length = ds.length → RL K fi Z H xs vs →
    PySem.W.EachIs (fun (u : Value) (b : MV × PyData) => ∃ x, RelV x u ∧ R K fi Z H b.1 x) its (xs.zip ds)
  | vs, its, [], ds, rv, hl, r => by
    simp only [RL] at r; subst r
    cases rv
    exact .nil
  | vs, its, x :: xs, [], rv, hl, r => by cases hl
  | vs, its, x :: xs, d :: ds, rv, hl, r => by
    simp only [RL] at r
    obtain ⟨v, t, rfl, h1, h2⟩ := r
    cases rv with
    | cons r1 r2 => exact .cons ⟨v, r1, h1⟩ (each_of (P := P) r2 (by simpa using hl) h2)
theorem of_each : ∀ {its : List Value} {bs : List (MV × PyData)}, PySem.W.EachIs (fun (u : Value) (b : MV × PyData) => ∃ x, RelV x u ∧ R K fi Z H b.1 x) its bs → ∃ vs, Vals vs its ∧ RL K fi Z H (bs.map Prod.fst) vs
  | _, _, .nil => ⟨[], .nil, RL.nil⟩
  | _, _, .cons ⟨x, r1, r2⟩ t => by
    obtain ⟨vs, h1, h2⟩ := of_each t
    exact ⟨x :: vs, .cons r1 h1, RL.cons r2 h2⟩
theorem each_reads {X : Cx} {pins : List (Addr × Obj)} {σ : L2.St} {H : Hp} {s : Shared} (I : L2.Inv X pins σ H s) : ∀ {vs : List V} {its : List Value} {xs : List MV} {ds : List PyData}, Vals vs its → xs.length = ds.length → DpAll X.K H vs ds →
    PySem.W.EachIs (fun (u : Value) (b : MV × PyData) => ∃ as, Reads s.heap u b.2 as) its (xs.zip ds)
  | vs, its, [], ds, rv, hl, r => by
    cases ds with
    | cons d ds => cases hl
    | nil =>
      cases r
      cases rv
      exact .nil
  | vs, its, x :: xs, [], rv, hl, r => by cases hl
  | vs, its, x :: xs, d :: ds, rv, hl, r => by
    cases r with
    | cons h1 h2 =>
      cases rv with
      | cons r1 r2 => exact .cons (Dp.reads I d _ _ h1 r1) (each_reads I r2 (by simpa using hl) h2)
end
section
variable {X : Cx}
theorem cb_sorted (hu : X.A.units + 65 < cLine) (m : Bool) : CallR X (.builtin "sorted") (rN X.K (sortedM m)) := by
  intro pins s σ H xs us Q I r ⟨fi, Z, h, as, rh, ra, p⟩
  unfold sortedM at p
  split at p
  · rename_i x
    obtain ⟨v, rfl, r1⟩ := ra.one
    split at p
    · rename_i ys es
      split at p
      · rename_i ds ed
        split at p
        · rename_i hk
          obtain ⟨hal, hso⟩ := sortOk_ok hk
          obtain ⟨a, vs, rfl, e1, rl⟩ := sqLOf_R rh r1 es
          obtain ⟨its, rv, hl, hz⟩ := I.list e1
          rw [Vals.ref1 r]
          have hlen : ys.length = ds.length := mapM_len ed
          have hds : (ys.zip ds).map Prod.snd = ds := List.map_snd_zip (by omega)
          have hdp : DpAll X.K H vs ds := pdAll_R (fun m v d r q => pd_R rh 60 m v d r q) rl ed
          have hdep : ∀ b : MV × PyData, b ∈ ys.zip ds → X.A.units + 2 + b.2.depth < cLine := fun b hb => by
            have h1 : b.2 ∈ ds := (List.of_mem_zip hb).2
            obtain ⟨x, _, ex⟩ := mapM_mem ed _ h1
            have := pdM_depth h 60 x _ ex
            omega
          refine PySem.W.sorted_data (enc := Prod.snd) (bs := ys.zip ds) (R := fun (u : Value) (b : MV × PyData) => ∃ x, RelV x u ∧ R X.K fi Z H b.1 x) hl.isList (each_of (P := fun _ _ => True) rv hlen rl) (each_reads I rv hlen hdp) (by rw [hds]; exact hal) (by rw [hds]; exact hso)
            (by rw [List.length_zip, ← hlen, Nat.min_self, rl.length]; exact hz) hdep fun out hlo he => ?_
          obtain ⟨zs, h1, h2⟩ := of_each he
          obtain ⟨ep, he'⟩ := PyProof.Rows.sortedAll_at s.heap its out.toArray
          obtain ⟨hln, q⟩ := p.newL rh h2
          exact ⟨.ref _, upd H (s.heap.objs.size + 1) (.lst zs), I.laid (t' := s.toks) (fun _ _ => PyProof.Rows.sortedAll_old) (Nat.le_succ _) ⟨hln, out, ep, h1, he'⟩, rfl, q _ (I.hok.fresh (Nat.le_succ _))⟩
        · exact p.elim
      · exact p.elim
    · exact p.elim
  · exact p.elim
end
end Mi

set_option Elab.async false
set_option linter.all false
set_option maxRecDepth 100000
set_option maxHeartbeats 2000000
namespace Mi
open PySem PySem.Spec L2
set_option autoImplicit false

mutual
/-- no lists within -/
def noL : MV → Bool
  | .non => true
  | .bl _ => true
  | .int _ => true
  | .str _ => true
  | .tup xs => noLs xs
  | _ => false
def noLs : List MV → Bool
  | [] => true
  | m :: ms => noL m && noLs ms
end
theorem pdM_noL (h : MH) : ∀ (k k' : Nat) (m m' : MV) (d : PyData), noL m = true → noL m' = true → pdM h k m = some d → pdM h k' m' = some d → m = m'
  | 0, _, m, m', d, _, _, e, _ => by cases e
  | k + 1, 0, m, m', d, _, _, _, e => by cases e
  | k + 1, k' + 1, m, m', d, n, n', e, e' => by
    have all : ∀ (xs ys : List MV) (ds : List PyData), noLs xs = true → noLs ys = true → xs.mapM (pdM h k) = some ds → ys.mapM (pdM h k') = some ds → xs = ys := by
      intro xs
      induction xs with
      | nil =>
        intro ys ds _ _ e1 e2
        rw [List.mapM_nil] at e1
        cases e1
        cases ys with
        | nil => rfl
        | cons y ys => have := mapM_len e2; cases this
      | cons x xs ih =>
        intro ys ds n1 n2 e1 e2
        simp only [noLs, Bool.and_eq_true] at n1
        cases ys with
        | nil =>
          rw [List.mapM_nil] at e2
          cases e2
          have := mapM_len e1; cases this
        | cons y ys =>
          simp only [noLs, Bool.and_eq_true] at n2
          rw [List.mapM_cons] at e1 e2
          cases a1 : pdM h k x with
          | none => rw [a1] at e1; cases e1
          | some d1 =>
            cases a2 : pdM h k' y with
            | none => rw [a2] at e2; cases e2
            | some d2 =>
              rw [a1] at e1; rw [a2] at e2
              cases b1 : xs.mapM (pdM h k) with
              | none => rw [b1] at e1; cases e1
              | some ds1 =>
                cases b2 : ys.mapM (pdM h k') with
                | none => rw [b2] at e2; cases e2
                | some ds2 =>
                  rw [b1] at e1; rw [b2] at e2
                  cases e1
                  have z : d2 :: ds2 = d1 :: ds1 := Option.some.inj e2
                  cases z
                  rw [pdM_noL h k k' x y d1 n1.1 n2.1 a1 a2, ih ys ds1 n1.2 n2.2 b1 b2]
    cases m with
    | non => cases e; cases m' <;> first | rfl | (simp [noL] at n'; done) | (simp [pdM] at e'; done)
    | bl b => cases e; cases m' <;> first | (simp [noL] at n'; done) | (simp [pdM] at e'; try rw [e'])
    | int b => cases e; cases m' <;> first | (simp [noL] at n'; done) | (simp [pdM] at e'; try rw [e'])
    | str b => cases e; cases m' <;> first | (simp [noL] at n'; done) | (simp [pdM] at e'; try rw [e'])
    | tup xs =>
      simp only [pdM] at e
      cases e2 : xs.mapM (pdM h k) with
      | none => rw [e2] at e; cases e
      | some ds =>
        rw [e2] at e
        cases e
        cases m' with
        | tup ys =>
          simp only [pdM] at e'
          cases e3 : ys.mapM (pdM h k') with
          | none => rw [e3] at e'; cases e'
          | some ds' =>
            rw [e3] at e'
            cases e'
            simp only [noL] at n n'
            rw [all xs ys ds n n' e2 e3]
        | _ => first | (simp [noL] at n'; done) | (simp [pdM] at e'; done)
    | lst xs => simp [noL] at n
    | scr xs => simp [noL] at n
    | ref xs => simp [noL] at n
    | rng lo hi => simp [noL] at n
    | exc c ks xs => simp [noL] at n
/-- the first of the best -/
def bestV (lt : PyData → PyData → Bool) (b : MV × PyData) (bs : List (MV × PyData)) : MV × PyData := bs.foldl (fun a y => if lt y.2 a.2 then y else a) b
theorem bestV_snd (lt : PyData → PyData → Bool) : ∀ (bs : List (MV × PyData)) (b : MV × PyData), (bestV lt b bs).2 = (bs.map Prod.snd).foldl (fun a y => if lt y a then y else a) b.2
  | [], b => rfl
  | c :: bs, b => by
    show (bestV lt (if lt c.2 b.2 then c else b) bs).2 = _
    rw [bestV_snd lt bs]
    rw [List.map_cons, List.foldl_cons]
    congr 1
    split <;> rfl
theorem bestV_mem (lt : PyData → PyData → Bool) : ∀ (bs : List (MV × PyData)) (b : MV × PyData), bestV lt b bs = b ∨ bestV lt b bs ∈ bs
  | [], b => .inl rfl
  | c :: bs, b => by
    show bestV lt (if lt c.2 b.2 then c else b) bs = b ∨ bestV lt (if lt c.2 b.2 then c else b) bs ∈ c :: bs
    rcases bestV_mem lt bs (if lt c.2 b.2 then c else b) with q | q
    · rw [q]
      split
      · exact .inr List.mem_cons_self
      · exact .inl rfl
    · exact .inr (List.mem_cons_of_mem _ q)
def bestOk (ms : List MV) (ds : List PyData) : Bool := alikeB ds && (ds.all notN && noLs ms)
def bestDM (lt : PyData → PyData → Bool) : OpN := fun xs h => match xs with
  | [x] => match sqOf h x with
    | some (m :: ms) => match pdM h 60 m, pdL h ms with
      | some d, some ds => if bestOk (m :: ms) (d :: ds) = true then some ((bestV lt (m, d) (ms.zip ds)).1, h) else none
      | _, _ => none
    | _ => none
  | _ => none
def gtD (a b : PyData) : Bool := PySem.W.dataLt b a
def minDM : OpN := fun xs h => match minM xs h with
  | some r => some r
  | none => bestDM PySem.W.dataLt xs h
def maxDM : OpN := fun xs h => match maxM xs h with
  | some r => some r
  | none => bestDM gtD xs h
theorem noLs_mem : ∀ {ms : List MV}, noLs ms = true → ∀ m ∈ ms, noL m = true
  | [], _, m, hm => by cases hm
  | a :: ms, h, m, hm => by
    simp only [noLs, Bool.and_eq_true] at h
    rcases List.mem_cons.mp hm with q | q
    · exact q ▸ h.1
    · exact noLs_mem h.2 m q
theorem zip_pd {h : MH} : ∀ {ms : List MV} {ds : List PyData}, ms.mapM (pdM h 60) = some ds → ∀ p ∈ ms.zip ds, p.1 ∈ ms ∧ p.2 ∈ ds ∧ pdM h 60 p.1 = some p.2
  | [], ds, e, p, hp => by cases hp
  | m :: ms, ds, e, p, hp => by
    rw [List.mapM_cons] at e
    cases e1 : pdM h 60 m with
    | none => rw [e1] at e; cases e
    | some d =>
      rw [e1] at e
      cases e2 : ms.mapM (pdM h 60) with
      | none => rw [e2] at e; cases e
      | some es =>
        rw [e2] at e
        cases e
        rw [List.zip_cons_cons] at hp
        rcases List.mem_cons.mp hp with q | q
        · subst q; exact ⟨List.mem_cons_self, List.mem_cons_self, e1⟩
        · obtain ⟨h1, h2, h3⟩ := zip_pd e2 p q
          exact ⟨List.mem_cons_of_mem _ h1, List.mem_cons_of_mem _ h2, h3⟩
section
variable {X : Cx}
theorem notN_ne {d : PyData} (h : notN d = true) : d ≠ .none := fun e => by subst e; cases h
/-- what min and max of data hand back -/
theorem best_end {lt : PyData → PyData → Bool} {pins : List (Addr × Obj)} {σ : L2.St} {H : Hp} {s : Shared} {fi Z : List Addr} {h : MH} {Q : VK} {m : MV} {ms : List MV} {d : PyData} {ds : List PyData} {vs : List V} {its : List Value} (I : L2.Inv X pins σ H s) (rh : RH X.K fi Z H h)
    (rv : Vals vs its) (rl : RL X.K fi Z H (m :: ms) vs) (e1 : pdM h 60 m = some d) (e2 : pdL h ms = some ds) (hk : bestOk (m :: ms) (d :: ds) = true) (p : PV X.K fi Z H (some ((bestV lt (m, d) (ms.zip ds)).1, h)) Q) :
    ∃ as, ReadsAll s.heap its (d :: ds) as ∧ PySem.W.AlikeAll (d :: ds) ∧ PyData.depthAll (d :: ds) ≤ 60 ∧ ∀ (i : Nat) v h' tk bs, its.toArray[i]? = some v → Reads h' v (ds.foldl (fun a y => if lt y a then y else a) d) bs → (∀ b o, s.heap.get? b = some o → h'.get? b = some o) → EP X pins σ Q v { s with heap := h', toks := tk } := by
  have e3 : (m :: ms).mapM (pdM h 60) = some (d :: ds) := by
    rw [List.mapM_cons, e1]
    unfold pdL at e2
    rw [e2]; rfl
  have hdp : DpAll X.K H vs (d :: ds) := pdAll_R (fun m v d r q => pd_R rh 60 m v d r q) rl e3
  obtain ⟨as, hr⟩ := Dp.readsAll I (d :: ds) vs its hdp rv
  unfold bestOk at hk
  rw [Bool.and_eq_true, Bool.and_eq_true] at hk
  obtain ⟨k1, k2, k3⟩ := hk
  have hal := alikeB_ok k1
  refine ⟨as, hr, ⟨fun x hx y hy => hal x hx y hy, fun x hx => notN_ne (List.all_eq_true.mp k2 x hx)⟩, depthAll_le fun x hx => ?_, ?_⟩
  · obtain ⟨y, _, ey⟩ := mapM_mem e3 x hx
    exact pdM_depth h 60 y x ey
  · intro i v h' tk bs hi hv hk'
    rw [List.getElem?_toArray] at hi
    have hz : (m, d) :: ms.zip ds = (m :: ms).zip (d :: ds) := by rw [List.zip_cons_cons]
    have hb : bestV lt (m, d) (ms.zip ds) ∈ (m :: ms).zip (d :: ds) := by
      rw [← hz]
      rcases bestV_mem lt (ms.zip ds) (m, d) with q | q
      · rw [q]; exact List.mem_cons_self
      · exact List.mem_cons_of_mem _ q
    obtain ⟨b1, b2, b3⟩ := zip_pd e3 _ hb
    have hs : (bestV lt (m, d) (ms.zip ds)).2 = ds.foldl (fun a y => if lt y a then y else a) d := by
      rw [bestV_snd, List.map_snd_zip (by have := mapM_len e2; omega)]
    rw [← hs] at hv
    -- the item at i
    have hlt : i < its.length := (List.getElem?_eq_some_iff.mp hi).1
    have hv1 : i < vs.length := by rw [rv.length]; exact hlt
    obtain ⟨mi, ei, ri⟩ := rl.get' (List.getElem?_eq_getElem hv1)
    have hd1 : i < (d :: ds).length := by rw [← mapM_len e3]; exact (List.getElem?_eq_some_iff.mp ei).1
    have hzi : (mi, (d :: ds)[i]) ∈ (m :: ms).zip (d :: ds) := by
      refine List.mem_iff_getElem?.mpr ⟨i, ?_⟩
      rw [List.getElem?_zip_eq_some]
      exact ⟨ei, List.getElem?_eq_getElem hd1⟩
    obtain ⟨c1, c2, c3⟩ := zip_pd e3 _ hzi
    have hrv : RelV vs[i] v := by
      obtain ⟨u, hu1, hu2⟩ := rv.get (List.getElem?_eq_getElem hv1)
      rw [hi] at hu1
      cases hu1
      exact hu2
    obtain ⟨as2, r2⟩ := Dp.reads I _ _ v (pd_R rh 60 mi _ _ ri c3) hrv
    have eq1 := PySem.W.alike_unique _ _ _ _ _ (hal _ c2 _ b2) (PySem.W.reads_keeps hk' r2) hv
    have eq2 : mi = (bestV lt (m, d) (ms.zip ds)).1 := by
      refine pdM_noL h 60 60 _ _ _ (noLs_mem k3 _ c1) (noLs_mem k3 _ b1) c3 ?_
      rw [b3]
      exact congrArg some eq1.symm
    rw [← eq2] at p
    exact ⟨_, H, I.kept hk', hrv, p.ok rh ri⟩
theorem cb_minD (hc : X.calm = true) (hu : X.A.units + 65 < cLine) : CallR X (.builtin "min") (rN X.K minDM) := by
  intro pins s σ H xs us Q I r ⟨fi, Z, h, as, rh, ra, p⟩
  unfold minDM at p
  split at p
  · rename_i q eq
    exact cb_min hc pins s σ H xs us Q I r ⟨fi, Z, h, as, rh, ra, by rw [eq]; exact p⟩
  · unfold bestDM at p
    split at p
    · rename_i x
      obtain ⟨v, rfl, r1⟩ := ra.one
      split at p
      · rename_i m ms es
        split at p
        · rename_i d ds e1 e2
          split at p
          · rename_i hk
            obtain ⟨a, vs, rfl, hq, rl⟩ := sqOf_R rh r1 es
            rw [Vals.ref1 r]
            rcases hq with hq | hq
            · obtain ⟨its, rv, hl, hz⟩ := I.list hq
              obtain ⟨as, q1, q2, q3, q4⟩ := best_end I rh rv rl e1 e2 hk p
              exact PySem.W.min_list_data (I.ok.hd hc) hl.isList (by simpa using q1) q2 (by omega) q4
            · obtain ⟨its, rv, hl, hz⟩ := I.tuple hq
              obtain ⟨as, q1, q2, q3, q4⟩ := best_end I rh rv rl e1 e2 hk p
              exact PySem.W.min_tuple_data (I.ok.hd hc) hl (by simpa using q1) q2 (by omega) q4
          · exact p.elim
        · exact p.elim
      · exact p.elim
    · exact p.elim
theorem cb_maxD (hc : X.calm = true) (hu : X.A.units + 65 < cLine) : CallR X (.builtin "max") (rN X.K maxDM) := by
  intro pins s σ H xs us Q I r ⟨fi, Z, h, as, rh, ra, p⟩
  unfold maxDM at p
  split at p
  · rename_i q eq
    exact cb_max hc pins s σ H xs us Q I r ⟨fi, Z, h, as, rh, ra, by rw [eq]; exact p⟩
  · unfold bestDM at p
    split at p
    · rename_i x
      obtain ⟨v, rfl, r1⟩ := ra.one
      split at p
      · rename_i m ms es
        split at p
        · rename_i d ds e1 e2
          split at p
          · rename_i hk
            obtain ⟨a, vs, rfl, hq, rl⟩ := sqOf_R rh r1 es
            rw [Vals.ref1 r]
            rcases hq with hq | hq
            · obtain ⟨its, rv, hl, hz⟩ := I.list hq
              obtain ⟨as, q1, q2, q3, q4⟩ := best_end I rh rv rl e1 e2 hk p
              exact PySem.W.max_list_data (I.ok.hd hc) hl.isList (by simpa using q1) q2 (by omega) q4
            · obtain ⟨its, rv, hl, hz⟩ := I.tuple hq
              obtain ⟨as, q1, q2, q3, q4⟩ := best_end I rh rv rl e1 e2 hk p
              exact PySem.W.max_tuple_data (I.ok.hd hc) hl (by simpa using q1) q2 (by omega) q4
          · exact p.elim
        · exact p.elim
      · exact p.elim
    · exact p.elim
def bitsM : OpM := fun _ x as h => match x, as with
  | .int i, [] => some (.int (Builtin.Int.intBits i : Nat), h)
  | _, _ => none
theorem mi_bits : Meths X "bit_length" (isT "int") bitsM := fun T hT => by
  obtain rfl := (eq_of_beq hT)
  refine ⟨"int.bit_length", PySem.F.plainAttrs_int, PyProof.Rows.slot_int_bit_length, PyProof.Rows.type_int_bit_length, fun pins s σ H x xs v us Q I rx rxs ⟨fi, Z, h, a, as, rh, ra, rs, p⟩ => ?_⟩
  unfold bitsM at p
  split at p
  · simp only [R] at ra
    subst ra
    simp only [RL] at rs
    subst rs
    cases rxs
    obtain ⟨t, rfl⟩ := rx
    exact PyProof.Rows.call_int_bit_length ⟨.int _, H, I.tok _, ⟨_, rfl⟩, p.ok rh (by simp only [R])⟩
  · exact p.elim
end
end Mi

set_option Elab.async false
set_option linter.all false
set_option maxRecDepth 100000
set_option maxHeartbeats 3200000
namespace MiSet
open PySem PySem.Spec PyProof.Rows
section
variable {prog : Program} {w : World} {A : Around} {E : Value → Shared → Prop} {s : Shared}
theorem call_set_tupleI {l : Addr} {items : Array Value} {ns : List Int} {Q : Value → Shared → Prop}
    (hh : A.handled = none) (hl : s.heap.IsTuple l items) (hi : PyProof.Rows.IntsAre items.toList ns) (hb : items.size + 1 < scanBound)
    (h : ∀ (h' : Heap) (tk : Nat), h'.SetOf (intKind prog w) s.heap.objs.size (fun k' => (PyProof.Rows.firstMet (fun i => ns.getD i 0) items.size).any (· == k')) (PyProof.Rows.firstMet (fun i => ns.getD i 0) items.size).length →
      (∀ b o, b < s.heap.objs.size → s.heap.get? b = some o → h'.get? b = some o) → Q (.ref s.heap.objs.size) { s with heap := h', toks := tk }) :
    wpAny (model prog w) A (call (.type "set") [.ref l]) Q E s := by
  obtain ⟨c, tl, hmro⟩ := PySem.F.called_set.mro
  have hmade := PySem.F.called_set.made
  have hsub := PySem.F.called_set.sub
  refine wpAny_call (codeAny_of_tree ?_)
  show wpAny _ _ (callAny (.type "set") _) _ _ _
  refine wpAny_pure ⟨Code.quiet_builtin _ (by decide +kernel), codeAny_builtin PySem.F.entry_type_call ?_⟩
  rw [Around.under_plain (weight_type_call_type "set" [.ref l] []) rfl]
  have h1 := PySem.F.called_set.notType
  have h2 := PySem.F.called_set.canCreate
  have hct := PySem.F.typeCall_set_1 (.ref l)
  repeat (any_goals (first | assumption | wp_step))

  refine codeAny_mono (code_set_new_1 (.ref l) (E := E) (Q₁ := fun obj s₁ => ∃ led : Bool, obj = .ref s.heap.objs.size ∧ s₁ = { s with heap := s.heap.push { cls := .type "set", dict := none, data := .set #[] 0 (.fresh 0 0 led) } }) fun led => ⟨led, rfl, rfl⟩) fun r s₁ hr => ?_
  cases r with
  | error e => exact hr
  | ok fl =>
    cases fl with
    | ret obj =>
      obtain ⟨led, rfl, rfl⟩ := hr
      have hS : (s.heap.push { cls := .type "set", dict := none, data := .set #[] 0 (.fresh 0 0 led) }).get? s.heap.objs.size = some { cls := .type "set", dict := none, data := .set #[] 0 (.fresh 0 0 led) } := Heap.get?_push_size _ rfl
      have hT : Shared.TypeIs { s with heap := s.heap.push { cls := .type "set", dict := none, data := .set #[] 0 (.fresh 0 0 led) } } (.ref s.heap.objs.size) "set" := ⟨_, hS, rfl⟩
      have hli := PySem.F.called_set.init.lookup
      have hbi := PySem.F.called_set.init.bind (.ref s.heap.objs.size)
      repeat (any_goals (first | assumption | wp_step))

      refine codeAny_mono (codeAny_call_builtin (R := wants (fun r s₂ => r = .none ∧ ∃ h' tk, s₂ = { s with heap := h', toks := tk } ∧
          h'.SetOf (intKind prog w) s.heap.objs.size (fun k' => (PyProof.Rows.firstMet (fun i => ns.getD i 0) items.size).any (· == k')) (PyProof.Rows.firstMet (fun i => ns.getD i 0) items.size).length ∧
          (∀ b o, b < s.heap.objs.size → s.heap.get? b = some o → h'.get? b = some o)) E) PySem.F.called_set.init.plain PySem.F.entry_set_init (check_set_init_1 hT ?_)) fun r₂ s₂ hr₂ => ?_
      · obtain ⟨ol, hol, hcl, nl, hdl⟩ := hl
        obtain ⟨ocls, odict, odata, oslots⟩ := ol
        simp only at hcl hdl
        subst hcl; subst hdl
        have hol' : (s.heap.push { cls := .type "set", dict := none, data := .set #[] 0 (.fresh 0 0 led) }).get? l = some { cls := .type "tuple", dict := odict, data := .seq items nl, slots := oslots } := Heap.get?_push_of_some _ hol
        have hsls := PySem.F.sub_tuple_set
        have hslf := PySem.F.sub_tuple_frozenset
        have hne : (Value.type "tuple" == Value.type "dict") = false := by decide
        have hl1 : (s.heap.push { cls := .type "set", dict := none, data := .set #[] 0 (.fresh 0 0 led) }).IsTuple l items := ⟨_, hol', rfl, nl, rfl⟩
        unfold Builtin.«set.__init__» noKeywords Builtin.Frozenset.updateFrom
        generalize hPI : pyIter = PI
        wp_walk
        subst hPI

        refine wpAny_pyIter_tuple hl1 ?_
        refine wpAny_bind (wpAny_runValue ?_)
        have hlS : l < s.heap.objs.size := Heap.lt_size hol
        have hh3 : A.in1.in1.in1.handled = none := by simp [hh]
        have hneI : l ≠ (s.heap.push { cls := .type "set", dict := none, data := .set #[] 0 (.fresh 0 0 led) }).objs.size := by
          rw [Heap.size_push]; exact Nat.ne_of_lt (Nat.lt_succ_of_lt hlS)
        have hSf : s.heap.objs.size ∉ [(s.heap.push { cls := .type "set", dict := none, data := .set #[] 0 (.fresh 0 0 led) }).objs.size, l] := by
          rw [Heap.size_push]; simp only [List.mem_cons, List.mem_singleton, List.not_mem_nil, or_false, not_or]
          exact ⟨Nat.ne_of_lt (Nat.lt_succ_self _), Nat.ne_of_gt hlS⟩
        have hval : ∀ (i : Nat) (v : Value), items[i]? = some v → ∃ t, v = .int ((fun i => ns.getD i 0) i) t := fun i v hv =>
          PyProof.Rows.IntsAre.int_at hi i v (by rw [Array.getElem?_toList]; exact hv)
        refine PyProof.Rows.codeAny_set_update_loopS ((Walks.tuple hh3 _ l hneI items).toS) s.heap.objs.size
          hSf (fun i => ns.getD i 0) hval hb (items.size - 0) 0 _ (by omega) (Nat.zero_le _)
          ⟨⟨_, Heap.get?_push_size _ rfl, rfl, rfl⟩, (hl1.push _)⟩ ?hS0 ?hR
        case hS0 =>
          have hget : ((s.heap.push { cls := .type "set", dict := none, data := .set #[] 0 (.fresh 0 0 led) }).push { cls := .type "tuple_iterator", data := .fields #[.ref l, .int 0 0] }).get? s.heap.objs.size
              = some { cls := .type "set", dict := none, data := .set #[] 0 (.fresh 0 0 led) } := Heap.get?_push_of_some _ hS
          exact PyProof.Rows.SetOf_congr ((PyProof.Rows.setObjOf_fresh (knd := intKind prog w) led).setOf hget (by unfold scanBound; omega)) (fun _ => rfl) rfl
        case hR =>
          intro s' hm hS'
          obtain ⟨h', g', d', tk', os'⟩ := s'
          have eg : g' = s.gens := hm.gens
          have ed : d' = s.drawn := hm.drawn
          have eo : os' = s.os := hm.os
          subst eg; subst ed; subst eo
          show wpAny _ _ _ _ _ _
          refine wpAny_pure ?_
          show wpAny _ _ (ret Value.none) _ _ _
          refine wpAny_pure ⟨rfl, h', tk', rfl, hS', fun b o hb e => ?_⟩
          have hb1 : b ≠ s.heap.objs.size := Nat.ne_of_lt hb
          have hb2 : b ≠ (s.heap.push { cls := .type "set", dict := none, data := .set #[] 0 (.fresh 0 0 led) }).objs.size := by
            rw [Heap.size_push]; exact Nat.ne_of_lt (Nat.lt_succ_of_lt hb)
          exact hm.heap b o (by simp only [List.mem_cons, List.mem_singleton, List.not_mem_nil, or_false, not_or]; exact ⟨hb1, hb2⟩) (Heap.get?_push_of_some _ (Heap.get?_push_of_some _ e))

      · cases r₂ with
        | error e => exact hr₂
        | ok fl₂ =>
          cases fl₂ with
          | ret r =>
            obtain ⟨rfl, h', tk, rfl, hS', hk'⟩ := hr₂
            repeat (any_goals (first | assumption | wp_step))
            exact h _ _ hS' hk'
          | _ => exact hr₂.elim
    | _ => exact hr.elim
end
end MiSet
namespace Mi
open PySem PySem.Spec L2
set_option autoImplicit false
def dedupI (ns : List Int) : List Int := ns.foldl PyProof.Rows.step_dedup []
theorem firstMet_all (ns : List Int) : PyProof.Rows.firstMet (fun i => ns.getD i 0) ns.length = dedupI ns := by
  unfold PyProof.Rows.firstMet dedupI
  congr 1
  apply List.ext_getElem
  · simp
  · intro i h1 h2
    simp at h1
    simp [List.getD_eq_getElem?_getD, h1]
def lenSetM : Op1 := fun a h => match sqOf h a with
  | some xs => match allInts xs with
    | some ns => if ns.length ≤ 4000 then some (.int ((dedupI ns).length : Nat), h) else none
    | none => none
  | none => none
section
variable {X : Cx} {W : WX} {a : Expr} {fa : MEnv → MH → Res MV}
theorem me_lenSet {p p2 q pos : Pos} (hc : X.calm = true) (hg : Gl X "len") (hm : X.mg "len" = none) (hg2 : Gl X "set") (hm2 : X.mg "set" = none) (ha : PE X a (tE X.K W fa))
    (na : starEach [a] X.env = (false, eval a X.env) :: starEach [] X.env) : PE X (.Call (.Name "len" p) [.Call (.Name "set" p2) [a] [] q] [] pos) (tE X.K W (ev1 lenSetM fa)) := by
  refine ⟨fun pins s σ H Q I ⟨fi, Z, env, h, re, rh, pp⟩ => ?_⟩
  refine PyProof.Rows.Call_ (ld_blt I hg hm boot_len ?_)
  refine PyProof.Rows.callWith_builtin1 (PyProof.Rows.args_cons ?_ rfl) rfl rfl
  refine PyProof.Rows.Call_ (ld_blt I hg2 hm2 PyProof.Rows.boot_set ?_)
  refine PyProof.Rows.callWith_type1 (PyProof.Rows.args_cons (thn (ha.run pins s σ H _ I ⟨fi, Z, env, h, re, rh, Pst.bind (rel' := R X.K) pp⟩) fun v s1 ⟨x, H1, I1, r1, fi1, m1, h1, g1, rh1, ra, p1⟩ => PyProof.Rows.args_nil ?_) na) na rfl
  have p2 := PV.of p1
  unfold lenSetM at p2
  split at p2
  · rename_i xs es
    split at p2
    · rename_i ns en
      split at p2
      · rename_i hl
        obtain ⟨l, vs, rfl, hq, rl⟩ := sqOf_R rh1 ra es
        rw [allInts_eq en] at rl
        rw [rl.ints_eq] at hq
        cases r1
        have q1 : Q (.int ((dedupI ns).length : Nat)) H1 := p2.ok rh1 (by simp only [R])
        have fin : ∀ (its : List Value), Vals (ns.map V.int) its → ∀ (h' : Heap) (tk : Nat), h'.SetOf (intKind X.prog X.w) s1.heap.objs.size (fun k' => (PyProof.Rows.firstMet (fun i => ns.getD i 0) its.toArray.size).any (· == k')) (PyProof.Rows.firstMet (fun i => ns.getD i 0) its.toArray.size).length →
            (∀ b o, b < s1.heap.objs.size → s1.heap.get? b = some o → h'.get? b = some o) →
            wpAny (model X.prog X.w) X.A (spliced (backTo pos (starEach [] X.env))) (fun vs s₂ => wpAny (model X.prog X.w) X.A (call (.builtin "len") (Value.ref s1.heap.objs.size :: vs)) (EP X pins σ Q) X.xe s₂) X.xe { s1 with heap := h', toks := tk } := fun its r h' tk hS hk => by
          refine PyProof.Rows.args_nil ?_
          have hl2 : its.toArray.size = ns.length := by rw [List.size_toArray, ← r.length, List.length_map]
          rw [hl2, firstMet_all] at hS
          obtain ⟨o, es, ep, t, ho, hex, hd, _, _, _, hf, hn⟩ := hS
          have I2 : Inv X pins σ H1 { s1 with heap := h', toks := tk } := I1.kept fun b o e => hk b o (Heap.lt_size e) e
          have hle : (dedupI ns).length ≤ ns.length := by
            have := PyProof.Rows.firstMet_length_le (fun i => ns.getD i 0) ns.length
            rw [firstMet_all] at this; exact this
          exact PySem.call_len_set ho hex hd hf (by rw [hn] <;> omega) ⟨.int (dedupI ns).length, H1, I2.tok _, ⟨_, by rw [hn]⟩, q1⟩
        rcases hq with hq | hq
        · obtain ⟨its, r, pl, hz⟩ := I1.list hq
          have hl2 : its.toArray.size = ns.length := by rw [List.size_toArray, ← r.length, List.length_map]
          exact PySem.call_set_list (I1.ok.hd hc) pl.isList (by simpa using r.ints) (by rw [hl2]; unfold scanBound; omega) fun h' tk hS hk => fin its r h' tk hS hk
        · obtain ⟨its, r, pl, hz⟩ := I1.tuple hq
          have hl2 : its.toArray.size = ns.length := by rw [List.size_toArray, ← r.length, List.length_map]
          exact MiSet.call_set_tupleI (I1.ok.hd hc) pl (by simpa using r.ints) (by rw [hl2]; unfold scanBound; omega) fun h' tk hS hk => fin its r h' tk hS hk
      · exact p2.elim
    · exact p2.elim
  · exact p2.elim
end
end Mi

set_option Elab.async false
set_option linter.all false
set_option maxRecDepth 100000
set_option maxHeartbeats 1000000
namespace Mi
open PySem PySem.Spec L2
set_option autoImplicit false

mutual
inductive IE where
  | var (i : Nat)
  | cst (m : MV)
  | bin (m : Bool) (o : Operator) (a b : IE)
  | neg (a : IE)
  | cmp (o : CmpOp) (a b : IE)
  | chain (o p : CmpOp) (a b c : IE)
  | and (a b : IE)
  | or (a b : IE)
  | not (a : IE)
  | ite (t : IT) (a b : IE)
  | tup (es : IL)
  | lst (m : Bool) (es : IL)
  | ix (a b : IE)
  | sl (m : Bool) (a : IE) (lo hi : IO)
  | rev (m : Bool) (a : IE)
  | call (f : Str) (es : IL)
  | bi (m : Bool) (f : Str) (es : IL)
  | meth (f : Str) (o : IE) (es : IL)
  | comp (m : Bool) (it : II) (g : ITg) (t : IT) (e : IE) (vs : List Nat)
  | comp2 (m : Bool) (it : II) (g : ITg) (t : IT) (it1 : II) (g1 : ITg) (t1 : IT) (e : IE) (vs vs1 : List Nat)
  | dnew (u : Bool)
  | dcomp (u : Bool) (it : II) (g : ITg) (t : IT) (k v : IE) (vs : List Nat)
  | isi (T : String) (a : IE)
  | lenSet (a : IE)
inductive IO where
  | no
  | part (a : IE)
inductive IL where
  | nil
  | cons (e : IE) (es : IL)
inductive IT where
  | cmp (o : CmpOp) (a b : IE)
  | chain (o p : CmpOp) (a b c : IE)
  | and (a b : IT)
  | or (a b : IT)
  | not (a : IT)
  | tru (a : IE)
  | tt
inductive II where
  | val (a : IE)
  | zip (es : IL)
  | enum (es : IL)
  | items (a : IE)
end
inductive IS where
  | nx
  | asg (g : ITg) (e : IE)
  | put (o i e : IE)
  | aug (i : Nat) (o : Operator) (e : IE)
  | ex (e : IE)
  | ret (e : IE)
  | retN
  | if_ (t : IT) (a b : IS)
  | while_ (n : Nat) (t : IT) (a : IS)
  | for_ (it : II) (g : ITg) (a : IS)
  | brk
  | cnt
  | seq (a b : IS)
  | bad
def opB (m : Bool) : Operator → Op2
  | .Add => addM m
  | .Sub => iiM subI
  | .Mult => mulM m
  | .FloorDiv => iiM fdivI
  | .Mod => iiM modI
  | .Pow => iiM powI
  | .LShift => iiM shlI
  | .RShift => iiM shrI
  | .BitAnd => iiM andI
  | .BitOr => iiM orI
  | .BitXor => iiM xorI
  | _ => fun _ _ _ => none
def opC : CmpOp → Op2
  | .Eq => eqM
  | .NotEq => neM
  | .Lt => ltM
  | .LtE => leM
  | .Gt => gtM
  | .GtE => geM
  | .Is => isM
  | .IsNot => isNotM
  | .In => inM
  | .NotIn => notInM
def opI : Operator → Op2
  | .Add => iaddM
  | .Sub => iiM subI
  | .BitAnd => iiM andI
  | .BitOr => iiM orI
  | _ => fun _ _ _ => none
/-- built-in functions: their tables' names -/
inductive BK where
  | fn (id : String)
  | ty (id : String)
def biT : List (Str × BK) := [("len", .fn "len"), ("range", .ty "range"), ("tuple", .ty "tuple"), ("list", .ty "list"), ("sum", .fn "sum"), ("min", .fn "min"), ("max", .fn "max"), ("all", .fn "all"), ("any", .fn "any"), ("abs", .fn "abs"), ("int", .ty "int"), ("sorted", .fn "sorted")]
def opF (m : Bool) : BK → OpN
  | .fn "len" => lenM
  | .ty "range" => rangeM
  | .ty "tuple" => tupleM
  | .ty "list" => listM m
  | .fn "sum" => sumM
  | .fn "min" => minDM
  | .fn "max" => maxDM
  | .fn "sorted" => sortedM m
  | .fn "all" => allM
  | .fn "any" => anyM
  | .fn "abs" => absM
  | .ty "int" => intM
  | _ => fun _ _ => none
def opFn (m : Bool) (f : Str) : OpN := match biT.lookup f with
  | some b => opF m b
  | none => fun _ _ => none
def mtT : List (Str × ((String → Bool) × OpM)) := [("append", (isT "list", appendM)), ("extend", (isT "list", extendM)), ("reverse", (isT "list", reverseM)), ("insert", (isT "list", insertM)), ("index", (isT "list", indexM)), ("get", (isT "dict", dgetM)), ("pop", (popOk, popM)), ("update", (isT "dict", updateM)), ("bit_length", (isT "int", bitsM))]
def mtOk (f : Str) : String → Bool := match mtT.lookup f with
  | some p => p.1
  | none => fun _ => false
def mtOp (f : Str) : OpM := match mtT.lookup f with
  | some p => p.2
  | none => fun _ _ _ _ => none
abbrev CallT := Str → List MV → MH → Res MV
section
variable (G : CallT)
mutual
def ev : IE → MEnv → MH → Res MV
  | .var i => evVar i
  | .cst m => fun _ h => .ok m h
  | .bin m o a b => ev2 (opB m o) (ev a) (ev b)
  | .neg a => ev1 negM (ev a)
  | .cmp o a b => ev2 (opC o) (ev a) (ev b)
  | .chain o p a b c => evCh (opC o) (opC p) (ev a) (ev b) (ev c)
  | .and a b => evAndV (ev a) (ev b)
  | .or a b => evOrV (ev a) (ev b)
  | .not a => evNotV (ev a)
  | .ite t a b => evIf (evT t) (ev a) (ev b)
  | .tup es => evTup (evL es)
  | .lst m es => evLst m (evL es)
  | .ix a b => evIx (ev a) (ev b)
  | .sl m a lo hi => evSl m (ev a) (evO lo) (evO hi)
  | .rev m a => ev1 (revTM m) (ev a)
  | .call f es => evCall (G f) (evL es)
  | .bi m f es => evN (opFn m f) (evL es)
  | .meth f o es => evMeth (mtOk f) (mtOp f) (ev o) (evL es)
  | .comp m it g t e vs => evComp m (evI it) (asT g) (evT t) (ev e) vs
  | .comp2 m it g t it1 g1 t1 e vs vs1 => evComp2 m (evI it) (asT g) (evT t) (evI it1) (asT g1) (evT t1) (ev e) vs vs1
  | .dnew u => evDn u
  | .dcomp u it g t k v vs => evDc u (evI it) (asT g) (evT t) (ev k) (ev v) vs
  | .isi T a => ev1 (isiM T) (ev a)
  | .lenSet a => ev1 lenSetM (ev a)
def evO : IO → MEnv → MH → Res (Option Int)
  | .no => evNo
  | .part a => evPart (ev a)
def evL : IL → MEnv → MH → Res (List MV)
  | .nil => evNil
  | .cons e es => evCons (ev e) (evL es)
def evT : IT → MEnv → MH → Res Bool
  | .cmp o a b => fun env h => asB (ev2 (opC o) (ev a) (ev b) env h)
  | .chain o p a b c => fun env h => asB (evCh (opC o) (opC p) (ev a) (ev b) (ev c) env h)
  | .and a b => evAndT (evT a) (evT b)
  | .or a b => evOrT (evT a) (evT b)
  | .not a => evNotT (evT a)
  | .tru a => evTru (ev a)
  | .tt => fun _ h => .ok true h
def evI : II → MEnv → MH → Res (List MV × Chk)
  | .val a => evIt (ev a)
  | .zip es => evZip (evL es)
  | .enum es => evEnum (evL es)
  | .items a => evItems (ev a)
end
def evS : IS → MEnv → MH → SRes
  | .nx => evsNx
  | .asg g e => evsAsg (ev G e) g
  | .put o i e => evsPut (ev G e) (ev G o) (ev G i)
  | .aug i o e => evsAug i (opI o) (ev G e)
  | .ex e => evsEx (ev G e)
  | .ret e => evsRet (ev G e)
  | .retN => fun env h => .ok (.rt .non) env h
  | .if_ t a b => evsIf (evT G t) (evS a) (evS b)
  | .while_ n t a => evsWhile (evT G t) (evS a) n
  | .for_ it g a => evsFor (evI G it) g (evS a)
  | .brk => fun env h => .ok .bk env h
  | .cnt => fun env h => .ok .ct env h
  | .seq a b => evsSeq (evS a) (evS b)
  | .bad => fun _ _ => .err
end
/-- a def: its parameters and other names, its body, are its objects forgotten -/
structure IF where
  N : List Str
  body : IS
  gc : Bool
abbrev IP := List (Str × IF)
def run (D : IP) : Nat → CallT
  | 0 => fun _ _ _ => .err
  | n + 1 => fun f ms h => match D.lookup f with
    | some d => if d.gc = true then gcR h (bodyR (evS (run D n) d.body (startM d.N ms) h)) else bodyR (evS (run D n) d.body (startM d.N ms) h)
    | none => .err
end Mi

set_option Elab.async false
set_option linter.all false
set_option maxRecDepth 100000
set_option maxHeartbeats 1000000
namespace Mi
open PySem PySem.Spec L2
set_option autoImplicit false

structure CC where
  N : List Str
  sc : Scope
  own : Option Scope
  fs : List (Str × Nat)
  ks : List (Str × MV)
  bs : List Str
  fl : List (Nat × Nat)
  td : List (Nat × Nat)
  wf : Nat
def CC.m (C : CC) (p : Pos) : Bool := C.fl.contains (p.line, p.col)
def CC.u (C : CC) (p : Pos) : Bool := C.td.contains (p.line, p.col)
def notStar : Expr → Bool
  | .Starred _ _ => false
  | _ => true
def notSet : Expr → Bool
  | .Set _ _ _ => false
  | _ => true
def notSlice : Expr → Bool
  | .Slice _ _ _ _ => false
  | _ => true
def notCompE : Expr → Bool
  | .ListComp _ _ _ _ => false
  | .SetComp _ _ _ _ => false
  | .DictComp _ _ _ _ _ => false
  | _ => true
def isCall0 : Expr → Bool
  | .Call _ [] [] _ => true
  | _ => false
def isTup : Expr → Bool
  | .Tuple _ _ _ => true
  | .List _ _ => true
  | _ => false
def plainT : Expr → Bool
  | .UnaryOp .Not _ _ => false
  | .BoolOp _ _ _ => false
  | .IfExp _ _ _ _ => false
  | .Compare _ _ _ _ => false
  | _ => true
theorem star_of {e : Expr} {es : List Expr} {env : Env} (h : notStar e = true) : starEach (e :: es) env = (false, eval e env) :: starEach es env := by
  cases e with
  | Starred v p => cases h
  | _ => rfl
theorem stars_of {pos : Pos} {env : Env} : ∀ {es : List Expr}, es.all notStar = true → (backTo pos (starEach es env)).any (·.1) = false
  | [], _ => rfl
  | e :: es, h => by
    simp only [List.all_cons, Bool.and_eq_true] at h
    rw [star_of h.1]
    show (false || (backTo pos (starEach es env)).any (·.1)) = false
    rw [stars_of h.2]; rfl
theorem fewStars {cpos : Pos} {env : Env} {es : List Expr} (h : es.all notStar = true) : (backTo cpos (starEach es env)).all (fun x => !x.1) = true := by
  have z := stars_of (pos := cpos) (env := env) h
  rw [List.any_eq_false] at z
  rw [List.all_eq_true]
  intro x hx
  have := z x hx
  simpa using this
theorem stars_len {env : Env} : ∀ {es : List Expr}, (starEach es env).length = es.length
  | [] => rfl
  | e :: es => by
    cases e <;> (show (starEach es env).length + 1 = _; rw [stars_len]; rfl)
theorem asgs_of {env : Env} : ∀ {es : List Expr}, es.all notStar = true → assignEach es env = es.map fun t => (false, assign t env)
  | [], _ => rfl
  | e :: es, h => by
    simp only [List.all_cons, Bool.and_eq_true] at h
    have r := asgs_of (env := env) h.2
    cases e with
    | Starred v p => exact absurd (show false = true from h.1) Bool.false_ne_true
    | _ => show _ :: assignEach es env = _; rw [r]; rfl
theorem set_of {e : Expr} {env : Env} (h : notSet e = true) (x : Value) : foldedSetIterable e env x = pure x := by
  cases e with
  | Set a b c => cases h
  | _ => rfl
theorem ix_of {e : Expr} (h : notSlice e = true) : PlainIx e := fun o i => by
  cases e with
  | Slice a b c d => cases h
  | _ => rfl
theorem marks_of {op : CmpOp} {e : Expr} (h : notSet e = true) : behindInMarks op e = false := by
  cases e with
  | Set a b c => cases h
  | _ => rfl
theorem base_of {o : Expr} {n : Str} {env : Env} {w : Sem Value} (h : isCall0 o = false) : attributeBase o n env w = w := by
  cases o with
  | Call f as ks p =>
    cases as with
    | nil =>
      cases ks with
      | nil => cases h
      | cons _ _ => cases f <;> rfl
    | cons _ _ => cases f <;> rfl
  | _ => rfl
theorem swap_of {e : Expr} {t : Option Expr} {l : Nat} {env : Env} (h : notCompE e = true) : swapsWith e t l env = pure false := by
  cases e with
  | ListComp a b c d => cases h
  | SetComp a b c d => cases h
  | DictComp a b c d e => cases h
  | _ => rfl
theorem sole_of {e t : Expr} {l : Nat} {env : Env} (h : notCompE e = true) : swapsWithSole [t] e l env = pure false := swap_of h
theorem stores_of {e t : Expr} {env : Env} (h : (isTup t && isTup e) = false) : swappedStores [t] e env = pure none := by
  cases t with
  | Tuple a b c =>
    cases e with
    | Tuple d e f => cases h
    | _ => rfl
  | List a b =>
    cases e with
    | Tuple d e f => cases h
    | _ => rfl
  | _ => rfl
theorem one_of {t : Expr} {env : Env} (h : notStar t = true) : (assignEach [t] env).map (·.2) = [assign t env] := by
  cases t with
  | Starred v p => cases h
  | _ => rfl
theorem true_of {e : Expr} {env : Env} (h : plainT e = true) (w : Sem Value) : isTrue e env w = (do let v ← w; standAt e.pos; holding [v] (truthy v)) := by
  cases e with
  | UnaryOp op x p => cases op <;> first | rfl | cases h
  | BoolOp a b c => cases h
  | IfExp a b c d => cases h
  | Compare a b c d => cases h
  | _ => rfl
def ixOf (x : Str) : List Str → Option Nat
  | [] => none
  | y :: r => if y = x then some 0 else (ixOf x r).map (· + 1)
theorem ixOf_some {x : Str} : ∀ {N : List Str} {i : Nat}, ixOf x N = some i → N[i]? = some x
  | [], i, e => by cases e
  | y :: r, i, e => by
    unfold ixOf at e
    split at e
    · rename_i h; cases e; rw [h]; rfl
    · simp only [Option.map_eq_some_iff] at e
      obtain ⟨j, e1, rfl⟩ := e
      simpa using ixOf_some e1
def visB (sc : Scope) (x : Str) : Bool := sc.names.lookup x == some .local || (sc.names.lookup x == some .cell || sc.names.lookup x == some .free)
theorem visB_ok {sc : Scope} {x : Str} (h : visB sc x = true) : Vis sc x := by
  unfold visB at h
  simp only [Bool.or_eq_true, beq_iff_eq] at h
  exact h
def locB (sc : Scope) (x : Str) : Bool := sc.names.lookup x == some .local || sc.names.lookup x == some .cell
theorem locB_ok {sc : Scope} {x : Str} (h : locB sc x = true) : Loc sc x := by
  unfold locB at h
  simp only [Bool.or_eq_true, beq_iff_eq] at h
  exact h
def glB (sc : Scope) (x : Str) : Bool := sc.names.lookup x == some .globalImplicit && !(x == ("__debug__" : Str))
def CC.slot (C : CC) (x : Str) : Option Nat := if (visB C.sc x && (!(x == ("__debug__" : Str)) && !(x == ("__classdict__" : Str)))) = true then ixOf x C.N else none
/-- a name that may be stored -/
def CC.stoB (C : CC) (x : Str) : Bool := match C.own with
  | none => true
  | some s0 => C.sc.names.lookup x == some .local || s0.names.lookup x == some .cell
def CC.sto (C : CC) (x : Str) : Option Nat := if (locB C.sc x && C.stoB x) = true then ixOf x C.N else none
def fnOf (C : CC) (x : Str) : Option Nat := if glB C.sc x = true then C.fs.lookup x else none
def biOf (C : CC) (x : Str) : Option BK := if (glB C.sc x && (C.bs.contains x && !(x == ("__name__" : Str)))) = true then biT.lookup x else none
def ksOf (C : CC) (x : Str) : Option MV := if glB C.sc x = true then C.ks.lookup x else none
/-- the slots of a block's own names -/
def ownOf (N : List Str) (scope : Scope) : List (Str × Nat) := scope.names.filterMap fun y => if (y.2 == .local || y.2 == .cell) = true then (ixOf y.1 N).map fun i => (y.1, i) else none
def CC.blk (C : CC) (scope : Scope) : CC := { C with sc := relS scope C.sc, own := some scope }
mutual
def cG (C : CC) : Nat → Expr → Option ITg
  | 0, _ => none
  | n + 1, e => match e with
    | .Name x _ => (C.sto x).map .name
    | .Tuple es _ _ => if es.all notStar = true then (cGs C n es).map .tup else none
    | _ => none
def cGs (C : CC) : Nat → List Expr → Option (List ITg)
  | 0, _ => none
  | _ + 1, [] => some []
  | n + 1, e :: es => match cG C n e, cGs C n es with
    | some g, some gs => some (g :: gs)
    | _, _ => none
end
def constM : Const → Option MV
  | .none => some .non
  | .bool b => some (.bl b)
  | .int i => some (.int i)
  | .str s => some (.str s)
  | _ => none
def isTupE : Expr → Bool
  | .Tuple _ _ _ => true
  | _ => false
def isRevS : Expr → Bool
  | .Slice none none (some (.UnaryOp .USub (.Constant (.int 1) _ _) _)) _ => true
  | _ => false
def tyT : List (Str × String) := [("int", "int"), ("bool", "bool"), ("str", "str"), ("tuple", "tuple"), ("list", "list"), ("dict", "dict")]
def tyOfN (t : Str) : Option String := tyT.lookup t
mutual
def cE (C : CC) : Nat → Expr → Option IE
  | 0, _ => none
  | n + 1, e => match e with
    | .Name x _ => match C.slot x with
      | some i => some (.var i)
      | none => (ksOf C x).map .cst
    | .Constant c _ _ => (constM c).map .cst
    | .BinOp a o b p => match cE C n a, cE C n b with
      | some x, some y => some (.bin (C.m p) o x y)
      | _, _ => none
    | .UnaryOp .USub a _ => (cE C n a).map .neg
    | .UnaryOp .Not a _ => (cE C n a).map .not
    | .Compare a [o] [b] _ => if notSet b = true then (match cE C n a, cE C n b with
      | some x, some y => some (.cmp o x y)
      | _, _ => none) else none
    | .Compare a [o, p] [b, c] _ => if notSet c = true then (match cE C n a, cE C n b, cE C n c with
      | some x, some y, some z => some (.chain o p x y z)
      | _, _, _ => none) else none
    | .BoolOp _ [a] _ => cE C n a
    | .BoolOp .And (a :: b :: r) p => match cE C n a, cE C n (.BoolOp .And (b :: r) p) with
      | some x, some y => some (.and x y)
      | _, _ => none
    | .BoolOp .Or (a :: b :: r) p => match cE C n a, cE C n (.BoolOp .Or (b :: r) p) with
      | some x, some y => some (.or x y)
      | _, _ => none
    | .IfExp t a b _ => match cT C n t, cE C n a, cE C n b with
      | some z, some x, some y => some (.ite z x y)
      | _, _, _ => none
    | .Tuple es _ _ => if es.all notStar = true then (cL C n es).map .tup else none
    | .List es p => if es.all notStar = true then (cL C n es).map (.lst (C.m p)) else none
    | .Subscript a (.Slice lo hi none _) p => match cE C n a, cO C n lo, cO C n hi with
      | some x, some y, some z => some (.sl (C.m p) x y z)
      | _, _, _ => none
    | .Subscript a (.Slice none none (some (.UnaryOp .USub (.Constant (.int 1) _ _) _)) _) p => (cE C n a).map (.rev (C.m p))
    | .Subscript a b _ => if notSlice b = true then (match cE C n a, cE C n b with
      | some x, some y => some (.ix x y)
      | _, _ => none) else none
    | .Call (.Name f _) [a, .Name t tp] [] p => if (f == "isinstance") = true then (if (notStar a && (glB C.sc f && (C.bs.contains f && (glB C.sc t && (C.bs.contains t && !(t == ("__name__" : Str))))))) = true then (match tyOfN t, cE C n a with
      | some T, some x => some (.isi T x)
      | _, _ => none) else none) else (if ([a, Expr.Name t tp]).all notStar = true then (match fnOf C f with
      | some k => if ([a, Expr.Name t tp]).length = k then (cL C n [a, .Name t tp]).map (.call f) else none
      | none => match biOf C f with
        | some _ => (cL C n [a, .Name t tp]).map (.bi (C.m p) f)
        | none => none) else none)
    | .Call (.Name f _) [.Call (.Name g gp) [a] [] ip] [] p => if (f == "len" && g == "set") = true then (if (notStar a && (glB C.sc f && (C.bs.contains f && (glB C.sc g && C.bs.contains g)))) = true then (cE C n a).map .lenSet else none) else (if ([.Call (.Name g gp) [a] [] ip] : List Expr).all notStar = true then (match fnOf C f with
      | some k => if ([.Call (.Name g gp) [a] [] ip] : List Expr).length = k then (cL C n [.Call (.Name g gp) [a] [] ip]).map (.call f) else none
      | none => match biOf C f with
        | some _ => (cL C n [.Call (.Name g gp) [a] [] ip]).map (.bi (C.m p) f)
        | none => none) else none)
    | .Call (.Name f _) (a :: as) [] p => if (a :: as).all notStar = true then (match fnOf C f with
      | some k => if (a :: as).length = k then (cL C n (a :: as)).map (.call f) else none
      | none => match biOf C f with
        | some _ => (cL C n (a :: as)).map (.bi (C.m p) f)
        | none => none) else none
    | .Call (.Attribute o f ap) as [] p => if ((as.all notStar && (!isCall0 o && (ap.endLine == p.line))) && decide (as.length < 20)) = true then (match cE C n o, cL C n as with
      | some x, some ys => some (.meth f x ys)
      | _, _ => none) else none
    | .ListComp e [⟨tg, it, ifs, 0⟩] scope p => if (blkC C.N C.sc scope (ownOf C.N scope) && notSet it) = true then (match cI C n tg it, cG (C.blk scope) n tg, cF (C.blk scope) n ifs, cE (C.blk scope) n e with
      | some i, some g, some t, some x => if (g.slots.all fun s => (ownOf C.N scope).any fun q => q.2 == s) = true then some (.comp (C.m p) i g t x ((ownOf C.N scope).map (·.2))) else none
      | _, _, _, _ => none) else none
    | .ListComp e [⟨tg, it, ifs, 0⟩, ⟨tg1, it1, ifs1, 0⟩] scope p => if (blkC C.N C.sc scope (ownOf C.N scope) && (notSet it && notSet it1)) = true then (match cI C n tg it, cG (C.blk scope) n tg, cF (C.blk scope) n ifs, cI (C.blk scope) n tg1 it1, cG (C.blk scope) n tg1, cF (C.blk scope) n ifs1, cE (C.blk scope) n e with
      | some i, some g, some t, some i1, some g1, some t1, some x => if ((g.slots.all fun s => (ownOf C.N scope).any fun q => q.2 == s) && (g1.slots.all fun s => (ownOf C.N scope).any fun q => q.2 == s)) = true then some (.comp2 (C.m p) i g t i1 g1 t1 x ((ownOf C.N scope).map (·.2)) g1.slots) else none
      | _, _, _, _, _, _, _ => none) else none
    | .DictComp k v [⟨tg, it, ifs, 0⟩] scope p => if (blkC C.N C.sc scope (ownOf C.N scope) && notSet it) = true then (match cI C n tg it, cG (C.blk scope) n tg, cF (C.blk scope) n ifs, cE (C.blk scope) n k, cE (C.blk scope) n v with
      | some i, some g, some t, some x, some y => if (g.slots.all fun s => (ownOf C.N scope).any fun q => q.2 == s) = true then some (.dcomp (C.u p) i g t x y ((ownOf C.N scope).map (·.2))) else none
      | _, _, _, _, _ => none) else none
    | .Dict [] [] p => some (.dnew (C.u p))
    | _ => none
def cO (C : CC) : Nat → Option Expr → Option IO
  | 0, _ => none
  | _ + 1, none => some .no
  | n + 1, some e => (cE C n e).map .part
def cL (C : CC) : Nat → List Expr → Option IL
  | 0, _ => none
  | _ + 1, [] => some .nil
  | n + 1, e :: es => match cE C n e, cL C n es with
    | some x, some xs => some (.cons x xs)
    | _, _ => none
def cT (C : CC) : Nat → Expr → Option IT
  | 0, _ => none
  | n + 1, e => match e with
    | .Compare a [o] [b] _ => if notSet b = true then (match cE C n a, cE C n b with
      | some x, some y => some (.cmp o x y)
      | _, _ => none) else none
    | .Compare a [o, p] [b, c] _ => if notSet c = true then (match cE C n a, cE C n b, cE C n c with
      | some x, some y, some z => some (.chain o p x y z)
      | _, _, _ => none) else none
    | .UnaryOp .Not a _ => (cT C n a).map .not
    | .BoolOp o es p => cW C n o es
    | e => if plainT e = true then (cE C n e).map .tru else none
/-- and, or: op es -/
def cW (C : CC) : Nat → BoolOp → List Expr → Option IT
  | 0, _, _ => none
  | _ + 1, _, [] => none
  | n + 1, _, [a] => cT C n a
  | n + 1, .And, a :: b :: r => match cT C n a, cW C n .And (b :: r) with
    | some x, some y => some (.and x y)
    | _, _ => none
  | n + 1, .Or, a :: b :: r => match cT C n a, cW C n .Or (b :: r) with
    | some x, some y => some (.or x y)
    | _, _ => none
/-- the conditions of a comprehension -/
def cF (C : CC) : Nat → List Expr → Option IT
  | 0, _ => none
  | _ + 1, [] => some .tt
  | n + 1, [a] => cT C n a
  | _ + 1, _ => none
/-- what is walked -/
def cI (C : CC) : Nat → Expr → Expr → Option II
  | 0, _, _ => none
  | n + 1, tg, e => match e with
    | .Call (.Name f _) [a, b] [] _ => if (isTupE tg && (f == "zip" && (glB C.sc f && (C.bs.contains f && (notStar a && notStar b))))) = true then (cL C n [a, b]).map .zip else (cE C n e).map .val
    | .Call (.Name f _) [a] [] _ => if (isTupE tg && (f == "enumerate" && (glB C.sc f && (C.bs.contains f && notStar a)))) = true then (cL C n [a]).map .enum else (cE C n e).map .val
    | .Call (.Attribute o f ap) [] [] p => if (isTupE tg && (f == "items" && (!isCall0 o && (ap.endLine == p.line)))) = true then (cE C n o).map .items else (cE C n e).map .val
    | e => (cE C n e).map .val
end
def cS (C : CC) : Nat → Stmt → Option IS
  | 0, _ => none
  | n + 1, s => match s with
    | .Assign [.Subscript o i _] e _ => if (notSlice i && notCompE e) = true then (match cE C n o, cE C n i, cE C n e with
      | some x, some y, some z => some (.put x y z)
      | _, _, _ => none) else none
    | .Assign [.Name y py] (.ListComp e gs sc p) q => match C.sto y, cE C n (.ListComp e gs sc p) with
      | some i, some x => if (C.sc.names.lookup y == some .local && C.sc.kind == .function) = true then (if ((py.line == p.line) && !(sc.names.any fun z => z.1 == y && (z.2 == .local || z.2 == .cell))) = true then some (.asg (.name i) x) else none) else (if (C.sc.names.lookup y == some .cell) = true then some (.asg (.name i) x) else none)
      | _, _ => none
    | .Assign [t] e _ => if (notStar t && (notCompE e && !(isTup t && isTup e))) = true then (match cG C n t, cE C n e with
      | some g, some x => some (.asg g x)
      | _, _ => none) else none
    | .AugAssign (.Name x _) o e _ => match C.sto x, cE C n e with
      | some i, some y => some (.aug i o y)
      | _, _ => none
    | .Expr e _ => if notCompE e = true then (cE C n e).map .ex else none
    | .Return (some e) _ => (cE C n e).map .ret
    | .Return none _ => some .retN
    | .If t a b _ => match cT C n t, cSs n a, cSs n b with
      | some z, some x, some y => some (.if_ z x y)
      | _, _, _ => none
    | .While t a [] _ => match cT C n t, cSs n a with
      | some z, some x => some (.while_ C.wf z x)
      | _, _ => none
    | .For tg it a [] _ => if notSet it = true then (match cI C n tg it, cG C n tg, cSs n a with
      | some i, some g, some x => some (.for_ i g x)
      | _, _, _ => none) else none
    | .Raise _ _ _ => some .bad
    | .Pass _ => some .nx
    | .Break _ => some .brk
    | .Continue _ => some .cnt
    | _ => none
where
  cSs : Nat → List Stmt → Option IS
  | 0, _ => none
  | _ + 1, [] => some .nx
  | n + 1, [s] => cS C n s
  | n + 1, s :: r => match cS C n s, cSs n r with
    | some x, some y => some (.seq x y)
    | _, _ => none
end Mi

set_option Elab.async false
set_option linter.all false
set_option maxRecDepth 100000
set_option maxHeartbeats 1000000
namespace Mi
open PySem PySem.Spec L2
set_option autoImplicit false

/-- X is one of C's contexts, G what its defs compute -/
structure XM (C : CC) (G : CallT) (X : Cx) : Prop where
  N : X.N = C.N
  nd : C.N.Nodup
  sc : X.env.scope = C.sc
  fnD : C.own = none → ∀ x, X.fn x = true
  fnB : ∀ s0, C.own = some s0 → ∀ x, s0.names.lookup x = some .cell → X.fn x = true
  calm : X.calm = true
  bs : ∀ x ∈ C.bs, X.mg x = none
  ks : ∀ (x : Str) (m : MV), C.ks.lookup x = some m → ∃ u v, X.mg x = some u ∧ RelV v u ∧ ∀ fi Z H, R X.K fi Z H m v
  fs : ∀ (x : Str) (k : Nat), C.fs.lookup x = some k → ∃ l f fd ps, FnOk X.prog X.w X.K X.mg X.base (L2.CX X.prog X.w) l f fd ps (spOf X.K ps.length (G x)) ∧ ps.length = k ∧ Room l X.A ∧ X.mg x = some (.ref f) ∧ PySem.W.keepIn X.K (.ref f) = true ∧ L2.Binds X.K fd ps []
  room : ∃ l, Room l X.A
section
variable {C : CC} {G : CallT} {X : Cx}
theorem XM.units (h : XM C G X) : X.A.units + 65 < cLine := by obtain ⟨l, r⟩ := h.room; have := r.un; omega
theorem XM.gl (h : XM C G X) {x : Str} (e : glB C.sc x = true) : Gl X x ∧ (x == ("__debug__" : Str)) = false := by
  unfold glB at e
  simp only [Bool.and_eq_true, beq_iff_eq, Bool.not_eq_true'] at e
  refine ⟨?_, e.2⟩
  show X.env.scope.names.lookup x = _
  rw [h.sc]; exact e.1
theorem XM.blk (h : XM C G X) {scope : Scope} {s : Shared} {H : Hp} {cl : List (Str × Addr)} {ca : Addr} {fp : List Addr} : XM (C.blk scope) G (X.blk s H scope (compEnvC scope cl ca X.env) fp) where
  N := h.N
  nd := h.nd
  sc := by show relS scope X.env.scope = relS scope C.sc; rw [h.sc]
  fnD := fun e => by cases e
  fnB := fun s0 e x hx => by cases e; show (scope.names.lookup x == some .cell) = true; rw [hx]; rfl
  calm := h.calm
  bs := h.bs
  ks := h.ks
  fs := h.fs
  room := h.room
theorem takes0 {X : Cx} : Takes X W0 := fun u s' ⟨a, B, sI, pins, σ, H, cls, d, e, I, nb, up, sky, na, os, ag, w⟩ => w.elim
theorem XM.slot (h : XM C G X) {x : Str} {i : Nat} (e : C.slot x = some i) : X.N[i]? = some x ∧ Vis X.env.scope x ∧ (x == ("__debug__" : Str)) = false ∧ (x == ("__classdict__" : Str)) = false := by
  unfold CC.slot at e
  split at e
  · rename_i hc
    simp only [Bool.and_eq_true, Bool.not_eq_true'] at hc
    exact ⟨by rw [h.N]; exact ixOf_some e, by rw [h.sc]; exact visB_ok hc.1, hc.2.1, hc.2.2⟩
  · cases e
theorem XM.sto (h : XM C G X) {x : Str} {i : Nat} (e : C.sto x = some i) : X.N[i]? = some x ∧ Loc X.env.scope x ∧ (X.fn x = true ∨ X.env.scope.names.lookup x = some .local) := by
  unfold CC.sto at e
  split at e
  · rename_i hc
    rw [Bool.and_eq_true] at hc
    refine ⟨by rw [h.N]; exact ixOf_some e, by rw [h.sc]; exact locB_ok hc.1, ?_⟩
    have h2 := hc.2
    unfold CC.stoB at h2
    split at h2
    · rename_i ho; exact .inl (h.fnD ho x)
    · rename_i s0 ho
      simp only [Bool.or_eq_true, beq_iff_eq] at h2
      rcases h2 with q | q
      · exact .inr (by rw [h.sc]; exact q)
      · exact .inl (h.fnB s0 ho x q)
  · cases e
theorem nd_X (h : XM C G X) : X.N.Nodup := by rw [h.N]; exact h.nd
theorem cG_ok (h : XM C G X) : ∀ (n : Nat), (∀ (e : Expr) (g : ITg), cG C n e = some g → PG X e (gM X.K g)) ∧ (∀ (es : List Expr) (gs : List ITg), es.all notStar = true → cGs C n es = some gs → PGs X es (gMs X.K gs) ∧ es.length = gs.length)
  | 0 => ⟨fun e g q => by simp [cG] at q, fun es gs _ q => by simp [cGs] at q⟩
  | n + 1 => by
    obtain ⟨i1, i2⟩ := cG_ok h n
    refine ⟨fun e g q => ?_, fun es gs hs q => ?_⟩
    · unfold cG at q
      split at q
      · rename_i x p
        simp only [Option.map_eq_some_iff] at q
        obtain ⟨i, e1, rfl⟩ := q
        obtain ⟨a, b, c⟩ := h.sto e1
        exact mg_name (nd_X h) a b c
      · rename_i es k p
        split at q
        · rename_i hs
          simp only [Option.map_eq_some_iff] at q
          obtain ⟨gs, e1, rfl⟩ := q
          obtain ⟨a, b⟩ := i2 es gs hs e1
          refine mg_tup h.calm a (by rw [asgs_of hs, List.length_map, b]) ?_
          rw [asgs_of hs]
          rw [List.findIdx?_eq_none_iff]
          intro x hx
          simp only [List.mem_map] at hx
          obtain ⟨t, _, rfl⟩ := hx
          rfl
        · cases q
      · cases q
    · cases es with
      | nil => simp only [cGs] at q; cases q; exact ⟨mgs_nil, rfl⟩
      | cons e es =>
        simp only [List.all_cons, Bool.and_eq_true] at hs
        simp only [cGs] at q
        split at q
        · rename_i g gs' e1 e2
          cases q
          obtain ⟨a, b⟩ := i2 es gs' hs.2 e2
          refine ⟨mgs_cons (i1 e g e1) a ?_, by simp [b]⟩
          rw [asgs_of (es := e :: es) (by simp [hs.1, hs.2]), asgs_of hs.2]
          rfl
        · cases q
theorem no_op {f : Value → Value → Sem Value} : OpR X f (r2 X.K fun _ _ _ => none) := fun _ _ _ _ _ _ _ _ _ _ _ _ ⟨_, _, _, _, _, _, _, _, p⟩ => p.elim
theorem opB_ok (m : Bool) (o : Operator) : OpR X (binaryOp o) (r2 X.K (opB m o)) := by
  cases o <;> first | exact or_add m | exact or_sub | exact or_mul m | exact or_fdiv | exact or_mod | exact or_pow | exact or_shl | exact or_shr | exact or_band | exact or_bor | exact or_bxor | exact no_op
theorem opC_ok (h : XM C G X) (o : CmpOp) : OpR X (compareOp o) (r2 X.K (opC o)) := by
  have hu := h.units
  cases o
  · exact or_eq (by omega)
  · exact or_ne (by omega)
  · exact or_lt (by omega)
  · exact or_le
  · exact or_gt
  · exact or_ge
  · exact or_is
  · exact or_isNot
  · exact or_in hu
  · exact or_notIn hu
theorem opI_ok (o : Operator) : OpR X (inplaceOp o) (r2 X.K (opI o)) := by
  cases o <;> first | exact or_iadd | exact or_isub | exact or_iand | exact or_ior | exact no_op
theorem bi_ok (h : XM C G X) (m : Bool) {f : Str} {b : BK} (e : biT.lookup f = some b) : (∃ id, b = .fn id ∧ CallR X (.builtin id) (rN X.K (opFn m f)) ∧ bootBuiltins f = some (.builtin id)) ∨ ∃ id, b = .ty id ∧ CallR X (.type id) (rN X.K (opFn m f)) ∧ bootBuiltins f = some (.type id) := by
  have hm : (f, b) ∈ biT := PySem.mem_of_lookup e
  have hc := h.calm
  have hu := h.units
  simp only [biT, List.mem_cons, List.not_mem_nil, or_false, Prod.mk.injEq] at hm
  rcases hm with ⟨rfl, rfl⟩ | ⟨rfl, rfl⟩ | ⟨rfl, rfl⟩ | ⟨rfl, rfl⟩ | ⟨rfl, rfl⟩ | ⟨rfl, rfl⟩ | ⟨rfl, rfl⟩ | ⟨rfl, rfl⟩ | ⟨rfl, rfl⟩ | ⟨rfl, rfl⟩ | ⟨rfl, rfl⟩ | ⟨rfl, rfl⟩
  · exact .inl ⟨"len", rfl, cb_len, by decide +kernel⟩
  · exact .inr ⟨"range", rfl, cb_range, by decide +kernel⟩
  · exact .inr ⟨"tuple", rfl, cb_tuple, by decide +kernel⟩
  · exact .inr ⟨"list", rfl, cb_list hc m, by decide +kernel⟩
  · exact .inl ⟨"sum", rfl, cb_sum hc, by decide +kernel⟩
  · exact .inl ⟨"min", rfl, cb_minD hc hu, by decide +kernel⟩
  · exact .inl ⟨"max", rfl, cb_maxD hc hu, by decide +kernel⟩
  · exact .inl ⟨"all", rfl, cb_all hc, by decide +kernel⟩
  · exact .inl ⟨"any", rfl, cb_any hc, by decide +kernel⟩
  · exact .inl ⟨"abs", rfl, cb_abs, by decide +kernel⟩
  · exact .inr ⟨"int", rfl, cb_int, by decide +kernel⟩
  · exact .inl ⟨"sorted", rfl, cb_sorted hu m, by decide +kernel⟩
theorem mt_ok (h : XM C G X) (f : Str) : Meths X f (mtOk f) (mtOp f) := by
  have hu := h.units
  unfold mtOk mtOp
  cases e : mtT.lookup f with
  | none => exact fun T hT => by cases hT
  | some p =>
    have hm : (f, p) ∈ mtT := PySem.mem_of_lookup e
    simp only [mtT, List.mem_cons, List.not_mem_nil, or_false, Prod.mk.injEq] at hm
    rcases hm with ⟨rfl, rfl⟩ | ⟨rfl, rfl⟩ | ⟨rfl, rfl⟩ | ⟨rfl, rfl⟩ | ⟨rfl, rfl⟩ | ⟨rfl, rfl⟩ | ⟨rfl, rfl⟩ | ⟨rfl, rfl⟩ | ⟨rfl, rfl⟩
    · exact ml_append
    · exact ml_extend
    · exact ml_reverse
    · exact ml_insert
    · exact ml_index hu
    · exact md_get (by omega)
    · exact md_pop (by omega)
    · exact md_update (by omega)
    · exact mi_bits
def IL.len : IL → Nat
  | .nil => 0
  | .cons _ es => IL.len es + 1
theorem evL_len (G : CallT) : ∀ (x : IL) (env : MEnv) (h : MH) (ms : List MV) (h' : MH), evL G x env h = .ok ms h' → ms.length = IL.len x
  | .nil, env, h, ms, h', e => by simp only [evL, evNil] at e; cases e; rfl
  | .cons a es, env, h, ms, h', e => by
    simp only [evL, evCons] at e
    cases ea : ev G a env h with
    | err => rw [ea] at e; cases e
    | exc x y => rw [ea] at e; cases e
    | ok m h1 =>
      rw [ea] at e
      simp only [Res.bind] at e
      cases es' : evL G es env h1 with
      | err => rw [es'] at e; cases e
      | exc x y => rw [es'] at e; cases e
      | ok ns h2 =>
        rw [es'] at e
        cases e
        rw [List.length_cons, evL_len G es env h1 ns _ es']; rfl
theorem cL_len : ∀ (n : Nat) (es : List Expr) (x : IL), cL C n es = some x → IL.len x = es.length
  | 0, es, x, e => by simp [cL] at e
  | n + 1, [], x, e => by simp only [cL] at e; cases e; rfl
  | n + 1, a :: es, x, e => by
    simp only [cL] at e
    cases e1 : cE C n a with
    | none => rw [e1] at e; cases e
    | some y =>
      cases e2 : cL C n es with
      | none => rw [e1, e2] at e; cases e
      | some ys =>
        rw [e1, e2] at e
        cases e
        rw [List.length_cons, ← cL_len n es ys e2]; rfl
end
end Mi

set_option Elab.async false
set_option linter.all false
set_option maxRecDepth 100000
set_option maxHeartbeats 4000000
namespace Mi
open PySem PySem.Spec L2
set_option autoImplicit false
structure EOk (G : CallT) (n : Nat) (C : CC) (X : Cx) (W : WX) : Prop where
  e : ∀ (e : Expr) (x : IE), cE C n e = some x → PE X e (tE X.K W (ev G x))
  o : ∀ (e : Option Expr) (x : IO), cO C n e = some x → PO X e (tO X.K W (evO G x))
  l : ∀ (es : List Expr) (x : IL), es.all notStar = true → cL C n es = some x → PA X es (tA X.K W (evL G x))
  t : ∀ (e : Expr) (x : IT), cT C n e = some x → PT X e (tT X.K W (evT G x))
  w : ∀ (o : BoolOp) (es : List Expr) (p : Pos) (x : IT), cW C n o es = some x → PW X (.BoolOp o es p) (tT X.K W (evT G x))
  f : ∀ (es : List Expr) (x : IT), cF C n es = some x → PTs X es (tT X.K W (evT G x))
  i : ∀ (tg e : Expr) (x : II), cI C n tg e = some x → PI X tg e (tI X.K W (evI G x))
section
variable {C : CC} {G : CallT} {X : Cx} {W : WX}
theorem slots_ok {own : List (Str × Nat)} {g : ITg} (h : (g.slots.all fun s => own.any fun q => q.2 == s) = true) : ∀ i ∈ g.slots, i ∈ own.map (·.2) := fun i hi => by
  rw [List.all_eq_true] at h
  have := h i hi
  rw [List.any_eq_true] at this
  obtain ⟨q, h1, h2⟩ := this
  exact List.mem_map.mpr ⟨q, h1, by simpa using h2⟩
theorem const_ok {c : Const} {m : MV} {k : Nat} {p : Pos} (e : constM c = some m) : PE X (.Constant c k p) (tE X.K W fun _ h => .ok m h) := by
  unfold constM at e
  split at e
  · cases e; exact me_c pe_non fun _ _ _ => by simp only [R]
  · cases e; exact me_c pe_bl fun _ _ _ => by simp only [R]
  · cases e; exact me_c pe_int fun _ _ _ => by simp only [R]
  · cases e; exact me_c pe_str fun _ _ _ => by simp only [R]
  · cases e
theorem me_ccall (h : XM C G X) (tk : Takes X W) {n : Nat} {f : Str} {a : Expr} {as : List Expr} {k : Nat} {x : IL} {np p : Pos} (hf : fnOf C f = some k) (hl : (a :: as).length = k) (hs : (a :: as).all notStar = true) (hx : cL C n (a :: as) = some x)
    (ha : PA X (a :: as) (tA X.K W (evL G x))) : PE X (.Call (.Name f np) (a :: as) [] p) (tE X.K W (evCall (G f) (evL G x))) := by
  unfold fnOf at hf
  split at hf
  · rename_i hg
    obtain ⟨l, fa, fd, ps, F, hp, hr, hm, hk, hb⟩ := h.fs f k hf
    obtain ⟨g1, g2⟩ := h.gl hg
    have hs' := hs
    simp only [List.all_cons, Bool.and_eq_true] at hs'
    exact me_call F hr g1 hm hk hb tk (fun env h0 ms h' e => by rw [evL_len G x env h0 ms h' e, cL_len n _ x hx, hl, hp]) ha g2 (star_of hs'.1) (stars_of hs'.2)
  · cases hf
theorem me_cbi (h : XM C G X) {f : Str} {a : Expr} {as : List Expr} {b : BK} {x : IL} {np p : Pos} (m : Bool) (hf : biOf C f = some b) (hs : (a :: as).all notStar = true)
    (ha : PA X (a :: as) (tA X.K W (evL G x))) : PE X (.Call (.Name f np) (a :: as) [] p) (tE X.K W (evN (opFn m f) (evL G x))) := by
  unfold biOf at hf
  split at hf
  · rename_i hg
    simp only [Bool.and_eq_true, Bool.not_eq_true', List.contains_iff_mem] at hg
    obtain ⟨g1, g2⟩ := h.gl hg.1
    have hn : f ≠ "__name__" := fun e => by rw [e] at hg; exact absurd hg.2.2 (by decide)
    have hm := h.bs f hg.2.1
    simp only [List.all_cons, Bool.and_eq_true] at hs
    rcases bi_ok h m hf with ⟨id, rfl, hc, hv⟩ | ⟨id, rfl, hc, hv⟩
    · exact me_callB hc g1 hm hv ha hn g2 (star_of hs.1) (stars_of hs.2)
    · exact me_callTy hc g1 hm hv ha hn g2 (star_of hs.1) (stars_of hs.2)
  · cases hf
theorem me_cmeth (h : XM C G X) {f : Str} {o : Expr} {as : List Expr} {fo : IE} {x : IL} {ap p : Pos} (hs : as.all notStar = true) (hb : isCall0 o = false) (hl : (ap.endLine == p.line) = true) (hk : as.length < 20)
    (ho : PE X o (tE X.K W (ev G fo))) (ha : PA X as (tA X.K W (evL G x))) (hx : ∀ n, as = [] → cL C n as = some x → x = .nil) (n : Nat) (hc : cL C n as = some x) : PE X (.Call (.Attribute o f ap) as [] p) (tE X.K W (evMeth (mtOk f) (mtOp f) (ev G fo) (evL G x))) := by
  cases as with
  | nil =>
    rw [hx n rfl hc]
    simp only [evL]
    exact me_meth0 (mt_ok h f) ho (base_of hb) hl
  | cons a as =>
    have hs' := hs
    simp only [List.all_cons, Bool.and_eq_true] at hs'
    refine me_meth (mt_ok h f) ho ha (base_of hb) ?_ hl (star_of hs'.1) (stars_of hs'.2)
    rw [fewStars hs]
    simp only [Bool.true_and, Bool.and_eq_true, decide_eq_true_eq]
    refine ⟨rfl, ?_⟩
    simp only [List.length_nil, List.isEmpty_nil, if_true]
    omega
theorem cL_nil {n : Nat} {x : IL} (h : cL C n [] = some x) : x = .nil := by
  cases n with
  | zero => simp [cL] at h
  | succ n => simp only [cL] at h; cases h; rfl
theorem sl_ok {n : Nat} (J : EOk G n C X W) {a : Expr} {lo hi : Option Expr} {sp p : Pos} {x : IE} (q : (match cE C n a, cO C n lo, cO C n hi with
      | some x, some y, some z => some (IE.sl (C.m p) x y z)
      | _, _, _ => none) = some x) : PE X (.Subscript a (.Slice lo hi none sp) p) (tE X.K W (ev G x)) := by
  split at q
  · rename_i u v w e1 e2 e3
    cases q
    simp only [ev]
    exact me_sl _ (J.e a u e1) (J.o lo v e2) (J.o hi w e3)
  · cases q
theorem two_ok {n : Nat} (J : EOk G n C X W) {a b : Expr} {f : IE → IE → IE} {x : IE} (q : (match cE C n a, cE C n b with
      | some x, some y => some (f x y)
      | _, _ => none) = some x) : ∃ u v, x = f u v ∧ PE X a (tE X.K W (ev G u)) ∧ PE X b (tE X.K W (ev G v)) := by
  split at q
  · rename_i u v e1 e2
    cases q
    exact ⟨u, v, rfl, J.e a u e1, J.e b v e2⟩
  · cases q
theorem two_ok' {n : Nat} (J : EOk G n C X W) {a b : Expr} {f : IE → IE → IT} {x : IT} (q : (match cE C n a, cE C n b with
      | some x, some y => some (f x y)
      | _, _ => none) = some x) : ∃ u v, x = f u v ∧ PE X a (tE X.K W (ev G u)) ∧ PE X b (tE X.K W (ev G v)) := by
  split at q
  · rename_i u v e1 e2
    cases q
    exact ⟨u, v, rfl, J.e a u e1, J.e b v e2⟩
  · cases q
/-- the pieces of a list comprehension -/
structure Lc1 (G : CallT) (n : Nat) (C : CC) (X : Cx) (W : WX) (e tg it : Expr) (ifs : List Expr) (scope : Scope) (p : Pos) (x : IE) : Prop where
  ex : ∃ (i : II) (g : ITg) (t : IT) (y : IE), x = .comp (C.m p) i g t y ((ownOf C.N scope).map (·.2)) ∧ BlkOk X.N X.env.scope scope (ownOf C.N scope) ∧ (∀ i ∈ g.slots, i ∈ (ownOf C.N scope).map (·.2)) ∧ PI X tg it (tI X.K W (evI G i)) ∧ notSet it = true ∧
    (∀ (s : Shared) (H : Hp) (ca : Addr) (cl : List (Str × Addr)) (fp : List Addr), PG (X.blk s H scope (compEnvC scope cl ca X.env) fp) tg (gM X.K g)) ∧
    (∀ (s : Shared) (H : Hp) (ca : Addr) (cl : List (Str × Addr)) (fp : List Addr), PTs (X.blk s H scope (compEnvC scope cl ca X.env) fp) ifs (tT X.K W0 (evT G t))) ∧
    (∀ (s : Shared) (H : Hp) (ca : Addr) (cl : List (Str × Addr)) (fp : List Addr), PE (X.blk s H scope (compEnvC scope cl ca X.env) fp) e (tE X.K W0 (ev G y)))
structure Lc2 (G : CallT) (n : Nat) (C : CC) (X : Cx) (W : WX) (e tg it : Expr) (ifs : List Expr) (tg1 it1 : Expr) (ifs1 : List Expr) (scope : Scope) (p : Pos) (x : IE) : Prop where
  ex : ∃ (i : II) (g : ITg) (t : IT) (i1 : II) (g1 : ITg) (t1 : IT) (y : IE), x = .comp2 (C.m p) i g t i1 g1 t1 y ((ownOf C.N scope).map (·.2)) g1.slots ∧ BlkOk X.N X.env.scope scope (ownOf C.N scope) ∧ (∀ i ∈ g.slots, i ∈ (ownOf C.N scope).map (·.2)) ∧ (∀ i ∈ g1.slots, i ∈ (ownOf C.N scope).map (·.2)) ∧
    PI X tg it (tI X.K W (evI G i)) ∧ notSet it = true ∧ notSet it1 = true ∧
    (∀ (s : Shared) (H : Hp) (ca : Addr) (cl : List (Str × Addr)) (fp : List Addr), PG (X.blk s H scope (compEnvC scope cl ca X.env) fp) tg (gM X.K g)) ∧
    (∀ (s : Shared) (H : Hp) (ca : Addr) (cl : List (Str × Addr)) (fp : List Addr), PTs (X.blk s H scope (compEnvC scope cl ca X.env) fp) ifs (tT X.K W0 (evT G t))) ∧
    (∀ (s : Shared) (H : Hp) (ca : Addr) (cl : List (Str × Addr)) (fp : List Addr), PI (X.blk s H scope (compEnvC scope cl ca X.env) fp) tg1 it1 (tI X.K W0 (evI G i1))) ∧
    (∀ (s : Shared) (H : Hp) (ca : Addr) (cl : List (Str × Addr)) (fp : List Addr), PG (X.blk s H scope (compEnvC scope cl ca X.env) fp) tg1 (gM X.K g1)) ∧
    (∀ (s : Shared) (H : Hp) (ca : Addr) (cl : List (Str × Addr)) (fp : List Addr), PTs (X.blk s H scope (compEnvC scope cl ca X.env) fp) ifs1 (tT X.K W0 (evT G t1))) ∧
    (∀ (s : Shared) (H : Hp) (ca : Addr) (cl : List (Str × Addr)) (fp : List Addr), PE (X.blk s H scope (compEnvC scope cl ca X.env) fp) e (tE X.K W0 (ev G y)))
theorem lc1_ok {n : Nat} (h : XM C G X) (J : EOk G n C X W) (ih : ∀ (scope : Scope) (X' : Cx), XM (C.blk scope) G X' → EOk G n (C.blk scope) X' W0) {e tg it : Expr} {ifs : List Expr} {scope : Scope} {p : Pos} {x : IE} (q : cE C (n + 1) (.ListComp e [⟨tg, it, ifs, 0⟩] scope p) = some x) : Lc1 G n C X W e tg it ifs scope p x := by
  simp only [cE] at q
  split at q
  · rename_i hc
    simp only [Bool.and_eq_true] at hc
    split at q
    · rename_i ii g t y e1 e2 e3 e4
      split at q
      · rename_i hv
        cases q
        exact ⟨ii, g, t, y, rfl, by rw [h.N, h.sc]; exact blkOk_by hc.1, slots_ok hv, J.i _ _ ii e1, hc.2, fun s H ca cl fp => (cG_ok h.blk n).1 _ g e2, fun s H ca cl fp => (ih scope _ h.blk).f _ t e3, fun s H ca cl fp => (ih scope _ h.blk).e _ y e4⟩
      · cases q
    · cases q
  · cases q
theorem lc2_ok {n : Nat} (h : XM C G X) (J : EOk G n C X W) (ih : ∀ (scope : Scope) (X' : Cx), XM (C.blk scope) G X' → EOk G n (C.blk scope) X' W0) {e tg it tg1 it1 : Expr} {ifs ifs1 : List Expr} {scope : Scope} {p : Pos} {x : IE} (q : cE C (n + 1) (.ListComp e [⟨tg, it, ifs, 0⟩, ⟨tg1, it1, ifs1, 0⟩] scope p) = some x) : Lc2 G n C X W e tg it ifs tg1 it1 ifs1 scope p x := by
  simp only [cE] at q
  split at q
  · rename_i hc
    simp only [Bool.and_eq_true] at hc
    split at q
    · rename_i ii g t i1 g1 t1 y e1 e2 e3 e4 e5 e6 e7
      split at q
      · rename_i hv
        rw [Bool.and_eq_true] at hv
        cases q
        exact ⟨ii, g, t, i1, g1, t1, y, rfl, by rw [h.N, h.sc]; exact blkOk_by hc.1, slots_ok hv.1, slots_ok hv.2, J.i _ _ ii e1, hc.2.1, hc.2.2, fun s H ca cl fp => (cG_ok h.blk n).1 _ g e2, fun s H ca cl fp => (ih scope _ h.blk).f _ t e3,
          fun s H ca cl fp => (ih scope _ h.blk).i _ _ i1 e4, fun s H ca cl fp => (cG_ok h.blk n).1 _ g1 e5, fun s H ca cl fp => (ih scope _ h.blk).f _ t1 e6, fun s H ca cl fp => (ih scope _ h.blk).e _ y e7⟩
      · cases q
    · cases q
  · cases q
theorem tyT_ok {t : Str} {T : String} (e : tyOfN t = some T) : tyIn T = true ∧ bootBuiltins t = some (.type T) := by
  have hm : (t, T) ∈ tyT := PySem.mem_of_lookup e
  simp only [tyT, List.mem_cons, List.not_mem_nil, or_false, Prod.mk.injEq] at hm
  rcases hm with ⟨rfl, rfl⟩ | ⟨rfl, rfl⟩ | ⟨rfl, rfl⟩ | ⟨rfl, rfl⟩ | ⟨rfl, rfl⟩ | ⟨rfl, rfl⟩ <;> exact ⟨by decide, by decide +kernel⟩
theorem isTupE_of {tg : Expr} (h : isTupE tg = true) : ∃ es k p, tg = .Tuple es k p := by
  cases tg with
  | Tuple a b c => exact ⟨a, b, c, rfl⟩
  | _ => cases h
theorem last_ok {o p : CmpOp} {b c : Expr} (h : notSet c = true) : lastMarks [o, p] [b, c] = false := marks_of h
theorem e_ok : ∀ (n : Nat) (C : CC) (X : Cx) (W : WX), XM C G X → Takes X W → EOk G n C X W
  | 0, C, X, W, h, tk => ⟨fun e x q => by simp [cE] at q, fun e x q => by simp [cO] at q, fun e x _ q => by simp [cL] at q, fun e x q => by simp [cT] at q, fun o e p x q => by simp [cW] at q, fun e x q => by simp [cF] at q, fun t e x q => by simp [cI] at q⟩
  | n + 1, C, X, W, h, tk => by
    have J := e_ok n C X W h tk
    refine ⟨fun e x q => ?_, fun e x q => ?_, fun es x hs q => ?_, fun e x q => ?_, fun o es p x q => ?_, fun es x q => ?_, fun tg e x q => ?_⟩
    · unfold cE at q
      split at q
      · rename_i y p
        split at q
        · rename_i i ei
          cases q
          obtain ⟨a, b, c, d⟩ := h.slot ei
          simp only [ev]
          exact me_var a b c d
        · simp only [Option.map_eq_some_iff] at q
          obtain ⟨m, em, rfl⟩ := q
          unfold ksOf at em
          split at em
          · rename_i hg
            obtain ⟨g1, g2⟩ := h.gl hg
            obtain ⟨u, v, hm, hr, hR⟩ := h.ks y m em
            simp only [ev]
            exact me_c (pe_glob g1 hm hr g2) fun fi Z H => hR fi Z H
          · cases em
      · simp only [Option.map_eq_some_iff] at q
        obtain ⟨m, em, rfl⟩ := q
        simp only [ev]
        exact const_ok em
      · obtain ⟨u, v, rfl, h1, h2⟩ := two_ok J q
        simp only [ev]
        exact me_op2 (opB_ok _ _) h1 h2
      · simp only [Option.map_eq_some_iff] at q
        obtain ⟨u, e1, rfl⟩ := q
        simp only [ev]
        exact me_op1 or_neg (J.e _ u e1)
      · simp only [Option.map_eq_some_iff] at q
        obtain ⟨u, e1, rfl⟩ := q
        simp only [ev]
        exact me_not (J.e _ u e1)
      · split at q
        · rename_i hs
          obtain ⟨u, v, rfl, h1, h2⟩ := two_ok J q
          simp only [ev]
          exact me_cmp (opC_ok h _) h1 h2 (marks_of hs)
        · cases q
      · split at q
        · rename_i hs
          split at q
          · rename_i u v w e1 e2 e3
            cases q
            simp only [ev]
            exact me_chain (opC_ok h _) (opC_ok h _) (J.e _ u e1) (J.e _ v e2) (J.e _ w e3) (last_ok hs)
          · cases q
        · cases q
      · exact me_one (J.e _ _ q)
      · obtain ⟨u, v, rfl, h1, h2⟩ := two_ok J q
        simp only [ev]
        exact me_and h1 h2
      · obtain ⟨u, v, rfl, h1, h2⟩ := two_ok J q
        simp only [ev]
        exact me_or h1 h2
      · split at q
        · rename_i u v w e1 e2 e3
          cases q
          simp only [ev]
          exact me_if (J.t _ u e1) (J.e _ v e2) (J.e _ w e3)
        · cases q
      · split at q
        · rename_i hs
          simp only [Option.map_eq_some_iff] at q
          obtain ⟨u, e1, rfl⟩ := q
          simp only [ev]
          exact me_tup (J.l _ u hs e1)
        · cases q
      · split at q
        · rename_i hs
          simp only [Option.map_eq_some_iff] at q
          obtain ⟨u, e1, rfl⟩ := q
          simp only [ev]
          exact me_lst _ (J.l _ u hs e1)
        · cases q
      · exact sl_ok J q
      · simp only [Option.map_eq_some_iff] at q
        obtain ⟨u, e1, rfl⟩ := q
        simp only [ev]
        exact me_rev _ (J.e _ u e1)
      · split at q
        · rename_i hs
          obtain ⟨u, v, rfl, h1, h2⟩ := two_ok J q
          simp only [ev]
          exact me_ix (by have := h.units; omega) h1 h2 (ix_of hs)
        · cases q
      · split at q
        · rename_i f fp a t tp p hf0
          split at q
          · rename_i hc
            simp only [Bool.and_eq_true, List.contains_iff_mem, Bool.not_eq_true'] at hc
            split at q
            · rename_i T u e1 e2
              cases q
              obtain ⟨hT, hv⟩ := tyT_ok e1
              have ef : f = ("isinstance" : Str) := eq_of_beq hf0
              subst ef
              obtain ⟨g1, g2⟩ := h.gl hc.2.1
              obtain ⟨g3, g4⟩ := h.gl hc.2.2.2.1
              simp only [ev]
              exact me_isi hT g1 (h.bs _ hc.2.2.1) g3 (h.bs _ hc.2.2.2.2.1) hv (fun e => by rw [e] at hc; exact absurd hc.2.2.2.2.2 (by decide)) g4 (J.e _ u e2) (fun es env => star_of hc.1)
            · cases q
          · cases q
        · split at q
          · rename_i hs
            split at q
            · rename_i k hf
              split at q
              · rename_i hl
                simp only [Option.map_eq_some_iff] at q
                obtain ⟨u, e1, rfl⟩ := q
                simp only [ev]
                exact me_ccall h tk hf hl hs e1 (J.l _ u hs e1)
              · cases q
            · split at q
              · rename_i b hb
                simp only [Option.map_eq_some_iff] at q
                obtain ⟨u, e1, rfl⟩ := q
                simp only [ev]
                exact me_cbi h _ hb hs (J.l _ u hs e1)
              · cases q
          · cases q
      · split at q
        · rename_i f fp g gp a ip p hf0
          split at q
          · rename_i hc
            simp only [Bool.and_eq_true, List.contains_iff_mem] at hc
            simp only [Option.map_eq_some_iff] at q
            obtain ⟨u, e1, rfl⟩ := q
            rw [Bool.and_eq_true] at hf0
            have ef : f = ("len" : Str) := eq_of_beq hf0.1
            have eg : g = ("set" : Str) := eq_of_beq hf0.2
            subst ef eg
            obtain ⟨g1, g2⟩ := h.gl hc.2.1
            obtain ⟨g3, g4⟩ := h.gl hc.2.2.2.1
            simp only [ev]
            exact me_lenSet h.calm g1 (h.bs _ hc.2.2.1) g3 (h.bs _ hc.2.2.2.2) (J.e _ u e1) (star_of hc.1)
          · cases q
        · split at q
          · rename_i hs
            split at q
            · rename_i k hf
              split at q
              · rename_i hl
                simp only [Option.map_eq_some_iff] at q
                obtain ⟨u, e1, rfl⟩ := q
                simp only [ev]
                exact me_ccall h tk hf hl hs e1 (J.l _ u hs e1)
              · cases q
            · split at q
              · rename_i b hb
                simp only [Option.map_eq_some_iff] at q
                obtain ⟨u, e1, rfl⟩ := q
                simp only [ev]
                exact me_cbi h _ hb hs (J.l _ u hs e1)
              · cases q
          · cases q
      · split at q
        · rename_i hs
          split at q
          · rename_i k hf
            split at q
            · rename_i hl
              simp only [Option.map_eq_some_iff] at q
              obtain ⟨u, e1, rfl⟩ := q
              simp only [ev]
              exact me_ccall h tk hf hl hs e1 (J.l _ u hs e1)
            · cases q
          · split at q
            · rename_i b hb
              simp only [Option.map_eq_some_iff] at q
              obtain ⟨u, e1, rfl⟩ := q
              simp only [ev]
              exact me_cbi h _ hb hs (J.l _ u hs e1)
            · cases q
        · cases q
      · split at q
        · rename_i hc
          simp only [Bool.and_eq_true, decide_eq_true_eq, Bool.not_eq_true'] at hc
          split at q
          · rename_i u v e1 e2
            cases q
            simp only [ev]
            exact me_cmeth h hc.1.1 hc.1.2.1 hc.1.2.2 hc.2 (J.e _ u e1) (J.l _ v hc.1.1 e2) (fun n ea ec => by subst ea; exact cL_nil ec) n e2
          · cases q
        · cases q
      · obtain ⟨ii, g, t, y, rfl, h1, h2, h3, h4, h5, h6, h7⟩ := (lc1_ok h J (fun scope X' h' => e_ok n (C.blk scope) X' W0 h' takes0) (by rw [cE]; exact q)).ex
        simp only [ev]
        exact me_comp h.calm (nd_X h) h1 h2 h3 h5 h6 h7 (set_of h4)
      · obtain ⟨ii, g, t, i1, g1, t1, y, rfl, h1, h2, h2', h3, h4, h4', h5, h6, h7, h8, h9, h10⟩ := (lc2_ok h J (fun scope X' h' => e_ok n (C.blk scope) X' W0 h' takes0) (by rw [cE]; exact q)).ex
        simp only [ev]
        exact me_comp2 h.calm (nd_X h) h1 h2 (fun i hi => hi) h2' h3 h5 h6 h7 h8 h9 h10 (set_of h4) (fun env => set_of h4')
      · split at q
        · rename_i hc
          simp only [Bool.and_eq_true] at hc
          split at q
          · rename_i ii g t y z e1 e2 e3 e4 e5
            split at q
            · rename_i hv
              cases q
              simp only [ev]
              refine me_dc (by have := h.units; omega) h.calm (nd_X h) (by rw [h.N, h.sc]; exact blkOk_by hc.1) (slots_ok hv) (J.i _ _ ii e1) (fun s H ca cl fp => (cG_ok h.blk n).1 _ g e2) (fun s H ca cl fp => ?_) (fun s H ca cl fp => ?_) (fun s H ca cl fp => ?_) (set_of hc.2)
              · exact (e_ok n (C.blk _) _ W0 h.blk takes0).f _ t e3
              · exact (e_ok n (C.blk _) _ W0 h.blk takes0).e _ y e4
              · exact (e_ok n (C.blk _) _ W0 h.blk takes0).e _ z e5
            · cases q
          · cases q
        · cases q
      · cases q
        simp only [ev]
        exact me_dnew _
      · cases q
    · cases e with
      | none => simp only [cO] at q; cases q; simp only [evO]; exact mo_no
      | some e =>
        simp only [cO, Option.map_eq_some_iff] at q
        obtain ⟨u, e1, rfl⟩ := q
        simp only [evO]
        exact mo_some (J.e _ u e1)
    · cases es with
      | nil => simp only [cL] at q; cases q; simp only [evL]; exact ma_nil
      | cons a es =>
        simp only [List.all_cons, Bool.and_eq_true] at hs
        simp only [cL] at q
        split at q
        · rename_i u v e1 e2
          cases q
          simp only [evL]
          exact ma_cons (J.e _ u e1) (J.l _ v hs.2 e2) (star_of hs.1)
        · cases q
    · unfold cT at q
      split at q
      · split at q
        · rename_i hs
          obtain ⟨u, v, rfl, h1, h2⟩ := two_ok' J q
          simp only [evT]
          exact mt_cmp (opC_ok h _) h1 h2 (marks_of hs)
        · cases q
      · split at q
        · rename_i hs
          split at q
          · rename_i u v w e1 e2 e3
            cases q
            simp only [evT]
            exact mt_chain (opC_ok h _) (opC_ok h _) (J.e _ u e1) (J.e _ v e2) (J.e _ w e3) (last_ok hs)
          · cases q
        · cases q
      · simp only [Option.map_eq_some_iff] at q
        obtain ⟨u, e1, rfl⟩ := q
        simp only [evT]
        exact mt_not (J.t _ u e1)
      · exact (J.w _ _ _ _ q).pt
      · split at q
        · rename_i hp
          simp only [Option.map_eq_some_iff] at q
          obtain ⟨u, e1, rfl⟩ := q
          simp only [evT]
          exact mt_tru (J.e _ u e1) (true_of hp)
        · cases q
    · cases es with
      | nil => simp [cW] at q
      | cons a r =>
        cases r with
        | nil =>
          have q' : cT C n a = some x := by simpa only [cW] using q
          cases o
          · exact mw_and1 (J.t _ _ q')
          · exact mw_or1 (J.t _ _ q')
        | cons b r =>
          cases o
          · simp only [cW] at q
            split at q
            · rename_i u v e1 e2
              cases q
              simp only [evT]
              exact mw_and (J.t _ u e1) (J.w _ _ _ v e2)
            · cases q
          · simp only [cW] at q
            split at q
            · rename_i u v e1 e2
              cases q
              simp only [evT]
              exact mw_or (J.t _ u e1) (J.w _ _ _ v e2)
            · cases q
    · cases es with
      | nil =>
        simp only [cF] at q; cases q
        simp only [evT]
        exact ⟨fun pins s σ H Q I ⟨fi, Z, env, h0, re, rh, p⟩ => pts_nil.run pins s σ H Q I (p.ok rh rfl)⟩
      | cons a r =>
        cases r with
        | nil => simp only [cF] at q; exact pts_one (J.t _ _ q)
        | cons b r => simp [cF] at q
    · have val : ∀ {e : Expr}, (cE C n e).map II.val = some x → PI X tg e (tI X.K W (evI G x)) := by
        intro e q
        simp only [Option.map_eq_some_iff] at q
        obtain ⟨u, e1, rfl⟩ := q
        simp only [evI]
        exact mi_val (J.e _ u e1)
      unfold cI at q
      split at q
      · split at q
        · rename_i hc
          simp only [Bool.and_eq_true, List.contains_iff_mem] at hc
          obtain ⟨c1, c2, c3, c4, c5, c6⟩ := hc
          simp only [Option.map_eq_some_iff] at q
          obtain ⟨u, e1, rfl⟩ := q
          obtain ⟨es, k, p, rfl⟩ := isTupE_of c1
          obtain rfl := eq_of_beq c2
          simp only [evI]
          refine mi_zip (h.gl c3).1 (h.bs _ c4) (J.l _ u (by simp [c5, c6]) e1) (star_of c5) (stars_of (by simp [c6]))
        · exact val q
      · split at q
        · rename_i hc
          simp only [Bool.and_eq_true, List.contains_iff_mem] at hc
          obtain ⟨c1, c2, c3, c4, c5⟩ := hc
          simp only [Option.map_eq_some_iff] at q
          obtain ⟨u, e1, rfl⟩ := q
          obtain ⟨es, k, p, rfl⟩ := isTupE_of c1
          obtain rfl := eq_of_beq c2
          simp only [evI]
          exact mi_enum (h.gl c3).1 (h.bs _ c4) (J.l _ u (by simp [c5]) e1) (star_of c5)
        · exact val q
      · split at q
        · rename_i hc
          simp only [Bool.and_eq_true, Bool.not_eq_true'] at hc
          obtain ⟨c1, c2, c3, c4⟩ := hc
          simp only [Option.map_eq_some_iff] at q
          obtain ⟨u, e1, rfl⟩ := q
          obtain ⟨es, k, p, rfl⟩ := isTupE_of c1
          obtain rfl := eq_of_beq c2
          simp only [evI]
          exact mi_items (J.e _ u e1) (base_of c3) c4
        · exact val q
      · exact val q
end
end Mi

set_option Elab.async false
set_option linter.all false
set_option maxRecDepth 100000
set_option maxHeartbeats 4000000
namespace Mi
open PySem PySem.Spec L2
set_option autoImplicit false
structure SOk (G : CallT) (n : Nat) (C : CC) (X : Cx) (W : WX) : Prop where
  s : ∀ (s : Stmt) (x : IS), cS C n s = some x → PS X s (tS X.K W (evS G x))
  l : ∀ (ss : List Stmt) (x : IS), cS.cSs C n ss = some x → PSs X ss (tS X.K W (evS G x))
section
variable {C : CC} {G : CallT} {X : Cx} {W : WX}
theorem sub_asg {o i : Expr} {p : Pos} {env : Env} (h : notSlice i = true) (v : Value) : assign (.Subscript o i p) env v = (do
      let ov ← holding [v] (eval o env)
      let iv ← holding [v, ov] (eval i env)
      standAt p
      holding [v, ov, iv] (setItem ov iv v)
      release [v, ov, iv] []) := by
  cases i with
  | Slice a b c d => cases h
  | _ => rfl
theorem sw_cell {e : Expr} {y : Str} {py : Pos} {l : Nat} {env : Env} (hy : env.scope.names.lookup y = some .cell) : swapsWithSole [.Name y py] e l env = pure false := by
  have ky : env.kindOf y = some .cell := hy
  show swapsWith e (some (.Name y py)) l env = pure false
  have k2 : (env.kindOf y == some .local) = false := by rw [ky]; rfl
  cases e with
  | ListComp a b c d =>
    show (pure (env.blockKind == .function && env.kindOf y == some .local && py.line == d.line && !(c.names.any fun (n, k) => n == y && (k == .local || k == .cell))) : Sem Bool) = pure false
    rw [k2, Bool.and_false]; rfl
  | SetComp a b c d =>
    show (pure (env.blockKind == .function && env.kindOf y == some .local && py.line == d.line && !(c.names.any fun (n, k) => n == y && (k == .local || k == .cell))) : Sem Bool) = pure false
    rw [k2, Bool.and_false]; rfl
  | DictComp a b c d f =>
    show (pure (env.blockKind == .function && env.kindOf y == some .local && py.line == f.line && !(d.names.any fun (n, k) => n == y && (k == .local || k == .cell))) : Sem Bool) = pure false
    rw [k2, Bool.and_false]; rfl
  | _ => rfl
theorem s_ok (hp : PassesOwn (model X.prog X.w) X.A X.env X.xe) (h : XM C G X) (tk : Takes X W) : ∀ n : Nat, SOk G n C X W
  | 0 => ⟨fun s x q => by simp [cS] at q, fun s x q => by simp [cS.cSs] at q⟩
  | n + 1 => by
    have J := s_ok hp h tk n
    have E := e_ok n C X W h tk
    refine ⟨fun s x q => ?_, fun ss x q => ?_⟩
    · unfold cS at q
      split at q
      · split at q
        · rename_i hc
          simp only [Bool.and_eq_true] at hc
          split at q
          · rename_i u v w e1 e2 e3
            cases q
            simp only [evS]
            exact ms_put (by have := h.units; omega) (E.e _ w e3) (E.e _ u e1) (E.e _ v e2) (sub_asg hc.1) (sole_of hc.2) (stores_of rfl) (one_of rfl)
          · cases q
        · cases q
      · rename_i y py e gs sc p pos
        split at q
        · rename_i i u e1 e2
          split at q
          · rename_i hk
            simp only [Bool.and_eq_true, beq_iff_eq] at hk
            split at q
            · rename_i hl
              cases q
              obtain ⟨a, b, c⟩ := h.sto e1
              have hyl : X.env.scope.names.lookup y = some .local := by rw [h.sc]; exact hk.1
              have hsw : swapsWith (.ListComp e gs sc p) (some (.Name y py)) pos.line X.env = pure true := by
                show (pure (X.env.blockKind == .function && X.env.kindOf y == some .local && py.line == p.line && !(sc.names.any fun (n, k) => n == y && (k == .local || k == .cell))) : Sem Bool) = pure true
                have k1 : (X.env.blockKind == .function) = true := by unfold Env.blockKind; rw [h.sc, hk.2]; rfl
                have k2 : (X.env.kindOf y == some .local) = true := by show (X.env.scope.names.lookup y == some .local) = true; rw [hyl]; rfl
                rw [Bool.and_eq_true] at hl
                rw [k1, k2, hl.1]
                congr 1
                exact hl.2
              simp only [evS]
              cases n with
              | zero => simp [cE] at e2
              | succ n =>
                have E' := e_ok n C X W h tk
                cases gs with
                | nil => simp [cE] at e2
                | cons g1 gs =>
                  obtain ⟨tg, it, ifs, as⟩ := g1
                  cases gs with
                  | nil =>
                    by_cases ha : as = 0
                    · subst ha
                      obtain ⟨ii, g, t, y', rfl, h1, h2, h3, h4, h5, h6, h7⟩ := (lc1_ok h E' (fun scope X' h' => e_ok n (C.blk scope) X' W0 h' takes0) e2).ex
                      simp only [ev]
                      exact ms_setLc h.calm (nd_X h) a hyl hsw h1 h2 h3 h5 h6 h7 (set_of h4)
                    · exfalso
                      simp [cE, ha] at e2
                  | cons g2 gs =>
                    obtain ⟨tg1, it1, ifs1, as1⟩ := g2
                    cases gs with
                    | nil =>
                      by_cases ha : as = 0 ∧ as1 = 0
                      · obtain ⟨rfl, rfl⟩ := ha
                        obtain ⟨ii, g, t, i1, g1, t1, y', rfl, h1, h2, h2', h3, h4, h4', h5, h6, h7, h8, h9, h10⟩ := (lc2_ok h E' (fun scope X' h' => e_ok n (C.blk scope) X' W0 h' takes0) e2).ex
                        simp only [ev]
                        exact ms_setLc2 h.calm (nd_X h) a hyl hsw h1 h2 (fun i hi => hi) h2' h3 h5 h6 h7 h8 h9 h10 (set_of h4) (fun env => set_of h4')
                      · exfalso
                        by_cases h1 : as = 0
                        · have h2 : as1 ≠ 0 := fun z => ha ⟨h1, z⟩
                          subst h1
                          simp [cE, h2] at e2
                        · simp [cE, h1] at e2
                    | cons g3 gs =>
                      exfalso
                      simp [cE] at e2
            · cases q
          · split at q
            · rename_i hk
              cases q
              obtain ⟨a, b, c⟩ := h.sto e1
              simp only [evS]
              exact ms_asg (E.e _ u e2) (mg_name (nd_X h) a b c) (sw_cell (by rw [h.sc]; exact eq_of_beq hk)) (stores_of rfl) (one_of rfl)
            · cases q
        · cases q
      · split at q
        · rename_i hc
          simp only [Bool.and_eq_true, Bool.not_eq_true'] at hc
          split at q
          · rename_i g u e1 e2
            cases q
            simp only [evS]
            exact ms_asg (E.e _ u e2) ((cG_ok h n).1 _ g e1) (sole_of hc.2.1) (stores_of hc.2.2) (one_of hc.1)
          · cases q
        · cases q
      · split at q
        · rename_i i u e1 e2
          cases q
          obtain ⟨a, b, c⟩ := h.sto e1
          simp only [evS]
          exact ms_aug (nd_X h) a b c (opI_ok _) (E.e _ u e2)
        · cases q
      · split at q
        · rename_i hc
          simp only [Option.map_eq_some_iff] at q
          obtain ⟨u, e1, rfl⟩ := q
          simp only [evS]
          exact ms_expr (E.e _ u e1) (swap_of hc)
        · cases q
      · simp only [Option.map_eq_some_iff] at q
        obtain ⟨u, e1, rfl⟩ := q
        simp only [evS]
        exact ms_ret (E.e _ u e1)
      · cases q
        simp only [evS]
        exact ms_retN
      · split at q
        · rename_i t u v e1 e2 e3
          cases q
          simp only [evS]
          exact ms_if (E.t _ t e1) (J.l _ u e2) (J.l _ v e3)
        · cases q
      · split at q
        · rename_i t u e1 e2
          cases q
          simp only [evS]
          exact ms_while _ hp (E.t _ t e1) (J.l _ u e2)
        · cases q
      · split at q
        · rename_i hs
          split at q
          · rename_i i g u e1 e2 e3
            cases q
            simp only [evS]
            exact ms_for hp h.calm (E.i _ _ i e1) ((cG_ok h n).1 _ g e2) (J.l _ u e3) (set_of hs)
          · cases q
        · cases q
      · cases q; simp only [evS]; exact L2.PS.imp ps_never fun D σ H ⟨fi, Z, env, h0, re, rh, p⟩ => p.elim
      · cases q; simp only [evS]; exact ms_pass
      · cases q; simp only [evS]; exact ms_break
      · cases q; simp only [evS]; exact ms_continue
      · cases q
    · cases ss with
      | nil => simp only [cS.cSs] at q; cases q; simp only [evS]; exact mss_nil
      | cons s r =>
        cases r with
        | nil =>
          have q' : cS C n s = some x := by simpa only [cS.cSs] using q
          exact mss_one (J.s _ _ q')
        | cons s2 r =>
          simp only [cS.cSs] at q
          split at q
          · rename_i u v e1 e2
            cases q
            simp only [evS]
            exact mss_cons (J.s _ u e1) (J.l _ v e2)
          · cases q
end
/-- what the written part says of a def -/
structure DOk (P : Program) (w : World) (K : PySem.W.Frag) (mg : Str → Option Value) (C : CC) (D : IP) (x : Str) (k : Nat) : Prop where
  ex : ∃ (d : IF) (f : Addr) (fd : FuncData) (ps : List Str) (x' qual : Str) (params : Arguments) (body : List Stmt) (scope : Scope) (dvs : List V) (kws : List (Str × V)),
    D.lookup x = some d ∧ FunD K x' qual params body scope dvs kws f fd ∧ FnScope d.N ps scope ∧ ps.length = k ∧ mg x = some (.ref f) ∧ L2.Binds K fd ps [] ∧
    (x = "law" → ∀ (s : Shared) (us : List Value), us.length = ps.length → BindsTo s fd ⟨us, []⟩ (ps.zip us)) ∧
    ∃ n, cS.cSs { C with N := d.N, sc := scope, own := none } n body = some d.body
theorem defs_ok {P : Program} {w : World} {K : PySem.W.Frag} {mg : Str → Option Value} {C : CC} {D : IP} (hb : ∀ x ∈ C.bs, mg x = none)
    (hk : ∀ (x : Str) (m : MV), C.ks.lookup x = some m → ∃ u v, mg x = some u ∧ RelV v u ∧ ∀ fi Z H, R K fi Z H m v) (hd : ∀ (x : Str) (k : Nat), C.fs.lookup x = some k → DOk P w K mg C D x k) :
    ∀ (l : Nat) (x : Str) (k : Nat), C.fs.lookup x = some k → ∃ f fd ps, (∀ base : Heap, FnOk P w K mg base (L2.CX P w) l f fd ps (spOf K ps.length (run D l x))) ∧ ps.length = k ∧ mg x = some (.ref f) ∧ PySem.W.keepIn K (.ref f) = true ∧ L2.Binds K fd ps [] ∧ (x = "law" → ∀ (s : Shared) (us : List Value), us.length = ps.length → BindsTo s fd ⟨us, []⟩ (ps.zip us)) := by
  intro l
  induction l with
  | zero =>
    intro x k hx
    obtain ⟨d, f, fd, ps, x', qual, params, body, scope, dvs, kws, h1, F, S, hl, hm, hb, hA, n, hc⟩ := (hd x k hx).ex
    exact ⟨f, fd, ps, fun base => ⟨fun vs H Q E h => h.1, fun A outer s H args us vs Q E _ _ _ _ hs => by obtain ⟨_, _, _, _, _, _, _, p⟩ := hs; exact p.elim⟩, hl, hm, F.kp, hb, hA⟩
  | succ l ih =>
    intro x k hx
    obtain ⟨d, f, fd, ps, x', qual, params, body, scope, dvs, kws, h1, F, S, hl, hm, hbi, hA, n, hc⟩ := (hd x k hx).ex
    refine ⟨f, fd, ps, ?_, hl, hm, F.kp, hbi, hA⟩
    intro base
    refine fn_mi (N := d.N) (b := evS (run D l) d.body) F S (fun ms h => ?_) fun X e1 e2 e3 e4 e5 e6 e7 hr hcalm hfn hst hfr hpa W tk => ?_
    · show run D (l + 1) x ms h = _ ∨ run D (l + 1) x ms h = _
      simp only [run, h1]
      split
      · exact .inr rfl
      · exact .inl rfl
    · subst e1 e2 e3 e4 e5
      have hX : XM { C with N := d.N, sc := scope, own := none } (run D l) X := by
        refine ⟨e6, S.nd, e7, fun _ => hfn, fun s0 e => (by cases e), hcalm, hb, hk, fun y k' hy => ?_, ⟨l, hr⟩⟩
        obtain ⟨f', fd', ps', F', hl', hm', hk', hb', _⟩ := ih y k' hy
        exact ⟨l, f', fd', ps', F' _, hl', hr, hm', hk', hb'⟩
      exact (s_ok hpa hX tk n).l body d.body hc
end Mi

set_option Elab.async false
set_option linter.all false
set_option maxRecDepth 100000
set_option maxHeartbeats 4000000
namespace Mi
open PySem PySem.Spec L2
set_option autoImplicit false
theorem forall_cons {α : Type} {P : α → Prop} {a : α} {l : List α} (h : P a) (t : ∀ x ∈ l, P x) : ∀ x ∈ a :: l, P x := fun x hx => by
  rcases List.mem_cons.mp hx with e | e
  · exact e ▸ h
  · exact t x e
theorem forall_nil {α : Type} {P : α → Prop} : ∀ x ∈ ([] : List α), P x := fun x hx => by cases hx
theorem forall_app {α : Type} {P : α → Prop} {l m : List α} (h : ∀ x ∈ l, P x) (t : ∀ x ∈ m, P x) : ∀ x ∈ l ++ m, P x := fun x hx => by
  rcases List.mem_append.mp hx with e | e
  · exact h x e
  · exact t x e
/-- what is asked of a def's scope, by computation -/
def scB (N P : List Str) (sc : Scope) : Bool := sc.kind == .function && (!sc.isCoroutine && (!sc.isGenerator && (decide N.Nodup && (decide (N.take P.length = P) && (P.all (fun x => sc.names.lookup x == some .local || sc.names.lookup x == some .cell) && sc.names.all fun y => !(y.2 == .free))))))
theorem scB_ok {N P : List Str} {sc : Scope} (h : scB N P sc = true) : FnScope N P sc := by
  unfold scB at h
  simp only [Bool.and_eq_true, Bool.not_eq_true', decide_eq_true_eq] at h
  obtain ⟨h1, h2, h3, h4, h5, h6, h7⟩ := h
  refine ⟨?_, h2, h3, h4, h5, fun x hx => ?_, fun y hy e => ?_⟩
  · cases hk : sc.kind <;> first | rfl | (rw [hk] at h1; exact absurd h1 (by decide))
  · have := List.all_eq_true.mp h6 x hx
    simp only [Bool.or_eq_true, beq_iff_eq] at this
    exact this
  · have := List.all_eq_true.mp h7 y hy
    rw [e] at this
    exact absurd this (by decide)
section
variable {P : Program} {w : World} {K : PySem.W.Frag} {mg : Str → Option Value} {h : Heap} {C : CC} {D : IP} {fa : List He.Fa} {fn : List He.DefD}
theorem dok_of (X : K.In h) (G : h.Ns mainGlobals mg) (c : He.SaysD fa fn K) (i j : Nat) {d : He.DefD} {x : Str} {dd : IF} {ps : List Str} (hd : fn[i]? = some d) (hg : fa[j]? = some (.glo x)) (hat : d.at_ = (x, none)) (hdv : d.dvs K = [])
    (hD : D.lookup x = some dd) (S : scB dd.N ps d.scope = true)
    (hb : ∀ (kV doc pm : Value) (an : Option Addr) (cdv ct : Value) (us : List Value), us.length = ps.length → bindArgs (PySem.W.fnOf d.name d.qual d.params d.body d.scope .none kV doc pm an cdv ct) ⟨us, []⟩ = pure (ps.zip us))
    (hc : cS.cSs { C with N := dd.N, sc := d.scope, own := none } 60 d.body = some dd.body) : DOk P w K mg C D x ps.length := by
  obtain ⟨fd, F⟩ := c.def_ i hd
  rw [hat] at F
  have hgl := He.glo_ok X G (c.fact j hg)
  refine ⟨dd, _, fd, ps, d.name, d.qual, d.params, d.body, d.scope, d.dvs K, d.kws K, hD, F, scB_ok S, rfl, hgl, ?_, ?_, 60, hc⟩
  · rw [hdv] at F
    exact F.bindsN hb
  · rw [hdv] at F
    exact fun _ s us hl => F.bindsA hb s us hl
end
def sumBits (ns : List Int) : Nat := (ns.map fun n => Builtin.Int.intBits n + 1).sum
theorem weight_sum : ∀ ns : List Int, PySem.W.WData.weightAll (ns.map PySem.W.WData.int) = sumBits ns
  | [] => by simp [sumBits, PySem.W.WData.weightAll]
  | n :: ns => by
    rw [List.map_cons, Att.weight_cons, Att.weight_int, weight_sum ns]
    simp [sumBits]
theorem script_sum {ns : List Int} (h : PySem.W.WData.layableAll [PySem.W.WData.list (ns.map PySem.W.WData.int)] = true) : sumBits ns ≤ 1048576 := by
  have h2 : PySem.W.WData.layable (PySem.W.WData.list (ns.map PySem.W.WData.int)) = true := by
    have h0 := h
    simp only [PySem.W.WData.layableAll, List.all_cons, List.all_nil, Bool.and_true] at h0
    exact h0
  have h3 : PySem.W.WData.weight (PySem.W.WData.list (ns.map PySem.W.WData.int)) ≤ 2 ^ 20 := by
    unfold PySem.W.WData.layable at h2
    simp only [Bool.and_eq_true, decide_eq_true_eq] at h2
    exact h2.2
  rw [Att.weight_list, weight_sum] at h3
  have e : (2 : Nat) ^ 20 = 1048576 := by decide
  rw [e] at h3
  exact h3
section
open Att PySem.W PySem.Calls PyProof.Rows
theorem attach_sum {l : OpenLaw} {n : Nat} {q : Program} {loose : List Str} {XP : (Str → Option Value) → Heap → Prop} {YP : World → Heap → Prop} {d : DefRec}
    (hn : l.most = some n) (hdf : d.params.defaults = [])
    (call : ∀ (w : World) (s₀ s₁ : Shared) (mg mb : Str → Option Value) (fa : Addr) (o : Obj) (pm cd doc : Value) (a : Addr) (vs : List Value) (ns : List Int),
      Ground q loose [] XP w s₀ mg mb s₁.heap → YP w s₁.heap →
      s₁.heap.get? fa = some o → o.data = .func (docDef d.name d.params d.body d.scope pm cd doc) → s₁.heap.CodeRec cd d.name → mg d.name = some (.ref fa) →
      s₁.heap.get? a = some { cls := .type "list", data := .seq vs.toArray } → IntsAre vs ns → ns.length ≤ n → sumBits ns ≤ 1048576 → s₁.gens = #[] →
      codeAny (model l.prog w) callerA (.call (.ref fa) ⟨[.ref a], []⟩) (fun r s' => r = .ok (.ret (.bool true)) ∧ OldK s₁.heap s'.heap ∧ s'.os = s₁.os ∧ AllBare s'.gens) s₁) :
    WalkO q loose XP YP l.row.toRowW d [] (fun f vs => PySem.call f vs) := by
  intro w s₀ s₁ mg mb G Y fa o pm cd doc dV kV ho hd hcd hD hmg hg args vals as hpre hlay hrd hwl hlo
  obtain rfl : dV = .none := Dflts.none hD hdf
  obtain rfl : kV = .none := Dflts.noKw hD
  obtain ⟨a, vs, ns, rfl, rfl, hobj, hints, hlen⟩ := script_of hn hpre hwl
  refine enter_call (codeAny_mono (call w s₀ s₁ mg mb fa o pm cd doc a vs ns G Y ho (fd_plain hd) hcd hmg hobj hints hlen (script_sum hlay) hg) fun r s' hq => ?_)
  obtain ⟨rfl, h2, h3, h4⟩ := hq
  exact ⟨.inl ⟨.bool true, .bool true, [], rfl, fun _ => rfl, .bool true, post_true l _, fun _ => ⟨List.Pairwise.nil, fun _ hm => (nomatch hm)⟩⟩, h2, h3, h4⟩
end
/-- THE END: the small interpreter answers True for each script -/
theorem walk_mi {l : PySem.W.OpenLaw} {n k : Nat} {q : Program} {loose : List Str} {XP : (Str → Option Value) → Heap → Prop} {d : DefRec} {fa : List He.Fa} {fn : List He.DefD} {C : CC} {D : IP}
    (hn : l.most = some n) (hn2 : n ≤ sizeLine) (hdf : d.params.defaults = []) (hr : Room k callerA) (hx : d.name = ("law" : Str))
    (hD : ∀ (w : World) (mg : Str → Option Value) (h : Heap) (K : PySem.W.Frag), K.In h → h.Ns mainGlobals mg → He.SaysD fa fn K → (∀ x ∈ C.bs, mg x = none) ∧ (∀ p ∈ C.ks, ∃ u v, mg p.1 = some u ∧ RelV v u ∧ ∀ fi Z H, R K fi Z H p.2 v) ∧ ∀ p ∈ C.fs, DOk l.prog w K mg C D p.1 p.2)
    (hl : C.fs.lookup ("law" : Str) = some 1)
    (hrun : ∀ ns : List Int, ns.length ≤ n → sumBits ns ≤ 1048576 → ∃ h, run D k ("law" : Str) [.scr ns] [] = .ok (.bl true) h) :
    PySem.W.WalkO q loose XP (fun _ h => ∃ K : PySem.W.Frag, K.In h ∧ He.SaysD fa fn K) l.row.toRowW d [] (fun f vs => PySem.call f vs) := by
  refine attach_sum hn hdf fun w s₀ s₁ mg mb fa' o pm cd doc a vs ns G Y ho hd hcd hmg hobj hints hlen hbits hg => ?_
  obtain ⟨K, KX, c⟩ := Y
  rw [hx] at hmg
  obtain ⟨hb, hk, hf⟩ := hD w mg s₁.heap K KX G.T.g c
  obtain ⟨f, fd, ps, hF, hlen1, hm, hkp, hbi, hA⟩ := defs_ok (D := D) hb (fun x m e => hk (x, m) (PySem.mem_of_lookup e)) (fun x k e => hf (x, k) (PySem.mem_of_lookup e)) k _ 1 hl
  rw [hm] at hmg
  cases hmg
  obtain ⟨x, rfl⟩ : ∃ x, ps = [x] := by
    match ps, hlen1 with
    | [x], _ => exact ⟨x, rfl⟩
  refine law_call KX G.T.g G.T.b G.T.builtins G.T.nolimit hg hobj hints (Nat.le_trans hlen hn2) hr (fun base _ _ => hF base) (fun s u => hA rfl s [u] rfl) (fun H hO hS => ?_) fun H e s' hc => ?_
  · obtain ⟨hh, er⟩ := hrun ns hlen hbits
    refine ⟨rfl, [], [], [], [.scr ns], ⟨rfl, List.nodup_nil, (fun n o a e _ => by cases e), (fun a ha => by cases ha)⟩, RL.cons ?_ RL.nil, ?_⟩
    · simp only [R]
      refine ⟨a, rfl, ?_⟩
      rcases hS with q | q
      · rcases hO a with z | ⟨o, xs, z⟩
        · rcases q with q | ⟨o, q⟩ <;> (rw [z] at q; cases q)
        · rcases q with q | ⟨o2, q⟩
          · rw [z] at q; cases q
          · exact .inl ⟨o2, q, by simp⟩
      · exact .inr q
    · rw [er]
      intro b H' fi' g r1 r2
      simp only [R] at r2
      exact r2
  · obtain ⟨_, _, _, _, _, _, _, _, _, _, _, _, z⟩ := hc
    exact z
end Mi

set_option Elab.async false
set_option linter.all false
set_option maxRecDepth 100000
set_option maxHeartbeats 0
namespace K76h
open PySem PySem.Spec PyProof.Rows L2
def top (i : Nat) : Stmt := PySem.Challenge.pw_signrounds_k76_whole_rounds_of_joined_an.main.body.getD i (.Pass ⟨0, 0, 0, 0⟩)
def facts : List He.Fa := [.glo "is_integer", .glo "is_between", .glo "is_tuple_of", .glo "check_place", .glo "is_web", .glo "check_web", .glo "tie_between", .glo "ties_of", .glo "signs_of", .glo "web_by", .glo "is_tie", .glo "check_tie", .glo "foes_of", .glo "is_way_round", .glo "is_ring_of", .glo "is_ring", .glo "check_ring", .glo "ring_sign_of", .glo "ring_sign", .glo "rings_of", .glo "check_few", .glo "rings", .glo "check_room", .glo "moved_signs", .glo "joined_at", .glo "parted_tie", .glo "foe_table", .glo "trouble_of", .glo "trouble", .glo "_law_well", .glo "_law_dip", .glo "_law_web", .glo "_law_ties", .glo "_law_trouble", .glo "_law_told_form", .glo "_law_rounds", .glo "_law_are_rounds", .glo "_law_joined_right", .glo "_law_parted_right", .glo "law", .free "ValueError", .free "abs", .free "all", .free "bool", .free "enumerate", .free "int", .free "isinstance", .free "len", .free "list", .free "min", .free "range", .free "set", .free "sorted", .free "sum", .free "super", .free "tuple", .int "MOST_PLACES" 10, .int "MOST_FOR_RINGS" 7, .glo "SignError", .glo "InvalidWeb", .glo "InvalidTie", .glo "InvalidPlace", .glo "InvalidRing", .glo "TooMany", .keep "SignError", .keep "InvalidWeb", .keep "InvalidTie", .keep "InvalidPlace", .keep "InvalidRing", .keep "TooMany"]
def d_is_integer : He.DefD := ⟨("is_integer", none), "is_integer", "is_integer", defArgs (top 9), defBody (top 9), defScope (top 9), [], []⟩
def d_is_between : He.DefD := ⟨("is_between", none), "is_between", "is_between", defArgs (top 10), defBody (top 10), defScope (top 10), [], []⟩
def d_is_tuple_of : He.DefD := ⟨("is_tuple_of", none), "is_tuple_of", "is_tuple_of", defArgs (top 11), defBody (top 11), defScope (top 11), [], []⟩
def d_check_place : He.DefD := ⟨("check_place", none), "check_place", "check_place", defArgs (top 12), defBody (top 12), defScope (top 12), [], []⟩
def d_is_web : He.DefD := ⟨("is_web", none), "is_web", "is_web", defArgs (top 15), defBody (top 15), defScope (top 15), [], []⟩
def d_check_web : He.DefD := ⟨("check_web", none), "check_web", "check_web", defArgs (top 16), defBody (top 16), defScope (top 16), [], []⟩
def d_tie_between : He.DefD := ⟨("tie_between", none), "tie_between", "tie_between", defArgs (top 17), defBody (top 17), defScope (top 17), [], []⟩
def d_ties_of : He.DefD := ⟨("ties_of", none), "ties_of", "ties_of", defArgs (top 18), defBody (top 18), defScope (top 18), [], []⟩
def d_signs_of : He.DefD := ⟨("signs_of", none), "signs_of", "signs_of", defArgs (top 19), defBody (top 19), defScope (top 19), [], []⟩
def d_web_by : He.DefD := ⟨("web_by", none), "web_by", "web_by", defArgs (top 20), defBody (top 20), defScope (top 20), [], []⟩
def d_is_tie : He.DefD := ⟨("is_tie", none), "is_tie", "is_tie", defArgs (top 21), defBody (top 21), defScope (top 21), [], []⟩
def d_check_tie : He.DefD := ⟨("check_tie", none), "check_tie", "check_tie", defArgs (top 22), defBody (top 22), defScope (top 22), [], []⟩
def d_foes_of : He.DefD := ⟨("foes_of", none), "foes_of", "foes_of", defArgs (top 23), defBody (top 23), defScope (top 23), [], []⟩
def d_is_way_round : He.DefD := ⟨("is_way_round", none), "is_way_round", "is_way_round", defArgs (top 24), defBody (top 24), defScope (top 24), [], []⟩
def d_is_ring_of : He.DefD := ⟨("is_ring_of", none), "is_ring_of", "is_ring_of", defArgs (top 25), defBody (top 25), defScope (top 25), [], []⟩
def d_is_ring : He.DefD := ⟨("is_ring", none), "is_ring", "is_ring", defArgs (top 26), defBody (top 26), defScope (top 26), [], []⟩
def d_check_ring : He.DefD := ⟨("check_ring", none), "check_ring", "check_ring", defArgs (top 27), defBody (top 27), defScope (top 27), [], []⟩
def d_ring_sign_of : He.DefD := ⟨("ring_sign_of", none), "ring_sign_of", "ring_sign_of", defArgs (top 28), defBody (top 28), defScope (top 28), [], []⟩
def d_ring_sign : He.DefD := ⟨("ring_sign", none), "ring_sign", "ring_sign", defArgs (top 29), defBody (top 29), defScope (top 29), [], []⟩
def d_rings_of : He.DefD := ⟨("rings_of", none), "rings_of", "rings_of", defArgs (top 30), defBody (top 30), defScope (top 30), [], []⟩
def d_check_few : He.DefD := ⟨("check_few", none), "check_few", "check_few", defArgs (top 31), defBody (top 31), defScope (top 31), [], []⟩
def d_rings : He.DefD := ⟨("rings", none), "rings", "rings", defArgs (top 32), defBody (top 32), defScope (top 32), [], []⟩
def d_check_room : He.DefD := ⟨("check_room", none), "check_room", "check_room", defArgs (top 34), defBody (top 34), defScope (top 34), [], []⟩
def d_moved_signs : He.DefD := ⟨("moved_signs", none), "moved_signs", "moved_signs", defArgs (top 35), defBody (top 35), defScope (top 35), [], []⟩
def d_joined_at : He.DefD := ⟨("joined_at", none), "joined_at", "joined_at", defArgs (top 36), defBody (top 36), defScope (top 36), [], []⟩
def d_parted_tie : He.DefD := ⟨("parted_tie", none), "parted_tie", "parted_tie", defArgs (top 37), defBody (top 37), defScope (top 37), [], []⟩
def d_foe_table : He.DefD := ⟨("foe_table", none), "foe_table", "foe_table", defArgs (top 39), defBody (top 39), defScope (top 39), [], []⟩
def d_trouble_of : He.DefD := ⟨("trouble_of", none), "trouble_of", "trouble_of", defArgs (top 40), defBody (top 40), defScope (top 40), [], []⟩
def d_trouble : He.DefD := ⟨("trouble", none), "trouble", "trouble", defArgs (top 41), defBody (top 41), defScope (top 41), [], []⟩
def d__law_well : He.DefD := ⟨("_law_well", none), "_law_well", "_law_well", defArgs (top 43), defBody (top 43), defScope (top 43), [], []⟩
def d__law_dip : He.DefD := ⟨("_law_dip", none), "_law_dip", "_law_dip", defArgs (top 44), defBody (top 44), defScope (top 44), [], []⟩
def d__law_web : He.DefD := ⟨("_law_web", none), "_law_web", "_law_web", defArgs (top 45), defBody (top 45), defScope (top 45), [], []⟩
def d__law_ties : He.DefD := ⟨("_law_ties", none), "_law_ties", "_law_ties", defArgs (top 46), defBody (top 46), defScope (top 46), [], []⟩
def d__law_trouble : He.DefD := ⟨("_law_trouble", none), "_law_trouble", "_law_trouble", defArgs (top 47), defBody (top 47), defScope (top 47), [], []⟩
def d__law_told_form : He.DefD := ⟨("_law_told_form", none), "_law_told_form", "_law_told_form", defArgs (top 48), defBody (top 48), defScope (top 48), [], []⟩
def d__law_rounds : He.DefD := ⟨("_law_rounds", none), "_law_rounds", "_law_rounds", defArgs (top 49), defBody (top 49), defScope (top 49), [], []⟩
def d__law_are_rounds : He.DefD := ⟨("_law_are_rounds", none), "_law_are_rounds", "_law_are_rounds", defArgs (top 50), defBody (top 50), defScope (top 50), [], []⟩
def d__law_joined_right : He.DefD := ⟨("_law_joined_right", none), "_law_joined_right", "_law_joined_right", defArgs (top 51), defBody (top 51), defScope (top 51), [], []⟩
def d__law_parted_right : He.DefD := ⟨("_law_parted_right", none), "_law_parted_right", "_law_parted_right", defArgs (top 52), defBody (top 52), defScope (top 52), [], []⟩
def d_law : He.DefD := ⟨("law", none), "law", "law", defArgs (top 53), defBody (top 53), defScope (top 53), [], []⟩
def defs : List He.DefD := [d_is_integer, d_is_between, d_is_tuple_of, d_check_place, d_is_web, d_check_web, d_tie_between, d_ties_of, d_signs_of, d_web_by, d_is_tie, d_check_tie, d_foes_of, d_is_way_round, d_is_ring_of, d_is_ring, d_check_ring, d_ring_sign_of, d_ring_sign, d_rings_of, d_check_few, d_rings, d_check_room, d_moved_signs, d_joined_at, d_parted_tie, d_foe_table, d_trouble_of, d_trouble, d__law_well, d__law_dip, d__law_web, d__law_ties, d__law_trouble, d__law_told_form, d__law_rounds, d__law_are_rounds, d__law_joined_right, d__law_parted_right, d_law]
def loose0 : List Str := ["SignError", "InvalidWeb", "InvalidTie", "InvalidPlace", "InvalidRing", "TooMany", "MOST_PLACES", "is_integer", "is_between", "is_tuple_of", "check_place", "MOST_FOR_RINGS", "is_web", "check_web", "tie_between", "ties_of"]
def loose1 : List Str := ["signs_of", "web_by", "is_tie", "check_tie", "foes_of", "is_way_round", "is_ring_of", "is_ring", "check_ring", "ring_sign_of", "ring_sign", "rings_of", "check_few", "rings", "check_room", "moved_signs"]
def loose2 : List Str := ["joined_at", "parted_tie", "foe_table", "trouble_of", "trouble", "_law_well", "_law_dip", "_law_web", "_law_ties", "_law_trouble", "_law_told_form", "_law_rounds", "_law_are_rounds", "_law_joined_right", "_law_parted_right"]
def loose : List Str := loose0 ++ loose1 ++ loose2
abbrev R : PySem.W.OpenRow := PySem.W.OpenLaw.row PySem.Challenge.rw_signrounds_k76_whole_rounds_of_joined_an
abbrev hk : PySem.W.Hook := He.hookD 4 facts defs
def ob (s : PySem.W.SharedT) : He.AlD := He.obsDG 4 facts defs (HandSHeadRun.getT s)
theorem ob_eq (s : PySem.W.SharedT) : ob s = hk.obs s.abs := He.obsDG_eq (HandSHeadRun.getT_eq s)
theorem run (w : World) : HandSHeadRun.RunEq R (PySem.W.view R.prog [53]) hk ob 6000 loose w := by
  intro os
  kernel_rfl
end K76h

set_option Elab.async false
set_option linter.all false
set_option maxRecDepth 1000000
set_option maxHeartbeats 0
namespace LibI
open PySem PySem.Spec PyProof.Rows L2 Mi
def N_is_integer : List Str := ["value"]
def ir_is_integer : IS := (.ret (.and (.isi "int" (.var 0)) (.not (.isi "bool" (.var 0)))))
def F_is_integer : IF := ⟨N_is_integer, ir_is_integer, false⟩
def N_is_between : List Str := ["low", "value", "high"]
def ir_is_between : IS := (.ret (.and (.call "is_integer" (.cons (.var 1) .nil)) (.chain .LtE .LtE (.var 0) (.var 1) (.var 2))))
def F_is_between : IF := ⟨N_is_between, ir_is_between, false⟩
def N_is_tuple_of : List Str := ["many", "value"]
def ir_is_tuple_of : IS := (.ret (.and (.isi "tuple" (.var 1)) (.cmp .Eq (.bi false "len" (.cons (.var 1) .nil)) (.var 0))))
def F_is_tuple_of : IF := ⟨N_is_tuple_of, ir_is_tuple_of, false⟩
def N_check_place : List Str := ["many", "value"]
def ir_check_place : IS := (.if_ (.not (.tru (.call "is_between" (.cons (.cst (.int 0)) (.cons (.var 1) (.cons (.bin false .Sub (.var 0) (.cst (.int 1))) .nil))))))
  .bad
  .nx)
def F_check_place : IF := ⟨N_check_place, ir_check_place, false⟩
def N_is_web : List Str := ["value", "line", "places", "even", "x", "y", "sign"]
def ir_is_web : IS := (.seq (.if_ (.or (.not (.tru (.isi "tuple" (.var 0)))) (.not (.chain .LtE .LtE (.cst (.int 1)) (.bi false "len" (.cons (.var 0) .nil)) (.cst (.int 10)))))
  (.ret (.cst (.bl false)))
  .nx)
  (.seq (.for_ (.val (.var 0)) (.name 1)
  (.if_ (.or (.not (.tru (.call "is_tuple_of" (.cons (.bi false "len" (.cons (.var 0) .nil)) (.cons (.var 1) .nil))))) (.not (.tru (.bi false "all" (.cons (.comp false (.val (.var 1)) (.name 6) .tt (.call "is_between" (.cons (.neg (.cst (.int 1))) (.cons (.var 6) (.cons (.cst (.int 1)) .nil)))) [6]) .nil)))))
  (.ret (.cst (.bl false)))
  .nx))
  (.seq (.asg (.name 2) (.bi false "range" (.cons (.bi false "len" (.cons (.var 0) .nil)) .nil)))
  (.seq (.asg (.name 3) (.bi false "all" (.cons (.comp2 false (.val (.var 2)) (.name 4) .tt (.val (.bi false "range" (.cons (.var 4) .nil))) (.name 5) .tt (.cmp .Eq (.ix (.ix (.var 0) (.var 4)) (.var 5)) (.ix (.ix (.var 0) (.var 5)) (.var 4))) [4, 5] [5]) .nil)))
  (.ret (.and (.var 3) (.bi false "all" (.cons (.comp false (.val (.var 2)) (.name 4) .tt (.cmp .Eq (.ix (.ix (.var 0) (.var 4)) (.var 4)) (.cst (.int 0))) [4]) .nil))))))))
def F_is_web : IF := ⟨N_is_web, ir_is_web, false⟩
def N_check_web : List Str := ["value"]
def ir_check_web : IS := (.if_ (.not (.tru (.call "is_web" (.cons (.var 0) .nil))))
  .bad
  .nx)
def F_check_web : IF := ⟨N_check_web, ir_check_web, false⟩
def N_tie_between : List Str := ["x", "y"]
def ir_tie_between : IS := (.ret (.ite (.cmp .Lt (.var 0) (.var 1)) (.tup (.cons (.var 0) (.cons (.var 1) .nil))) (.tup (.cons (.var 1) (.cons (.var 0) .nil)))))
def F_tie_between : IF := ⟨N_tie_between, ir_tie_between, false⟩
def N_ties_of : List Str := ["web", "many", "x", "y"]
def ir_ties_of : IS := (.seq (.asg (.name 1) (.bi false "len" (.cons (.var 0) .nil)))
  (.ret (.comp2 false (.val (.bi false "range" (.cons (.var 1) .nil))) (.name 2) .tt (.val (.bi false "range" (.cons (.bin false .Add (.var 2) (.cst (.int 1))) (.cons (.var 1) .nil)))) (.name 3) (.cmp .NotEq (.ix (.ix (.var 0) (.var 2)) (.var 3)) (.cst (.int 0))) (.tup (.cons (.var 2) (.cons (.var 3) .nil))) [2, 3] [3])))
def F_ties_of : IF := ⟨N_ties_of, ir_ties_of, false⟩
def N_signs_of : List Str := ["web", "x", "y"]
def ir_signs_of : IS := (.ret (.dcomp true (.val (.call "ties_of" (.cons (.var 0) .nil))) (.tup [(.name 1), (.name 2)]) .tt (.tup (.cons (.var 1) (.cons (.var 2) .nil))) (.ix (.ix (.var 0) (.var 1)) (.var 2)) [1, 2]))
def F_signs_of : IF := ⟨N_signs_of, ir_signs_of, false⟩
def N_web_by : List Str := ["many", "signs", "x", "y"]
def ir_web_by : IS := (.ret (.bi false "tuple" (.cons (.comp false (.val (.bi false "range" (.cons (.var 0) .nil))) (.name 2) .tt (.bi false "tuple" (.cons (.comp false (.val (.bi false "range" (.cons (.var 0) .nil))) (.name 3) .tt (.meth "get" (.var 1) (.cons (.call "tie_between" (.cons (.var 2) (.cons (.var 3) .nil))) (.cons (.cst (.int 0)) .nil))) [3]) .nil)) [2]) .nil)))
def F_web_by : IF := ⟨N_web_by, ir_web_by, false⟩
def N_is_tie : List Str := ["web", "value", "place"]
def ir_is_tie : IS := (.seq (.if_ (.or (.not (.tru (.call "is_tuple_of" (.cons (.cst (.int 2)) (.cons (.var 1) .nil))))) (.not (.tru (.bi false "all" (.cons (.comp false (.val (.var 1)) (.name 2) .tt (.call "is_between" (.cons (.cst (.int 0)) (.cons (.var 2) (.cons (.bin false .Sub (.bi false "len" (.cons (.var 0) .nil)) (.cst (.int 1))) .nil)))) [2]) .nil)))))
  (.ret (.cst (.bl false)))
  .nx)
  (.ret (.and (.cmp .Lt (.ix (.var 1) (.cst (.int 0))) (.ix (.var 1) (.cst (.int 1)))) (.cmp .NotEq (.ix (.ix (.var 0) (.ix (.var 1) (.cst (.int 0)))) (.ix (.var 1) (.cst (.int 1)))) (.cst (.int 0))))))
def F_is_tie : IF := ⟨N_is_tie, ir_is_tie, false⟩
def N_check_tie : List Str := ["web", "value"]
def ir_check_tie : IS := (.if_ (.not (.tru (.call "is_tie" (.cons (.var 0) (.cons (.var 1) .nil)))))
  .bad
  .nx)
def F_check_tie : IF := ⟨N_check_tie, ir_check_tie, false⟩
def N_foes_of : List Str := ["web", "x", "y"]
def ir_foes_of : IS := (.ret (.comp false (.val (.call "ties_of" (.cons (.var 0) .nil))) (.tup [(.name 1), (.name 2)]) (.cmp .Eq (.ix (.ix (.var 0) (.var 1)) (.var 2)) (.neg (.cst (.int 1)))) (.tup (.cons (.var 1) (.cons (.var 2) .nil))) [1, 2]))
def F_foes_of : IF := ⟨N_foes_of, ir_foes_of, false⟩
def N_is_way_round : List Str := ["web", "value", "k", "place"]
def ir_is_way_round : IS := (.seq (.if_ (.or (.not (.tru (.isi "tuple" (.var 1)))) (.cmp .Lt (.bi false "len" (.cons (.var 1) .nil)) (.cst (.int 3))))
  (.ret (.cst (.bl false)))
  .nx)
  (.seq (.if_ (.or (.not (.tru (.bi false "all" (.cons (.comp false (.val (.var 1)) (.name 3) .tt (.call "is_between" (.cons (.cst (.int 0)) (.cons (.var 3) (.cons (.bin false .Sub (.bi false "len" (.cons (.var 0) .nil)) (.cst (.int 1))) .nil)))) [3]) .nil)))) (.cmp .Lt (.lenSet (.var 1)) (.bi false "len" (.cons (.var 1) .nil))))
  (.ret (.cst (.bl false)))
  .nx)
  (.ret (.bi false "all" (.cons (.comp false (.val (.bi false "range" (.cons (.bi false "len" (.cons (.var 1) .nil)) .nil))) (.name 2) .tt (.cmp .NotEq (.ix (.ix (.var 0) (.ix (.var 1) (.bin false .Sub (.var 2) (.cst (.int 1))))) (.ix (.var 1) (.var 2))) (.cst (.int 0))) [2]) .nil)))))
def F_is_way_round : IF := ⟨N_is_way_round, ir_is_way_round, false⟩
def N_is_ring_of : List Str := ["web", "value"]
def ir_is_ring_of : IS := (.ret (.and (.call "is_way_round" (.cons (.var 0) (.cons (.var 1) .nil))) (.and (.cmp .Eq (.ix (.var 1) (.cst (.int 0))) (.bi false "min" (.cons (.var 1) .nil))) (.cmp .Lt (.ix (.var 1) (.cst (.int 1))) (.ix (.var 1) (.neg (.cst (.int 1))))))))
def F_is_ring_of : IF := ⟨N_is_ring_of, ir_is_ring_of, false⟩
def N_is_ring : List Str := ["web", "value"]
def ir_is_ring : IS := (.seq (.ex (.call "check_web" (.cons (.var 0) .nil)))
  (.ret (.call "is_ring_of" (.cons (.var 0) (.cons (.var 1) .nil)))))
def F_is_ring : IF := ⟨N_is_ring, ir_is_ring, false⟩
def N_check_ring : List Str := ["web", "value"]
def ir_check_ring : IS := (.if_ (.not (.tru (.call "is_ring_of" (.cons (.var 0) (.cons (.var 1) .nil)))))
  .bad
  .nx)
def F_check_ring : IF := ⟨N_check_ring, ir_check_ring, false⟩
def N_ring_sign_of : List Str := ["web", "ring", "k"]
def ir_ring_sign_of : IS := (.ret (.bin false .Sub (.cst (.int 1)) (.bin false .Mult (.cst (.int 2)) (.bin false .Mod (.bi false "len" (.cons (.comp false (.val (.bi false "range" (.cons (.bi false "len" (.cons (.var 1) .nil)) .nil))) (.name 2) (.cmp .Eq (.ix (.ix (.var 0) (.ix (.var 1) (.bin false .Sub (.var 2) (.cst (.int 1))))) (.ix (.var 1) (.var 2))) (.neg (.cst (.int 1)))) (.var 2) [2]) .nil)) (.cst (.int 2))))))
def F_ring_sign_of : IF := ⟨N_ring_sign_of, ir_ring_sign_of, false⟩
def N_ring_sign : List Str := ["web", "ring"]
def ir_ring_sign : IS := (.seq (.ex (.call "check_web" (.cons (.var 0) .nil)))
  (.seq (.ex (.call "check_ring" (.cons (.var 0) (.cons (.var 1) .nil))))
  (.ret (.call "ring_sign_of" (.cons (.var 0) (.cons (.var 1) .nil))))))
def F_ring_sign : IF := ⟨N_ring_sign, ir_ring_sign, false⟩
def N_rings_of : List Str := ["web", "many", "found", "ways", "place", "way", "y", "size", "ring"]
def ir_rings_of : IS := (.seq (.asg (.name 1) (.bi false "len" (.cons (.var 0) .nil)))
  (.seq (.asg (.name 2) (.lst true .nil))
  (.seq (.asg (.name 3) (.comp false (.val (.bi false "range" (.cons (.var 1) .nil))) (.name 4) .tt (.tup (.cons (.var 4) .nil)) [4]))
  (.seq (.while_ 1000000 (.tru (.var 3)) (.seq (.aug 2 .Add (.comp false (.val (.var 3)) (.name 5) (.and (.cmp .Gt (.bi false "len" (.cons (.var 5) .nil)) (.cst (.int 2))) (.and (.cmp .NotEq (.ix (.ix (.var 0) (.ix (.var 5) (.cst (.int 0)))) (.ix (.var 5) (.neg (.cst (.int 1))))) (.cst (.int 0))) (.cmp .Lt (.ix (.var 5) (.cst (.int 1))) (.ix (.var 5) (.neg (.cst (.int 1))))))) (.var 5) [5]))
  (.asg (.name 3) (.comp2 false (.val (.var 3)) (.name 5) .tt (.val (.bi false "range" (.cons (.bin false .Add (.ix (.var 5) (.cst (.int 0))) (.cst (.int 1))) (.cons (.var 1) .nil)))) (.name 6) (.and (.cmp .NotEq (.ix (.ix (.var 0) (.ix (.var 5) (.neg (.cst (.int 1))))) (.var 6)) (.cst (.int 0))) (.cmp .NotIn (.var 6) (.var 5))) (.bin false .Add (.var 5) (.tup (.cons (.var 6) .nil))) [5, 6] [6]))))
  (.ret (.comp false (.val (.bi false "sorted" (.cons (.comp false (.val (.var 2)) (.name 8) .tt (.tup (.cons (.bi false "len" (.cons (.var 8) .nil)) (.cons (.var 8) .nil))) [8]) .nil))) (.tup [(.name 7), (.name 8)]) .tt (.var 8) [7, 8]))))))
def F_rings_of : IF := ⟨N_rings_of, ir_rings_of, true⟩
def N_check_few : List Str := ["web"]
def ir_check_few : IS := (.if_ (.cmp .Gt (.bi false "len" (.cons (.var 0) .nil)) (.cst (.int 7)))
  .bad
  .nx)
def F_check_few : IF := ⟨N_check_few, ir_check_few, false⟩
def N_rings : List Str := ["web"]
def ir_rings : IS := (.seq (.ex (.call "check_web" (.cons (.var 0) .nil)))
  (.seq (.ex (.call "check_few" (.cons (.var 0) .nil)))
  (.ret (.call "rings_of" (.cons (.var 0) .nil)))))
def F_rings : IF := ⟨N_rings, ir_rings, false⟩
def N_check_room : List Str := ["many"]
def ir_check_room : IS := (.if_ (.cmp .Gt (.var 0) (.cst (.int 10)))
  .bad
  .nx)
def F_check_room : IF := ⟨N_check_room, ir_check_room, false⟩
def N_moved_signs : List Str := ["web", "row", "sign", "x", "y"]
def ir_moved_signs : IS := (.ret (.dcomp true (.items (.call "signs_of" (.cons (.var 0) .nil))) (.tup [(.tup [(.name 3), (.name 4)]), (.name 2)]) .tt (.call "tie_between" (.cons (.ix (.var 1) (.var 3)) (.cons (.ix (.var 1) (.var 4)) .nil))) (.var 2) [3, 4, 2]))
def F_moved_signs : IF := ⟨N_moved_signs, ir_moved_signs, false⟩
def N_joined_at : List Str := ["web", "other_web", "place", "spot", "many", "row", "signs", "y"]
def ir_joined_at : IS := (.seq (.ex (.call "check_web" (.cons (.var 0) .nil)))
  (.seq (.ex (.call "check_web" (.cons (.var 1) .nil)))
  (.seq (.ex (.call "check_place" (.cons (.bi false "len" (.cons (.var 0) .nil)) (.cons (.var 2) .nil))))
  (.seq (.ex (.call "check_place" (.cons (.bi false "len" (.cons (.var 1) .nil)) (.cons (.var 3) .nil))))
  (.seq (.asg (.name 4) (.bin false .Sub (.bin false .Add (.bi false "len" (.cons (.var 0) .nil)) (.bi false "len" (.cons (.var 1) .nil))) (.cst (.int 1))))
  (.seq (.ex (.call "check_room" (.cons (.var 4) .nil)))
  (.seq (.asg (.name 5) (.comp true (.val (.bi false "range" (.cons (.bi false "len" (.cons (.var 1) .nil)) .nil))) (.name 7) .tt (.bin false .Sub (.bin false .Add (.bi false "len" (.cons (.var 0) .nil)) (.var 7)) (.bi false "int" (.cons (.cmp .Gt (.var 7) (.var 3)) .nil))) [7]))
  (.seq (.put (.var 5) (.var 3) (.var 2))
  (.seq (.asg (.name 6) (.call "signs_of" (.cons (.var 0) .nil)))
  (.seq (.ex (.meth "update" (.var 6) (.cons (.call "moved_signs" (.cons (.var 1) (.cons (.var 5) .nil))) .nil)))
  (.ret (.call "web_by" (.cons (.var 4) (.cons (.var 6) .nil))))))))))))))
def F_joined_at : IF := ⟨N_joined_at, ir_joined_at, true⟩
def N_parted_tie : List Str := ["web", "tie", "signs", "sign"]
def ir_parted_tie : IS := (.seq (.ex (.call "check_web" (.cons (.var 0) .nil)))
  (.seq (.ex (.call "check_tie" (.cons (.var 0) (.cons (.var 1) .nil))))
  (.seq (.ex (.call "check_room" (.cons (.bin false .Add (.bi false "len" (.cons (.var 0) .nil)) (.cst (.int 1))) .nil)))
  (.seq (.asg (.name 2) (.call "signs_of" (.cons (.var 0) .nil)))
  (.seq (.asg (.name 3) (.meth "pop" (.var 2) (.cons (.var 1) .nil)))
  (.seq (.put (.var 2) (.tup (.cons (.ix (.var 1) (.cst (.int 0))) (.cons (.bi false "len" (.cons (.var 0) .nil)) .nil))) (.cst (.int 1)))
  (.seq (.put (.var 2) (.tup (.cons (.ix (.var 1) (.cst (.int 1))) (.cons (.bi false "len" (.cons (.var 0) .nil)) .nil))) (.var 3))
  (.ret (.call "web_by" (.cons (.bin false .Add (.bi false "len" (.cons (.var 0) .nil)) (.cst (.int 1))) (.cons (.var 2) .nil)))))))))))
def F_parted_tie : IF := ⟨N_parted_tie, ir_parted_tie, true⟩
def N_foe_table : List Str := ["web", "many", "counts", "mask", "top", "rest", "change", "y", "sign"]
def ir_foe_table : IS := (.seq (.asg (.name 1) (.bi false "len" (.cons (.var 0) .nil)))
  (.seq (.asg (.name 2) (.lst true (.cons (.bi false "len" (.cons (.call "foes_of" (.cons (.var 0) .nil)) .nil)) .nil)))
  (.seq (.for_ (.val (.bi false "range" (.cons (.cst (.int 1)) (.cons (.bin false .LShift (.cst (.int 1)) (.var 1)) .nil)))) (.name 3)
  (.seq (.asg (.name 4) (.bin false .Sub (.meth "bit_length" (.var 3) .nil) (.cst (.int 1))))
  (.seq (.asg (.name 5) (.bin false .BitXor (.var 3) (.bin false .LShift (.cst (.int 1)) (.var 4))))
  (.seq (.asg (.name 6) (.bi false "sum" (.cons (.comp false (.enum (.cons (.ix (.var 0) (.var 4)) .nil)) (.tup [(.name 7), (.name 8)]) .tt (.ite (.cmp .Eq (.bin false .BitAnd (.bin false .RShift (.var 5) (.var 7)) (.cst (.int 1))) (.cst (.int 0))) (.var 8) (.neg (.var 8))) [7, 8]) .nil)))
  (.ex (.meth "append" (.var 2) (.cons (.bin false .Add (.ix (.var 2) (.var 5)) (.var 6)) .nil)))))))
  (.ret (.var 2)))))
def F_foe_table : IF := ⟨N_foe_table, ir_foe_table, false⟩
def N_trouble_of : List Str := ["web"]
def ir_trouble_of : IS := (.ret (.bi false "min" (.cons (.call "foe_table" (.cons (.var 0) .nil)) .nil)))
def F_trouble_of : IF := ⟨N_trouble_of, ir_trouble_of, true⟩
def N_trouble : List Str := ["web"]
def ir_trouble : IS := (.seq (.ex (.call "check_web" (.cons (.var 0) .nil)))
  (.ret (.call "trouble_of" (.cons (.var 0) .nil))))
def F_trouble : IF := ⟨N_trouble, ir_trouble, false⟩
def N__law_well : List Str := ["_law_script", "_law_great", "_law_stirred", "_law_cell"]
def ir__law_well : IS := (.seq (.asg (.name 1) (.cst (.int 0)))
  (.seq (.asg (.name 2) (.bi false "len" (.cons (.var 0) .nil)))
  (.seq (.for_ (.val (.var 0)) (.name 3)
  (.seq (.asg (.name 1) (.bin false .Add (.bin false .Mult (.var 1) (.bin false .Add (.bi false "abs" (.cons (.var 3) .nil)) (.cst (.int 2)))) (.bi false "abs" (.cons (.var 3) .nil))))
  (.asg (.name 2) (.bin false .Mod (.bi false "int" (.cons (.bin false .Add (.bin false .Add (.bin false .Mult (.var 2) (.cst (.int 31))) (.bin false .Mult (.var 3) (.cst (.int 2654435761)))) (.cst (.int 40503))) .nil)) (.bin false .Sub (.bin false .Pow (.cst (.int 2)) (.cst (.int 61))) (.cst (.int 1)))))))
  (.ret (.lst true (.cons (.var 1) (.cons (.var 2) .nil)))))))
def F__law_well : IF := ⟨N__law_well, ir__law_well, false⟩
def N__law_dip : List Str := ["_law_well_here", "_law_many", "_law_found"]
def ir__law_dip : IS := (.seq (.if_ (.cmp .Gt (.ix (.var 0) (.cst (.int 0))) (.cst (.int 0)))
  (.seq (.asg (.name 2) (.bin false .Mod (.bi false "int" (.cons (.ix (.var 0) (.cst (.int 0))) .nil)) (.var 1)))
  (.seq (.put (.var 0) (.cst (.int 0)) (.bin false .FloorDiv (.ix (.var 0) (.cst (.int 0))) (.var 1)))
  (.ret (.var 2))))
  .nx)
  (.seq (.put (.var 0) (.cst (.int 1)) (.bin false .Mod (.bi false "int" (.cons (.bin false .Add (.bin false .Mult (.ix (.var 0) (.cst (.int 1))) (.cst (.int 6364136223846793005))) (.cst (.int 1442695040888963407))) .nil)) (.bin false .Sub (.bin false .Pow (.cst (.int 2)) (.cst (.int 61))) (.cst (.int 1)))))
  (.ret (.bin false .Mod (.bi false "int" (.cons (.bin false .FloorDiv (.ix (.var 0) (.cst (.int 1))) (.cst (.int 4099))) .nil)) (.var 1)))))
def F__law_dip : IF := ⟨N__law_dip, ir__law_dip, false⟩
def N__law_web : List Str := ["_law_well_here", "_law_many", "_law_dense", "_law_angry", "_law_lines", "_law_x", "_law_y", "_law_line", "_law_other"]
def ir__law_web : IS := (.seq (.asg (.name 2) (.bin false .Add (.cst (.int 1)) (.call "_law_dip" (.cons (.var 0) (.cons (.cst (.int 6)) .nil)))))
  (.seq (.asg (.name 3) (.call "_law_dip" (.cons (.var 0) (.cons (.cst (.int 5)) .nil))))
  (.seq (.asg (.name 4) (.comp false (.val (.bi false "range" (.cons (.var 1) .nil))) (.name 5) .tt (.bin true .Mult (.lst true (.cons (.cst (.int 0)) .nil)) (.var 1)) [5]))
  (.seq (.for_ (.val (.bi false "range" (.cons (.var 1) .nil))) (.name 5)
  (.for_ (.val (.bi false "range" (.cons (.var 5) .nil))) (.name 6)
  (.if_ (.cmp .Lt (.call "_law_dip" (.cons (.var 0) (.cons (.cst (.int 6)) .nil))) (.var 2))
  (.seq (.asg (.name 7) (.ix (.var 4) (.var 5)))
  (.seq (.put (.var 7) (.var 6) (.ite (.cmp .Lt (.call "_law_dip" (.cons (.var 0) (.cons (.cst (.int 4)) .nil))) (.var 3)) (.neg (.cst (.int 1))) (.cst (.int 1))))
  (.seq (.asg (.name 8) (.ix (.var 4) (.var 6)))
  (.put (.var 8) (.var 5) (.ix (.var 7) (.var 6))))))
  .nx)))
  (.ret (.bi false "tuple" (.cons (.comp false (.val (.var 4)) (.name 7) .tt (.bi false "tuple" (.cons (.var 7) .nil)) [7]) .nil)))))))
def F__law_web : IF := ⟨N__law_web, ir__law_web, true⟩
def N__law_ties : List Str := ["_law_web_here", "_law_found", "_law_x", "_law_y"]
def ir__law_ties : IS := (.seq (.asg (.name 1) (.lst false .nil))
  (.seq (.for_ (.val (.bi false "range" (.cons (.bi false "len" (.cons (.var 0) .nil)) .nil))) (.name 2)
  (.asg (.name 1) (.bin false .Add (.var 1) (.comp false (.val (.bi false "range" (.cons (.bin false .Add (.var 2) (.cst (.int 1))) (.cons (.bi false "len" (.cons (.var 0) .nil)) .nil)))) (.name 3) (.cmp .NotEq (.ix (.ix (.var 0) (.var 2)) (.var 3)) (.cst (.int 0))) (.tup (.cons (.var 2) (.cons (.var 3) .nil))) [3]))))
  (.ret (.var 1))))
def F__law_ties : IF := ⟨N__law_ties, ir__law_ties, false⟩
end LibI

set_option Elab.async false
set_option linter.all false
set_option maxRecDepth 1000000
set_option maxHeartbeats 0
namespace K76i
open PySem PySem.Spec PyProof.Rows L2 Mi
def fsL : List (Str × Nat) := (("is_integer" : Str), (1 : Nat)) :: (("is_between" : Str), (3 : Nat)) :: (("is_tuple_of" : Str), (2 : Nat)) :: (("check_place" : Str), (2 : Nat)) :: (("is_web" : Str), (1 : Nat)) :: (("check_web" : Str), (1 : Nat)) :: (("tie_between" : Str), (2 : Nat)) :: (("ties_of" : Str), (1 : Nat)) :: (("signs_of" : Str), (1 : Nat)) :: (("web_by" : Str), (2 : Nat)) :: (("is_tie" : Str), (2 : Nat)) :: (("check_tie" : Str), (2 : Nat)) :: (("foes_of" : Str), (1 : Nat)) :: (("is_way_round" : Str), (2 : Nat)) :: (("is_ring_of" : Str), (2 : Nat)) :: (("is_ring" : Str), (2 : Nat)) :: (("check_ring" : Str), (2 : Nat)) :: (("ring_sign_of" : Str), (2 : Nat)) :: (("ring_sign" : Str), (2 : Nat)) :: (("rings_of" : Str), (1 : Nat)) :: (("check_few" : Str), (1 : Nat)) :: (("rings" : Str), (1 : Nat)) :: (("check_room" : Str), (1 : Nat)) :: (("moved_signs" : Str), (2 : Nat)) :: (("joined_at" : Str), (4 : Nat)) :: (("parted_tie" : Str), (2 : Nat)) :: (("foe_table" : Str), (1 : Nat)) :: (("trouble_of" : Str), (1 : Nat)) :: (("trouble" : Str), (1 : Nat)) :: (("_law_well" : Str), (1 : Nat)) :: (("_law_dip" : Str), (2 : Nat)) :: (("_law_web" : Str), (2 : Nat)) :: (("_law_ties" : Str), (1 : Nat)) :: (("_law_trouble" : Str), (1 : Nat)) :: (("_law_told_form" : Str), (1 : Nat)) :: (("_law_rounds" : Str), (1 : Nat)) :: (("_law_are_rounds" : Str), (2 : Nat)) :: (("_law_joined_right" : Str), (4 : Nat)) :: (("_law_parted_right" : Str), (2 : Nat)) :: (("law" : Str), (1 : Nat)) :: []
def ksL : List (Str × MV) := (("MOST_PLACES" : Str), MV.int 10) :: (("MOST_FOR_RINGS" : Str), MV.int 7) :: []
def bsL : List Str := ("abs" : Str) :: ("all" : Str) :: ("bool" : Str) :: ("enumerate" : Str) :: ("int" : Str) :: ("isinstance" : Str) :: ("len" : Str) :: ("list" : Str) :: ("min" : Str) :: ("range" : Str) :: ("set" : Str) :: ("sorted" : Str) :: ("sum" : Str) :: ("tuple" : Str) :: []
def CCk : CC := { N := [], sc := defScope (K76h.top 9), own := none, fs := fsL, ks := ksL, bs := bsL, fl := [(82, 12), (108, 10), (125, 13), (144, 11), (155, 18), (172, 21), (193, 21), (214, 17), (230, 19)], td := [(48, 11), (100, 11), (190, 17), (227, 15)], wf := 1000000 }
theorem c_is_integer : cS.cSs { CCk with N := LibI.N_is_integer, sc := defScope (K76h.top 9), own := none } 60 (defBody (K76h.top 9)) = some LibI.ir_is_integer := by kernel_rfl
theorem c_is_between : cS.cSs { CCk with N := LibI.N_is_between, sc := defScope (K76h.top 10), own := none } 60 (defBody (K76h.top 10)) = some LibI.ir_is_between := by kernel_rfl
theorem c_is_tuple_of : cS.cSs { CCk with N := LibI.N_is_tuple_of, sc := defScope (K76h.top 11), own := none } 60 (defBody (K76h.top 11)) = some LibI.ir_is_tuple_of := by kernel_rfl
theorem c_check_place : cS.cSs { CCk with N := LibI.N_check_place, sc := defScope (K76h.top 12), own := none } 60 (defBody (K76h.top 12)) = some LibI.ir_check_place := by kernel_rfl
theorem c_is_web : cS.cSs { CCk with N := LibI.N_is_web, sc := defScope (K76h.top 15), own := none } 60 (defBody (K76h.top 15)) = some LibI.ir_is_web := by kernel_rfl
theorem c_check_web : cS.cSs { CCk with N := LibI.N_check_web, sc := defScope (K76h.top 16), own := none } 60 (defBody (K76h.top 16)) = some LibI.ir_check_web := by kernel_rfl
theorem c_tie_between : cS.cSs { CCk with N := LibI.N_tie_between, sc := defScope (K76h.top 17), own := none } 60 (defBody (K76h.top 17)) = some LibI.ir_tie_between := by kernel_rfl
theorem c_ties_of : cS.cSs { CCk with N := LibI.N_ties_of, sc := defScope (K76h.top 18), own := none } 60 (defBody (K76h.top 18)) = some LibI.ir_ties_of := by kernel_rfl
theorem c_signs_of : cS.cSs { CCk with N := LibI.N_signs_of, sc := defScope (K76h.top 19), own := none } 60 (defBody (K76h.top 19)) = some LibI.ir_signs_of := by kernel_rfl
theorem c_web_by : cS.cSs { CCk with N := LibI.N_web_by, sc := defScope (K76h.top 20), own := none } 60 (defBody (K76h.top 20)) = some LibI.ir_web_by := by kernel_rfl
theorem c_is_tie : cS.cSs { CCk with N := LibI.N_is_tie, sc := defScope (K76h.top 21), own := none } 60 (defBody (K76h.top 21)) = some LibI.ir_is_tie := by kernel_rfl
theorem c_check_tie : cS.cSs { CCk with N := LibI.N_check_tie, sc := defScope (K76h.top 22), own := none } 60 (defBody (K76h.top 22)) = some LibI.ir_check_tie := by kernel_rfl
theorem c_foes_of : cS.cSs { CCk with N := LibI.N_foes_of, sc := defScope (K76h.top 23), own := none } 60 (defBody (K76h.top 23)) = some LibI.ir_foes_of := by kernel_rfl
theorem c_is_way_round : cS.cSs { CCk with N := LibI.N_is_way_round, sc := defScope (K76h.top 24), own := none } 60 (defBody (K76h.top 24)) = some LibI.ir_is_way_round := by kernel_rfl
theorem c_is_ring_of : cS.cSs { CCk with N := LibI.N_is_ring_of, sc := defScope (K76h.top 25), own := none } 60 (defBody (K76h.top 25)) = some LibI.ir_is_ring_of := by kernel_rfl
theorem c_is_ring : cS.cSs { CCk with N := LibI.N_is_ring, sc := defScope (K76h.top 26), own := none } 60 (defBody (K76h.top 26)) = some LibI.ir_is_ring := by kernel_rfl
theorem c_check_ring : cS.cSs { CCk with N := LibI.N_check_ring, sc := defScope (K76h.top 27), own := none } 60 (defBody (K76h.top 27)) = some LibI.ir_check_ring := by kernel_rfl
theorem c_ring_sign_of : cS.cSs { CCk with N := LibI.N_ring_sign_of, sc := defScope (K76h.top 28), own := none } 60 (defBody (K76h.top 28)) = some LibI.ir_ring_sign_of := by kernel_rfl
theorem c_ring_sign : cS.cSs { CCk with N := LibI.N_ring_sign, sc := defScope (K76h.top 29), own := none } 60 (defBody (K76h.top 29)) = some LibI.ir_ring_sign := by kernel_rfl
theorem c_rings_of : cS.cSs { CCk with N := LibI.N_rings_of, sc := defScope (K76h.top 30), own := none } 60 (defBody (K76h.top 30)) = some LibI.ir_rings_of := by kernel_rfl
theorem c_check_few : cS.cSs { CCk with N := LibI.N_check_few, sc := defScope (K76h.top 31), own := none } 60 (defBody (K76h.top 31)) = some LibI.ir_check_few := by kernel_rfl
theorem c_rings : cS.cSs { CCk with N := LibI.N_rings, sc := defScope (K76h.top 32), own := none } 60 (defBody (K76h.top 32)) = some LibI.ir_rings := by kernel_rfl
theorem c_check_room : cS.cSs { CCk with N := LibI.N_check_room, sc := defScope (K76h.top 34), own := none } 60 (defBody (K76h.top 34)) = some LibI.ir_check_room := by kernel_rfl
theorem c_moved_signs : cS.cSs { CCk with N := LibI.N_moved_signs, sc := defScope (K76h.top 35), own := none } 60 (defBody (K76h.top 35)) = some LibI.ir_moved_signs := by kernel_rfl
theorem c_joined_at : cS.cSs { CCk with N := LibI.N_joined_at, sc := defScope (K76h.top 36), own := none } 60 (defBody (K76h.top 36)) = some LibI.ir_joined_at := by kernel_rfl
theorem c_parted_tie : cS.cSs { CCk with N := LibI.N_parted_tie, sc := defScope (K76h.top 37), own := none } 60 (defBody (K76h.top 37)) = some LibI.ir_parted_tie := by kernel_rfl
theorem c_foe_table : cS.cSs { CCk with N := LibI.N_foe_table, sc := defScope (K76h.top 39), own := none } 60 (defBody (K76h.top 39)) = some LibI.ir_foe_table := by kernel_rfl
theorem c_trouble_of : cS.cSs { CCk with N := LibI.N_trouble_of, sc := defScope (K76h.top 40), own := none } 60 (defBody (K76h.top 40)) = some LibI.ir_trouble_of := by kernel_rfl
theorem c_trouble : cS.cSs { CCk with N := LibI.N_trouble, sc := defScope (K76h.top 41), own := none } 60 (defBody (K76h.top 41)) = some LibI.ir_trouble := by kernel_rfl
theorem c__law_well : cS.cSs { CCk with N := LibI.N__law_well, sc := defScope (K76h.top 43), own := none } 60 (defBody (K76h.top 43)) = some LibI.ir__law_well := by kernel_rfl
theorem c__law_dip : cS.cSs { CCk with N := LibI.N__law_dip, sc := defScope (K76h.top 44), own := none } 60 (defBody (K76h.top 44)) = some LibI.ir__law_dip := by kernel_rfl
theorem c__law_web : cS.cSs { CCk with N := LibI.N__law_web, sc := defScope (K76h.top 45), own := none } 60 (defBody (K76h.top 45)) = some LibI.ir__law_web := by kernel_rfl
theorem c__law_ties : cS.cSs { CCk with N := LibI.N__law_ties, sc := defScope (K76h.top 46), own := none } 60 (defBody (K76h.top 46)) = some LibI.ir__law_ties := by kernel_rfl
def N__law_trouble : List Str := ["_law_web_here", "_law_counts", "_law_x", "_law_after", "_law_mask", "_law_ties_here", "_law_foes", "_law_y", "_law_turned"]
def ir__law_trouble : IS := (.seq (.asg (.name 1) (.lst false (.cons (.cst (.int 0)) .nil)))
  (.seq (.for_ (.val (.bi false "range" (.cons (.cst (.int 1)) (.cons (.bi false "len" (.cons (.var 0) .nil)) .nil)))) (.name 2)
  (.seq (.asg (.name 3) (.bin true .Mult (.lst true (.cons (.cst (.int 0)) .nil)) (.bin false .Mult (.cst (.int 2)) (.bi false "len" (.cons (.var 1) .nil)))))
  (.seq (.for_ (.val (.bi false "range" (.cons (.bi false "len" (.cons (.var 1) .nil)) .nil))) (.name 4)
  (.seq (.asg (.name 5) (.cst (.int 0)))
  (.seq (.asg (.name 6) (.cst (.int 0)))
  (.seq (.for_ (.val (.bi false "range" (.cons (.var 2) .nil))) (.name 7)
  (.if_ (.cmp .NotEq (.ix (.ix (.var 0) (.var 2)) (.var 7)) (.cst (.int 0)))
  (.seq (.asg (.name 8) (.and (.cmp .Gt (.var 7) (.cst (.int 0))) (.cmp .Eq (.bin false .BitAnd (.bin false .RShift (.var 4) (.bin false .Sub (.var 7) (.cst (.int 1)))) (.cst (.int 1))) (.cst (.int 1)))))
  (.seq (.asg (.name 5) (.bin false .Add (.var 5) (.cst (.int 1))))
  (.asg (.name 6) (.bin false .Add (.var 6) (.bi false "int" (.cons (.cmp .NotEq (.cmp .Eq (.ix (.ix (.var 0) (.var 2)) (.var 7)) (.neg (.cst (.int 1)))) (.var 8)) .nil))))))
  .nx))
  (.seq (.put (.var 3) (.var 4) (.bin false .Add (.ix (.var 1) (.var 4)) (.var 6)))
  (.put (.var 3) (.bin false .Add (.var 4) (.bi false "len" (.cons (.var 1) .nil))) (.bin false .Sub (.bin false .Add (.ix (.var 1) (.var 4)) (.var 5)) (.var 6))))))))
  (.asg (.name 1) (.var 3)))))
  (.ret (.bi false "min" (.cons (.var 1) .nil)))))
def F__law_trouble : IF := ⟨N__law_trouble, ir__law_trouble, true⟩
theorem c__law_trouble : cS.cSs { CCk with N := K76i.N__law_trouble, sc := defScope (K76h.top 47), own := none } 60 (defBody (K76h.top 47)) = some K76i.ir__law_trouble := by kernel_rfl
def N__law_told_form : List Str := ["_law_row", "_law_at", "_law_ring"]
def ir__law_told_form : IS := (.seq (.asg (.name 1) (.meth "index" (.var 0) (.cons (.bi false "min" (.cons (.var 0) .nil)) .nil)))
  (.seq (.asg (.name 2) (.bi false "tuple" (.cons (.bin false .Add (.sl false (.var 0) (.part (.var 1)) .no) (.sl false (.var 0) .no (.part (.var 1)))) .nil)))
  (.ret (.ite (.cmp .Lt (.ix (.var 2) (.cst (.int 1))) (.ix (.var 2) (.neg (.cst (.int 1))))) (.var 2) (.bin false .Add (.sl false (.var 2) .no (.part (.cst (.int 1)))) (.rev false (.sl false (.var 2) (.part (.cst (.int 1))) .no)))))))
def F__law_told_form : IF := ⟨N__law_told_form, ir__law_told_form, false⟩
theorem c__law_told_form : cS.cSs { CCk with N := K76i.N__law_told_form, sc := defScope (K76h.top 48), own := none } 60 (defBody (K76h.top 48)) = some K76i.ir__law_told_form := by kernel_rfl
def N__law_rounds : List Str := ["_law_web_here", "_law_found", "_law_here", "_law_step", "_law_later", "_law_x", "_law_way", "_law_sign", "_law_last", "_law_y"]
def ir__law_rounds : IS := (.seq (.asg (.name 1) (.dnew true))
  (.seq (.asg (.name 2) (.comp false (.val (.bi false "range" (.cons (.bi false "len" (.cons (.var 0) .nil)) .nil))) (.name 5) .tt (.tup (.cons (.lst false (.cons (.var 5) .nil)) (.cons (.cst (.int 1)) .nil))) [5]))
  (.seq (.for_ (.val (.bi false "range" (.cons (.bi false "len" (.cons (.var 0) .nil)) .nil))) (.name 3)
  (.seq (.asg (.name 4) (.lst true .nil))
  (.seq (.for_ (.val (.var 2)) (.tup [(.name 6), (.name 7)])
  (.seq (.asg (.name 8) (.ix (.var 6) (.neg (.cst (.int 1)))))
  (.seq (.if_ (.and (.cmp .Gt (.bi false "len" (.cons (.var 6) .nil)) (.cst (.int 2))) (.and (.cmp .NotEq (.ix (.ix (.var 0) (.var 8)) (.ix (.var 6) (.cst (.int 0)))) (.cst (.int 0))) (.cmp .Lt (.ix (.var 6) (.cst (.int 1))) (.var 8))))
  (.put (.var 1) (.bi false "tuple" (.cons (.var 6) .nil)) (.bin false .Mult (.var 7) (.ix (.ix (.var 0) (.var 8)) (.ix (.var 6) (.cst (.int 0))))))
  .nx)
  (.for_ (.val (.bi false "range" (.cons (.bin false .Add (.ix (.var 6) (.cst (.int 0))) (.cst (.int 1))) (.cons (.bi false "len" (.cons (.var 0) .nil)) .nil)))) (.name 9)
  (.if_ (.and (.cmp .NotEq (.ix (.ix (.var 0) (.var 8)) (.var 9)) (.cst (.int 0))) (.cmp .NotIn (.var 9) (.var 6)))
  (.ex (.meth "append" (.var 4) (.cons (.tup (.cons (.bin false .Add (.var 6) (.lst false (.cons (.var 9) .nil))) (.cons (.bin false .Mult (.var 7) (.ix (.ix (.var 0) (.var 8)) (.var 9))) .nil))) .nil)))
  .nx)))))
  (.asg (.name 2) (.var 4)))))
  (.ret (.var 1)))))
def F__law_rounds : IF := ⟨N__law_rounds, ir__law_rounds, false⟩
theorem c__law_rounds : cS.cSs { CCk with N := K76i.N__law_rounds, sc := defScope (K76h.top 49), own := none } 60 (defBody (K76h.top 49)) = some K76i.ir__law_rounds := by kernel_rfl
def N__law_are_rounds : List Str := ["_law_web_here", "_law_due", "_law_ring", "_law_size"]
def ir__law_are_rounds : IS := (.seq (.if_ (.cmp .Lt (.bi false "len" (.cons (.var 0) .nil)) (.cst (.int 8)))
  (.if_ (.cmp .NotEq (.call "rings" (.cons (.var 0) .nil)) (.comp false (.val (.bi false "sorted" (.cons (.comp false (.val (.bi false "list" (.cons (.var 1) .nil))) (.name 2) .tt (.tup (.cons (.bi false "len" (.cons (.var 2) .nil)) (.cons (.var 2) .nil))) [2]) .nil))) (.tup [(.name 3), (.name 2)]) .tt (.var 2) [3, 2]))
  (.ret (.cst (.bl false)))
  .nx)
  .nx)
  (.seq (.for_ (.val (.bi false "list" (.cons (.var 1) .nil))) (.name 2)
  (.if_ (.or (.cmp .IsNot (.call "is_ring" (.cons (.var 0) (.cons (.var 2) .nil))) (.cst (.bl true))) (.cmp .NotEq (.call "ring_sign" (.cons (.var 0) (.cons (.var 2) .nil))) (.ix (.var 1) (.var 2))))
  (.ret (.cst (.bl false)))
  .nx))
  (.ret (.cmp .Eq (.bi false "len" (.cons (.call "_law_rounds" (.cons (.var 0) .nil)) .nil)) (.bi false "len" (.cons (.var 1) .nil))))))
def F__law_are_rounds : IF := ⟨N__law_are_rounds, ir__law_are_rounds, true⟩
theorem c__law_are_rounds : cS.cSs { CCk with N := K76i.N__law_are_rounds, sc := defScope (K76h.top 50), own := none } 60 (defBody (K76h.top 50)) = some K76i.ir__law_are_rounds := by kernel_rfl
def N__law_joined_right : List Str := ["_law_web_here", "_law_other", "_law_place", "_law_spot", "_law_many", "_law_both", "_law_names", "_law_due", "_law_rounds_here", "_law_ring", "_law_total", "_law_y", "_law_x"]
def ir__law_joined_right : IS := (.seq (.asg (.name 4) (.bi false "len" (.cons (.var 0) .nil)))
  (.seq (.asg (.name 5) (.call "joined_at" (.cons (.var 0) (.cons (.var 1) (.cons (.var 2) (.cons (.var 3) .nil))))))
  (.seq (.asg (.name 6) (.comp true (.val (.bi false "range" (.cons (.bi false "len" (.cons (.var 1) .nil)) .nil))) (.name 11) .tt (.bin false .Sub (.bin false .Add (.var 4) (.var 11)) (.bi false "int" (.cons (.cmp .Gt (.var 11) (.var 3)) .nil))) [11]))
  (.seq (.put (.var 6) (.var 3) (.var 2))
  (.seq (.asg (.name 7) (.call "_law_rounds" (.cons (.var 0) .nil)))
  (.seq (.asg (.name 8) (.call "_law_rounds" (.cons (.var 1) .nil)))
  (.seq (.for_ (.val (.bi false "list" (.cons (.var 8) .nil))) (.name 9)
  (.put (.var 7) (.call "_law_told_form" (.cons (.comp false (.val (.var 9)) (.name 12) .tt (.ix (.var 6) (.var 12)) [12]) .nil)) (.ix (.var 8) (.var 9))))
  (.seq (.if_ (.not (.tru (.call "_law_are_rounds" (.cons (.var 5) (.cons (.var 7) .nil)))))
  (.ret (.cst (.bl false)))
  .nx)
  (.seq (.asg (.name 10) (.bin false .Add (.call "_law_trouble" (.cons (.var 0) .nil)) (.call "_law_trouble" (.cons (.var 1) .nil))))
  (.ret (.and (.cmp .Eq (.call "trouble" (.cons (.var 5) .nil)) (.var 10)) (.and (.cmp .Eq (.call "_law_trouble" (.cons (.var 5) .nil)) (.var 10)) (.cmp .Eq (.bin false .Add (.call "trouble" (.cons (.var 0) .nil)) (.call "trouble" (.cons (.var 1) .nil))) (.var 10))))))))))))))
def F__law_joined_right : IF := ⟨N__law_joined_right, ir__law_joined_right, true⟩
theorem c__law_joined_right : cS.cSs { CCk with N := K76i.N__law_joined_right, sc := defScope (K76h.top 51), own := none } 60 (defBody (K76h.top 51)) = some K76i.ir__law_joined_right := by kernel_rfl
def N__law_parted_right : List Str := ["_law_web_here", "_law_tie", "_law_many", "_law_longer", "_law_due", "_law_rounds_here", "_law_ring", "_law_row", "_law_k"]
def ir__law_parted_right : IS := (.seq (.asg (.name 2) (.bi false "len" (.cons (.var 0) .nil)))
  (.seq (.asg (.name 3) (.call "parted_tie" (.cons (.var 0) (.cons (.var 1) .nil))))
  (.seq (.asg (.name 4) (.dnew true))
  (.seq (.asg (.name 5) (.call "_law_rounds" (.cons (.var 0) .nil)))
  (.seq (.for_ (.val (.bi false "list" (.cons (.var 5) .nil))) (.name 6)
  (.seq (.asg (.name 7) (.lst true .nil))
  (.seq (.for_ (.val (.bi false "range" (.cons (.bi false "len" (.cons (.var 6) .nil)) .nil))) (.name 8)
  (.seq (.ex (.meth "append" (.var 7) (.cons (.ix (.var 6) (.var 8)) .nil)))
  (.if_ (.cmp .Eq (.bi false "sorted" (.cons (.lst false (.cons (.ix (.var 6) (.var 8)) (.cons (.ix (.var 6) (.bin false .Sub (.bin false .Add (.var 8) (.cst (.int 1))) (.bi false "len" (.cons (.var 6) .nil)))) .nil))) .nil)) (.bi false "list" (.cons (.var 1) .nil)))
  (.ex (.meth "append" (.var 7) (.cons (.var 2) .nil)))
  .nx)))
  (.put (.var 4) (.call "_law_told_form" (.cons (.var 7) .nil)) (.ix (.var 5) (.var 6))))))
  (.ret (.and (.call "_law_are_rounds" (.cons (.var 3) (.cons (.var 4) .nil))) (.and (.cmp .Eq (.call "trouble" (.cons (.var 3) .nil)) (.call "_law_trouble" (.cons (.var 0) .nil))) (.cmp .Eq (.call "trouble" (.cons (.var 0) .nil)) (.call "_law_trouble" (.cons (.var 0) .nil)))))))))))
def F__law_parted_right : IF := ⟨N__law_parted_right, ir__law_parted_right, true⟩
theorem c__law_parted_right : cS.cSs { CCk with N := K76i.N__law_parted_right, sc := defScope (K76h.top 52), own := none } 60 (defBody (K76h.top 52)) = some K76i.ir__law_parted_right := by kernel_rfl
def N_law : List Str := ["_law_script", "_law_well_here", "_law_web_here", "_law_other", "_law_place", "_law_spot", "_law_ties_here"]
def ir_law : IS := (.seq (.asg (.name 1) (.call "_law_well" (.cons (.var 0) .nil)))
  (.seq (.asg (.name 2) (.call "_law_web" (.cons (.var 1) (.cons (.bin false .Add (.cst (.int 1)) (.call "_law_dip" (.cons (.var 1) (.cons (.cst (.int 5)) .nil)))) .nil))))
  (.seq (.asg (.name 3) (.call "_law_web" (.cons (.var 1) (.cons (.bin false .Add (.cst (.int 1)) (.call "_law_dip" (.cons (.var 1) (.cons (.cst (.int 5)) .nil)))) .nil))))
  (.seq (.if_ (.cmp .Eq (.call "_law_dip" (.cons (.var 1) (.cons (.cst (.int 4)) .nil))) (.cst (.int 0)))
  (.seq (.asg (.name 2) (.call "_law_web" (.cons (.var 1) (.cons (.bin false .Add (.cst (.int 6)) (.call "_law_dip" (.cons (.var 1) (.cons (.cst (.int 2)) .nil)))) .nil))))
  (.asg (.name 3) (.call "_law_web" (.cons (.var 1) (.cons (.bin false .Add (.cst (.int 1)) (.call "_law_dip" (.cons (.var 1) (.cons (.cst (.int 3)) .nil)))) .nil)))))
  .nx)
  (.seq (.asg (.name 4) (.call "_law_dip" (.cons (.var 1) (.cons (.bi false "len" (.cons (.var 2) .nil)) .nil))))
  (.seq (.asg (.name 5) (.call "_law_dip" (.cons (.var 1) (.cons (.bi false "len" (.cons (.var 3) .nil)) .nil))))
  (.seq (.if_ (.or (.not (.tru (.call "_law_joined_right" (.cons (.var 2) (.cons (.var 3) (.cons (.var 4) (.cons (.var 5) .nil))))))) (.not (.tru (.call "_law_joined_right" (.cons (.var 3) (.cons (.var 2) (.cons (.var 5) (.cons (.var 4) .nil))))))))
  (.ret (.cst (.bl false)))
  .nx)
  (.seq (.asg (.name 6) (.call "_law_ties" (.cons (.var 2) .nil)))
  (.ret (.or (.cmp .Eq (.var 6) (.lst false .nil)) (.call "_law_parted_right" (.cons (.var 2) (.cons (.ix (.var 6) (.call "_law_dip" (.cons (.var 1) (.cons (.bi false "len" (.cons (.var 6) .nil)) .nil)))) .nil)))))))))))))
def F_law : IF := ⟨N_law, ir_law, true⟩
theorem c_law : cS.cSs { CCk with N := K76i.N_law, sc := defScope (K76h.top 53), own := none } 60 (defBody (K76h.top 53)) = some K76i.ir_law := by kernel_rfl
def D : IP := (("is_integer" : Str), LibI.F_is_integer) :: (("is_between" : Str), LibI.F_is_between) :: (("is_tuple_of" : Str), LibI.F_is_tuple_of) :: (("check_place" : Str), LibI.F_check_place) :: (("is_web" : Str), LibI.F_is_web) :: (("check_web" : Str), LibI.F_check_web) :: (("tie_between" : Str), LibI.F_tie_between) :: (("ties_of" : Str), LibI.F_ties_of) :: (("signs_of" : Str), LibI.F_signs_of) :: (("web_by" : Str), LibI.F_web_by) :: (("is_tie" : Str), LibI.F_is_tie) :: (("check_tie" : Str), LibI.F_check_tie) :: (("foes_of" : Str), LibI.F_foes_of) :: (("is_way_round" : Str), LibI.F_is_way_round) :: (("is_ring_of" : Str), LibI.F_is_ring_of) :: (("is_ring" : Str), LibI.F_is_ring) :: (("check_ring" : Str), LibI.F_check_ring) :: (("ring_sign_of" : Str), LibI.F_ring_sign_of) :: (("ring_sign" : Str), LibI.F_ring_sign) :: (("rings_of" : Str), LibI.F_rings_of) :: (("check_few" : Str), LibI.F_check_few) :: (("rings" : Str), LibI.F_rings) :: (("check_room" : Str), LibI.F_check_room) :: (("moved_signs" : Str), LibI.F_moved_signs) :: (("joined_at" : Str), LibI.F_joined_at) :: (("parted_tie" : Str), LibI.F_parted_tie) :: (("foe_table" : Str), LibI.F_foe_table) :: (("trouble_of" : Str), LibI.F_trouble_of) :: (("trouble" : Str), LibI.F_trouble) :: (("_law_well" : Str), LibI.F__law_well) :: (("_law_dip" : Str), LibI.F__law_dip) :: (("_law_web" : Str), LibI.F__law_web) :: (("_law_ties" : Str), LibI.F__law_ties) :: (("_law_trouble" : Str), K76i.F__law_trouble) :: (("_law_told_form" : Str), K76i.F__law_told_form) :: (("_law_rounds" : Str), K76i.F__law_rounds) :: (("_law_are_rounds" : Str), K76i.F__law_are_rounds) :: (("_law_joined_right" : Str), K76i.F__law_joined_right) :: (("_law_parted_right" : Str), K76i.F__law_parted_right) :: (("law" : Str), K76i.F_law) :: []
end K76i

set_option Elab.async false
set_option linter.all false
set_option maxRecDepth 100000
set_option maxHeartbeats 1000000
namespace Mi
open PySem PySem.Spec L2
set_option autoImplicit false
theorem bind_ok {α β : Type} (a : α) (h : MH) (f : α → MH → Res β) : (Res.ok a h).bind f = f a h := rfl
theorem ofE_ok {α : Type} (a : α) (h : MH) (env : MEnv) (f : α → MH → SRes) : ofE (.ok a h) env f = f a h := rfl
theorem ofO_some {α : Type} (a : α) (h : MH) : ofO (some (a, h)) = Res.ok a h := rfl
theorem noX_ok {α : Type} (a : α) (h : MH) : noX (Res.ok a h) = Res.ok a h := rfl
/-- what a program's def does, one call deep -/
theorem run_no {D : IP} {n : Nat} {f : Str} {d : IF} {ms : List MV} {h : MH} (e : D.lookup f = some d) (g : d.gc = false) : run D (n + 1) f ms h = bodyR (evS (run D n) d.body (startM d.N ms) h) := by
  simp only [run, e, g]; rfl
theorem run_gc {D : IP} {n : Nat} {f : Str} {d : IF} {ms : List MV} {h : MH} (e : D.lookup f = some d) (g : d.gc = true) : run D (n + 1) f ms h = gcR h (bodyR (evS (run D n) d.body (startM d.N ms) h)) := by
  simp only [run, e, g]; rfl
/-- statements -/
theorem seq_nx {G : CallT} {a b : IS} {env env1 : MEnv} {h h1 : MH} (e : evS G a env h = .ok .nx env1 h1) : evS G (.seq a b) env h = evS G b env1 h1 := by
  show evsSeq (evS G a) (evS G b) env h = _
  unfold evsSeq; rw [e]
theorem seq_rt {G : CallT} {a b : IS} {env env1 : MEnv} {h h1 : MH} {m : MV} (e : evS G a env h = .ok (.rt m) env1 h1) : evS G (.seq a b) env h = .ok (.rt m) env1 h1 := by
  show evsSeq (evS G a) (evS G b) env h = _
  unfold evsSeq; rw [e]
/-- a comprehension whose items change nothing -/
theorem compL_map {c : Chk} {tg : MV → MEnv → Option MEnv} {t : MEnv → MH → Res Bool} {e : MEnv → MH → Res MV} {env : MEnv} {h : MH} (f : MV → Option MV) (hc : c.ok h) : ∀ (xs acc : List MV), acc.length + (xs.filterMap f).length ≤ 16777216 →
    (∀ x ∈ xs, ∃ env1, tg x env = some env1 ∧ ((f x = none ∧ t env1 h = .ok false h) ∨ ∃ y, f x = some y ∧ t env1 h = .ok true h ∧ e env1 h = .ok y h)) → compL c tg t e env acc xs h = .ok (acc ++ xs.filterMap f) h
  | [], acc, hl, _ => by
    have : acc.length ≤ 16777216 := by simpa using hl
    simp only [compL, hc, this, and_self, if_true, List.filterMap_nil, List.append_nil]
  | x :: xs, acc, hl, hx => by
    obtain ⟨env1, e1, e2⟩ := hx x List.mem_cons_self
    have hxs := fun y hy => hx y (List.mem_cons_of_mem _ hy)
    rcases e2 with ⟨e2, e3⟩ | ⟨y, e2, e3, e4⟩
    · simp only [compL, hc, if_true, e1, e3, noX_ok, bind_ok, Bool.false_eq_true, if_false]
      rw [List.filterMap_cons, e2] at hl
      rw [compL_map f hc xs acc hl hxs, List.filterMap_cons, e2]
    · simp only [compL, hc, if_true, e1, e3, noX_ok, bind_ok, e4]
      rw [List.filterMap_cons, e2] at hl
      rw [compL_map f hc xs (acc ++ [y]) (by simp at hl ⊢; omega) hxs, List.filterMap_cons, e2]
      simp
/-- .. over two walks -/
theorem compL2_map {c : Chk} {tg : MV → MEnv → Option MEnv} {t : MEnv → MH → Res Bool} {it1 : MEnv → MH → Res (List MV × Chk)} {tg1 : MV → MEnv → Option MEnv} {t1 : MEnv → MH → Res Bool} {e : MEnv → MH → Res MV} {vs1 : List Nat} {env : MEnv} {h : MH} (f : MV → List MV) (hc : c.ok h) : ∀ (xs acc : List MV), acc.length + (xs.flatMap f).length ≤ 16777216 →
    (∀ x ∈ xs, ∃ env1, tg x env = some env1 ∧ ((f x = [] ∧ t env1 h = .ok false h) ∨ ∃ c1 ys, t env1 h = .ok true h ∧ it1 env1 h = .ok (ys, c1) h ∧
      ∀ acc' : List MV, acc'.length + (f x).length ≤ 16777216 → compL c1 tg1 t1 e (wipeM env1 vs1) acc' ys h = .ok (acc' ++ f x) h)) →
    compL2 c tg t it1 tg1 t1 e vs1 env acc xs h = .ok (acc ++ xs.flatMap f) h
  | [], acc, hl, _ => by
    have : acc.length ≤ 16777216 := by simpa using hl
    simp only [compL2, hc, this, and_self, if_true, List.flatMap_nil, List.append_nil]
  | x :: xs, acc, hl, hx => by
    obtain ⟨env1, e1, e2⟩ := hx x List.mem_cons_self
    rw [List.flatMap_cons, List.length_append] at hl
    have hxs := fun y hy => hx y (List.mem_cons_of_mem _ hy)
    rcases e2 with ⟨e2, e3⟩ | ⟨c1, ys, e3, e4, e5⟩
    · simp only [compL2, hc, if_true, e1, e3, noX_ok, bind_ok, Bool.false_eq_true, if_false]
      rw [compL2_map f hc xs acc (by omega) hxs, List.flatMap_cons, e2, List.nil_append]
    · simp only [compL2, hc, if_true, e1, e3, e4, noX_ok, bind_ok]
      rw [e5 acc (by omega)]
      simp only [bind_ok]
      rw [compL2_map f hc xs (acc ++ f x) (by rw [List.length_append]; omega) hxs, List.flatMap_cons, List.append_assoc]
section
variable (G : CallT) (env : MEnv) (h : MH)
@[simp] theorem bind_ok' {α β : Type} (a : α) (h : MH) (f : α → MH → Res β) : (Res.ok a h).bind f = f a h := rfl
@[simp] theorem ofE_ok' {α : Type} (a : α) (h : MH) (env : MEnv) (f : α → MH → SRes) : ofE (.ok a h) env f = f a h := rfl
@[simp] theorem ofO_some' {α : Type} (a : α) (h : MH) : ofO (some (a, h)) = Res.ok a h := rfl
@[simp] theorem ofO_ite {α : Type} (c : Prop) [Decidable c] (x y : Option (α × MH)) : ofO (if c then x else y) = if c then ofO x else ofO y := by split <;> rfl
@[simp] theorem noX_ok' {α : Type} (a : α) (h : MH) : noX (Res.ok a h) = Res.ok a h := rfl
@[simp] theorem ev_var (i : Nat) : ev G (.var i) env h = match env[i]? with
  | some (some v) => .ok v h
  | _ => .err := rfl
@[simp] theorem ev_cst (m : MV) : ev G (.cst m) env h = .ok m h := rfl
@[simp] theorem ev_bin (m : Bool) (o : Operator) (a b : IE) : ev G (.bin m o a b) env h = (ev G a env h).bind fun x h1 => (ev G b env h1).bind fun y h2 => ofO (opB m o x y h2) := rfl
@[simp] theorem ev_neg (a : IE) : ev G (.neg a) env h = (ev G a env h).bind fun x h1 => ofO (negM x h1) := rfl
@[simp] theorem ev_cmp (o : CmpOp) (a b : IE) : ev G (.cmp o a b) env h = (ev G a env h).bind fun x h1 => (ev G b env h1).bind fun y h2 => ofO (opC o x y h2) := rfl
@[simp] theorem ev_chain (o p : CmpOp) (a b c : IE) : ev G (.chain o p a b c) env h = (ev G a env h).bind fun x h1 => (ev G b env h1).bind fun y h2 => (ofO (opC o x y h2)).bind fun z h3 => match z with
  | .bl k => if k = true then (ev G c env h3).bind fun w h4 => ofO (opC p y w h4) else .ok (.bl false) h3
  | _ => .err := by
  simp only [ev, evCh]
  congr; funext x h1; congr; funext y h2; congr; funext z h3
  cases z with
  | bl k => cases k <;> rfl
  | _ => rfl
@[simp] theorem ev_and (a b : IE) : ev G (.and a b) env h = (ev G a env h).bind fun m h1 => match m with
  | .bl k => if k = true then ev G b env h1 else .ok (.bl false) h1
  | _ => .err := by
  simp only [ev, evAndV]
  congr; funext m h1
  cases m with
  | bl k => cases k <;> rfl
  | _ => rfl
@[simp] theorem ev_or (a b : IE) : ev G (.or a b) env h = (ev G a env h).bind fun m h1 => match m with
  | .bl k => if k = true then .ok (.bl true) h1 else ev G b env h1
  | _ => .err := by
  simp only [ev, evOrV]
  congr; funext m h1
  cases m with
  | bl k => cases k <;> rfl
  | _ => rfl
@[simp] theorem ev_not (a : IE) : ev G (.not a) env h = (ev G a env h).bind fun m h1 => match m with
  | .bl k => .ok (.bl (!k)) h1
  | _ => .err := rfl
@[simp] theorem ev_ite (t : IT) (a b : IE) : ev G (.ite t a b) env h = (evT G t env h).bind fun k h1 => if k = true then ev G a env h1 else ev G b env h1 := rfl
@[simp] theorem ev_tup (es : IL) : ev G (.tup es) env h = (evL G es env h).bind fun ms h1 => if ms.length ≤ 16777216 then .ok (.tup ms) h1 else .err := rfl
@[simp] theorem ev_lst (m : Bool) (es : IL) : ev G (.lst m es) env h = (evL G es env h).bind fun ms h1 => if ms.length ≤ 16777216 then (if m = true then .ok (.ref h1.length) (h1 ++ [.lst ms]) else .ok (.lst ms) h1) else .err := rfl
@[simp] theorem ev_ix (a b : IE) : ev G (.ix a b) env h = (ev G a env h).bind fun x h1 => (ev G b env h1).bind fun y h2 => ofO (ixM x y h2) := rfl
@[simp] theorem ev_sl (m : Bool) (a : IE) (lo hi : IO) : ev G (.sl m a lo hi) env h = (ev G a env h).bind fun x h1 => (evO G lo env h1).bind fun l h2 => (evO G hi env h2).bind fun u h3 => ofO (slM m x l u h3) := rfl
@[simp] theorem ev_rev (m : Bool) (a : IE) : ev G (.rev m a) env h = (ev G a env h).bind fun x h1 => ofO (revTM m x h1) := rfl
@[simp] theorem ev_call (f : Str) (es : IL) : ev G (.call f es) env h = (evL G es env h).bind fun ms h1 => G f ms h1 := rfl
theorem ev_bi (m : Bool) (f : Str) (es : IL) : ev G (.bi m f es) env h = (evL G es env h).bind fun ms h1 => ofO (opFn m f ms h1) := rfl
@[simp] theorem ev_meth (f : Str) (o : IE) (es : IL) : ev G (.meth f o es) env h = evMeth (mtOk f) (mtOp f) (ev G o) (evL G es) env h := rfl
theorem ev_comp (m : Bool) (it : II) (g : ITg) (t : IT) (e : IE) (vs : List Nat) : ev G (.comp m it g t e vs) env h = (evI G it env h).bind fun p h1 => (compL p.2 (asT g) (evT G t) (ev G e) (wipeM env vs) [] p.1 h1).bind fun r h2 => if m = true then .ok (.ref h2.length) (h2 ++ [.lst r]) else .ok (.lst r) h2 := rfl
theorem ev_comp2 (m : Bool) (it : II) (g : ITg) (t : IT) (it1 : II) (g1 : ITg) (t1 : IT) (e : IE) (vs vs1 : List Nat) : ev G (.comp2 m it g t it1 g1 t1 e vs vs1) env h = (evI G it env h).bind fun p h1 => (compL2 p.2 (asT g) (evT G t) (evI G it1) (asT g1) (evT G t1) (ev G e) vs1 (wipeM env vs) [] p.1 h1).bind fun r h2 => if m = true then .ok (.ref h2.length) (h2 ++ [.lst r]) else .ok (.lst r) h2 := rfl
@[simp] theorem ev_dnew (u : Bool) : ev G (.dnew u) env h = .ok (.ref h.length) (h ++ [.dct u []]) := rfl
theorem ev_dcomp (u : Bool) (it : II) (g : ITg) (t : IT) (k v : IE) (vs : List Nat) : ev G (.dcomp u it g t k v vs) env h = (evI G it env h).bind fun p h1 => (compD h1.length p.2 (asT g) (evT G t) (ev G k) (ev G v) (wipeM env vs) p.1 (h1 ++ [.dct u []])).bind fun _ h2 => .ok (.ref h1.length) h2 := rfl
@[simp] theorem ev_isi (T : String) (a : IE) : ev G (.isi T a) env h = (ev G a env h).bind fun x h1 => ofO (isiM T x h1) := rfl
@[simp] theorem ev_lenSet (a : IE) : ev G (.lenSet a) env h = (ev G a env h).bind fun x h1 => ofO (lenSetM x h1) := rfl
@[simp] theorem evO_no : evO G .no env h = .ok none h := rfl
@[simp] theorem evO_part (a : IE) : evO G (.part a) env h = evPart (ev G a) env h := rfl
@[simp] theorem evL_nil : evL G .nil env h = .ok [] h := rfl
@[simp] theorem evL_cons (e : IE) (es : IL) : evL G (.cons e es) env h = (ev G e env h).bind fun m h1 => (evL G es env h1).bind fun ms h2 => .ok (m :: ms) h2 := rfl
@[simp] theorem evT_cmp (o : CmpOp) (a b : IE) : evT G (.cmp o a b) env h = asB (ev G (.cmp o a b) env h) := rfl
@[simp] theorem evT_chain (o p : CmpOp) (a b c : IE) : evT G (.chain o p a b c) env h = asB (ev G (.chain o p a b c) env h) := rfl
@[simp] theorem evT_and (a b : IT) : evT G (.and a b) env h = (evT G a env h).bind fun k h1 => if k = true then evT G b env h1 else .ok false h1 := rfl
@[simp] theorem evT_or (a b : IT) : evT G (.or a b) env h = (evT G a env h).bind fun k h1 => if k = true then .ok true h1 else evT G b env h1 := rfl
@[simp] theorem evT_not (a : IT) : evT G (.not a) env h = (evT G a env h).bind fun k h1 => .ok (!k) h1 := rfl
@[simp] theorem evT_tru (a : IE) : evT G (.tru a) env h = (ev G a env h).bind fun m h1 => match truM m h1 with
  | some k => .ok k h1
  | none => .err := rfl
@[simp] theorem evT_tt : evT G .tt env h = .ok true h := rfl
@[simp] theorem asB_ok (b : Bool) : asB (.ok (.bl b) h) = .ok b h := rfl
@[simp] theorem truM_bl (b : Bool) : truM (.bl b) h = some b := rfl
@[simp] theorem truM_lst (xs : List MV) : truM (.lst xs) h = some (!xs.isEmpty) := rfl
@[simp] theorem truM_int (i : Int) : truM (.int i) h = some (i != 0) := rfl
@[simp] theorem evI_val (a : IE) : evI G (.val a) env h = (ev G a env h).bind fun m h1 => match itM m h1 with
  | some p => .ok p h1
  | none => .err := rfl
@[simp] theorem evI_zip (es : IL) : evI G (.zip es) env h = evZip (evL G es) env h := rfl
@[simp] theorem evI_enum (es : IL) : evI G (.enum es) env h = evEnum (evL G es) env h := rfl
@[simp] theorem evI_items (a : IE) : evI G (.items a) env h = evItems (ev G a) env h := rfl
@[simp] theorem evS_nx : evS G .nx env h = .ok .nx env h := rfl
@[simp] theorem evS_asg (g : ITg) (e : IE) : evS G (.asg g e) env h = ofE (ev G e env h) env fun m h1 => match asT g m env with
  | some env1 => .ok .nx env1 h1
  | none => .err := rfl
@[simp] theorem evS_put (o i e : IE) : evS G (.put o i e) env h = evsPut (ev G e) (ev G o) (ev G i) env h := rfl
@[simp] theorem evS_aug (i : Nat) (o : Operator) (e : IE) : evS G (.aug i o e) env h = evsAug i (opI o) (ev G e) env h := rfl
@[simp] theorem evS_ex (e : IE) : evS G (.ex e) env h = ofE (ev G e env h) env fun _ h1 => .ok .nx env h1 := rfl
@[simp] theorem evS_ret (e : IE) : evS G (.ret e) env h = ofE (ev G e env h) env fun m h1 => .ok (.rt m) env h1 := rfl
@[simp] theorem evS_retN : evS G .retN env h = .ok (.rt .non) env h := rfl
@[simp] theorem evS_if (t : IT) (a b : IS) : evS G (.if_ t a b) env h = ofE (evT G t env h) env fun k h1 => if k = true then evS G a env h1 else evS G b env h1 := rfl
theorem evS_for (it : II) (g : ITg) (a : IS) : evS G (.for_ it g a) env h = ofE (evI G it env h) env fun p h1 => evsLoop p.2 (asT g) (evS G a) p.1 env h1 := rfl
@[simp] theorem evS_bad : evS G .bad env h = .err := rfl
theorem evS_while (n : Nat) (t : IT) (a : IS) : evS G (.while_ n t a) env h = evsWhile (evT G t) (evS G a) n env h := rfl
@[simp] theorem bodyR_rt (m : MV) : bodyR (.ok (.rt m) env h) = .ok m h := rfl
@[simp] theorem bodyR_nx : bodyR (.ok .nx env h) = .ok .non h := rfl
@[simp] theorem asT_name (i : Nat) (m : MV) : asT (.name i) m env = some (env.set i (some m)) := by simp [asT]
@[simp] theorem asT_tup (ts : List ITg) (ms : List MV) : asT (.tup ts) (.tup ms) env = asTs ts ms env := by simp [asT]
@[simp] theorem asTs_nil : asTs [] [] env = some env := by simp [asTs]
@[simp] theorem asTs_cons (t : ITg) (ts : List ITg) (m : MV) (ms : List MV) : asTs (t :: ts) (m :: ms) env = match asT t m env with
  | some env' => asTs ts ms env'
  | none => none := by cases e : asT t m env <;> simp [asTs, e]
@[simp] theorem itM_tup (xs : List MV) : itM (.tup xs) h = some (xs, .no) := rfl
@[simp] theorem itM_lst (xs : List MV) : itM (.lst xs) h = some (xs, .no) := rfl
@[simp] theorem itM_scr (ns : List Int) : itM (.scr ns) h = some (ns.map MV.int, .no) := rfl
@[simp] theorem itM_rng (lo hi : Int) : itM (.rng lo hi) h = some ((List.range (hi - lo).toNat).map fun k => MV.int (lo + (k : Nat)), .no) := rfl
@[simp] theorem chk_no : Chk.ok .no h = True := rfl
theorem body_seq {G : CallT} {a b : IS} {env env1 : MEnv} {h h1 : MH} {r : Res MV} (e : evS G a env h = .ok .nx env1 h1) (t : bodyR (evS G b env1 h1) = r) : bodyR (evS G (.seq a b) env h) = r := by
  rw [seq_nx e]; exact t
theorem body_rt {G : CallT} {a b : IS} {env env1 : MEnv} {h h1 : MH} {m : MV} (e : evS G a env h = .ok (.rt m) env1 h1) : bodyR (evS G (.seq a b) env h) = .ok m h1 := by
  rw [seq_rt e]; rfl
@[simp] theorem opB_Add (m : Bool) : opB m .Add = addM m := rfl
@[simp] theorem opB_Sub (m : Bool) : opB m .Sub = iiM subI := rfl
@[simp] theorem opB_Mult (m : Bool) : opB m .Mult = mulM m := rfl
@[simp] theorem opB_FloorDiv (m : Bool) : opB m .FloorDiv = iiM fdivI := rfl
@[simp] theorem opB_Mod (m : Bool) : opB m .Mod = iiM modI := rfl
@[simp] theorem opB_Pow (m : Bool) : opB m .Pow = iiM powI := rfl
@[simp] theorem opB_LShift (m : Bool) : opB m .LShift = iiM shlI := rfl
@[simp] theorem opB_RShift (m : Bool) : opB m .RShift = iiM shrI := rfl
@[simp] theorem opB_BitAnd (m : Bool) : opB m .BitAnd = iiM andI := rfl
@[simp] theorem opB_BitXor (m : Bool) : opB m .BitXor = iiM xorI := rfl
@[simp] theorem opC_Eq : opC .Eq = eqM := rfl
@[simp] theorem opC_NotEq : opC .NotEq = neM := rfl
@[simp] theorem opC_Lt : opC .Lt = ltM := rfl
@[simp] theorem opC_LtE : opC .LtE = leM := rfl
@[simp] theorem opC_Gt : opC .Gt = gtM := rfl
@[simp] theorem opC_GtE : opC .GtE = geM := rfl
@[simp] theorem opC_Is : opC .Is = isM := rfl
@[simp] theorem opC_IsNot : opC .IsNot = isNotM := rfl
@[simp] theorem opC_In : opC .In = inM := rfl
@[simp] theorem opC_NotIn : opC .NotIn = notInM := rfl
@[simp] theorem addM_ii (m : Bool) (i j : Int) : addM m (.int i) (.int j) h = some (.int (i + j), h) := rfl
@[simp] theorem iiM_ii (f : Int → Int → Option Int) (i j : Int) : iiM f (.int i) (.int j) h = (f i j).map fun k => (.int k, h) := rfl
@[simp] theorem subI_ii (i j : Int) : subI i j = some (i - j) := rfl
@[simp] theorem negM_i (i : Int) : negM (.int i) h = some (.int (-i), h) := rfl
@[simp] theorem eqM_ii (i j : Int) : eqM (.int i) (.int j) h = some (.bl (i == j), h) := rfl
@[simp] theorem neM_ii (i j : Int) : neM (.int i) (.int j) h = some (.bl (!(i == j)), h) := rfl
@[simp] theorem ltM_ii (i j : Int) : ltM (.int i) (.int j) h = some (.bl (decide (i < j)), h) := rfl
@[simp] theorem leM_ii (i j : Int) : leM (.int i) (.int j) h = some (.bl (decide (i ≤ j)), h) := rfl
@[simp] theorem gtM_ii (i j : Int) : gtM (.int i) (.int j) h = some (.bl (decide (j < i)), h) := rfl
@[simp] theorem geM_ii (i j : Int) : geM (.int i) (.int j) h = some (.bl (decide (j ≤ i)), h) := rfl
@[simp] theorem mapO_some {α β : Type} (f : α → β) (a : α) : Option.map f (some a) = some (f a) := rfl
@[simp] theorem opFn_len (m : Bool) : opFn m "len" = lenM := by kernel_rfl
@[simp] theorem opFn_range (m : Bool) : opFn m "range" = rangeM := by kernel_rfl
@[simp] theorem opFn_tuple (m : Bool) : opFn m "tuple" = tupleM := by kernel_rfl
@[simp] theorem opFn_list (m : Bool) : opFn m "list" = listM m := by kernel_rfl
@[simp] theorem opFn_sum (m : Bool) : opFn m "sum" = sumM := by kernel_rfl
@[simp] theorem opFn_min (m : Bool) : opFn m "min" = minDM := by kernel_rfl
@[simp] theorem opFn_max (m : Bool) : opFn m "max" = maxDM := by kernel_rfl
@[simp] theorem opFn_all (m : Bool) : opFn m "all" = allM := by kernel_rfl
@[simp] theorem opFn_any (m : Bool) : opFn m "any" = anyM := by kernel_rfl
@[simp] theorem opFn_abs (m : Bool) : opFn m "abs" = absM := by kernel_rfl
@[simp] theorem opFn_int (m : Bool) : opFn m "int" = intM := by kernel_rfl
@[simp] theorem opFn_sorted (m : Bool) : opFn m "sorted" = sortedM m := by kernel_rfl
@[simp] theorem mtOk_append : mtOk "append" = isT "list" := by kernel_rfl
@[simp] theorem mtOp_append : mtOp "append" = appendM := by kernel_rfl
@[simp] theorem mtOk_index : mtOk "index" = isT "list" := by kernel_rfl
@[simp] theorem mtOp_index : mtOp "index" = indexM := by kernel_rfl
@[simp] theorem mtOk_get : mtOk "get" = isT "dict" := by kernel_rfl
@[simp] theorem mtOp_get : mtOp "get" = dgetM := by kernel_rfl
@[simp] theorem mtOk_pop : mtOk "pop" = popOk := by kernel_rfl
@[simp] theorem mtOp_pop : mtOp "pop" = popM := by kernel_rfl
@[simp] theorem mtOk_update : mtOk "update" = isT "dict" := by kernel_rfl
@[simp] theorem mtOp_update : mtOp "update" = updateM := by kernel_rfl
@[simp] theorem mtOk_bits : mtOk "bit_length" = isT "int" := by kernel_rfl
@[simp] theorem mtOp_bits : mtOp "bit_length" = bitsM := by kernel_rfl
@[simp] theorem dctOf_tup (xs : List MV) : dctOf h (.tup xs) = none := rfl
@[simp] theorem dctOf_lst (xs : List MV) : dctOf h (.lst xs) = none := rfl
@[simp] theorem dctOf_scr (xs : List Int) : dctOf h (.scr xs) = none := rfl
@[simp] theorem dctOf_str (x : Str) : dctOf h (.str x) = none := rfl
@[simp] theorem dctOf_int (i : Int) : dctOf h (.int i) = none := rfl
@[simp] theorem sqOf_tup (xs : List MV) : sqOf h (.tup xs) = some xs := rfl
@[simp] theorem sqOf_lst (xs : List MV) : sqOf h (.lst xs) = some xs := rfl
@[simp] theorem sqOf_scr (xs : List Int) : sqOf h (.scr xs) = some (xs.map MV.int) := rfl
@[simp] theorem sqLOf_tup (xs : List MV) : sqLOf h (.tup xs) = none := rfl
@[simp] theorem sqLOf_lst (xs : List MV) : sqLOf h (.lst xs) = some xs := rfl
@[simp] theorem sqLOf_scr (xs : List Int) : sqLOf h (.scr xs) = some (xs.map MV.int) := rfl
@[simp] theorem lstOf_lst (xs : List MV) : lstOf h (.lst xs) = some xs := rfl
@[simp] theorem lenM_tup (xs : List MV) : lenM [.tup xs] h = some (.int (xs.length : Nat), h) := rfl
@[simp] theorem lenM_lst (xs : List MV) : lenM [.lst xs] h = some (.int (xs.length : Nat), h) := rfl
@[simp] theorem lenM_scr (xs : List Int) : lenM [.scr xs] h = some (.int (xs.length : Nat), h) := by simp [lenM]
@[simp] theorem ixM_tup (xs : List MV) (i : Int) : ixM (.tup xs) (.int i) h = (atI xs i).map fun m => (m, h) := rfl
@[simp] theorem ixM_lst (xs : List MV) (i : Int) : ixM (.lst xs) (.int i) h = (atI xs i).map fun m => (m, h) := rfl
@[simp] theorem newL_false (xs : List MV) : newL false xs h = if xs.length ≤ 16777216 then some (.lst xs, h) else none := by simp [newL]
@[simp] theorem tupleM_tup (xs : List MV) : tupleM [.tup xs] h = some (.tup xs, h) := rfl
@[simp] theorem tupleM_lst (xs : List MV) : tupleM [.lst xs] h = newT xs h := rfl
@[simp] theorem allInts_map (ns : List Int) : allInts (ns.map MV.int) = some ns := by
  induction ns with
  | nil => rfl
  | cons n ns ih => simp [allInts, ih]
@[simp] theorem allBls_map (ns : List Bool) : allBls (ns.map MV.bl) = some ns := by
  induction ns with
  | nil => rfl
  | cons n ns ih => simp [allBls, ih]
@[simp] theorem allM_bls (ns : List Bool) : allM [.lst (ns.map MV.bl)] h = some (.bl (ns.all id), h) := by simp only [allM, sqLOf_lst, allBls_map]
@[simp] theorem anyM_bls (ns : List Bool) : anyM [.lst (ns.map MV.bl)] h = some (.bl (ns.any id), h) := by simp only [anyM, sqLOf_lst, allBls_map]
theorem allBls_fun {α : Type} (f : α → Bool) (xs : List α) : allBls (xs.map fun x => MV.bl (f x)) = some (xs.map f) := by
  induction xs with
  | nil => rfl
  | cons n ns ih => simp [allBls, ih]
@[simp] theorem allM_fun {α : Type} (f : α → Bool) (xs : List α) : allM [.lst (xs.map fun x => MV.bl (f x))] h = some (.bl (xs.all f), h) := by
  simp only [allM, sqLOf_lst, allBls_fun, List.all_map]; rfl
@[simp] theorem anyM_fun {α : Type} (f : α → Bool) (xs : List α) : anyM [.lst (xs.map fun x => MV.bl (f x))] h = some (.bl (xs.any f), h) := by
  simp only [anyM, sqLOf_lst, allBls_fun, List.any_map]; rfl
theorem rangeM_1 (n : Nat) (hn : n ≤ 2305843009213693952) : rangeM [.int n] h = some (.rng 0 n, h) := by
  simp only [rangeM]
  rw [if_pos (absLe_iff.mpr (by omega))]
end
section
variable (G : CallT) (env : MEnv) (h : MH) (m : Bool) (a b : IE)
@[simp] theorem ev_len : ev G (.bi m "len" (.cons a .nil)) env h = (ev G a env h).bind fun x h1 => ofO (lenM [x] h1) := by
  simp only [ev_bi, evL_cons, evL_nil, opFn_len]; cases ev G a env h <;> rfl
@[simp] theorem ev_range : ev G (.bi m "range" (.cons a .nil)) env h = (ev G a env h).bind fun x h1 => ofO (rangeM [x] h1) := by
  simp only [ev_bi, evL_cons, evL_nil, opFn_range]; cases ev G a env h <;> rfl
@[simp] theorem ev_range2 : ev G (.bi m "range" (.cons a (.cons b .nil))) env h = (ev G a env h).bind fun x h1 => (ev G b env h1).bind fun y h2 => ofO (rangeM [x, y] h2) := by
  simp only [ev_bi, evL_cons, evL_nil, opFn_range]
  cases ev G a env h with
  | ok x h1 => simp only [bind_ok']; cases ev G b env h1 <;> rfl
  | _ => rfl
@[simp] theorem ev_tuple : ev G (.bi m "tuple" (.cons a .nil)) env h = (ev G a env h).bind fun x h1 => ofO (tupleM [x] h1) := by
  simp only [ev_bi, evL_cons, evL_nil, opFn_tuple]; cases ev G a env h <;> rfl
@[simp] theorem ev_list : ev G (.bi m "list" (.cons a .nil)) env h = (ev G a env h).bind fun x h1 => ofO (listM m [x] h1) := by
  simp only [ev_bi, evL_cons, evL_nil, opFn_list]; cases ev G a env h <;> rfl
@[simp] theorem ev_int : ev G (.bi m "int" (.cons a .nil)) env h = (ev G a env h).bind fun x h1 => ofO (intM [x] h1) := by
  simp only [ev_bi, evL_cons, evL_nil, opFn_int]; cases ev G a env h <;> rfl
@[simp] theorem ev_abs : ev G (.bi m "abs" (.cons a .nil)) env h = (ev G a env h).bind fun x h1 => ofO (absM [x] h1) := by
  simp only [ev_bi, evL_cons, evL_nil, opFn_abs]; cases ev G a env h <;> rfl
@[simp] theorem ev_min1 : ev G (.bi m "min" (.cons a .nil)) env h = (ev G a env h).bind fun x h1 => ofO (minDM [x] h1) := by
  simp only [ev_bi, evL_cons, evL_nil, opFn_min]; cases ev G a env h <;> rfl
@[simp] theorem ev_all : ev G (.bi m "all" (.cons a .nil)) env h = (ev G a env h).bind fun x h1 => ofO (allM [x] h1) := by
  simp only [ev_bi, evL_cons, evL_nil, opFn_all]; cases ev G a env h <;> rfl
@[simp] theorem ev_any : ev G (.bi m "any" (.cons a .nil)) env h = (ev G a env h).bind fun x h1 => ofO (anyM [x] h1) := by
  simp only [ev_bi, evL_cons, evL_nil, opFn_any]; cases ev G a env h <;> rfl
@[simp] theorem ev_sum : ev G (.bi m "sum" (.cons a .nil)) env h = (ev G a env h).bind fun x h1 => ofO (sumM [x] h1) := by
  simp only [ev_bi, evL_cons, evL_nil, opFn_sum]; cases ev G a env h <;> rfl
@[simp] theorem ev_sorted : ev G (.bi m "sorted" (.cons a .nil)) env h = (ev G a env h).bind fun x h1 => ofO (sortedM m [x] h1) := by
  simp only [ev_bi, evL_cons, evL_nil, opFn_sorted]; cases ev G a env h <;> rfl
end
/-- the item at a place -/
theorem atI_nat {α : Type} (xs : List α) (i : Nat) : atI xs (i : Int) = xs[i]? := by
  unfold atI ixN
  rw [if_pos (by omega)]
  by_cases hi : i < xs.length
  · rw [if_pos (by omega)]
    show xs[(i : Int).toNat]? = _
    rw [Int.toNat_natCast]
  · rw [if_neg (by omega), List.getElem?_eq_none (by omega)]
    rfl
/-- a walk that looks for something and hands it back -/
theorem loop_find {i : Nat} {b : MEnv → MH → SRes} {h : MH} {v : MV} {env : MEnv} (p : MV → Bool) : ∀ (xs : List MV) (o : Option MV), (∀ x ∈ xs, b (env.set i (some x)) h = if p x = true then .ok (.rt v) (env.set i (some x)) h else .ok .nx (env.set i (some x)) h) →
    ∃ o', evsLoop .no (asT (.name i)) b xs (env.set i o) h = if xs.any p = true then .ok (.rt v) (env.set i o') h else .ok .nx (env.set i o') h
  | [], o, _ => ⟨o, by simp [evsLoop]⟩
  | x :: xs, o, hb => by
    have h1 := hb x List.mem_cons_self
    by_cases hp : p x = true
    · refine ⟨some x, ?_⟩
      rw [if_pos hp] at h1
      simp [evsLoop, List.set_set, h1, hp]
    · rw [if_neg hp] at h1
      obtain ⟨o', e⟩ := loop_find p xs (some x) fun y hy => hb y (List.mem_cons_of_mem _ hy)
      refine ⟨o', ?_⟩
      have hpf : p x = false := by simpa using hp
      simp only [evsLoop, chk_no, if_true, asT_name, List.set_set, h1, List.any_cons, hpf, Bool.false_or]
      exact e
/-- a walk that looks for something, and what stands behind it -/
theorem body_find {G : CallT} {it : II} {i : Nat} {a b : IS} {env : MEnv} {h : MH} {r : Res MV} {v : MV} (p : MV → Bool) (xs : List MV) (hi : evI G it env h = .ok (xs, .no) h) (he : ∃ o, env = env.set i o)
    (hb : ∀ x ∈ xs, evS G a (env.set i (some x)) h = if p x = true then .ok (.rt v) (env.set i (some x)) h else .ok .nx (env.set i (some x)) h)
    (t : xs.any p = false → ∀ o, bodyR (evS G b (env.set i o) h) = r) (f : xs.any p = true → .ok v h = r) : bodyR (evS G (.seq (.for_ it (.name i) a) b) env h) = r := by
  obtain ⟨o, eo⟩ := he
  obtain ⟨o', e⟩ := loop_find (i := i) (b := evS G a) (h := h) (v := v) (env := env) p xs o hb
  rw [← eo] at e
  cases hp : xs.any p with
  | true =>
    rw [hp, if_pos rfl] at e
    refine (body_rt (env1 := env.set i o') (h1 := h) (m := v) ?_).trans (f hp)
    rw [evS_for, hi]; exact e
  | false =>
    rw [hp, if_neg Bool.false_ne_true] at e
    refine body_seq (env1 := env.set i o') (h1 := h) ?_ (t hp o')
    rw [evS_for, hi]; exact e
theorem compL_bls {c : Chk} {tg : MV → MEnv → Option MEnv} {t : MEnv → MH → Res Bool} {e : MEnv → MH → Res MV} {env : MEnv} {h : MH} (f : MV → Bool) (hc : c.ok h) (xs : List MV) (hl : xs.length ≤ 16777216)
    (hx : ∀ x ∈ xs, ∃ env1, tg x env = some env1 ∧ t env1 h = .ok true h ∧ e env1 h = .ok (.bl (f x)) h) : compL c tg t e env [] xs h = .ok ((xs.map f).map MV.bl) h := by
  have := compL_map (f := fun x => some (.bl (f x))) hc xs [] (by simpa using hl) fun x hm => by
    obtain ⟨env1, a, b, c⟩ := hx x hm
    exact ⟨env1, a, .inr ⟨_, rfl, b, c⟩⟩
  rw [this, List.nil_append, List.map_map]
  congr 1
  induction xs with
  | nil => rfl
  | cons x xs ih => simp
/-- [e for x in xs] over truths -/
theorem comp_bls {G : CallT} {it : II} {g : ITg} {t : IT} {e : IE} {vs : List Nat} {env : MEnv} {h : MH} (f : MV → Bool) (xs : List MV) (hi : evI G it env h = .ok (xs, .no) h) (hl : xs.length ≤ 16777216)
    (hx : ∀ x ∈ xs, ∃ env1, asT g x (wipeM env vs) = some env1 ∧ evT G t env1 h = .ok true h ∧ ev G e env1 h = .ok (.bl (f x)) h) :
    ev G (.comp false it g t e vs) env h = .ok (.lst (xs.map fun x => MV.bl (f x))) h := by
  have hc := compL_bls (c := .no) (tg := asT g) (t := evT G t) (e := ev G e) (env := wipeM env vs) (h := h) f trivial xs hl hx
  simp only [ev_comp, hi, bind_ok', hc, if_false, Bool.false_eq_true, List.map_map]
  rfl
/-- a comprehension over a range, nothing left out -/
theorem comp_range {G : CallT} {it : II} {i : Nat} {t : IT} {e : IE} {vs : List Nat} {env : MEnv} {h : MH} {n : Nat} (f : Nat → MV) (hi : evI G it env h = .ok ((List.range n).map fun k => MV.int (k : Nat), .no) h) (hl : n ≤ 16777216)
    (hx : ∀ k < n, evT G t ((wipeM env vs).set i (some (.int (k : Nat)))) h = .ok true h ∧ ev G e ((wipeM env vs).set i (some (.int (k : Nat)))) h = .ok (f k) h) :
    ev G (.comp false it (.name i) t e vs) env h = .ok (.lst ((List.range n).map f)) h := by
  have hc := compL_map (c := .no) (tg := asT (.name i)) (t := evT G t) (e := ev G e) (env := wipeM env vs) (h := h) (fun x => match x with
    | .int k => some (f k.toNat)
    | _ => none) trivial ((List.range n).map fun k => MV.int (k : Nat)) [] (by simp only [List.length_nil, Nat.zero_add]; exact Nat.le_trans (List.length_filterMap_le _ _) (by simpa using hl)) fun x hxm => by
      obtain ⟨k, hk, rfl⟩ := List.mem_map.mp hxm
      obtain ⟨a, b⟩ := hx k (List.mem_range.mp hk)
      exact ⟨_, asT_name _ _ _, .inr ⟨f k, by simp, a, b⟩⟩
  simp only [ev_comp, hi, bind_ok', hc, if_false, Bool.false_eq_true, List.nil_append]
  rw [List.filterMap_map]
  congr 2
  rw [← List.filterMap_eq_map]
  rfl
/-- .. over two ranges, the second one by the first one's number -/
theorem compL_range {tg : MV → MEnv → Option MEnv} {i : Nat} {G : CallT} {t : IT} {e : IE} {env : MEnv} {h : MH} {n : Nat} {acc : List MV} (f : Nat → MV) (hl : acc.length + n ≤ 16777216)
    (hx : ∀ k < n, evT G t (env.set i (some (.int (k : Nat)))) h = .ok true h ∧ ev G e (env.set i (some (.int (k : Nat)))) h = .ok (f k) h) :
    compL .no (asT (.name i)) (evT G t) (ev G e) env acc ((List.range n).map fun k => MV.int (k : Nat)) h = .ok (acc ++ (List.range n).map f) h := by
  have hc := compL_map (c := .no) (tg := asT (.name i)) (t := evT G t) (e := ev G e) (env := env) (h := h) (fun x => match x with
    | .int k => some (f k.toNat)
    | _ => none) trivial ((List.range n).map fun k => MV.int (k : Nat)) acc (Nat.le_trans (Nat.add_le_add_left (List.length_filterMap_le _ _) _) (by simpa using hl)) fun x hxm => by
      obtain ⟨k, hk, rfl⟩ := List.mem_map.mp hxm
      obtain ⟨a, b⟩ := hx k (List.mem_range.mp hk)
      exact ⟨_, asT_name _ _ _, .inr ⟨f k, by simp, a, b⟩⟩
  rw [hc, List.filterMap_map]
  congr 2
  rw [← List.filterMap_eq_map]
  rfl
end Mi

set_option Elab.async false
set_option linter.all false
set_option maxRecDepth 10000
set_option maxHeartbeats 1000000
namespace Mz
set_option autoImplicit false
/-- neighbours stand in T -/
def Chn (T : Nat → Nat → Prop) : List Nat → Prop
  | [] => True
  | [_] => True
  | x :: y :: l => T x y ∧ Chn T (y :: l)
def hd (l : List Nat) : Nat := l.headD 0
def ls (l : List Nat) : Nat := l.getLastD 0
theorem ls_cons (x y : Nat) (l : List Nat) : ls (x :: y :: l) = ls (y :: l) := by simp [ls]
theorem ls_one (x : Nat) : ls [x] = x := rfl
theorem hd_cons (x : Nat) (l : List Nat) : hd (x :: l) = x := rfl
theorem ls_append (P : List Nat) (y : Nat) (l : List Nat) : ls (P ++ y :: l) = ls (y :: l) := by
  induction P with
  | nil => rfl
  | cons x P ih =>
    cases P with
    | nil => rw [List.singleton_append, ls_cons]
    | cons z P => rw [List.cons_append, List.cons_append, ls_cons, ← List.cons_append, ih]
theorem ls_snoc (P : List Nat) (y : Nat) : ls (P ++ [y]) = y := ls_append P y []
theorem hd_append (x : Nat) (P Q : List Nat) : hd (x :: P ++ Q) = x := rfl
theorem ls_mem {l : List Nat} (h : l ≠ []) : ls l ∈ l := by
  induction l with
  | nil => exact absurd rfl h
  | cons x l ih =>
    cases l with
    | nil => simp [ls]
    | cons y l => rw [ls_cons]; exact List.mem_cons_of_mem _ (ih (by simp))
theorem hd_mem {l : List Nat} (h : l ≠ []) : hd l ∈ l := by
  cases l with
  | nil => exact absurd rfl h
  | cons x l => simp [hd]
theorem ls_reverse (l : List Nat) : ls l.reverse = hd l := by
  cases l with
  | nil => rfl
  | cons x l => rw [List.reverse_cons, ls_snoc]; rfl
theorem hd_reverse (l : List Nat) : hd l.reverse = ls l := by
  have := ls_reverse l.reverse
  rw [List.reverse_reverse] at this; exact this.symm
theorem ls_map (f : Nat → Nat) {l : List Nat} (h : l ≠ []) : ls (l.map f) = f (ls l) := by
  induction l with
  | nil => exact absurd rfl h
  | cons x l ih =>
    cases l with
    | nil => rfl
    | cons y l => rw [List.map_cons, List.map_cons, ls_cons, ls_cons, ← List.map_cons, ih (by simp)]
theorem hd_map (f : Nat → Nat) {l : List Nat} (h : l ≠ []) : hd (l.map f) = f (hd l) := by
  cases l with
  | nil => exact absurd rfl h
  | cons x l => rfl
theorem Chn.tail {T : Nat → Nat → Prop} {x : Nat} {l : List Nat} (h : Chn T (x :: l)) : Chn T l := by
  cases l with
  | nil => trivial
  | cons y l => exact h.2
theorem chn_append {T : Nat → Nat → Prop} : ∀ (P Q : List Nat), P ≠ [] → Q ≠ [] → (Chn T (P ++ Q) ↔ Chn T P ∧ Chn T Q ∧ T (ls P) (hd Q))
  | [], _, h, _ => absurd rfl h
  | [x], [], _, h => absurd rfl h
  | [x], y :: Q, _, _ => by simp [Chn, ls_one, hd_cons, and_comm]
  | x :: y :: P, Q, _, h => by
    have := chn_append (T := T) (y :: P) Q (by simp) h
    simp only [List.cons_append, Chn, ls_cons] at this ⊢
    rw [this, and_assoc]
theorem chn_mono {T U : Nat → Nat → Prop} : ∀ {l : List Nat}, (∀ x ∈ l, ∀ y ∈ l, T x y → U x y) → Chn T l → Chn U l
  | [], _, _ => trivial
  | [_], _, _ => trivial
  | x :: y :: l, h, c => ⟨h x (by simp) y (by simp) c.1, chn_mono (fun a ha b hb => h a (List.mem_cons_of_mem _ ha) b (List.mem_cons_of_mem _ hb)) c.2⟩
theorem chn_map {T U : Nat → Nat → Prop} {f : Nat → Nat} : ∀ {l : List Nat}, (∀ x ∈ l, ∀ y ∈ l, T x y → U (f x) (f y)) → Chn T l → Chn U (l.map f)
  | [], _, _ => trivial
  | [_], _, _ => trivial
  | x :: y :: l, h, c => ⟨h x (by simp) y (by simp) c.1, chn_map (fun a ha b hb => h a (List.mem_cons_of_mem _ ha) b (List.mem_cons_of_mem _ hb)) c.2⟩
theorem chn_reverse {T : Nat → Nat → Prop} (sy : ∀ x y, T x y → T y x) : ∀ {l : List Nat}, Chn T l → Chn T l.reverse
  | [], _ => trivial
  | [_], _ => trivial
  | x :: y :: l, c => by
    have ih := chn_reverse sy (l := y :: l) c.2
    rw [List.reverse_cons]
    refine (chn_append _ _ (by simp) (by simp)).mpr ⟨ih, trivial, ?_⟩
    rw [ls_reverse]
    exact sy _ _ c.1
theorem nodup_rev {l : List Nat} (h : l.Nodup) : l.reverse.Nodup := by
  rw [List.nodup_iff_pairwise_ne] at h ⊢
  rw [List.pairwise_reverse]
  exact h.imp fun e => e.symm
/-- a way round -/
structure Cyc (T : Nat → Nat → Prop) (c : List Nat) : Prop where
  len : 3 ≤ c.length
  nd : c.Nodup
  ch : Chn T c
  cl : T (ls c) (hd c)
theorem Cyc.ne {T : Nat → Nat → Prop} {c : List Nat} (h : Cyc T c) : c ≠ [] := fun e => by
  have := h.len; rw [e] at this; simp at this
theorem nodup_swap {P Q : List Nat} (h : (P ++ Q).Nodup) : (Q ++ P).Nodup := by
  rw [List.nodup_append] at h ⊢
  exact ⟨h.2.1, h.1, fun a ha b hb e => h.2.2 b hb a ha e.symm⟩
theorem Cyc.swap {T : Nat → Nat → Prop} {P Q : List Nat} (h : Cyc T (P ++ Q)) : Cyc T (Q ++ P) := by
  by_cases hP : P = []
  · subst hP; simpa using h
  by_cases hQ : Q = []
  · subst hQ; simpa using h
  obtain ⟨a, b, c, d⟩ := h
  obtain ⟨c1, c2, c3⟩ := (chn_append P Q hP hQ).mp c
  obtain ⟨p, P, rfl⟩ := List.exists_cons_of_ne_nil hP
  obtain ⟨q, Q, rfl⟩ := List.exists_cons_of_ne_nil hQ
  rw [ls_append, List.cons_append, hd_cons] at d
  refine ⟨by simp at a ⊢; omega, nodup_swap b, (chn_append _ _ hQ hP).mpr ⟨c2, c1, d⟩, ?_⟩
  rw [ls_append, List.cons_append, hd_cons]
  exact c3
theorem Cyc.rev {T : Nat → Nat → Prop} (sy : ∀ x y, T x y → T y x) {c : List Nat} (h : Cyc T c) : Cyc T c.reverse :=
  ⟨by simpa using h.len, nodup_rev h.nd, chn_reverse sy h.ch, by rw [ls_reverse, hd_reverse]; exact sy _ _ h.cl⟩
theorem Cyc.map {T U : Nat → Nat → Prop} {c : List Nat} (h : Cyc T c) {f : Nat → Nat} (inj : ∀ x ∈ c, ∀ y ∈ c, f x = f y → x = y) (hf : ∀ x ∈ c, ∀ y ∈ c, T x y → U (f x) (f y)) : Cyc U (c.map f) := by
  refine ⟨by simpa using h.len, ?_, chn_map hf h.ch, ?_⟩
  · have := h.nd
    rw [List.nodup_iff_pairwise_ne] at this ⊢
    rw [List.pairwise_map]
    exact List.Pairwise.imp_of_mem (fun {a b} ha hb hne e => hne (inj a ha b hb e)) this
  · rw [ls_map f h.ne, hd_map f h.ne]
    exact hf _ (ls_mem h.ne) _ (hd_mem h.ne) h.cl
theorem Cyc.mono {T U : Nat → Nat → Prop} {c : List Nat} (h : Cyc T c) (hf : ∀ x ∈ c, ∀ y ∈ c, T x y → U x y) : Cyc U c :=
  ⟨h.len, h.nd, chn_mono hf h.ch, hf _ (ls_mem h.ne) _ (hd_mem h.ne) h.cl⟩
section
variable (s : Nat → Nat → Int)
def sg : List Nat → Int
  | [] => 1
  | [_] => 1
  | x :: y :: l => s x y * sg (y :: l)
def csg (c : List Nat) : Int := sg s c * s (ls c) (hd c)
theorem sg_append : ∀ (P Q : List Nat), P ≠ [] → Q ≠ [] → sg s (P ++ Q) = sg s P * sg s Q * s (ls P) (hd Q)
  | [], _, h, _ => absurd rfl h
  | [x], [], _, h => absurd rfl h
  | [x], y :: Q, _, _ => by simp [sg, ls_one, hd_cons, Int.mul_comm]
  | x :: y :: P, Q, _, h => by
    have := sg_append (y :: P) Q (by simp) h
    simp only [List.cons_append, sg, ls_cons] at this ⊢
    rw [this]; simp only [Int.mul_assoc]
theorem csg_swap (P Q : List Nat) : csg s (Q ++ P) = csg s (P ++ Q) := by
  by_cases hP : P = []
  · subst hP; simp
  by_cases hQ : Q = []
  · subst hQ; simp
  unfold csg
  rw [sg_append s P Q hP hQ, sg_append s Q P hQ hP]
  obtain ⟨p, P, rfl⟩ := List.exists_cons_of_ne_nil hP
  obtain ⟨q, Q, rfl⟩ := List.exists_cons_of_ne_nil hQ
  rw [ls_append, ls_append, List.cons_append, List.cons_append, hd_cons, hd_cons]
  ac_rfl
theorem sg_reverse (sy : ∀ x y, s x y = s y x) : ∀ l : List Nat, sg s l.reverse = sg s l
  | [] => rfl
  | [_] => rfl
  | x :: y :: l => by
    have ih := sg_reverse sy (y :: l)
    rw [List.reverse_cons, sg_append s _ _ (by simp) (by simp), ih, ls_reverse]
    simp only [sg, hd_cons]
    rw [sy y x]; ac_rfl
theorem csg_reverse (sy : ∀ x y, s x y = s y x) (l : List Nat) : csg s l.reverse = csg s l := by
  unfold csg
  rw [sg_reverse s sy, ls_reverse, hd_reverse, sy]
theorem sg_map {t : Nat → Nat → Int} {f : Nat → Nat} : ∀ {l : List Nat}, (∀ x ∈ l, ∀ y ∈ l, t (f x) (f y) = s x y) → sg t (l.map f) = sg s l
  | [], _ => rfl
  | [_], _ => rfl
  | x :: y :: l, h => by
    have ih := sg_map (t := t) (f := f) (l := y :: l) fun a ha b hb => h a (List.mem_cons_of_mem _ ha) b (List.mem_cons_of_mem _ hb)
    simp only [List.map_cons, sg] at ih ⊢
    rw [ih, h x (by simp) y (by simp)]
theorem csg_map {t : Nat → Nat → Int} {f : Nat → Nat} {l : List Nat} (hl : l ≠ []) (h : ∀ x ∈ l, ∀ y ∈ l, t (f x) (f y) = s x y) : csg t (l.map f) = csg s l := by
  unfold csg
  rw [sg_map s h, ls_map f hl, hd_map f hl, h _ (ls_mem hl) _ (hd_mem hl)]
end
def mn : List Nat → Nat
  | [] => 0
  | [x] => x
  | x :: y :: l => min x (mn (y :: l))
theorem mn_le : ∀ {l : List Nat} {x : Nat}, x ∈ l → mn l ≤ x
  | [y], x, h => by simp at h; simp [mn, h]
  | y :: z :: l, x, h => by
    rcases List.mem_cons.mp h with e | e
    · subst e; simp only [mn]; omega
    · have := mn_le e; simp only [mn]; omega
theorem mn_mem : ∀ {l : List Nat}, l ≠ [] → mn l ∈ l
  | [], h => absurd rfl h
  | [y], _ => by simp [mn]
  | y :: z :: l, _ => by
    have := mn_mem (l := z :: l) (by simp)
    simp only [mn]
    by_cases h : y ≤ mn (z :: l)
    · rw [Nat.min_eq_left h]; simp
    · rw [Nat.min_eq_right (by omega)]; exact List.mem_cons_of_mem _ this
theorem mn_eq {l : List Nat} {m : Nat} (hm : m ∈ l) (h : ∀ x ∈ l, m ≤ x) : mn l = m := by
  have h1 := mn_le hm
  have h2 := h _ (mn_mem (List.ne_nil_of_mem hm))
  omega
def fixR (m : Nat) (X : List Nat) : List Nat := if hd X < ls X then m :: X else m :: X.reverse
def told (c : List Nat) : List Nat := fixR (mn c) ((c.dropWhile (· != mn c)).tail ++ c.takeWhile (· != mn c))
theorem told_eq {A B : List Nat} {m : Nat} (h : ∀ x ∈ A ++ B, m < x) : told (A ++ m :: B) = fixR m (B ++ A) := by
  have e : mn (A ++ m :: B) = m := mn_eq (by simp) fun x hx => by
    simp only [List.mem_append, List.mem_cons] at hx
    rcases hx with q | q | q
    · exact Nat.le_of_lt (h x (List.mem_append_left _ q))
    · omega
    · exact Nat.le_of_lt (h x (List.mem_append_right _ q))
  have hA : ∀ x ∈ A, (x != m) = true := fun x hx => by
    have := h x (List.mem_append_left _ hx)
    simp; omega
  unfold told
  rw [e, List.dropWhile_append_of_pos hA, List.takeWhile_append_of_pos hA]
  simp
theorem split_mn {c : List Nat} (hne : c ≠ []) (nd : c.Nodup) : ∃ A B m, c = A ++ m :: B ∧ ∀ x ∈ A ++ B, m < x := by
  obtain ⟨A, B, e⟩ := List.append_of_mem (mn_mem hne)
  refine ⟨A, B, mn c, e, fun x hx => ?_⟩
  have hle : mn c ≤ x := mn_le (by rw [e]; simp only [List.mem_append, List.mem_cons] at hx ⊢; rcases hx with q | q <;> simp [q])
  have hne : mn c ≠ x := fun q => by
    rw [e] at nd
    rw [List.nodup_append, List.nodup_cons] at nd
    rcases List.mem_append.mp hx with z | z
    · exact nd.2.2 x z (mn c) (by simp) q.symm
    · exact nd.2.1.1 (q ▸ z)
  omega
/-- a round in its told form -/
structure Rng (T : Nat → Nat → Prop) (c : List Nat) : Prop extends Cyc T c where
  least : ∀ x ∈ c.tail, hd c < x
  turn : hd c.tail < ls c
theorem nd_hd_ne_ls {X : List Nat} (h : X.Nodup) (hl : 2 ≤ X.length) : hd X ≠ ls X := by
  match X, hl with
  | x :: y :: l, _ =>
    intro e
    rw [hd_cons, ls_cons] at e
    have := List.nodup_cons.mp h
    exact this.1 (e ▸ ls_mem (by simp))
theorem told_rng {T : Nat → Nat → Prop} (sy : ∀ x y, T x y → T y x) {c : List Nat} (h : Cyc T c) : Rng T (told c) := by
  obtain ⟨A, B, m, e, hm⟩ := split_mn h.ne h.nd
  subst e
  rw [told_eq hm]
  have h1 : Cyc T (m :: (B ++ A)) := by simpa using h.swap
  have hlen : 2 ≤ (B ++ A).length := by have := h1.len; simp at this ⊢; omega
  have hne : B ++ A ≠ [] := by intro e; rw [e] at hlen; simp at hlen
  have hnd := (List.nodup_cons.mp h1.nd).2
  have hlt : ∀ x ∈ B ++ A, m < x := fun x hx => hm x (by simp only [List.mem_append] at hx ⊢; exact hx.symm)
  unfold fixR
  split
  · rename_i q
    refine ⟨h1, hlt, ?_⟩
    obtain ⟨y, l, e⟩ := List.exists_cons_of_ne_nil hne
    rw [e] at q ⊢
    rw [ls_cons]; exact q
  · rename_i q
    have h2 : Cyc T (m :: (B ++ A).reverse) := by
      have : Cyc T ((B ++ A).reverse ++ [m]) := by simpa using h1.rev sy
      simpa using this.swap
    refine ⟨h2, fun x hx => hlt x (List.mem_reverse.mp hx), ?_⟩
    have hne2 := nd_hd_ne_ls hnd hlen
    have : (B ++ A).reverse ≠ [] := fun e => hne (List.reverse_eq_nil_iff.mp e)
    obtain ⟨y, l, e⟩ := List.exists_cons_of_ne_nil this
    have e1 := ls_reverse (B ++ A)
    have e2 := hd_reverse (B ++ A)
    rw [e] at e1 e2
    rw [e]
    simp only [List.tail_cons, ls_cons]
    rw [e1, e2]; omega
theorem told_self {T : Nat → Nat → Prop} {c : List Nat} (h : Rng T c) : told c = c := by
  have := h.least
  have ht := h.turn
  have hl := h.len
  match c, hl with
  | m :: x :: y :: X, _ =>
    have e := told_eq (A := []) (B := x :: y :: X) (m := m) (by simpa [hd] using this)
    simp only [List.nil_append, List.append_nil] at e
    rw [e]
    unfold fixR
    rw [if_pos]
    simpa [hd, ls_cons] using ht
theorem told_swap {P Q : List Nat} (nd : (P ++ Q).Nodup) : told (Q ++ P) = told (P ++ Q) := by
  by_cases hne : P ++ Q = []
  · have := List.append_eq_nil_iff.mp hne
    rw [this.1, this.2]
  obtain ⟨A, B, m, e, hm⟩ := split_mn hne nd
  rw [e, told_eq hm]
  rcases List.append_eq_append_iff.mp e with ⟨C, h1, h2⟩ | ⟨C, h1, h2⟩
  · -- A = P ++ C, Q = C ++ m :: B
    rw [h2]
    have : told (C ++ m :: (B ++ P)) = fixR m ((B ++ P) ++ C) := told_eq fun x hx => hm x (by
      rw [h1]; simp only [List.mem_append] at hx ⊢; grind)
    simp only [List.append_assoc, List.cons_append] at this ⊢
    rw [this, h1]
  · -- P = A ++ C, m :: B = C ++ Q
    cases C with
    | nil =>
      simp only [List.nil_append] at h2
      simp only [List.append_nil] at h1
      rw [← h2, h1]
      have : told ([] ++ m :: (B ++ A)) = fixR m ((B ++ A) ++ []) := told_eq fun x hx => hm x (by
        simp only [List.mem_append, List.nil_append] at hx ⊢; grind)
      simpa using this
    | cons c C =>
      simp only [List.cons_append, List.cons.injEq] at h2
      obtain ⟨rfl, h3⟩ := h2
      rw [h1, h3]
      have : told ((Q ++ A) ++ m :: C) = fixR m (C ++ (Q ++ A)) := told_eq fun x hx => hm x (by
        rw [h3]; simp only [List.mem_append] at hx ⊢; grind)
      simp only [List.append_assoc] at this ⊢
      exact this
theorem told_reverse {c : List Nat} (nd : c.Nodup) (hl : 3 ≤ c.length) : told c.reverse = told c := by
  obtain ⟨A, B, m, e, hm⟩ := split_mn (c := c) (by intro q; rw [q] at hl; simp at hl) nd
  subst e
  rw [told_eq hm]
  have : (A ++ m :: B).reverse = B.reverse ++ m :: A.reverse := by simp
  rw [this, told_eq (by intro x hx; apply hm; simp only [List.mem_append, List.mem_reverse] at hx ⊢; grind)]
  have e : A.reverse ++ B.reverse = (B ++ A).reverse := by simp
  rw [e]
  have h1 : (B ++ A).Nodup := by
    have := (List.nodup_append.mp nd)
    have h2 := List.nodup_cons.mp this.2.1
    rw [List.nodup_append]
    exact ⟨h2.2, this.1, fun a ha b hb => fun e => this.2.2 b hb a (List.mem_cons_of_mem _ ha) e.symm⟩
  have hn := nd_hd_ne_ls h1 (by simp at hl ⊢; omega)
  unfold fixR
  rw [hd_reverse, ls_reverse, List.reverse_reverse]
  by_cases q : hd (B ++ A) < ls (B ++ A)
  · rw [if_neg (by omega), if_pos q]
  · rw [if_pos (by omega), if_neg q]
/-- the told form is the round turned and perhaps turned about -/
theorem told_shape {c : List Nat} (nd : c.Nodup) (hl : 3 ≤ c.length) : ∃ P Q, c = P ++ Q ∧ (told c = Q ++ P ∨ told c = (P ++ Q).reverse ∨ ∃ R S, (Q ++ P).reverse = R ++ S ∧ told c = S ++ R) := by
  obtain ⟨A, B, m, e, hm⟩ := split_mn (c := c) (by intro q; rw [q] at hl; simp at hl) nd
  refine ⟨A, m :: B, e, ?_⟩
  rw [e, told_eq hm]
  unfold fixR
  split
  · exact .inl (by simp)
  · exact .inr (.inr ⟨(B ++ A).reverse, [m], by simp, by simp⟩)
theorem nodup_map_of {f : Nat → Nat} {c : List Nat} (nd : c.Nodup) (inj : ∀ x ∈ c, ∀ y ∈ c, f x = f y → x = y) : (c.map f).Nodup := by
  rw [List.nodup_iff_pairwise_ne] at nd ⊢
  rw [List.pairwise_map]
  exact List.Pairwise.imp_of_mem (fun {a b} ha hb hne e => hne (inj a ha b hb e)) nd
/-- told forms of two rounds that are one but for turning -/
theorem told_map_told {f : Nat → Nat} {c : List Nat} (nd : c.Nodup) (hl : 3 ≤ c.length) (inj : ∀ x ∈ c, ∀ y ∈ c, f x = f y → x = y) : told ((told c).map f) = told (c.map f) := by
  obtain ⟨A, B, m, e, hm⟩ := split_mn (c := c) (by intro q; rw [q] at hl; simp at hl) nd
  have nf := nodup_map_of nd inj
  have e2 : c.map f = A.map f ++ (m :: B).map f := by rw [e]; simp
  have h1 : told ((m :: B ++ A).map f) = told (c.map f) := by
    rw [e2]
    rw [e2] at nf
    have := told_swap nf
    simpa using this
  have nf2 : ((m :: B ++ A).map f).Nodup := by
    rw [e2] at nf
    have := nodup_swap nf
    simpa using this
  have h2 : told c = fixR m (B ++ A) := by rw [e]; exact told_eq hm
  rw [h2]
  unfold fixR
  split
  · simpa using h1
  · rw [← h1]
    have h3 : told (((B ++ A).map f).reverse ++ [f m]) = told ((m :: B ++ A).map f) := by
      have : ((B ++ A).map f).reverse ++ [f m] = ((m :: B ++ A).map f).reverse := by simp
      rw [this]
      exact told_reverse nf2 (by rw [e] at hl; simp at hl ⊢; omega)
    rw [← h3]
    have nd3 : (((B ++ A).map f).reverse ++ [f m]).Nodup := by
      have : ((B ++ A).map f).reverse ++ [f m] = ((m :: B ++ A).map f).reverse := by simp
      rw [this]; exact nodup_rev nf2
    have h4 := told_swap nd3
    rw [← h4]
    simp
theorem csg_told (s : Nat → Nat → Int) (sy : ∀ x y, s x y = s y x) {c : List Nat} (nd : c.Nodup) (hne : c ≠ []) : csg s (told c) = csg s c := by
  obtain ⟨A, B, m, e, hm⟩ := split_mn hne nd
  rw [e, told_eq hm]
  have h1 : csg s (m :: (B ++ A)) = csg s (A ++ m :: B) := csg_swap s A (m :: B)
  unfold fixR
  split
  · exact h1
  · rw [← h1]
    have h2 := csg_swap s (B ++ A).reverse [m]
    have h3 := csg_reverse s sy (m :: (B ++ A))
    rw [List.reverse_cons] at h3
    rw [← h3]; exact h2
end Mz

set_option Elab.async false
set_option linter.all false
set_option maxRecDepth 10000
set_option maxHeartbeats 1000000
namespace Mz
set_option autoImplicit false
def S : Nat → (Nat → Int) → Int
  | 0, _ => 0
  | n + 1, f => S n f + f n
theorem S_congr {f g : Nat → Int} : ∀ {n : Nat}, (∀ y < n, f y = g y) → S n f = S n g
  | 0, _ => rfl
  | n + 1, h => by simp only [S]; rw [S_congr fun y hy => h y (by omega), h n (by omega)]
theorem S_zero {f : Nat → Int} : ∀ {n : Nat}, (∀ y < n, f y = 0) → S n f = 0
  | 0, _ => rfl
  | n + 1, h => by simp only [S]; rw [S_zero fun y hy => h y (by omega), h n (by omega)]; rfl
theorem S_add (f g : Nat → Int) : ∀ n : Nat, S n (fun y => f y + g y) = S n f + S n g
  | 0 => rfl
  | n + 1 => by simp only [S]; rw [S_add f g n]; omega
theorem S_app (f : Nat → Int) (n : Nat) : ∀ k : Nat, S (n + k) f = S n f + S k (fun i => f (n + i))
  | 0 => by simp [S]
  | k + 1 => by rw [← Nat.add_assoc]; simp only [S]; rw [S_app f n k]; omega
theorem S_upd {f g : Nat → Int} {a : Nat} : ∀ {n : Nat}, a < n → (∀ y < n, y ≠ a → g y = f y) → S n g = S n f + (g a - f a)
  | n + 1, ha, h => by
    simp only [S]
    by_cases e : a = n
    · subst e
      rw [S_congr (g := f) fun y hy => h y (by omega) (by omega)]; omega
    · rw [S_upd (by omega) fun y hy hn => h y (by omega) hn, h n (by omega) (by omega)]; omega
theorem S_one {f : Nat → Int} {a n : Nat} (ha : a < n) (h : ∀ y < n, y ≠ a → f y = 0) : S n f = f a := by
  have := S_upd (f := fun _ => 0) (g := f) ha h
  rw [S_zero fun _ _ => rfl] at this
  rw [this]; simp
theorem S_le {f g : Nat → Int} : ∀ {n : Nat}, (∀ y < n, f y ≤ g y) → S n f ≤ S n g
  | 0, _ => Int.le_refl _
  | n + 1, h => by simp only [S]; have := S_le (n := n) fun y hy => h y (by omega); have := h n (by omega); omega
/-- one if the tie is a foe between two sides -/
def foe (v : Int) (a b : Bool) : Int := if (if a == b then v else -v) = -1 then 1 else 0
theorem foe_zero (a b : Bool) : foe 0 a b = 0 := by cases a <;> cases b <;> rfl
theorem foe_comm (v : Int) (a b : Bool) : foe v a b = foe v b a := by cases a <;> cases b <;> rfl
theorem foe_not (v : Int) (a b : Bool) : foe v (!a) (!b) = foe v a b := by cases a <;> cases b <;> rfl
theorem foe_nn (v : Int) (a b : Bool) : 0 ≤ foe v a b := by
  unfold foe; repeat' split
  all_goals omega
theorem foe_le (v : Int) (a b : Bool) : foe v a b ≤ 1 := by
  unfold foe; repeat' split
  all_goals omega
def F (s : Nat → Nat → Int) (t : Nat → Bool) : Nat → Int
  | 0 => 0
  | n + 1 => F s t n + S n (fun y => foe (s n y) (t n) (t y))
theorem F_congr {s s' : Nat → Nat → Int} {t t' : Nat → Bool} : ∀ {n : Nat}, (∀ x < n, ∀ y < x, s x y = s' x y) → (∀ x < n, t x = t' x) → F s t n = F s' t' n
  | 0, _, _ => rfl
  | n + 1, h, k => by
    simp only [F]
    rw [F_congr (fun x hx => h x (by omega)) (fun x hx => k x (by omega))]
    congr 1
    exact S_congr fun y hy => by rw [h n (by omega) y hy, k n (by omega), k y (by omega)]
theorem F_not (s : Nat → Nat → Int) (t : Nat → Bool) : ∀ n : Nat, F s (fun x => !t x) n = F s t n
  | 0 => rfl
  | n + 1 => by
    simp only [F]
    rw [F_not s t n]
    congr 1
    exact S_congr fun y _ => foe_not _ _ _
theorem F_nn (s : Nat → Nat → Int) (t : Nat → Bool) : ∀ n : Nat, 0 ≤ F s t n
  | 0 => Int.le_refl _
  | n + 1 => by
    simp only [F]
    have h1 := F_nn s t n
    have h2 : S n (fun _ => 0) ≤ S n (fun y => foe (s n y) (t n) (t y)) := S_le fun y _ => foe_nn _ _ _
    rw [S_zero fun _ _ => rfl] at h2
    omega
/-- a web: signs even, none with itself -/
structure Vw (n : Nat) (s : Nat → Nat → Int) : Prop where
  sy : ∀ x y, s x y = s y x
  dg : ∀ x, x < n → s x x = 0
  lo : ∀ x y, x < n → y < n → -1 ≤ s x y
  hi : ∀ x y, x < n → y < n → s x y ≤ 1
theorem Vw.three {n : Nat} {s : Nat → Nat → Int} (h : Vw n s) {x y : Nat} (hx : x < n) (hy : y < n) : s x y = -1 ∨ s x y = 0 ∨ s x y = 1 := by
  have := h.lo x y hx hy; have := h.hi x y hx hy; omega
def sw (b : Bool) (v : Int) : Int := if b then -v else v
theorem foe_turn {v : Int} (h : v = -1 ∨ v = 0 ∨ v = 1) (a : Bool) : foe v true a = foe v false a + sw a v := by
  rcases h with rfl | rfl | rfl <;> cases a <;> decide
def turn (t : Nat → Bool) (a : Nat) : Nat → Bool := fun x => if x = a then true else t x
theorem turn_at (t : Nat → Bool) (a : Nat) : turn t a a = true := if_pos rfl
theorem turn_ne (t : Nat → Bool) {a x : Nat} (h : x ≠ a) : turn t a x = t x := if_neg h
/-- one place more turned -/
theorem F_turn {n : Nat} {s : Nat → Nat → Int} (W : Vw n s) {t : Nat → Bool} {a : Nat} (ha : a < n) (ht : t a = false) : F s (turn t a) n = F s t n + S n (fun y => sw (t y) (s a y)) := by
  have : ∀ k ≤ n, F s (turn t a) k = F s t k + (if a < k then S k (fun y => sw (t y) (s a y)) else 0) := by
    intro k
    induction k with
    | zero => intro _; simp [F]
    | succ k ih =>
      intro hk
      simp only [F]
      rw [ih (by omega)]
      rcases Nat.lt_trichotomy a k with h | h | h
      · rw [if_pos h, if_pos (by omega)]
        have e := S_upd (n := k) (a := a) (f := fun y => foe (s k y) (t k) (t y)) (g := fun y => foe (s k y) (turn t a k) (turn t a y)) h (fun y _ hn => by
          rw [turn_ne t (by omega), turn_ne t hn])
        rw [e]
        simp only [S]
        have e2 : foe (s k a) (turn t a k) (turn t a a) = foe (s k a) (t k) (t a) + sw (t k) (s a k) := by
          rw [turn_ne t (by omega), turn_at, ht, foe_comm _ (t k) true, foe_comm _ (t k) false, foe_turn (W.three (by omega) (by omega)), W.sy a k]
        rw [e2]; omega
      · subst h
        rw [if_neg (by omega), if_pos (by omega)]
        have e : S a (fun y => foe (s a y) (turn t a a) (turn t a y)) = S a (fun y => foe (s a y) (t a) (t y) + sw (t y) (s a y)) := S_congr fun y hy => by
          rw [turn_at, turn_ne t (by omega), ht, foe_turn (W.three (by omega) (by omega))]
        rw [e, S_add]
        simp only [S]
        rw [W.dg a (by omega)]
        have : sw (t a) 0 = 0 := by cases t a <;> rfl
        rw [this]; omega
      · rw [if_neg (by omega), if_neg (by omega)]
        simp only [Int.add_zero]
        congr 1
        exact S_congr fun y hy => by rw [turn_ne t (by omega), turn_ne t (by omega)]
  have := this n (Nat.le_refl _)
  rw [if_pos ha] at this; exact this
/-- the least number of foes -/
def Least (n : Nat) (s : Nat → Nat → Int) (v : Int) : Prop := (∃ t, F s t n = v) ∧ ∀ t, v ≤ F s t n
theorem Least.uniq {n : Nat} {s : Nat → Nat → Int} {v w : Int} (a : Least n s v) (b : Least n s w) : v = w := by
  obtain ⟨⟨t, e⟩, h⟩ := a
  obtain ⟨⟨u, f⟩, k⟩ := b
  have := h u; have := k t; omega
theorem Least.congr {n : Nat} {s s' : Nat → Nat → Int} {v : Int} (a : Least n s v) (h : ∀ x < n, ∀ y < x, s x y = s' x y) : Least n s' v := by
  obtain ⟨⟨t, e⟩, k⟩ := a
  exact ⟨⟨t, by rw [← F_congr h fun _ _ => rfl]; exact e⟩, fun u => by rw [← F_congr (t := u) h fun _ _ => rfl]; exact k u⟩
def up (p i : Nat) : Nat := if i < p then i else i + 1
theorem up_lt {p i : Nat} (h : i < p) : up p i = i := if_pos h
theorem up_ge {p i : Nat} (h : p ≤ i) : up p i = i + 1 := if_neg (by omega)
theorem S_up {f : Nat → Int} {p : Nat} : ∀ {k : Nat}, p ≤ k → S (k + 1) f = S k (fun i => f (up p i)) + f p
  | 0, h => by
    have : p = 0 := by omega
    subst this; simp [S]
  | k + 1, h => by
    by_cases e : p = k + 1
    · subst e
      show S (k + 1) f + f (k + 1) = _
      congr 1
      exact S_congr (n := k + 1) fun y hy => by rw [up_lt hy]
    · show S (k + 1) f + f (k + 1) = S k (fun i => f (up p i)) + f (up p k) + f p
      rw [S_up (k := k) (p := p) (by omega)]
      have : up p k = k + 1 := up_ge (by omega)
      rw [this]; omega
theorem F_up {s : Nat → Nat → Int} {t : Nat → Bool} {p : Nat} : ∀ {k : Nat}, (∀ x y, x ≤ k → y ≤ k → s x y = s y x) → p ≤ k → F s t (k + 1) = F (fun i j => s (up p i) (up p j)) (fun i => t (up p i)) k + S k (fun i => foe (s (up p i) p) (t (up p i)) (t p))
  | 0, _, h => by
    have : p = 0 := by omega
    subst this; simp [F, S]
  | k + 1, sy, h => by
    by_cases e : p = k + 1
    · subst e
      show F s t (k + 1) + S (k + 1) (fun y => foe (s (k + 1) y) (t (k + 1)) (t y)) = _
      congr 1
      · exact F_congr (fun x hx y hy => by rw [up_lt hx, up_lt (by omega)]) (fun x hx => by rw [up_lt hx])
      · exact S_congr fun y hy => by rw [up_lt hy, foe_comm, sy (k + 1) y (by omega) (by omega)]
    · have uk : up p k = k + 1 := up_ge (by omega)
      show F s t (k + 1) + S (k + 1) (fun y => foe (s (k + 1) y) (t (k + 1)) (t y)) = _
      rw [F_up (k := k) (p := p) (fun x y hx hy => sy x y (by omega) (by omega)) (by omega), S_up (k := k) (p := p) (by omega)]
      simp only [F, S]
      rw [uk]; omega
structure Joined (n m p q : Nat) (s V J : Nat → Nat → Int) : Prop where
  a : ∀ x < n, ∀ y < n, J x y = s x y
  b : ∀ i, i + 1 < m → ∀ y < n, J (n + i) y = if y = p then V (up q i) q else 0
  c : ∀ i, i + 1 < m → ∀ j, j + 1 < m → J (n + i) (n + j) = V (up q i) (up q j)
theorem F_joined {n k p q : Nat} {s V J : Nat → Nat → Int} (h : Joined n (k + 1) p q s V J) (hp : p < n) (t : Nat → Bool) : ∀ i ≤ k, F J t (n + i) = F s t n + (F (fun i j => V (up q i) (up q j)) (fun i => t (n + i)) i + S i (fun i => foe (V (up q i) q) (t (n + i)) (t p)))
  | 0, _ => by
    show F J t n = F s t n + (0 + 0)
    rw [F_congr (fun x hx y hy => h.a x hx y (by omega)) fun _ _ => rfl]; omega
  | i + 1, hi => by
    show F J t (n + i) + S (n + i) (fun y => foe (J (n + i) y) (t (n + i)) (t y)) = _
    rw [F_joined h hp t i (by omega), S_app]
    simp only [F, S]
    have e1 : S n (fun y => foe (J (n + i) y) (t (n + i)) (t y)) = foe (V (up q i) q) (t (n + i)) (t p) := by
      have := S_one (f := fun y => foe (J (n + i) y) (t (n + i)) (t y)) hp (fun y hy hn => by
        rw [h.b i (by omega) y hy, if_neg hn, foe_zero])
      rw [this]
      rw [h.b i (by omega) p hp, if_pos rfl]
    have e2 : S i (fun j => foe (J (n + i) (n + j)) (t (n + i)) (t (n + j))) = S i (fun j => foe (V (up q i) (up q j)) (t (n + i)) (t (n + j))) := S_congr fun j hj => by
      rw [h.c i (by omega) j (by omega)]
    rw [e1, e2]; omega
theorem Least.joined {n k p q : Nat} {s V J : Nat → Nat → Int} {v w : Int} (h : Joined n (k + 1) p q s V J) (hp : p < n) (hq : q ≤ k) (W : Vw (k + 1) V) (a : Least n s v) (b : Least (k + 1) V w) : Least (n + k) J (v + w) := by
  have key : ∀ t : Nat → Bool, F J t (n + k) = F s t n + F V (fun j => if j = q then t p else t (n + if j < q then j else j - 1)) (k + 1) := fun t => by
    rw [F_joined h hp t k (Nat.le_refl _), F_up (k := k) (p := q) (fun x y _ _ => W.sy x y) hq]
    have hu : ∀ i, (if up q i = q then t p else t (n + if up q i < q then up q i else up q i - 1)) = t (n + i) := fun i => by
      by_cases e : i < q
      · rw [up_lt e, if_neg (by omega), if_pos e]
      · rw [up_ge (by omega), if_neg (by omega), if_neg (by omega)]; simp
    simp only [hu, if_true]
  obtain ⟨⟨t1, e1⟩, k1⟩ := a
  obtain ⟨⟨t2, e2⟩, k2⟩ := b
  refine ⟨?_, fun t => ?_⟩
  · obtain ⟨t3, e3, e4⟩ : ∃ t3, F V t3 (k + 1) = w ∧ t3 q = t1 p := by
      by_cases e : t2 q = t1 p
      · exact ⟨t2, e2, e⟩
      · refine ⟨fun x => !t2 x, by rw [F_not]; exact e2, ?_⟩
        cases h1 : t2 q <;> cases h2 : t1 p <;> simp_all
    refine ⟨fun x => if x < n then t1 x else t3 (up q (x - n)), ?_⟩
    rw [key]
    have f1 : F s (fun x => if x < n then t1 x else t3 (up q (x - n))) n = v := by
      rw [← e1]
      exact F_congr (fun _ _ _ _ => rfl) fun x hx => by rw [if_pos hx]
    rw [f1, ← e3]
    congr 1
    refine F_congr (fun _ _ _ _ => rfl) fun x hx => ?_
    by_cases e : x = q
    · rw [if_pos e, if_pos hp, e, e4]
    · rw [if_neg e, if_neg (by omega)]
      congr 1
      by_cases e5 : x < q
      · rw [if_pos e5, up_lt (by omega)]; omega
      · rw [if_neg e5, up_ge (by omega)]; omega
  · rw [key]
    have := k1 t
    have := k2 (fun j => if j = q then t p else t (n + if j < q then j else j - 1))
    omega
structure Parted (n a b : Nat) (s L : Nat → Nat → Int) : Prop where
  old : ∀ x < n, ∀ y < n, L x y = if (x = a ∧ y = b) ∨ (x = b ∧ y = a) then 0 else s x y
  new : ∀ y < n, L n y = if y = a then 1 else if y = b then s a b else 0
theorem F_less {a b : Nat} {s L : Nat → Nat → Int} (hab : a < b) {t : Nat → Bool} : ∀ {n : Nat}, b < n → (∀ x < n, ∀ y < x, L x y = if x = b ∧ y = a then 0 else s x y) → F s t n = F L t n + foe (s b a) (t b) (t a)
  | n + 1, hb, h => by
    simp only [F]
    by_cases e : b = n
    · subst e
      rw [F_congr (s := s) (s' := L) (t' := t) (fun x hx y hy => by rw [h x (by omega) y hy, if_neg (by omega)]) fun _ _ => rfl]
      have := S_upd (n := b) (a := a) (f := fun y => foe (L b y) (t b) (t y)) (g := fun y => foe (s b y) (t b) (t y)) hab (fun y hy hn => by
        rw [h b (by omega) y hy, if_neg (by omega)])
      rw [this]
      try simp only []
      rw [h b (by omega) a hab, if_pos ⟨rfl, rfl⟩, foe_zero]; omega
    · rw [F_less hab (n := n) (by omega) fun x hx y hy => h x (by omega) y hy]
      have : S n (fun y => foe (s n y) (t n) (t y)) = S n (fun y => foe (L n y) (t n) (t y)) := S_congr fun y hy => by
        rw [h n (by omega) y hy, if_neg (by omega)]
      rw [this]; omega
theorem Least.parted {n a b : Nat} {s L : Nat → Nat → Int} {v : Int} (W : Vw n s) (h : Parted n a b s L) (hab : a < b) (hb : b < n) (l : Least n s v) : Least (n + 1) L v := by
  have key : ∀ t : Nat → Bool, F L t (n + 1) = F s t n - foe (s a b) (t a) (t b) + (foe 1 (t n) (t a) + foe (s a b) (t n) (t b)) := fun t => by
    simp only [F]
    rw [F_less (s := s) (L := L) hab (t := t) hb fun x hx y hy => by
      rw [h.old x hx y (by omega)]
      by_cases e : x = b ∧ y = a
      · rw [if_pos (.inr e), if_pos e]
      · rw [if_neg (by omega), if_neg e]]
    have e2 := S_upd (n := n) (a := b) (f := fun y => if y = b then 0 else foe (L n y) (t n) (t y)) (g := fun y => foe (L n y) (t n) (t y)) hb (fun y _ hn => by simp [hn])
    have e3 : S n (fun y => if y = b then 0 else foe (L n y) (t n) (t y)) = foe 1 (t n) (t a) := by
      have := S_one (f := fun y => if y = b then 0 else foe (L n y) (t n) (t y)) (a := a) (n := n) (by omega) (fun y hy hn => by
        try simp only []
        by_cases e : y = b
        · rw [if_pos e]
        · rw [if_neg e, h.new y hy, if_neg hn, if_neg e, foe_zero])
      rw [this]; try simp only []
      rw [if_neg (by omega), h.new a (by omega), if_pos rfl]
    rw [e2, e3]; simp only [if_true]
    rw [h.new b hb, if_neg (by omega), if_pos rfl, W.sy b a, foe_comm _ (t b) (t a)]; omega
  obtain ⟨⟨t1, e1⟩, k1⟩ := l
  have three := W.three (x := a) (y := b) (by omega) hb
  refine ⟨⟨fun x => if x = n then t1 a else t1 x, ?_⟩, fun t => ?_⟩
  · rw [key]
    have f1 : F s (fun x => if x = n then t1 a else t1 x) n = v := by
      rw [← e1]
      exact F_congr (fun _ _ _ _ => rfl) fun x hx => by rw [if_neg (by omega)]
    rw [f1]
    simp only [if_true]
    rw [if_neg (by omega), if_neg (by omega)]
    have : foe 1 (t1 a) (t1 a) = 0 := by cases t1 a <;> rfl
    omega
  · rw [key]
    have := k1 t
    have : foe (s a b) (t a) (t b) ≤ foe 1 (t n) (t a) + foe (s a b) (t n) (t b) := by
      rcases three with e | e | e <;> rw [e] <;> cases t a <;> cases t b <;> cases t n <;> decide
    omega
def bits (m : Nat) : Nat → Bool := fun y => m.testBit y
theorem bits_all (t : Nat → Bool) : ∀ n : Nat, ∃ m < 2 ^ n, ∀ y < n, m.testBit y = t y
  | 0 => ⟨0, by simp, fun y hy => by omega⟩
  | n + 1 => by
    obtain ⟨m, hm, e⟩ := bits_all t n
    refine ⟨if t n then m + 2 ^ n else m, ?_, fun y hy => ?_⟩
    · have : 2 ^ (n + 1) = 2 ^ n + 2 ^ n := by rw [Nat.pow_succ]; omega
      split <;> omega
    · by_cases hy2 : y < n
      · rw [← e y hy2]
        split
        · rw [Nat.add_comm, Nat.testBit_two_pow_add_gt hy2]
        · rfl
      · have : y = n := by omega
        subst this
        cases h : t y with
        | true => simp only [if_true]; rw [Nat.add_comm, Nat.testBit_two_pow_add_eq, Nat.testBit_lt_two_pow hm]; rfl
        | false => simp only [Bool.false_eq_true, if_false]; exact Nat.testBit_lt_two_pow hm
end Mz

set_option Elab.async false
set_option linter.all false
set_option maxRecDepth 10000
set_option maxHeartbeats 1000000
namespace Mz
set_option autoImplicit false
/-- a nodup list of numbers below n is short -/
theorem nd_len : ∀ {n : Nat} {l : List Nat}, l.Nodup → (∀ x ∈ l, x < n) → l.length ≤ n
  | 0, l, _, h => by
    cases l with
    | nil => simp
    | cons x l => exact absurd (h x (by simp)) (by omega)
  | n + 1, l, nd, h => by
    have h1 : (l.erase n).length ≤ n := nd_len (nd.erase n) fun x hx => by
      have := (nd.mem_erase_iff).mp hx
      have := h x this.2
      omega
    by_cases hn : n ∈ l
    · rw [List.length_erase_of_mem hn] at h1; omega
    · rw [List.erase_of_not_mem hn] at h1; omega
def rg (a n : Nat) : List Nat := (List.range (n - a)).map (a + ·)
theorem mem_rg {a n x : Nat} : x ∈ rg a n ↔ a ≤ x ∧ x < n := by
  simp only [rg, List.mem_map, List.mem_range]
  constructor
  · rintro ⟨y, h, rfl⟩; omega
  · intro h; exact ⟨x - a, by omega, by omega⟩
theorem rg_nd (a n : Nat) : (rg a n).Nodup := by
  unfold rg
  rw [List.nodup_iff_pairwise_ne, List.pairwise_map]
  have := List.nodup_range (n := n - a)
  rw [List.nodup_iff_pairwise_ne] at this
  exact this.imp fun h e => h (by omega)
section
variable (n : Nat) (s : Nat → Nat → Int)
def tied : Nat → Nat → Prop := fun x y => s x y ≠ 0
def ext (w : List Nat) : List (List Nat) := ((rg (hd w + 1) n).filter fun y => s (ls w) y != 0 && !w.contains y).map fun y => w ++ [y]
def ways : Nat → List (List Nat)
  | 0 => (List.range n).map fun x => [x]
  | k + 1 => (ways k).flatMap (ext n s)
def clo (w : List Nat) : Bool := decide (2 < w.length) && (s (hd w) (ls w) != 0 && decide (hd w.tail < ls w))
def ringsTo (k : Nat) : List (List Nat) := (List.range k).flatMap fun j => (ways n s j).filter (clo s)
def ringsL : List (List Nat) := ringsTo n s n
structure Way (w : List Nat) : Prop where
  ne : w ≠ []
  lt : ∀ x ∈ w, x < n
  least : ∀ x ∈ w.tail, hd w < x
  nd : w.Nodup
  ch : Chn (tied s) w
end
section
variable {n : Nat} {s : Nat → Nat → Int}
theorem mem_ext {w v : List Nat} : v ∈ ext n s w ↔ ∃ y, v = w ++ [y] ∧ hd w < y ∧ y < n ∧ s (ls w) y ≠ 0 ∧ y ∉ w := by
  simp only [ext, List.mem_map, List.mem_filter, mem_rg, Bool.and_eq_true, bne_iff_ne, ne_eq, Bool.not_eq_true', List.contains_eq_mem, decide_eq_false_iff_not]
  constructor
  · rintro ⟨y, ⟨⟨a, b⟩, c, d⟩, rfl⟩; exact ⟨y, rfl, by omega, b, c, d⟩
  · rintro ⟨y, rfl, a, b, c, d⟩; exact ⟨y, ⟨⟨by omega, b⟩, c, d⟩, rfl⟩
theorem way_snoc {w : List Nat} {y : Nat} (hw : w ≠ []) : Way n s (w ++ [y]) ↔ Way n s w ∧ hd w < y ∧ y < n ∧ s (ls w) y ≠ 0 ∧ y ∉ w := by
  obtain ⟨x, l, rfl⟩ := List.exists_cons_of_ne_nil hw
  constructor
  · rintro ⟨_, lt, least, nd, ch⟩
    obtain ⟨c1, _, c3⟩ := (chn_append (x :: l) [y] hw (by simp)).mp ch
    rw [List.nodup_append] at nd
    refine ⟨⟨hw, fun z hz => lt z (List.mem_append_left _ hz), fun z hz => least z ?_, nd.1, c1⟩, least y ?_, lt y (by simp), c3, fun hm => nd.2.2 y hm y (by simp) rfl⟩
    · simp only [List.cons_append, List.tail_cons] at hz ⊢; exact List.mem_append_left _ hz
    · simp
  · rintro ⟨⟨_, lt, least, nd, ch⟩, h1, h2, h3, h4⟩
    refine ⟨by simp, fun z hz => ?_, fun z hz => ?_, ?_, (chn_append _ _ hw (by simp)).mpr ⟨ch, trivial, h3⟩⟩
    · rcases List.mem_append.mp hz with q | q
      · exact lt z q
      · simp at q; omega
    · simp only [List.cons_append, List.tail_cons] at hz
      rcases List.mem_append.mp hz with q | q
      · exact least z q
      · simp at q; subst q; exact h1
    · rw [List.nodup_append]
      exact ⟨nd, by simp, fun a ha b hb e => by simp at hb; subst hb; subst e; exact h4 ha⟩
theorem mem_ways : ∀ {k : Nat} {w : List Nat}, w ∈ ways n s k ↔ Way n s w ∧ w.length = k + 1
  | 0, w => by
    simp only [ways, List.mem_map, List.mem_range]
    constructor
    · rintro ⟨x, hx, rfl⟩
      exact ⟨⟨by simp, fun z hz => by simp at hz; omega, fun z hz => by simp at hz, by simp, trivial⟩, rfl⟩
    · rintro ⟨h, hl⟩
      match w, hl with
      | [x], _ => exact ⟨x, h.lt x (by simp), rfl⟩
  | k + 1, w => by
    simp only [ways, List.mem_flatMap, mem_ext]
    constructor
    · rintro ⟨v, hv, y, rfl, h⟩
      obtain ⟨h1, h2⟩ := mem_ways.mp hv
      exact ⟨(way_snoc h1.ne).mpr ⟨h1, h⟩, by simp; omega⟩
    · rintro ⟨h, hl⟩
      have e : w = w.dropLast ++ [w.getLast h.ne] := (List.dropLast_concat_getLast h.ne).symm
      have hne : w.dropLast ≠ [] := fun q => by have := congrArg List.length q; simp at this; omega
      rw [e] at h
      obtain ⟨h1, h2⟩ := (way_snoc hne).mp h
      exact ⟨w.dropLast, mem_ways.mpr ⟨h1, by simp; omega⟩, _, e, h2⟩
theorem ext_nd (w : List Nat) : (ext n s w).Nodup := by
  unfold ext
  rw [List.nodup_iff_pairwise_ne, List.pairwise_map]
  have := (List.nodup_iff_pairwise_ne.mp (rg_nd (hd w + 1) n)).filter fun y => s (ls w) y != 0 && !w.contains y
  exact this.imp fun h e => h (by simpa using e)
theorem ways_nd : ∀ k : Nat, (ways n s k).Nodup
  | 0 => by
    unfold ways
    rw [List.nodup_iff_pairwise_ne, List.pairwise_map]
    have := List.nodup_range (n := n)
    rw [List.nodup_iff_pairwise_ne] at this
    exact this.imp fun h e => h (by simpa using e)
  | k + 1 => by
    unfold ways
    rw [List.nodup_iff_pairwise_ne, List.pairwise_flatMap]
    refine ⟨fun w _ => (List.nodup_iff_pairwise_ne.mp (ext_nd w)), ?_⟩
    have := ways_nd k
    rw [List.nodup_iff_pairwise_ne] at this
    refine this.imp fun {a b} h x hx y hy e => ?_
    obtain ⟨p, rfl, _⟩ := mem_ext.mp hx
    obtain ⟨q, rfl, _⟩ := mem_ext.mp hy
    exact h (List.append_inj_left' e rfl)
theorem ways_end : ways n s n = [] := by
  rw [List.eq_nil_iff_forall_not_mem]
  intro w hw
  obtain ⟨h, hl⟩ := mem_ways.mp hw
  have := nd_len h.nd h.lt
  omega
theorem ways_later {k : Nat} (h : ways n s k = []) : ∀ j : Nat, ways n s (k + j) = []
  | 0 => h
  | j + 1 => by
    show ways n s (k + j + 1) = []
    unfold ways
    rw [ways_later h j]; rfl
theorem ringsTo_succ (k : Nat) : ringsTo n s (k + 1) = ringsTo n s k ++ (ways n s k).filter (clo s) := by
  simp [ringsTo, List.range_succ, List.flatMap_append]
theorem ringsTo_end {k : Nat} (h : ways n s k = []) : ∀ j : Nat, ringsTo n s (k + j) = ringsTo n s k
  | 0 => rfl
  | j + 1 => by
    rw [← Nat.add_assoc, ringsTo_succ, ways_later h j, ringsTo_end h j]; simp
theorem rings_of_end {k : Nat} (h : ways n s k = []) : ringsTo n s k = ringsL n s := by
  by_cases q : k ≤ n
  · obtain ⟨j, rfl⟩ := Nat.exists_eq_add_of_le q
    exact (ringsTo_end h j).symm
  · obtain ⟨j, rfl⟩ := Nat.exists_eq_add_of_le (Nat.le_of_not_le q)
    exact ringsTo_end ways_end j
/-- a round of the web -/
def IsR (n : Nat) (s : Nat → Nat → Int) (w : List Nat) : Prop := Rng (tied s) w ∧ ∀ x ∈ w, x < n
theorem clo_iff {w : List Nat} : clo s w = true ↔ 2 < w.length ∧ s (hd w) (ls w) ≠ 0 ∧ hd w.tail < ls w := by
  simp [clo]
theorem mem_ringsL (sy : ∀ x y, s x y = s y x) {w : List Nat} : w ∈ ringsL n s ↔ IsR n s w := by
  simp only [ringsL, ringsTo, List.mem_flatMap, List.mem_range, List.mem_filter, clo_iff, mem_ways]
  constructor
  · rintro ⟨k, hk, ⟨h, hl⟩, h1, h2, h3⟩
    exact ⟨⟨⟨h1, h.nd, h.ch, by show s _ _ ≠ 0; rw [sy]; exact h2⟩, h.least, h3⟩, h.lt⟩
  · rintro ⟨h, lt⟩
    have hl := nd_len h.nd lt
    have := h.len
    refine ⟨w.length - 1, by omega, ⟨⟨h.ne, lt, h.least, h.nd, h.ch⟩, by omega⟩, by omega, ?_, h.turn⟩
    have := h.cl
    unfold tied at this
    rwa [sy] at this
theorem ringsL_nd : (ringsL n s).Nodup := by
  unfold ringsL ringsTo
  rw [List.nodup_iff_pairwise_ne, List.pairwise_flatMap]
  refine ⟨fun k _ => List.nodup_iff_pairwise_ne.mp ((ways_nd k).filter _), ?_⟩
  have := List.nodup_range (n := n)
  rw [List.nodup_iff_pairwise_ne] at this
  refine this.imp fun {a b} h x hx y hy e => ?_
  have h1 := (mem_ways.mp (List.mem_filter.mp hx).1).2
  have h2 := (mem_ways.mp (List.mem_filter.mp hy).1).2
  subst e; omega
end
section
variable {n k p q : Nat} {s V J : Nat → Nat → Int}
/-- a chain that leaves no part -/
theorem chn_side {T : Nat → Nat → Prop} {P : Nat → Prop} : ∀ {l : List Nat}, Chn T l → (∀ x ∈ l, ∀ y ∈ l, T x y → P x → P y) → (∀ x, l.head? = some x → P x) → ∀ x ∈ l, P x
  | [], _, _, _, x, hx => by cases hx
  | [y], _, _, h, x, hx => by simp at hx; subst hx; exact h x rfl
  | y :: z :: l, c, st, h, x, hx => by
    have hy := h y rfl
    have hz := st y (by simp) z (by simp) c.1 hy
    rcases List.mem_cons.mp hx with e | e
    · subst e; exact hy
    · exact chn_side c.2 (fun a ha b hb => st a (List.mem_cons_of_mem _ ha) b (List.mem_cons_of_mem _ hb)) (fun a ha => by simp at ha; subst ha; exact hz) x e
theorem mem_told {c : List Nat} (nd : c.Nodup) (hl : 3 ≤ c.length) {x : Nat} : x ∈ told c ↔ x ∈ c := by
  obtain ⟨P, Q, e1, e2⟩ := told_shape nd hl
  rcases e2 with e2 | e2 | ⟨R, S', e3, e2⟩
  · rw [e2, e1]; simp only [List.mem_append]; exact or_comm
  · rw [e2, e1]; simp only [List.mem_reverse, List.mem_append]
  · rw [e2]
    have : x ∈ S' ++ R ↔ x ∈ (Q ++ P).reverse := by rw [e3]; simp only [List.mem_append]; exact or_comm
    rw [this, e1]; simp only [List.mem_reverse, List.mem_append]; exact or_comm
/-- the new names of the second web's places -/
def nam (n p q y : Nat) : Nat := if y = q then p else n + (if y < q then y else y - 1)
/-- .. and back -/
def unn (n p q x : Nat) : Nat := if x = p then q else up q (x - n)
theorem nam_unn {x : Nat} (h : x = p ∨ n ≤ x) : nam n p q (unn n p q x) = x := by
  unfold nam unn
  by_cases e : x = p
  · rw [if_pos e, if_pos rfl, e]
  · rw [if_neg e]
    rcases h with h | h
    · exact absurd h e
    by_cases e2 : x - n < q
    · rw [up_lt e2, if_neg (by omega), if_pos e2]; omega
    · rw [up_ge (by omega), if_neg (by omega), if_neg (by omega)]; omega
theorem unn_nam {y : Nat} (hp : p < n) : unn n p q (nam n p q y) = y := by
  unfold nam unn
  by_cases e : y = q
  · rw [if_pos e, if_pos rfl, e]
  · rw [if_neg e]
    by_cases e2 : y < q
    · rw [if_pos e2, if_neg (by omega), up_lt (by omega)]; omega
    · rw [if_neg e2, if_neg (by omega), up_ge (by omega)]; omega
theorem nam_inj (hp : p < n) {x y : Nat} (e : nam n p q x = nam n p q y) : x = y := by
  have := congrArg (unn n p q) e
  rwa [unn_nam hp, unn_nam hp] at this
theorem nam_lt (hp : p < n) (hq : q ≤ k) {y : Nat} (hy : y < k + 1) : nam n p q y < n + k := by
  unfold nam
  split
  · omega
  · split <;> omega
theorem unn_lt (hq : q ≤ k) {x : Nat} (hx : x < n + k) (h : x = p ∨ n ≤ x) : unn n p q x < k + 1 := by
  unfold unn
  by_cases e : x = p
  · rw [if_pos e]; omega
  · rw [if_neg e]
    unfold up; split <;> omega
/-- the joined web's signs, told by names -/
theorem Joined.nam (h : Joined n (k + 1) p q s V J) (hp : p < n) (hq : q ≤ k) (W : Vw n s) (X : Vw (k + 1) V) (JW : Vw (n + k) J) {x y : Nat} (hx : x < k + 1) (hy : y < k + 1) : J (nam n p q x) (nam n p q y) = V x y := by
  have hup : ∀ z, z ≠ q → up q (if z < q then z else z - 1) = z := fun z hz => by
    by_cases e : z < q
    · rw [if_pos e, up_lt e]
    · rw [if_neg e, up_ge (by omega)]; omega
  have hb : ∀ z, z < k + 1 → z ≠ q → (if z < q then z else z - 1) + 1 < k + 1 := fun z hz hn => by split <;> omega
  unfold Mz.nam
  by_cases ex : x = q
  · by_cases ey : y = q
    · rw [if_pos ex, if_pos ey, h.a p hp p hp, ex, ey, W.dg p hp, X.dg q (by omega)]
    · rw [if_pos ex, if_neg ey]
      have := h.b _ (hb y hy ey) p hp
      rw [if_pos rfl, hup y ey] at this
      rw [JW.sy, this, ex, X.sy y q]
  · by_cases ey : y = q
    · rw [if_neg ex, if_pos ey]
      have := h.b _ (hb x hx ex) p hp
      rw [if_pos rfl, hup x ex] at this
      rw [this, ey]
    · rw [if_neg ex, if_neg ey]
      have := h.c _ (hb x hx ex) _ (hb y hy ey)
      rw [hup x ex, hup y ey] at this
      exact this
theorem IsR.left (h : Joined n (k + 1) p q s V J) {w : List Nat} (r : IsR n s w) : IsR (n + k) J w ∧ csg J w = csg s w := by
  have e : ∀ x ∈ w, ∀ y ∈ w, J x y = s x y := fun x hx y hy => h.a x (r.2 x hx) y (r.2 y hy)
  refine ⟨⟨⟨r.1.toCyc.mono fun x hx y hy t => ?_, r.1.least, r.1.turn⟩, fun x hx => Nat.lt_of_lt_of_le (r.2 x hx) (by omega)⟩, ?_⟩
  · show J x y ≠ 0
    rw [e x hx y hy]; exact t
  · have := csg_map (s := s) (t := J) (f := id) r.1.ne e
    simpa using this
theorem IsR.right (h : Joined n (k + 1) p q s V J) (hp : p < n) (hq : q ≤ k) (W : Vw n s) (X : Vw (k + 1) V) (JW : Vw (n + k) J) {c : List Nat} (r : IsR (k + 1) V c) :
    IsR (n + k) J (told (c.map (Mz.nam n p q))) ∧ csg J (told (c.map (Mz.nam n p q))) = csg V c := by
  have e : ∀ x ∈ c, ∀ y ∈ c, J (Mz.nam n p q x) (Mz.nam n p q y) = V x y := fun x hx y hy => h.nam hp hq W X JW (r.2 x hx) (r.2 y hy)
  have hc : Cyc (tied J) (c.map (Mz.nam n p q)) := r.1.toCyc.map (fun x _ y _ => nam_inj hp) fun x hx y hy t => by
    show J _ _ ≠ 0
    rw [e x hx y hy]; exact t
  refine ⟨⟨told_rng (fun x y t => by unfold tied at t ⊢; rw [JW.sy]; exact t) hc, fun x hx => ?_⟩, ?_⟩
  · have := (mem_told hc.nd hc.len).mp hx
    obtain ⟨y, hy, rfl⟩ := List.mem_map.mp this
    exact nam_lt hp hq (r.2 y hy)
  · rw [csg_told J JW.sy hc.nd hc.ne]
    exact csg_map (s := V) r.1.ne e
/-- no round has places of both sides -/
theorem IsR.split (h : Joined n (k + 1) p q s V J) (hp : p < n) (hq : q ≤ k) (W : Vw n s) (X : Vw (k + 1) V) (JW : Vw (n + k) J) {w : List Nat} (r : IsR (n + k) J w) :
    IsR n s w ∨ ∃ c, IsR (k + 1) V c ∧ told (c.map (Mz.nam n p q)) = w := by
  have side : (∀ x ∈ w, x < n) ∨ ∀ x ∈ w, x = p ∨ n ≤ x := by
    have key : ∀ l : List Nat, Chn (tied J) l → (∀ x ∈ l, x ∈ w) → p ∉ l → (∀ x ∈ l, x < n) ∨ ∀ x ∈ l, n ≤ x := by
      intro l c hw hpl
      cases l with
      | nil => exact .inl fun x hx => by cases hx
      | cons y l =>
        have cross : ∀ a ∈ (y :: l), ∀ b ∈ (y :: l), tied J a b → (a < n ↔ b < n) := fun a ha b hb t => by
          have hap : a ≠ p := fun e => hpl (e ▸ ha)
          have hbp : b ≠ p := fun e => hpl (e ▸ hb)
          have ha' := r.2 a (hw a ha)
          have hb' := r.2 b (hw b hb)
          unfold tied at t
          constructor
          · intro h1
            apply Classical.byContradiction
            intro h2
            have := h.b (b - n) (by omega) a h1
            rw [if_neg hap] at this
            rw [show n + (b - n) = b by omega] at this
            rw [JW.sy a b] at t
            exact t this
          · intro h1
            apply Classical.byContradiction
            intro h2
            have := h.b (a - n) (by omega) b h1
            rw [if_neg hbp] at this
            rw [show n + (a - n) = a by omega] at this
            exact t this
        by_cases hy : y < n
        · exact .inl (chn_side c (fun a ha b hb t => (cross a ha b hb t).mp) (fun x hx => by simp at hx; subst hx; exact hy))
        · refine .inr fun x hx => ?_
          have := chn_side (P := fun x => ¬ x < n) c (fun a ha b hb t z => fun z2 => z ((cross a ha b hb t).mpr z2)) (fun x hx => by simp at hx; subst hx; exact hy) x hx
          omega
    by_cases hpw : p ∈ w
    · obtain ⟨A, B, e⟩ := List.append_of_mem hpw
      have hc : Cyc (tied J) (p :: (B ++ A)) := by
        have := r.1.toCyc
        rw [e] at this
        simpa using this.swap
      have hm : ∀ x, x ∈ w ↔ x = p ∨ x ∈ B ++ A := fun x => by
        rw [e]; simp only [List.mem_append, List.mem_cons]; grind
      rcases key (B ++ A) hc.ch.tail (fun x hx => (hm x).mpr (.inr hx)) (List.nodup_cons.mp hc.nd).1 with z | z
      · exact .inl fun x hx => by
          rcases (hm x).mp hx with e | e
          · omega
          · exact z x e
      · exact .inr fun x hx => by
          rcases (hm x).mp hx with e | e
          · exact .inl e
          · exact .inr (z x e)
    · rcases key w r.1.ch (fun x hx => hx) hpw with z | z
      · exact .inl z
      · exact .inr fun x hx => .inr (z x hx)
  rcases side with z | z
  · refine .inl ⟨⟨r.1.toCyc.mono fun x hx y hy t => ?_, r.1.least, r.1.turn⟩, z⟩
    unfold tied at t ⊢
    rwa [h.a x (z x hx) y (z y hy)] at t
  · refine .inr ⟨told (w.map (unn n p q)), ?_, ?_⟩
    · have hc : Cyc (tied V) (w.map (unn n p q)) := r.1.toCyc.map (fun x hx y hy e => by
          have := congrArg (Mz.nam n p q) e
          rwa [nam_unn (z x hx), nam_unn (z y hy)] at this) fun x hx y hy t => by
        unfold tied at t ⊢
        rw [← h.nam hp hq W X JW (unn_lt hq (r.2 x hx) (z x hx)) (unn_lt hq (r.2 y hy) (z y hy)), nam_unn (z x hx), nam_unn (z y hy)]
        exact t
      have hlt : ∀ x ∈ w.map (unn n p q), x < k + 1 := fun x hx => by
        obtain ⟨y, hy, rfl⟩ := List.mem_map.mp hx
        exact unn_lt hq (r.2 y hy) (z y hy)
      exact ⟨told_rng (fun x y t => by unfold tied at t ⊢; rw [X.sy]; exact t) hc, fun x hx => hlt x ((mem_told hc.nd hc.len).mp hx)⟩
    · have nd : (w.map (unn n p q)).Nodup := nodup_map_of r.1.nd fun x hx y hy e => by
        have := congrArg (Mz.nam n p q) e
        rwa [nam_unn (z x hx), nam_unn (z y hy)] at this
      rw [told_map_told nd (by simpa using r.1.len) (fun x _ y _ => nam_inj hp), List.map_map]
      have : w.map (Mz.nam n p q ∘ unn n p q) = w := by
        conv => rhs; rw [← List.map_id w]
        exact List.map_congr_left fun x hx => nam_unn (z x hx)
      rw [this]
      exact told_self r.1
end
end Mz

set_option Elab.async false
set_option linter.all false
set_option maxRecDepth 10000
set_option maxHeartbeats 1000000
namespace Mz
set_option autoImplicit false
section
variable (a b n : Nat)
def Ed (x y : Nat) : Prop := (x = a ∧ y = b) ∨ (x = b ∧ y = a)
instance (x y : Nat) : Decidable (Ed a b x y) := inferInstanceAs (Decidable (_ ∨ _))
def mk (x y : Nat) : List Nat := if Ed a b x y then [n] else []
def insP : List Nat → List Nat
  | [] => []
  | [x] => [x]
  | x :: y :: l => x :: (mk a b n x y ++ insP (y :: l))
def row (c : List Nat) : List Nat := insP a b n c ++ mk a b n (ls c) (hd c)
end
section
variable {a b n : Nat}
theorem ed_comm {x y : Nat} : Ed a b x y ↔ Ed a b y x := by unfold Ed; omega
theorem mk_comm (x y : Nat) : mk a b n x y = mk a b n y x := by
  unfold mk
  by_cases h : Ed a b x y
  · rw [if_pos h, if_pos (ed_comm.mp h)]
  · rw [if_neg h, if_neg fun z => h (ed_comm.mp z)]
theorem mk_rev (x y : Nat) : (mk a b n x y).reverse = mk a b n x y := by unfold mk; split <;> rfl
theorem insP_append : ∀ (P Q : List Nat), P ≠ [] → Q ≠ [] → insP a b n (P ++ Q) = insP a b n P ++ (mk a b n (ls P) (hd Q) ++ insP a b n Q)
  | [], _, h, _ => absurd rfl h
  | [x], [], _, h => absurd rfl h
  | [x], y :: Q, _, _ => by simp [insP, ls_one, hd_cons]
  | x :: y :: P, Q, _, h => by
    have := insP_append (y :: P) Q (by simp) h
    simp only [List.cons_append, insP, ls_cons] at this ⊢
    rw [this]; simp
theorem insP_reverse : ∀ l : List Nat, insP a b n l.reverse = (insP a b n l).reverse
  | [] => rfl
  | [x] => rfl
  | x :: y :: l => by
    have ih := insP_reverse (y :: l)
    rw [List.reverse_cons, insP_append _ _ (by simp) (by simp), ih, ls_reverse]
    simp only [insP, hd_cons, List.reverse_cons, List.reverse_append, mk_rev]
    rw [mk_comm y x]; simp
/-- rows of a turned round are turned rows -/
theorem row_swap (P Q : List Nat) : ∃ X Y, row a b n (P ++ Q) = X ++ Y ∧ row a b n (Q ++ P) = Y ++ X := by
  by_cases hP : P = []
  · subst hP; exact ⟨[], row a b n Q, by simp, by simp⟩
  by_cases hQ : Q = []
  · subst hQ; exact ⟨[], row a b n P, by simp, by simp⟩
  refine ⟨insP a b n P ++ mk a b n (ls P) (hd Q), insP a b n Q ++ mk a b n (ls Q) (hd P), ?_, ?_⟩
  · unfold row
    rw [insP_append P Q hP hQ]
    obtain ⟨p, P, rfl⟩ := List.exists_cons_of_ne_nil hP
    obtain ⟨q, Q, rfl⟩ := List.exists_cons_of_ne_nil hQ
    rw [ls_append, List.cons_append, hd_cons]; simp [hd_cons]
  · unfold row
    rw [insP_append Q P hQ hP]
    obtain ⟨p, P, rfl⟩ := List.exists_cons_of_ne_nil hP
    obtain ⟨q, Q, rfl⟩ := List.exists_cons_of_ne_nil hQ
    rw [ls_append, List.cons_append, hd_cons]; simp [hd_cons]
theorem row_reverse (c : List Nat) : ∃ X Y, row a b n c.reverse = X ++ Y ∧ (row a b n c).reverse = Y ++ X := by
  refine ⟨(insP a b n c).reverse, mk a b n (hd c) (ls c), ?_, ?_⟩
  · unfold row; rw [insP_reverse, ls_reverse, hd_reverse]
  · unfold row; rw [List.reverse_append, mk_rev, mk_comm]
theorem insP_none : ∀ {l : List Nat}, Chn (fun x y => ¬ Ed a b x y) l → insP a b n l = l
  | [], _ => rfl
  | [_], _ => rfl
  | x :: y :: l, c => by
    simp only [insP]
    rw [insP_none c.2, mk, if_neg c.1]; rfl
theorem chn_or (T : Nat → Nat → Prop) : ∀ l : List Nat, Chn T l ∨ ∃ P Q, P ≠ [] ∧ Q ≠ [] ∧ l = P ++ Q ∧ ¬ T (ls P) (hd Q)
  | [] => .inl trivial
  | [_] => .inl trivial
  | x :: y :: l => by
    by_cases h : T x y
    · rcases chn_or T (y :: l) with q | ⟨P, Q, h1, h2, h3, h4⟩
      · exact .inl ⟨h, q⟩
      · refine .inr ⟨x :: P, Q, by simp, h2, by rw [h3]; rfl, ?_⟩
        obtain ⟨p, P, rfl⟩ := List.exists_cons_of_ne_nil h1
        rwa [ls_cons]
    · exact .inr ⟨[x], y :: l, by simp, by simp, rfl, h⟩
/-- a tie that closes a round stands nowhere else in it -/
theorem ed_once {c : List Nat} (nd : c.Nodup) (hl : 3 ≤ c.length) (e : Ed a b (ls c) (hd c)) : Chn (fun x y => ¬ Ed a b x y) c := by
  rcases chn_or (fun x y => ¬ Ed a b x y) c with q | ⟨P, Q, h1, h2, h3, h4⟩
  · exact q
  · exfalso
    have h4 : Ed a b (ls P) (hd Q) := Classical.not_not.mp h4
    subst h3
    rw [List.nodup_append] at nd
    have e1 : ls (P ++ Q) = ls Q := by
      obtain ⟨q, Q, rfl⟩ := List.exists_cons_of_ne_nil h2
      exact ls_append P q Q
    have e2 : hd (P ++ Q) = hd P := by
      obtain ⟨p, P, rfl⟩ := List.exists_cons_of_ne_nil h1
      rfl
    rw [e1, e2] at e
    have d := fun x hx y hy => nd.2.2 x hx y hy
    have d1 := d _ (ls_mem h1) _ (ls_mem h2)
    have d2 := d _ (hd_mem h1) _ (hd_mem h2)
    have p1 : ls P = hd P := by unfold Ed at e h4; omega
    have q1 : hd Q = ls Q := by unfold Ed at e h4; omega
    have lp : P.length ≤ 1 := by
      apply Classical.byContradiction
      intro z
      exact nd_hd_ne_ls nd.1 (by omega) p1.symm
    have lq : Q.length ≤ 1 := by
      apply Classical.byContradiction
      intro z
      exact nd_hd_ne_ls nd.2.1 (by omega) q1
    simp at hl; omega
/-- a round, or one turned of it, lacks the tie or is closed by it -/
theorem ed_cases {c : List Nat} : (Chn (fun x y => ¬ Ed a b x y) c ∧ ¬ Ed a b (ls c) (hd c)) ∨ ∃ P Q, c = P ++ Q ∧ Ed a b (ls (Q ++ P)) (hd (Q ++ P)) := by
  by_cases e : Ed a b (ls c) (hd c)
  · exact .inr ⟨[], c, rfl, by simpa using e⟩
  rcases chn_or (fun x y => ¬ Ed a b x y) c with q | ⟨P, Q, h1, h2, h3, h4⟩
  · exact .inl ⟨q, e⟩
  · have h4 : Ed a b (ls P) (hd Q) := Classical.not_not.mp h4
    refine .inr ⟨P, Q, h3, ?_⟩
    obtain ⟨p, P, rfl⟩ := List.exists_cons_of_ne_nil h1
    obtain ⟨q, Q, rfl⟩ := List.exists_cons_of_ne_nil h2
    rw [ls_append]; exact h4
theorem row_none {c : List Nat} (h : Chn (fun x y => ¬ Ed a b x y) c) (k : ¬ Ed a b (ls c) (hd c)) : row a b n c = c := by
  unfold row mk
  rw [insP_none h, if_neg k, List.append_nil]
theorem row_close {c : List Nat} (nd : c.Nodup) (hl : 3 ≤ c.length) (e : Ed a b (ls c) (hd c)) : row a b n c = c ++ [n] := by
  unfold row mk
  rw [insP_none (ed_once nd hl e), if_pos e]
variable {s L : Nat → Nat → Int}
theorem parted_cyc (h : Parted n a b s L) (hab : a < b) (hb : b < n) (W : Vw n s) (sL : ∀ x y, L x y = L y x) {c : List Nat} (hc : Cyc (tied s) c) (lt : ∀ x ∈ c, x < n) (hs : s a b ≠ 0) :
    Cyc (tied L) (row a b n c) ∧ csg L (row a b n c) = csg s c ∧ ∀ x ∈ row a b n c, x < n + 1 := by
  have off : ∀ x < n, ∀ y < n, ¬ Ed a b x y → L x y = s x y := fun x hx y hy e => by
    unfold Ed at e
    rw [h.old x hx y hy, if_neg e]
  rcases ed_cases (a := a) (b := b) (c := c) with ⟨h1, h2⟩ | ⟨P, Q, h1, h2⟩
  · rw [row_none h1 h2]
    have ch : Chn (tied L) c := by
      have : Chn (fun x y => tied s x y ∧ ¬ Ed a b x y) c := by
        have k := hc.ch
        clear hc h2 lt
        induction c with
        | nil => trivial
        | cons x l ih =>
          cases l with
          | nil => trivial
          | cons y l => exact ⟨⟨k.1, h1.1⟩, ih h1.2 k.2⟩
      exact chn_mono (fun x hx y hy t => by unfold tied; rw [off x (lt x hx) y (lt y hy) t.2]; exact t.1) this
    have e0 : L (ls c) (hd c) = s (ls c) (hd c) := off _ (lt _ (ls_mem hc.ne)) _ (lt _ (hd_mem hc.ne)) h2
    refine ⟨⟨hc.len, hc.nd, ch, by unfold tied; rw [e0]; exact hc.cl⟩, ?_, fun x hx => Nat.lt_succ_of_lt (lt x hx)⟩
    unfold csg
    rw [e0]
    congr 1
    clear e0 ch h2 hc
    revert lt
    induction c with
    | nil => intro _; rfl
    | cons x l ih =>
      cases l with
      | nil => intro _; rfl
      | cons y l =>
        intro lt
        simp only [sg]
        rw [ih h1.2 (fun z hz => lt z (List.mem_cons_of_mem _ hz)), off x (lt x (by simp)) y (lt y (by simp)) h1.1]
  · have hc' : Cyc (tied s) (Q ++ P) := by rw [h1] at hc; exact hc.swap
    have lt' : ∀ x ∈ Q ++ P, x < n := fun x hx => lt x (by rw [h1]; simp only [List.mem_append] at hx ⊢; exact hx.symm)
    have e1 := row_close (n := n) hc'.nd hc'.len h2
    have o := ed_once hc'.nd hc'.len h2
    have m : ∀ {l : List Nat}, Chn (tied s) l → Chn (fun x y => ¬ Ed a b x y) l → (∀ x ∈ l, x < n) → Chn (tied L) l ∧ sg L l = sg s l := by
      intro l
      induction l with
      | nil => intros; exact ⟨trivial, rfl⟩
      | cons x l ih =>
        intro k1 k2 k3
        cases l with
        | nil => exact ⟨trivial, rfl⟩
        | cons y l =>
          obtain ⟨i1, i2⟩ := ih k1.2 k2.2 (fun z hz => k3 z (List.mem_cons_of_mem _ hz))
          have := off x (k3 x (by simp)) y (k3 y (by simp)) k2.1
          refine ⟨⟨by unfold tied; rw [this]; exact k1.1, i1⟩, ?_⟩
          simp only [sg]; rw [i2, this]
    obtain ⟨m1, m2⟩ := m hc'.ch o lt'
    have la : L n a = 1 := by rw [h.new a (by omega), if_pos rfl]
    have lb : L n b = s a b := by rw [h.new b hb, if_neg (by omega), if_pos rfl]
    have l1 : L (ls (Q ++ P)) n ≠ 0 ∧ L n (hd (Q ++ P)) ≠ 0 ∧ L (ls (Q ++ P)) n * L n (hd (Q ++ P)) = s (ls (Q ++ P)) (hd (Q ++ P)) := by
      rw [sL _ n]
      rcases h2 with ⟨q1, q2⟩ | ⟨q1, q2⟩ <;> rw [q1, q2, la, lb]
      · exact ⟨by decide, hs, by simp⟩
      · exact ⟨hs, by decide, by rw [W.sy b a]; simp⟩
    have hc2 : Cyc (tied L) ((Q ++ P) ++ [n]) := by
      refine ⟨by have := hc'.len; simp at this ⊢; omega, ?_, (chn_append _ _ hc'.ne (by simp)).mpr ⟨m1, trivial, l1.1⟩, ?_⟩
      · rw [List.nodup_append]
        refine ⟨hc'.nd, by simp, fun x hx y hy e => ?_⟩
        have := lt' x hx
        simp at hy; omega
      · rw [ls_snoc]
        obtain ⟨z, Z, e⟩ := List.exists_cons_of_ne_nil hc'.ne
        have := l1.2.1
        rw [e] at this ⊢
        exact this
    have g2 : csg L ((Q ++ P) ++ [n]) = csg s (Q ++ P) := by
      unfold csg
      rw [sg_append _ _ _ hc'.ne (by simp), ls_snoc, m2]
      have : hd (Q ++ P ++ [n]) = hd (Q ++ P) := by
        obtain ⟨z, Z, e⟩ := List.exists_cons_of_ne_nil hc'.ne
        rw [e]; rfl
      rw [this, ← l1.2.2]
      simp only [sg, hd_cons]
      rw [Int.mul_one, Int.mul_assoc]
    obtain ⟨X, Y, x1, x2⟩ := row_swap (a := a) (b := b) (n := n) P Q
    rw [← e1, x2] at hc2 g2
    rw [h1, x1]
    refine ⟨hc2.swap, ?_, fun x hx => ?_⟩
    · rw [csg_swap L Y X, g2, csg_swap]
    · have : x ∈ row a b n (Q ++ P) := by rw [x2]; simp only [List.mem_append] at hx ⊢; exact hx.symm
      rw [e1] at this
      rcases List.mem_append.mp this with z | z
      · exact Nat.lt_succ_of_lt (lt' x z)
      · simp at z; omega
/-- rows of rounds that are one but for turning -/
theorem told_row_told {c : List Nat} (nd : c.Nodup) (hl : 3 ≤ c.length) (nr : (row a b n c).Nodup) (hr : 3 ≤ (row a b n c).length) : told (row a b n (told c)) = told (row a b n c) := by
  obtain ⟨A, B, m, e, hm⟩ := split_mn (c := c) (by intro q; rw [q] at hl; simp at hl) nd
  subst e
  obtain ⟨X, Y, x1, x2⟩ := row_swap (a := a) (b := b) (n := n) A (m :: B)
  rw [x1] at nr hr
  have h1 : told (row a b n (m :: (B ++ A))) = told (row a b n (A ++ m :: B)) := by
    rw [x1, show m :: (B ++ A) = m :: B ++ A from rfl, x2]
    exact told_swap nr
  have nr2 : (row a b n (m :: (B ++ A))).Nodup := by
    rw [show m :: (B ++ A) = m :: B ++ A from rfl, x2]; exact nodup_swap nr
  have hr2 : 3 ≤ (row a b n (m :: (B ++ A))).length := by
    rw [show m :: (B ++ A) = m :: B ++ A from rfl, x2]; simp at hr ⊢; omega
  rw [told_eq hm]
  unfold fixR
  split
  · exact h1
  · rw [← h1]
    obtain ⟨X2, Y2, y1, y2⟩ := row_reverse (a := a) (b := b) (n := n) (m :: (B ++ A))
    obtain ⟨X3, Y3, z1, z2⟩ := row_swap (a := a) (b := b) (n := n) (B ++ A).reverse [m]
    rw [List.reverse_cons] at y1
    have k1 : (Y2 ++ X2).Nodup := by rw [← y2]; exact nodup_rev nr2
    have k2 := told_swap k1
    have k3 : told (X2 ++ Y2) = told (row a b n (m :: (B ++ A))) := by
      rw [k2, ← y2]; exact told_reverse nr2 hr2
    rw [← k3, ← y1, z1]
    have : row a b n (m :: (B ++ A).reverse) = Y3 ++ X3 := z2
    rw [this]
    refine told_swap ?_
    rw [← z1, y1]; exact nodup_swap k1
theorem IsR.parted (h : Parted n a b s L) (hab : a < b) (hb : b < n) (W : Vw n s) (sL : ∀ x y, L x y = L y x) (hs : s a b ≠ 0) {c : List Nat} (r : IsR n s c) : IsR (n + 1) L (told (row a b n c)) ∧ csg L (told (row a b n c)) = csg s c := by
  obtain ⟨h1, h2, h3⟩ := parted_cyc h hab hb W sL r.1.toCyc r.2 hs
  refine ⟨⟨told_rng (fun x y t => by unfold tied at t ⊢; rw [sL]; exact t) h1, fun x hx => h3 x ((mem_told h1.nd h1.len).mp hx)⟩, ?_⟩
  rw [csg_told L sL h1.nd h1.ne, h2]
theorem IsR.parted_back (h : Parted n a b s L) (hab : a < b) (hb : b < n) (W : Vw n s) (sL : ∀ x y, L x y = L y x) (hs : s a b ≠ 0) {w : List Nat} (r : IsR (n + 1) L w) : ∃ c, IsR n s c ∧ told (row a b n c) = w := by
  have off : ∀ x < n, ∀ y < n, L x y ≠ 0 → s x y ≠ 0 ∧ ¬ Ed a b x y := fun x hx y hy t => by
    have e := h.old x hx y hy
    by_cases q : Ed a b x y
    · have q' := q
      unfold Ed at q'
      rw [if_pos q'] at e; exact absurd e t
    · have q' := q
      unfold Ed at q'
      rw [if_neg q'] at e; rw [e] at t; exact ⟨t, q⟩
  by_cases hw : n ∈ w
  · obtain ⟨A, B, e⟩ := List.append_of_mem hw
    have hc : Cyc (tied L) ((B ++ A) ++ [n]) := by
      have := r.1.toCyc
      rw [e] at this
      have h2 : Cyc (tied L) (n :: B ++ A) := by simpa using this.swap
      have h3 : Cyc (tied L) ([n] ++ (B ++ A)) := by simpa using h2
      exact h3.swap
    have lt : ∀ x ∈ B ++ A, x < n := fun x hx => by
      have h1 := r.2 x (by rw [e]; simp only [List.mem_append, List.mem_cons] at hx ⊢; grind)
      have h2 := (List.nodup_append.mp hc.nd).2.2 x hx n (by simp)
      omega
    have ne : B ++ A ≠ [] := fun q => by have := hc.len; rw [q] at this; simp at this
    have len2 : 2 ≤ (B ++ A).length := by have := hc.len; simp at this ⊢; omega
    have nd : (B ++ A).Nodup := (List.nodup_append.mp hc.nd).1
    obtain ⟨c1, _, c3⟩ := (chn_append _ _ ne (by simp)).mp hc.ch
    have c4 := hc.cl
    rw [ls_snoc] at c4
    have hh : hd (B ++ A ++ [n]) = hd (B ++ A) := by
      obtain ⟨z, Z, e⟩ := List.exists_cons_of_ne_nil ne
      rw [e]; rfl
    rw [hh] at c4
    rw [hd_cons] at c3
    have nn : ∀ y < n, L n y ≠ 0 → y = a ∨ y = b := fun y hy t => by
      rw [h.new y hy] at t
      by_cases q : y = a
      · exact .inl q
      · rw [if_neg q] at t
        by_cases q2 : y = b
        · exact .inr q2
        · rw [if_neg q2] at t; exact absurd rfl t
    have e1 := nn _ (lt _ (hd_mem ne)) c4
    have e2 := nn _ (lt _ (ls_mem ne)) (by unfold tied at c3; rwa [sL] at c3)
    have hne := nd_hd_ne_ls nd len2
    have E : Ed a b (ls (B ++ A)) (hd (B ++ A)) := by unfold Ed; omega
    have len3 : 3 ≤ (B ++ A).length := by
      apply Classical.byContradiction
      intro z
      have l2 : (B ++ A).length = 2 := by omega
      generalize B ++ A = X at *
      match X, l2 with
      | [x, y], _ =>
        have := (off x (lt x (by simp)) y (lt y (by simp)) c1.1).2
        exact this (ed_comm.mp E)
    have hc' : Cyc (tied s) (B ++ A) := by
      refine ⟨len3, nd, chn_mono (fun x hx y hy t => (off x (lt x hx) y (lt y hy) t).1) c1, ?_⟩
      unfold tied
      rcases E with ⟨q1, q2⟩ | ⟨q1, q2⟩ <;> rw [q1, q2]
      · exact hs
      · rw [W.sy]; exact hs
    have e3 := row_close (n := n) nd len3 E
    refine ⟨told (B ++ A), ⟨told_rng (fun x y t => by unfold tied at t ⊢; rw [W.sy]; exact t) hc', fun x hx => lt x ((mem_told nd len3).mp hx)⟩, ?_⟩
    rw [told_row_told nd len3 (by rw [e3]; exact hc.nd) (by rw [e3]; exact hc.len), e3]
    have e4 : told (n :: B ++ A) = told w := by
      rw [e]
      have := r.1.nd
      rw [e] at this
      exact told_swap this
    have e5 : told ((B ++ A) ++ [n]) = told (n :: B ++ A) := by
      have k := nodup_swap hc.nd
      exact told_swap k
    rw [e5, e4, told_self r.1]
  · have lt : ∀ x ∈ w, x < n := fun x hx => by
      have h1 := r.2 x hx
      have : x ≠ n := fun q => hw (q ▸ hx)
      omega
    have c1 : Chn (fun x y => s x y ≠ 0 ∧ ¬ Ed a b x y) w := chn_mono (fun x hx y hy t => off x (lt x hx) y (lt y hy) t) r.1.ch
    have c2 := off _ (lt _ (ls_mem r.1.ne)) _ (lt _ (hd_mem r.1.ne)) r.1.cl
    refine ⟨w, ⟨⟨⟨r.1.len, r.1.nd, chn_mono (fun _ _ _ _ t => t.1) c1, c2.1⟩, r.1.least, r.1.turn⟩, lt⟩, ?_⟩
    rw [row_none (chn_mono (fun _ _ _ _ t => t.2) c1) c2.2]
    exact told_self r.1
/-- rows by neighbours -/
theorem row_zip (c : List Nat) (hne : c ≠ []) : row a b n c = (c.zip (c.tail ++ [hd c])).flatMap fun p => p.1 :: mk a b n p.1 p.2 := by
  have : ∀ (l : List Nat) (y : Nat), l ≠ [] → (l.zip (l.tail ++ [y])).flatMap (fun p => p.1 :: mk a b n p.1 p.2) = insP a b n l ++ mk a b n (ls l) y := by
    intro l
    induction l with
    | nil => intro y h; exact absurd rfl h
    | cons x l ih =>
      intro y _
      cases l with
      | nil => simp [insP, ls_one]
      | cons z l =>
        have := ih y (by simp)
        simp only [List.tail_cons] at this
        simp only [List.tail_cons, List.cons_append, List.zip_cons_cons, List.flatMap_cons, insP, ls_cons] at this ⊢
        rw [this]; simp
  exact (this c (hd c) hne).symm
end
end Mz

set_option Elab.async false
set_option linter.all false
set_option maxRecDepth 10000
set_option maxHeartbeats 1000000
namespace Mz
set_option autoImplicit false
def fct : Nat → Nat
  | 0 => 1
  | n + 1 => (n + 1) * fct n
theorem fct_pos : ∀ n : Nat, 0 < fct n
  | 0 => Nat.one_pos
  | n + 1 => Nat.mul_pos (by omega) (fct_pos n)
section
variable {n : Nat} {s : Nat → Nat → Int}
theorem ext_len {w : List Nat} (h : Way n s w) : (ext n s w).length + w.length ≤ n := by
  have nd : (w ++ (rg (hd w + 1) n).filter fun y => s (ls w) y != 0 && !w.contains y).Nodup := by
    rw [List.nodup_append]
    refine ⟨h.nd, List.nodup_iff_pairwise_ne.mpr ((List.nodup_iff_pairwise_ne.mp (rg_nd _ _)).filter _), fun a ha b hb e => ?_⟩
    subst e
    have := (List.mem_filter.mp hb).2
    simp at this
    exact this.2 ha
  have := nd_len nd fun x hx => by
    rcases List.mem_append.mp hx with q | q
    · exact h.lt x q
    · exact (mem_rg.mp (List.mem_filter.mp q).1).2
  unfold ext
  simp at this ⊢; omega
theorem len_flatMap_le' {α β : Type} {l : List α} {f : α → List β} {k : Nat} (h : ∀ a ∈ l, (f a).length ≤ k) : (l.flatMap f).length ≤ l.length * k := by
  induction l with
  | nil => simp
  | cons a l ih =>
    rw [List.flatMap_cons, List.length_append, List.length_cons, Nat.succ_mul]
    have := h a (by simp)
    have := ih fun b hb => h b (List.mem_cons_of_mem _ hb)
    omega
theorem ways_fct : ∀ k : Nat, (ways n s k).length * fct (n - (k + 1)) ≤ fct n
  | 0 => by
    simp only [ways, List.length_map, List.length_range]
    cases n with
    | zero => simp [fct]
    | succ n => simp [fct]
  | k + 1 => by
    have ih := ways_fct k
    have h1 : (ways n s (k + 1)).length ≤ (ways n s k).length * (n - (k + 1)) := len_flatMap_le' fun w hw => by
      have := mem_ways.mp hw
      have := ext_len this.1
      omega
    by_cases q : n - (k + 1) = 0
    · rw [q, Nat.mul_zero] at h1
      have : (ways n s (k + 1)).length = 0 := by omega
      rw [this, Nat.zero_mul]; omega
    · obtain ⟨j, hj⟩ : ∃ j, n - (k + 1) = j + 1 := ⟨n - (k + 1) - 1, by omega⟩
      have e2 : n - (k + 1 + 1) = j := by omega
      rw [hj] at h1 ih
      rw [e2]
      calc (ways n s (k + 1)).length * fct j ≤ ((ways n s k).length * (j + 1)) * fct j := Nat.mul_le_mul_right _ h1
        _ = (ways n s k).length * fct (j + 1) := by rw [Nat.mul_assoc]; rfl
        _ ≤ fct n := ih
theorem fct_mono : ∀ {a b : Nat}, a ≤ b → fct a ≤ fct b
  | a, 0, h => by have : a = 0 := by omega
                  rw [this]; exact Nat.le_refl _
  | a, b + 1, h => by
    by_cases e : a = b + 1
    · rw [e]; exact Nat.le_refl _
    · have := fct_mono (a := a) (b := b) (by omega)
      have h2 : fct b ≤ (b + 1) * fct b := Nat.le_mul_of_pos_left _ (by omega)
      exact Nat.le_trans this h2
theorem ways_len (hn : n ≤ 9) (k : Nat) : (ways n s k).length ≤ 362880 := by
  have h1 := ways_fct (n := n) (s := s) k
  have h2 := fct_pos (n - (k + 1))
  have h3 : fct n ≤ fct 9 := fct_mono hn
  have h4 : fct 9 = 362880 := by decide
  have h5 : (ways n s k).length ≤ (ways n s k).length * fct (n - (k + 1)) := Nat.le_mul_of_pos_right _ h2
  omega
theorem ringsTo_len (hn : n ≤ 9) (k : Nat) : (ringsTo n s k).length ≤ k * 362880 := by
  unfold ringsTo
  have := len_flatMap_le' (l := List.range k) (f := fun j => (ways n s j).filter (clo s)) (k := 362880) fun j _ => Nat.le_trans (List.length_filter_le _ _) (ways_len hn j)
  simpa using this
end
theorem ringsTo_nd {n : Nat} {s : Nat → Nat → Int} (k : Nat) : (ringsTo n s k).Nodup := by
  unfold ringsTo
  rw [List.nodup_iff_pairwise_ne, List.pairwise_flatMap]
  refine ⟨fun k _ => List.nodup_iff_pairwise_ne.mp ((ways_nd k).filter _), ?_⟩
  have := List.nodup_range (n := k)
  rw [List.nodup_iff_pairwise_ne] at this
  refine this.imp fun {a b} h x hx y hy e => ?_
  have h1 := (mem_ways.mp (List.mem_filter.mp hx).1).2
  have h2 := (mem_ways.mp (List.mem_filter.mp hy).1).2
  subst e; omega
def prev (c : List Nat) (k : Nat) : Nat := if k = 0 then ls c else c.getD (k - 1) 0
theorem chn_get {T : Nat → Nat → Prop} : ∀ {c : List Nat}, Chn T c → ∀ k, k + 1 < c.length → T (c.getD k 0) (c.getD (k + 1) 0)
  | x :: y :: l, h, 0, _ => h.1
  | x :: y :: l, h, k + 1, hk => chn_get (c := y :: l) h.2 k (by simpa using hk)
theorem hd_get (c : List Nat) : c.getD 0 0 = hd c := by cases c <;> rfl
theorem cyc_get {T : Nat → Nat → Prop} {c : List Nat} (h : Cyc T c) {k : Nat} (hk : k < c.length) : T (prev c k) (c.getD k 0) := by
  unfold prev
  cases k with
  | zero => rw [if_pos rfl, hd_get]; exact h.cl
  | succ k => rw [if_neg (by omega)]; exact chn_get h.ch k hk
def prd : List Int → Int
  | [] => 1
  | x :: l => x * prd l
theorem sg_zip (s : Nat → Nat → Int) : ∀ (x : Nat) (l : List Nat), prd (List.zipWith s (x :: l).dropLast l) = sg s (x :: l)
  | x, [] => rfl
  | x, y :: l => by
    have := sg_zip s y l
    simp only [List.dropLast_cons_cons, List.zipWith_cons_cons, prd, sg] at this ⊢
    rw [this]
def edges (s : Nat → Nat → Int) (c : List Nat) : List Int := (List.range c.length).map fun k => s (prev c k) (c.getD k 0)
theorem edges_zip (s : Nat → Nat → Int) (x : Nat) (l : List Nat) : edges s (x :: l) = s (ls (x :: l)) x :: List.zipWith s (x :: l).dropLast l := by
  apply List.ext_getElem?
  intro i
  unfold edges
  rw [List.getElem?_map]
  cases i with
  | zero => simp [prev]
  | succ i =>
    rw [List.getElem?_cons_succ]
    by_cases hi : i < l.length
    · rw [List.getElem?_range (by simp; omega), List.getElem?_zipWith]
      have h1 : l[i]? = some l[i] := List.getElem?_eq_getElem hi
      have h2 : (x :: l).dropLast[i]? = some ((x :: l)[i]'(by simp; omega)) := by
        rw [List.getElem?_dropLast, if_pos (by simp; omega)]
        exact List.getElem?_eq_getElem _
      rw [h1, h2]
      simp only [Option.map_some, prev]
      rw [if_neg (by omega)]
      simp only [Nat.add_sub_cancel, List.getD_eq_getElem?_getD, List.getElem?_cons_succ, h1]
      rw [List.getElem?_eq_getElem (by simp; omega)]
      rfl
    · rw [List.getElem?_eq_none (by simp; omega), List.getElem?_eq_none (by simp; omega)]; rfl
theorem edges_prd (s : Nat → Nat → Int) {c : List Nat} (h : c ≠ []) : prd (edges s c) = csg s c := by
  obtain ⟨x, l, rfl⟩ := List.exists_cons_of_ne_nil h
  rw [edges_zip]
  simp only [prd]
  rw [sg_zip]
  unfold csg
  rw [hd_cons, Int.mul_comm]
theorem prd_signs : ∀ {l : List Int}, (∀ x ∈ l, x = 1 ∨ x = -1) → prd l = 1 - 2 * (((l.filter (· == -1)).length : Int) % 2)
  | [], _ => rfl
  | x :: l, h => by
    have ih := prd_signs (l := l) fun y hy => h y (List.mem_cons_of_mem _ hy)
    simp only [prd]
    rw [ih]
    rcases h x (by simp) with e | e
    · subst e
      rw [List.filter_cons_of_neg (by decide)]; omega
    · subst e
      rw [List.filter_cons_of_pos (by decide), List.length_cons]; omega
/-- the sign by the number of foes -/
theorem csg_foes {n : Nat} {s : Nat → Nat → Int} (W : Vw n s) {c : List Nat} (h : Cyc (tied s) c) (lt : ∀ x ∈ c, x < n) : csg s c = 1 - 2 * ((((List.range c.length).filter fun k => s (prev c k) (c.getD k 0) == -1).length : Int) % 2) := by
  have hget : ∀ k, k < c.length → c.getD k 0 ∈ c := fun k hk => by
    rw [List.getD_eq_getElem?_getD, List.getElem?_eq_getElem hk]; exact List.getElem_mem hk
  have hprev : ∀ k, k < c.length → prev c k ∈ c := fun k hk => by
    unfold prev; split
    · exact ls_mem h.ne
    · exact hget _ (by omega)
  rw [← edges_prd s h.ne, prd_signs]
  · congr 4
    unfold edges
    rw [List.filter_map, List.length_map]; rfl
  · intro x hx
    obtain ⟨k, hk, rfl⟩ := List.mem_map.mp hx
    have hk := List.mem_range.mp hk
    have h1 := cyc_get h hk
    have h2 := W.three (lt _ (hprev k hk)) (lt _ (hget k hk))
    unfold tied at h1
    omega
end Mz

set_option Elab.async false
set_option linter.all false
set_option maxRecDepth 100000
set_option maxHeartbeats 1000000
namespace Mi
open PySem PySem.Spec L2
set_option autoImplicit false
/-- G' does what F says, over G -/
def Runs (G G' : CallT) (f : Str) (F : IF) : Prop := ∀ ms h, G' f ms h = if F.gc = true then gcR h (bodyR (evS G F.body (startM F.N ms) h)) else bodyR (evS G F.body (startM F.N ms) h)
theorem runs_of {D : IP} {f : Str} {F : IF} (e : D.lookup f = some F) (n : Nat) : Runs (run D n) (run D (n + 1)) f F := fun ms h => by
  simp only [run, e]
theorem Runs.no {G G' : CallT} {f : Str} {F : IF} (r : Runs G G' f F) (g : F.gc = false) (ms : List MV) (h : MH) : G' f ms h = bodyR (evS G F.body (startM F.N ms) h) := by
  rw [r ms h, g]; rfl
theorem Runs.yes {G G' : CallT} {f : Str} {F : IF} (r : Runs G G' f F) (g : F.gc = true) (ms : List MV) (h : MH) : G' f ms h = gcR h (bodyR (evS G F.body (startM F.N ms) h)) := by
  rw [r ms h, g]; rfl
section
variable {G : CallT} {e : IE} {a b c : IS} {t : IT} {it : II} {g : ITg} {i : Nat} {env env1 env2 : MEnv} {h h1 h2 : MH} {m : MV} {r : Res MV} {q : SRes}
theorem b_asg (m : MV) (h1 : MH) (he : ev G e env h = .ok m h1) (hb : bodyR (evS G b (env.set i (some m)) h1) = r) : bodyR (evS G (.seq (.asg (.name i) e) b) env h) = r := by
  refine body_seq (env1 := env.set i (some m)) (h1 := h1) ?_ hb
  rw [evS_asg, he]; simp
theorem s_asg (m : MV) (h1 : MH) (he : ev G e env h = .ok m h1) (hb : evS G b (env.set i (some m)) h1 = q) : evS G (.seq (.asg (.name i) e) b) env h = q := by
  refine (seq_nx (env1 := env.set i (some m)) (h1 := h1) ?_).trans hb
  rw [evS_asg, he]; simp
theorem b_ex (m : MV) (h1 : MH) (he : ev G e env h = .ok m h1) (hb : bodyR (evS G b env h1) = r) : bodyR (evS G (.seq (.ex e) b) env h) = r := by
  refine body_seq (env1 := env) (h1 := h1) ?_ hb
  rw [evS_ex, he]; simp
theorem b_nx (hn : evS G a env h = .ok .nx env1 h1) (hb : bodyR (evS G b env1 h1) = r) : bodyR (evS G (.seq a b) env h) = r := body_seq hn hb
theorem s_nx (hn : evS G a env h = .ok .nx env1 h1) (hb : evS G b env1 h1 = q) : evS G (.seq a b) env h = q := (seq_nx hn).trans hb
theorem b_rt (he : evS G a env h = .ok (.rt m) env1 h1) : bodyR (evS G (.seq a b) env h) = .ok m h1 := body_rt he
theorem b_ret (he : ev G e env h = .ok m h1) : bodyR (evS G (.ret e) env h) = .ok m h1 := by
  rw [evS_ret, he]; rfl
theorem s_if_no (ht : evT G t env h = .ok false h1) (hb : evS G b env h1 = q) : evS G (.if_ t a b) env h = q := by
  rw [evS_if, ht]; simpa using hb
theorem s_if_yes (ht : evT G t env h = .ok true h1) (hb : evS G a env h1 = q) : evS G (.if_ t a b) env h = q := by
  rw [evS_if, ht]; simpa using hb
theorem b_if_no (ht : evT G t env h = .ok false h1) (hb : bodyR (evS G b env h1) = r) : bodyR (evS G (.seq (.if_ t a .nx) b) env h) = r :=
  b_nx (s_if_no ht rfl) hb
theorem b_if_no' (ht : evT G t env h = .ok false h1) (hb : bodyR (evS G b env h1) = r) : bodyR (evS G (.seq (.if_ t a .nx) b) env h) = r :=
  b_nx (s_if_no ht rfl) hb
theorem b_if_yes (ht : evT G t env h = .ok true h1) (he : ev G e env h1 = .ok m h2) : bodyR (evS G (.seq (.if_ t (.ret e) c) b) env h) = .ok m h2 :=
  b_rt (env1 := env) (s_if_yes ht (by rw [evS_ret, he]; rfl))
end
section
variable {G : CallT} {e : IE} {i : Nat} {o : Operator} {env : MEnv} {h h1 h2 : MH} {m x y : MV}
theorem s_asg1 (he : ev G e env h = .ok m h1) : evS G (.asg (.name i) e) env h = .ok .nx (env.set i (some m)) h1 := by
  rw [evS_asg, he]; simp
theorem s_aug (hx : env[i]? = some (some x)) (he : ev G e env h = .ok y h1) (ho : opI o x y h1 = some (m, h2)) : evS G (.aug i o e) env h = .ok .nx (env.set i (some m)) h2 := by
  rw [evS_aug]
  unfold evsAug
  simp only [hx, he, ofE_ok', ho]
end
theorem filter_tt {α : Type} (l : List α) : l.filter (fun _ => true) = l := List.filter_eq_self.mpr fun _ _ => rfl
section
variable {α β : Type} {G : CallT} {it it1 : II} {tg tg1 : ITg} {t t1 : IT} {e : IE} {vs vs1 : List Nat} {env : MEnv} {h : MH} {c : Chk}
theorem compL_f (l : List α) (g : α → MV) (p : α → Bool) (f : α → MV) (hc : c.ok h) : ∀ (l : List α) (acc : List MV), acc.length + l.length ≤ 16777216 →
    (∀ a ∈ l, ∃ env1, asT tg (g a) env = some env1 ∧ evT G t env1 h = .ok (p a) h ∧ (p a = true → ev G e env1 h = .ok (f a) h)) →
    compL c (asT tg) (evT G t) (ev G e) env acc (l.map g) h = .ok (acc ++ (l.filter p).map f) h
  | [], acc, hl, _ => by
    have : acc.length ≤ 16777216 := by simpa using hl
    simp [compL, hc, this]
  | a :: l, acc, hl, hx => by
    obtain ⟨env1, e1, e2, e3⟩ := hx a List.mem_cons_self
    have hxs := fun y hy => hx y (List.mem_cons_of_mem _ hy)
    have hl' : acc.length + (l.length + 1) ≤ 16777216 := by simpa using hl
    cases hp : p a with
    | false =>
      rw [hp] at e2
      simp only [List.map_cons, compL, hc, if_true, e1, e2, noX_ok, bind_ok, Bool.false_eq_true, if_false]
      rw [compL_f l g p f hc l acc (by omega) hxs, List.filter_cons_of_neg (by simp [hp])]
    | true =>
      rw [hp] at e2
      simp only [List.map_cons, compL, hc, if_true, e1, e2, e3 hp, noX_ok, bind_ok]
      rw [compL_f l g p f hc l (acc ++ [f a]) (by simp; omega) hxs, List.filter_cons_of_pos hp]
      simp
theorem comp_f (l : List α) (g : α → MV) (p : α → Bool) (f : α → MV) (hi : evI G it env h = .ok (l.map g, c) h) (hc : c.ok h) (hl : l.length ≤ 16777216)
    (hx : ∀ a ∈ l, ∃ env1, asT tg (g a) (wipeM env vs) = some env1 ∧ evT G t env1 h = .ok (p a) h ∧ (p a = true → ev G e env1 h = .ok (f a) h)) :
    ev G (.comp false it tg t e vs) env h = .ok (.lst ((l.filter p).map f)) h := by
  rw [ev_comp, hi, bind_ok, compL_f l g p f hc l [] (by simpa using hl) hx, bind_ok]; rfl
theorem comp_ft (l : List α) (g : α → MV) (p : α → Bool) (f : α → MV) (hi : evI G it env h = .ok (l.map g, c) h) (hc : c.ok h) (hl : l.length ≤ 16777216)
    (hx : ∀ a ∈ l, ∃ env1, asT tg (g a) (wipeM env vs) = some env1 ∧ evT G t env1 h = .ok (p a) h ∧ (p a = true → ev G e env1 h = .ok (f a) h)) :
    ev G (.comp true it tg t e vs) env h = .ok (.ref h.length) (h ++ [.lst ((l.filter p).map f)]) := by
  rw [ev_comp, hi, bind_ok, compL_f l g p f hc l [] (by simpa using hl) hx, bind_ok]; rfl
theorem comp_m (l : List α) (g : α → MV) (f : α → MV) (hi : evI G it env h = .ok (l.map g, c) h) (hc : c.ok h) (hl : l.length ≤ 16777216)
    (hx : ∀ a ∈ l, ∃ env1, asT tg (g a) (wipeM env vs) = some env1 ∧ ev G e env1 h = .ok (f a) h) :
    ev G (.comp false it tg .tt e vs) env h = .ok (.lst (l.map f)) h := by
  have := comp_f (tg := tg) (t := .tt) (e := e) (vs := vs) l g (fun _ => true) f hi hc hl fun a ha => by
    obtain ⟨env1, e1, e2⟩ := hx a ha
    exact ⟨env1, e1, rfl, fun _ => e2⟩
  rwa [filter_tt] at this
theorem comp_mt (l : List α) (g : α → MV) (f : α → MV) (hi : evI G it env h = .ok (l.map g, c) h) (hc : c.ok h) (hl : l.length ≤ 16777216)
    (hx : ∀ a ∈ l, ∃ env1, asT tg (g a) (wipeM env vs) = some env1 ∧ ev G e env1 h = .ok (f a) h) :
    ev G (.comp true it tg .tt e vs) env h = .ok (.ref h.length) (h ++ [.lst (l.map f)]) := by
  have := comp_ft (tg := tg) (t := .tt) (e := e) (vs := vs) l g (fun _ => true) f hi hc hl fun a ha => by
    obtain ⟨env1, e1, e2⟩ := hx a ha
    exact ⟨env1, e1, rfl, fun _ => e2⟩
  rwa [filter_tt] at this
theorem compL2_f {l1 : α → List β} {g : α → MV} {g1 : β → MV} {p : α → Bool} {p1 : α → β → Bool} {f : α → β → MV} (hc : c.ok h) : ∀ (l : List α) (acc : List MV), acc.length + ((l.filter p).flatMap fun a => l1 a).length ≤ 16777216 →
    (∀ a ∈ l, ∃ env1, asT tg (g a) env = some env1 ∧ evT G t env1 h = .ok (p a) h ∧ (p a = true → evI G it1 env1 h = .ok ((l1 a).map g1, .no) h ∧
      ∀ b ∈ l1 a, ∃ env2, asT tg1 (g1 b) (wipeM env1 vs1) = some env2 ∧ evT G t1 env2 h = .ok (p1 a b) h ∧ (p1 a b = true → ev G e env2 h = .ok (f a b) h))) →
    compL2 c (asT tg) (evT G t) (evI G it1) (asT tg1) (evT G t1) (ev G e) vs1 env acc (l.map g) h = .ok (acc ++ (l.filter p).flatMap fun a => ((l1 a).filter (p1 a)).map (f a)) h
  | [], acc, hl, _ => by
    have : acc.length ≤ 16777216 := by simpa using hl
    simp [compL2, hc, this]
  | a :: l, acc, hl, hx => by
    obtain ⟨env1, e1, e2, e3⟩ := hx a List.mem_cons_self
    have hxs := fun y hy => hx y (List.mem_cons_of_mem _ hy)
    cases hp : p a with
    | false =>
      rw [hp] at e2
      rw [List.filter_cons_of_neg (by simp [hp])] at hl ⊢
      simp only [List.map_cons, compL2, hc, if_true, e1, e2, noX_ok, bind_ok, Bool.false_eq_true, if_false]
      exact compL2_f hc l acc hl hxs
    | true =>
      rw [hp] at e2
      obtain ⟨e4, e5⟩ := e3 hp
      rw [List.filter_cons_of_pos hp, List.flatMap_cons, List.length_append] at hl
      have hb := compL_f (c := .no) (tg := tg1) (t := t1) (e := e) (G := G) (h := h) (env := wipeM env1 vs1) (l1 a) g1 (p1 a) (f a) trivial (l1 a) acc (by omega) e5
      simp only [List.map_cons, compL2, hc, if_true, e1, e2, e4, noX_ok, bind_ok]
      rw [hb, bind_ok, compL2_f hc l _ (by
        rw [List.length_append, List.length_map]
        have := List.length_filter_le (p1 a) (l1 a)
        omega) hxs, List.filter_cons_of_pos hp, List.flatMap_cons, List.append_assoc]
theorem comp2_f (l : List α) (g : α → MV) (l1 : α → List β) (g1 : β → MV) (p : α → Bool) (p1 : α → β → Bool) (f : α → β → MV) (hi : evI G it env h = .ok (l.map g, c) h) (hc : c.ok h) (hl : ((l.filter p).flatMap fun a => l1 a).length ≤ 16777216)
    (hx : ∀ a ∈ l, ∃ env1, asT tg (g a) (wipeM env vs) = some env1 ∧ evT G t env1 h = .ok (p a) h ∧ (p a = true → evI G it1 env1 h = .ok ((l1 a).map g1, .no) h ∧
      ∀ b ∈ l1 a, ∃ env2, asT tg1 (g1 b) (wipeM env1 vs1) = some env2 ∧ evT G t1 env2 h = .ok (p1 a b) h ∧ (p1 a b = true → ev G e env2 h = .ok (f a b) h))) :
    ev G (.comp2 false it tg t it1 tg1 t1 e vs vs1) env h = .ok (.lst ((l.filter p).flatMap fun a => ((l1 a).filter (p1 a)).map (f a))) h := by
  rw [ev_comp2, hi, bind_ok, compL2_f hc l [] (by simpa using hl) hx, bind_ok]; rfl
theorem comp2_m (l : List α) (g : α → MV) (l1 : α → List β) (g1 : β → MV) (p1 : α → β → Bool) (f : α → β → MV) (hi : evI G it env h = .ok (l.map g, c) h) (hc : c.ok h) (hl : (l.flatMap fun a => l1 a).length ≤ 16777216)
    (hx : ∀ a ∈ l, ∃ env1, asT tg (g a) (wipeM env vs) = some env1 ∧ evI G it1 env1 h = .ok ((l1 a).map g1, .no) h ∧
      ∀ b ∈ l1 a, ∃ env2, asT tg1 (g1 b) (wipeM env1 vs1) = some env2 ∧ evT G t1 env2 h = .ok (p1 a b) h ∧ (p1 a b = true → ev G e env2 h = .ok (f a b) h)) :
    ev G (.comp2 false it tg .tt it1 tg1 t1 e vs vs1) env h = .ok (.lst (l.flatMap fun a => ((l1 a).filter (p1 a)).map (f a))) h := by
  have := comp2_f (tg := tg) (t := .tt) (it1 := it1) (tg1 := tg1) (t1 := t1) (e := e) (vs := vs) (vs1 := vs1) l g l1 g1 (fun _ => true) p1 f hi hc (by rwa [filter_tt]) fun a ha => by
    obtain ⟨env1, e1, e2⟩ := hx a ha
    exact ⟨env1, e1, rfl, fun _ => e2⟩
  rwa [filter_tt] at this
end
section
variable {α : Type} {G : CallT}
/-- a walk with an invariant -/
theorem loop_inv {c : Chk} {tg : MV → MEnv → Option MEnv} {b : MEnv → MH → SRes} (g : α → MV) (I : Nat → MEnv → MH → Prop) (hc : ∀ i env h, I i env h → c.ok h) : ∀ (l : List α) (k : Nat) {env : MEnv} {h : MH}, I k env h →
    (∀ i (hi : i < l.length) env h, I (k + i) env h → ∃ env1, tg (g l[i]) env = some env1 ∧ ∃ f env2 h2, b env1 h = .ok f env2 h2 ∧ (f = .nx ∨ f = .ct) ∧ I (k + i + 1) env2 h2) →
    ∃ env2 h2, evsLoop c tg b (l.map g) env h = .ok .nx env2 h2 ∧ I (k + l.length) env2 h2
  | [], k, env, h, hI, _ => ⟨env, h, by simp only [List.map_nil, evsLoop, hc _ _ _ hI, if_true], hI⟩
  | a :: l, k, env, h, hI, st => by
    obtain ⟨env1, e1, f, env2, h2, e2, e3, e4⟩ := st 0 (by simp) env h hI
    obtain ⟨env3, h3, e5, e6⟩ := loop_inv g I hc l (k + 1) (env := env2) (h := h2) e4 fun i hi env h hI => by
      have := st (i + 1) (by simpa using hi) env h (by rw [show k + (i + 1) = k + 1 + i by omega]; exact hI)
      rw [show k + (i + 1) + 1 = k + 1 + i + 1 by omega] at this
      exact this
    refine ⟨env3, h3, ?_, by rw [show k + (a :: l).length = k + 1 + l.length by simp; omega]; exact e6⟩
    have e1 : tg (g a) env = some env1 := e1
    simp only [List.map_cons, evsLoop, hc _ _ _ hI, if_true, e1]
    rcases e3 with e3 | e3 <;> (subst e3; rw [e2]; exact e5)
/-- for: the walk, with an invariant over how many items are done -/
theorem for_inv {it : II} {tg : ITg} {a : IS} {c : Chk} {env : MEnv} {h h0 : MH} (l : List α) (g : α → MV) (I : Nat → MEnv → MH → Prop) (hi : evI G it env h = .ok (l.map g, c) h0) (hc : ∀ i env h, I i env h → c.ok h) (h0 : I 0 env h0)
    (st : ∀ i (hi : i < l.length) env h, I i env h → ∃ env1, asT tg (g l[i]) env = some env1 ∧ ∃ f env2 h2, evS G a env1 h = .ok f env2 h2 ∧ (f = .nx ∨ f = .ct) ∧ I (i + 1) env2 h2) :
    ∃ env2 h2, evS G (.for_ it tg a) env h = .ok .nx env2 h2 ∧ I l.length env2 h2 := by
  obtain ⟨env2, h2, e1, e2⟩ := loop_inv (c := c) (tg := asT tg) (b := evS G a) g I hc l 0 h0 fun i hi env h hI => by
    rw [Nat.zero_add] at hI ⊢; exact st i hi env h hI
  rw [Nat.zero_add] at e2
  refine ⟨env2, h2, ?_, e2⟩
  rw [evS_for, hi, ofE_ok]; exact e1
/-- while: with an invariant and the number of rounds -/
theorem while_inv {t : IT} {a : IS} (I : Nat → MEnv → MH → Prop) (N : Nat) : ∀ (n k : Nat) {env : MEnv} {h : MH}, N - k < n → I k env h →
    (∀ k env h, I k env h → (∃ h1, evT G t env h = .ok false h1 ∧ h1 = h ∧ True) ∨ (k < N ∧ evT G t env h = .ok true h ∧ ∃ f env2 h2, evS G a env h = .ok f env2 h2 ∧ (f = .nx ∨ f = .ct) ∧ I (k + 1) env2 h2)) →
    ∃ k env2 h2, evS G (.while_ n t a) env h = .ok .nx env2 h2 ∧ I k env2 h2 ∧ evT G t env2 h2 = .ok false h2
  | 0, k, _, _, hn, _, _ => absurd hn (by omega)
  | n + 1, k, env, h, hn, hI, st => by
    rcases st k env h hI with ⟨h1, e, rfl, _⟩ | ⟨hk, e, f, env2, h2, e2, e3, e4⟩
    · refine ⟨k, env, _, ?_, hI, e⟩
      rw [evS_while]
      simp only [evsWhile, e, ofE_ok, Bool.false_eq_true, if_false]
    · obtain ⟨k', env3, h3, e5, e6, e7⟩ := while_inv I N n (k + 1) (env := env2) (h := h2) (by omega) e4 st
      refine ⟨k', env3, h3, ?_, e6, e7⟩
      rw [evS_while] at e5 ⊢
      simp only [evsWhile, e, ofE_ok, if_true]
      rcases e3 with e3 | e3 <;> (subst e3; rw [e2]; exact e5)
end
section
variable {α : Type} {G : CallT} {it : II} {tg : ITg} {a b : IS} {c : Chk} {env env1 : MEnv} {h h0 h1 h2 : MH} {r : Res MV} {q : SRes} {e e1 e2 : IE} {t t2 : IT} {m : Bool}
theorem b_for (l : List α) (g : α → MV) (I : Nat → MEnv → MH → Prop) (hi : evI G it env h = .ok (l.map g, c) h0) (hc : ∀ i env h, I i env h → c.ok h) (h0 : I 0 env h0)
    (st : ∀ i (hi : i < l.length) env h, I i env h → ∃ env1, asT tg (g l[i]) env = some env1 ∧ ∃ f env2 h2, evS G a env1 h = .ok f env2 h2 ∧ (f = .nx ∨ f = .ct) ∧ I (i + 1) env2 h2)
    (hb : ∀ env2 h2, I l.length env2 h2 → bodyR (evS G b env2 h2) = r) : bodyR (evS G (.seq (.for_ it tg a) b) env h) = r := by
  obtain ⟨env2, h2, e1, e2⟩ := for_inv l g I hi hc h0 st
  exact b_nx e1 (hb env2 h2 e2)
theorem s_for (l : List α) (g : α → MV) (I : Nat → MEnv → MH → Prop) (hi : evI G it env h = .ok (l.map g, c) h0) (hc : ∀ i env h, I i env h → c.ok h) (h0 : I 0 env h0)
    (st : ∀ i (hi : i < l.length) env h, I i env h → ∃ env1, asT tg (g l[i]) env = some env1 ∧ ∃ f env2 h2, evS G a env1 h = .ok f env2 h2 ∧ (f = .nx ∨ f = .ct) ∧ I (i + 1) env2 h2)
    (hb : ∀ env2 h2, I l.length env2 h2 → evS G b env2 h2 = q) : evS G (.seq (.for_ it tg a) b) env h = q := by
  obtain ⟨env2, h2, e1, e2⟩ := for_inv l g I hi hc h0 st
  exact s_nx e1 (hb env2 h2 e2)
theorem x_of {Q : Res MV → Prop} {a b : Res MV} (e : a = b) (hb : Q b) : Q a := e ▸ hb
theorem x_for {Q : Res MV → Prop} (l : List α) (g : α → MV) (I : Nat → MEnv → MH → Prop) (hi : evI G it env h = .ok (l.map g, c) h0) (hc : ∀ i env h, I i env h → c.ok h) (h0 : I 0 env h0)
    (st : ∀ i (hi : i < l.length) env h, I i env h → ∃ env1, asT tg (g l[i]) env = some env1 ∧ ∃ f env2 h2, evS G a env1 h = .ok f env2 h2 ∧ (f = .nx ∨ f = .ct) ∧ I (i + 1) env2 h2)
    (hb : ∀ env2 h2, I l.length env2 h2 → Q (bodyR (evS G b env2 h2))) : Q (bodyR (evS G (.seq (.for_ it tg a) b) env h)) := by
  obtain ⟨env2, h2, e1, e2⟩ := for_inv l g I hi hc h0 st
  exact x_of (b_nx e1 rfl) (hb env2 h2 e2)
/-- a step that goes on, and what holds behind it -/
def Stp (J : MEnv → MH → Prop) (R : SRes) : Prop := ∃ f env2 h2, R = .ok f env2 h2 ∧ (f = .nx ∨ f = .ct) ∧ J env2 h2
theorem stp {J : MEnv → MH → Prop} {R : SRes} (k : Stp J R) : ∃ f env2 h2, R = .ok f env2 h2 ∧ (f = .nx ∨ f = .ct) ∧ J env2 h2 := k
theorem Stp.nx {J : MEnv → MH → Prop} {env : MEnv} {h : MH} (j : J env h) : Stp J (.ok .nx env h) := ⟨_, _, _, rfl, .inl rfl, j⟩
theorem Stp.of {J : MEnv → MH → Prop} {R : SRes} {env : MEnv} {h : MH} (e : R = .ok .nx env h) (j : J env h) : Stp J R := ⟨_, _, _, e, .inl rfl, j⟩
theorem y_of {Q : SRes → Prop} {a b : SRes} (e : a = b) (hb : Q b) : Q a := e ▸ hb
theorem y_for {Q : SRes → Prop} (l : List α) (g : α → MV) (I : Nat → MEnv → MH → Prop) (hi : evI G it env h = .ok (l.map g, c) h0) (hc : ∀ i env h, I i env h → c.ok h) (h0 : I 0 env h0)
    (st : ∀ i (hi : i < l.length) env h, I i env h → ∃ env1, asT tg (g l[i]) env = some env1 ∧ ∃ f env2 h2, evS G a env1 h = .ok f env2 h2 ∧ (f = .nx ∨ f = .ct) ∧ I (i + 1) env2 h2)
    (hb : ∀ env2 h2, I l.length env2 h2 → Q (evS G b env2 h2)) : Q (evS G (.seq (.for_ it tg a) b) env h) := by
  obtain ⟨env2, h2, e1, e2⟩ := for_inv l g I hi hc h0 st
  exact y_of (s_nx e1 rfl) (hb env2 h2 e2)
theorem z_for {Q : SRes → Prop} (l : List α) (g : α → MV) (I : Nat → MEnv → MH → Prop) (hi : evI G it env h = .ok (l.map g, c) h0) (hc : ∀ i env h, I i env h → c.ok h) (h0 : I 0 env h0)
    (st : ∀ i (hi : i < l.length) env h, I i env h → ∃ env1, asT tg (g l[i]) env = some env1 ∧ ∃ f env2 h2, evS G a env1 h = .ok f env2 h2 ∧ (f = .nx ∨ f = .ct) ∧ I (i + 1) env2 h2)
    (hb : ∀ env2 h2, I l.length env2 h2 → Q (.ok .nx env2 h2)) : Q (evS G (.for_ it tg a) env h) := by
  obtain ⟨env2, h2, e1, e2⟩ := for_inv l g I hi hc h0 st
  rw [e1]; exact hb env2 h2 e2
theorem e_all (f : α → Bool) (l : List α) (he : ev G e env h = .ok (.lst (l.map fun x => .bl (f x))) h1) : ev G (.bi m "all" (.cons e .nil)) env h = .ok (.bl (l.all f)) h1 := by
  rw [ev_all, he, bind_ok, allM_fun, ofO_some]
theorem e_any (f : α → Bool) (l : List α) (he : ev G e env h = .ok (.lst (l.map fun x => .bl (f x))) h1) : ev G (.bi m "any" (.cons e .nil)) env h = .ok (.bl (l.any f)) h1 := by
  rw [ev_any, he, bind_ok, anyM_fun, ofO_some]
theorem e_len {xs : List MV} (he : ev G e env h = .ok (.lst xs) h1) : ev G (.bi m "len" (.cons e .nil)) env h = .ok (.int xs.length) h1 := by
  rw [Mi.ev_len, he, bind_ok, lenM_lst, ofO_some]
theorem e_tuple {xs : List MV} (hl : xs.length ≤ 16777216) (he : ev G e env h = .ok (.lst xs) h1) : ev G (.bi m "tuple" (.cons e .nil)) env h = .ok (.tup xs) h1 := by
  rw [ev_tuple, he, bind_ok, tupleM_lst, newT, if_pos hl, ofO_some]
theorem e_sum {l : List α} (f : α → Int) (he : ev G e env h = .ok (.lst (l.map fun x => .int (f x))) h1) : ev G (.bi m "sum" (.cons e .nil)) env h = .ok (.int (l.map f).sum) h1 := by
  have : allInts (l.map fun x => MV.int (f x)) = some (l.map f) := by
    have := allInts_map (l.map f)
    rwa [List.map_map] at this
  rw [ev_sum, he, bind_ok]
  simp only [sumM, sqLOf_lst, this, ofO_some]
theorem e_and {x y : Bool} (he : ev G e1 env h = .ok (.bl x) h1) (hf : x = true → ev G e2 env h1 = .ok (.bl y) h1) : ev G (.and e1 e2) env h = .ok (.bl (x && y)) h1 := by
  rw [ev_and, he]
  cases x with
  | false => rfl
  | true => exact hf rfl
theorem e_or {x y : Bool} (he : ev G e1 env h = .ok (.bl x) h1) (hf : x = false → ev G e2 env h1 = .ok (.bl y) h1) : ev G (.or e1 e2) env h = .ok (.bl (x || y)) h1 := by
  rw [ev_or, he]
  cases x with
  | true => rfl
  | false => exact hf rfl
theorem t_tru {x : Bool} (he : ev G e env h = .ok (.bl x) h1) : evT G (.tru e) env h = .ok x h1 := by
  rw [evT_tru, he]; rfl
theorem t_not {x : Bool} (he : evT G t env h = .ok x h1) : evT G (.not t) env h = .ok (!x) h1 := by
  rw [evT_not, he]; rfl
theorem t_or {x y : Bool} (he : evT G t env h = .ok x h1) (hf : x = false → evT G t2 env h1 = .ok y h1) : evT G (.or t t2) env h = .ok (x || y) h1 := by
  rw [evT_or, he]
  cases x with
  | true => rfl
  | false => exact hf rfl
theorem t_and {x y : Bool} (he : evT G t env h = .ok x h1) (hf : x = true → evT G t2 env h1 = .ok y h1) : evT G (.and t t2) env h = .ok (x && y) h1 := by
  rw [evT_and, he]
  cases x with
  | false => rfl
  | true => exact hf rfl
theorem t_cmp {o : CmpOp} {x : Bool} (he : ev G (.cmp o e1 e2) env h = .ok (.bl x) h1) : evT G (.cmp o e1 e2) env h = .ok x h1 := by
  rw [evT_cmp, he]; rfl
end
section
variable {α β : Type} {G : CallT} {it it1 : II} {tg tg1 : ITg} {t1 : IT} {c : Chk} {env : MEnv} {h : MH} {e : IE} {m : Bool} {vs vs1 : List Nat}
theorem e_allc (l : List α) (g : α → MV) (f : α → Bool) (hi : evI G it env h = .ok (l.map g, c) h) (hc : c.ok h) (hl : l.length ≤ 16777216)
    (hx : ∀ a ∈ l, ∃ env1, asT tg (g a) (wipeM env vs) = some env1 ∧ ev G e env1 h = .ok (.bl (f a)) h) :
    ev G (.bi m "all" (.cons (.comp false it tg .tt e vs) .nil)) env h = .ok (.bl (l.all f)) h := e_all f l (comp_m l g (fun a => .bl (f a)) hi hc hl hx)
theorem e_allt (l : List α) (g : α → MV) (hi : evI G it env h = .ok (l.map g, c) h) (hc : c.ok h) (hl : l.length ≤ 16777216)
    (hx : ∀ a ∈ l, ∃ env1, asT tg (g a) (wipeM env vs) = some env1 ∧ ev G e env1 h = .ok (.bl true) h) :
    ev G (.bi m "all" (.cons (.comp false it tg .tt e vs) .nil)) env h = .ok (.bl true) h := by
  rw [e_allc l g (fun _ => true) hi hc hl hx]; simp
theorem e_all2t (l : List α) (g : α → MV) (l1 : α → List β) (g1 : β → MV) (hi : evI G it env h = .ok (l.map g, c) h) (hc : c.ok h) (hl : (l.flatMap fun a => l1 a).length ≤ 16777216)
    (hx : ∀ a ∈ l, ∃ env1, asT tg (g a) (wipeM env vs) = some env1 ∧ evI G it1 env1 h = .ok ((l1 a).map g1, .no) h ∧
      ∀ b ∈ l1 a, ∃ env2, asT tg1 (g1 b) (wipeM env1 vs1) = some env2 ∧ ev G e env2 h = .ok (.bl true) h) :
    ev G (.bi m "all" (.cons (.comp2 false it tg .tt it1 tg1 .tt e vs vs1) .nil)) env h = .ok (.bl true) h := by
  have := comp2_m (tg := tg) (it1 := it1) (tg1 := tg1) (t1 := .tt) (e := e) (vs := vs) (vs1 := vs1) l g l1 g1 (fun _ _ => true) (fun _ _ => .bl true) hi hc hl fun a ha => by
    obtain ⟨env1, e1, e2, e3⟩ := hx a ha
    refine ⟨env1, e1, e2, fun b hb => ?_⟩
    obtain ⟨env2, e4, e5⟩ := e3 b hb
    exact ⟨env2, e4, rfl, fun _ => e5⟩
  have k : (l.flatMap fun a => ((l1 a).filter fun _ => true).map fun _ => MV.bl true) = (l.flatMap fun a => l1 a).map fun _ => MV.bl true := by
    simp only [filter_tt, List.map_flatMap]
  rw [k] at this
  rw [e_all (fun _ => true) _ this]; simp
end
theorem b_while {G : CallT} {n : Nat} {t : IT} {a b : IS} {env : MEnv} {h : MH} {r : Res MV} (I : Nat → MEnv → MH → Prop) (N : Nat) (hn : N < n) (hI : I 0 env h)
    (st : ∀ k env h, I k env h → evT G t env h = .ok false h ∨ (k < N ∧ evT G t env h = .ok true h ∧ ∃ f env2 h2, evS G a env h = .ok f env2 h2 ∧ (f = .nx ∨ f = .ct) ∧ I (k + 1) env2 h2))
    (hb : ∀ k env2 h2, I k env2 h2 → evT G t env2 h2 = .ok false h2 → bodyR (evS G b env2 h2) = r) : bodyR (evS G (.seq (.while_ n t a) b) env h) = r := by
  obtain ⟨k, env2, h2, e1, e2, e3⟩ := while_inv (G := G) (t := t) (a := a) I N n 0 (env := env) (h := h) (by omega) hI fun k env h hI => by
    rcases st k env h hI with q | q
    · exact .inl ⟨h, q, rfl, trivial⟩
    · exact .inr q
  exact b_nx e1 (hb k env2 h2 e2 e3)
@[simp] theorem rangeM_nn (n : Nat) (h : MH) : n ≤ 1000000 → rangeM [.int n] h = some (.rng 0 n, h) := fun hn => rangeM_1 h n (by omega)
theorem rangeM_2 (a b : Int) (h : MH) (ha : -1000000 ≤ a) (ha2 : a ≤ 1000000) (hb : -1000000 ≤ b) (hb2 : b ≤ 1000000) : rangeM [.int a, .int b] h = some (.rng a b, h) := by
  simp only [rangeM]
  rw [if_pos ⟨absLe_iff.mpr (by omega), absLe_iff.mpr (by omega)⟩]
theorem rng_nat (n : Nat) : ((List.range ((n : Int) - 0).toNat).map fun k => MV.int (0 + (k : Nat))) = (List.range n).map fun k => MV.int (k : Nat) := by
  rw [show ((n : Int) - 0).toNat = n by omega]
  exact List.map_congr_left fun k _ => by rw [Int.zero_add]
theorem rng_rg (a n : Nat) : ((List.range ((n : Int) - (a : Int)).toNat).map fun k => MV.int ((a : Int) + (k : Nat))) = (Mz.rg a n).map fun k => MV.int (k : Nat) := by
  unfold Mz.rg
  rw [List.map_map, show ((n : Int) - (a : Int)).toNat = n - a by omega]
  exact List.map_congr_left fun k _ => by simp
/-- a row of numbers by a law -/
def rw_ (n : Nat) (f : Nat → Int) : MV := .tup ((List.range n).map fun y => .int (f y))
/-- the web of n places with signs s -/
def wb (n : Nat) (s : Nat → Nat → Int) : MV := .tup ((List.range n).map fun x => rw_ n (s x))
theorem wb_congr {n : Nat} {s s' : Nat → Nat → Int} (h : ∀ x < n, ∀ y < n, s x y = s' x y) : wb n s = wb n s' := by
  unfold wb rw_
  congr 1
  refine List.map_congr_left fun x hx => ?_
  congr 1
  exact List.map_congr_left fun y hy => by rw [h x (List.mem_range.mp hx) y (List.mem_range.mp hy)]
section
variable {n : Nat} {s : Nat → Nat → Int} {f : Nat → Int} {h : MH} {i : Int}
@[simp] theorem lenM_wb : lenM [wb n s] h = some (.int n, h) := by simp [wb]
@[simp] theorem lenM_rw : lenM [rw_ n f] h = some (.int n, h) := by simp [rw_]
theorem ix_wb (h0 : 0 ≤ i) (hn : i < n) : ixM (wb n s) (.int i) h = some (rw_ n (s i.toNat), h) := by
  obtain ⟨k, rfl⟩ := Int.eq_ofNat_of_zero_le h0
  have : k < n := by omega
  simp [wb, atI_nat, this]
theorem ix_rw (h0 : 0 ≤ i) (hn : i < n) : ixM (rw_ n f) (.int i) h = some (.int (f i.toNat), h) := by
  obtain ⟨k, rfl⟩ := Int.eq_ofNat_of_zero_le h0
  have : k < n := by omega
  simp [rw_, atI_nat, this]
theorem ix_wbn {x : Nat} (hx : x < n) : ixM (wb n s) (.int x) h = some (rw_ n (s x), h) := by
  have := ix_wb (n := n) (s := s) (h := h) (i := x) (by omega) (by omega)
  simpa using this
theorem ix_rwn {x : Nat} (hx : x < n) : ixM (rw_ n f) (.int x) h = some (.int (f x), h) := by
  have := ix_rw (n := n) (f := f) (h := h) (i := x) (by omega) (by omega)
  simpa using this
@[simp] theorem itM_wb : itM (wb n s) h = some ((List.range n).map fun x => rw_ n (s x), .no) := rfl
@[simp] theorem itM_rw : itM (rw_ n f) h = some ((List.range n).map fun y => .int (f y), .no) := rfl
end
end Mi

set_option Elab.async false
set_option linter.all false
set_option maxRecDepth 100000
set_option maxHeartbeats 1000000
namespace Mi
open PySem PySem.Spec L2 LibI Mz
set_option autoImplicit false
theorem len_flatMap_le {α β : Type} {l : List α} {f : α → List β} {k : Nat} (h : ∀ a ∈ l, (f a).length ≤ k) : (l.flatMap f).length ≤ l.length * k := by
  induction l with
  | nil => simp
  | cons a l ih =>
    rw [List.flatMap_cons, List.length_append, List.length_cons, Nat.succ_mul]
    have := h a (by simp)
    have := ih fun b hb => h b (List.mem_cons_of_mem _ hb)
    omega
def S_is_integer (G : CallT) : Prop := ∀ (i : Int) h, G "is_integer" [.int i] h = .ok (.bl true) h
def S_is_between (G : CallT) : Prop := ∀ (lo i hi : Int) h, G "is_between" [.int lo, .int i, .int hi] h = .ok (.bl (decide (lo ≤ i) && decide (i ≤ hi))) h
def S_is_tuple_of (G : CallT) : Prop := ∀ (k : Int) (xs : List MV) h, G "is_tuple_of" [.int k, .tup xs] h = .ok (.bl ((xs.length : Int) == k)) h
def S_is_web (G : CallT) : Prop := ∀ n s h, 1 ≤ n → n ≤ 10 → Vw n s → G "is_web" [wb n s] h = .ok (.bl true) h
def S_check_web (G : CallT) : Prop := ∀ n s h, 1 ≤ n → n ≤ 10 → Vw n s → G "check_web" [wb n s] h = .ok .non h
def S_check_place (G : CallT) : Prop := ∀ (n : Nat) (x : Nat) h, x < n → G "check_place" [.int n, .int x] h = .ok .non h
def S_tie_between (G : CallT) : Prop := ∀ (x y : Nat) h, G "tie_between" [.int x, .int y] h = .ok (.tup [.int (min x y : Nat), .int (max x y : Nat)]) h
section
variable {G G' : CallT}
theorem p_is_integer (r : Runs G G' "is_integer" F_is_integer) : S_is_integer G' := fun i h => by
  rw [r.no rfl]
  simp [F_is_integer, ir_is_integer, N_is_integer, startM, isiM, tyN, isB]
theorem p_is_between (h1 : S_is_integer G) (r : Runs G G' "is_between" F_is_between) : S_is_between G' := fun lo i hi h => by
  rw [r.no rfl]
  simp [F_is_between, ir_is_between, N_is_between, startM, h1 i h]
  by_cases q : lo ≤ i <;> simp [q]
theorem p_is_tuple_of (r : Runs G G' "is_tuple_of" F_is_tuple_of) : S_is_tuple_of G' := fun k xs h => by
  rw [r.no rfl]
  simp [F_is_tuple_of, ir_is_tuple_of, N_is_tuple_of, startM, isiM, tyN, isB]
theorem p_is_web (h1 : S_is_between G) (h2 : S_is_tuple_of G) (r : Runs G G' "is_web" F_is_web) : S_is_web G' := fun n s h n1 n2 W => by
  rw [r.no rfl]
  show bodyR (evS G ir_is_web (startM N_is_web [wb n s]) h) = _
  unfold ir_is_web
  simp only [N_is_web, startM, List.map, List.length_cons, List.length_nil, List.replicate, List.cons_append, List.nil_append]
  have e1 : (1 : Int) ≤ n := by omega
  have e2 : (n : Int) ≤ 10 := by omega
  refine b_if_no (h1 := h) ?_ ?_
  · simp [isiM, tyN, isB, wb, e1, e2]
  refine b_for (List.range n) (fun x => rw_ n (s x)) (fun _ env h' => ∃ o, env = [some (wb n s), o, none, none, none, none, none] ∧ h' = h) (c := .no) (h0 := h) (by simp) (fun _ _ _ _ => trivial) ⟨none, rfl, rfl⟩ ?_ ?_
  · rintro i hi env h' ⟨o, rfl, rfl⟩
    have hi' : i < n := by simpa using hi
    refine ⟨_, rfl, .nx, [some (wb n s), some (rw_ n (s i)), none, none, none, none, none], h', ?_, .inl rfl, _, rfl, rfl⟩
    simp only [List.getElem_range]
    refine s_if_no (h1 := h') (t_or (x := false) (y := false) (h1 := h') ?_ fun _ => t_not (x := true) (t_tru ?_)) rfl
    · simp [h2 _ _ h', rw_]
    · refine e_allt (List.range n) (fun y => .int (s i y)) (c := .no) (by simp) trivial (by simp; omega) fun y hy => ⟨_, rfl, ?_⟩
      have hy' := List.mem_range.mp hy
      simp [wipeM, h1 _ _ _ h', W.lo i y hi' hy', W.hi i y hi' hy']
  · rintro env2 h' ⟨o, rfl, rfl⟩
    refine b_asg (.rng 0 n) h' (by simp [rangeM_nn n h' (by omega)]) ?_
    refine b_asg (.bl true) h' ?_ ?_
    · refine e_all2t (List.range n) (fun x => .int (x : Nat)) (fun x => List.range x) (fun y => .int (y : Nat)) (c := .no) (by simp) trivial ?_ fun x hx => ⟨_, rfl, ?_, fun y hy => ⟨_, rfl, ?_⟩⟩
      · exact Nat.le_trans (len_flatMap_le (fun x hx => by have := List.mem_range.mp hx; simp only [List.length_range]; omega) (k := 10)) (by simp only [List.length_range]; omega)
      · have hx' := List.mem_range.mp hx
        simp [wipeM, rangeM_nn x h' (by omega)]
      · have hx' := List.mem_range.mp hx
        have hy' := List.mem_range.mp hy
        have hyn : y < n := by omega
        simp [wipeM, ix_wbn, ix_rwn, W.sy x y, hx', hyn]
    · refine b_ret (e_and (x := true) (y := true) (by simp) fun _ => ?_)
      refine e_allt (List.range n) (fun x => .int (x : Nat)) (c := .no) (by simp) trivial (by simp; omega) fun x hx => ⟨_, rfl, ?_⟩
      have hx' := List.mem_range.mp hx
      simp [wipeM, ix_wbn, ix_rwn, W.dg x hx', hx']
end
end Mi

set_option Elab.async false
set_option linter.all false
set_option maxRecDepth 100000
set_option maxHeartbeats 1000000
namespace Mi
open PySem PySem.Spec L2
set_option autoImplicit false
abbrev keysK (kvs : KVs) : List (List Key) := kvs.map (·.1)
theorem any_key {kvs : KVs} {k : List Key} : (kvs.any fun kv => decide (kv.1 = k)) = true ↔ k ∈ keysK kvs := by
  simp [keysK, List.any_eq_true]
theorem getK_none {k : List Key} : ∀ {kvs : KVs}, getK kvs k = none ↔ k ∉ keysK kvs
  | [] => by simp [getK_nil]
  | p :: r => by
    rw [getK_cons]
    simp only [List.map_cons, List.mem_cons, not_or]
    by_cases e : p.1 = k
    · rw [if_pos e]; simp [e]
    · rw [if_neg e, getK_none]; exact ⟨fun h => ⟨fun q => e q.symm, h⟩, fun h => h.2⟩
theorem getK_app {k : List Key} : ∀ {a b : KVs}, getK (a ++ b) k = (getK a k).or (getK b k)
  | [], b => by simp [getK_nil]
  | p :: r, b => by
    rw [List.cons_append, getK_cons, getK_cons]
    by_cases e : p.1 = k
    · rw [if_pos e, if_pos e]; rfl
    · rw [if_neg e, if_neg e, getK_app]
theorem getK_set {kvs : KVs} {k k' : List Key} {v : MV} : getK (setK kvs k v) k' = if k' = k then some v else getK kvs k' := by
  unfold setK
  by_cases h : (kvs.any fun kv => decide (kv.1 = k)) = true
  · rw [if_pos h]
    have hm := any_key.mp h
    clear h
    induction kvs with
    | nil => simp at hm
    | cons p r ih =>
      rw [List.map_cons, getK_cons, getK_cons]
      by_cases e : p.1 = k
      · rw [if_pos e]
        by_cases e2 : k' = k
        · rw [if_pos e2, if_pos (by rw [e2]; exact e)]
        · rw [if_neg e2, if_neg (by rw [e]; exact fun z => e2 z.symm), if_neg (by rw [e]; exact fun z => e2 z.symm)]
          by_cases hr : k ∈ keysK r
          · rw [ih hr, if_neg e2]
          · have : r.map (fun kv => if kv.1 = k then (kv.1, v) else kv) = r := by
              conv => rhs; rw [← List.map_id r]
              exact List.map_congr_left fun q hq => by
                rw [if_neg]; rfl
                intro z; exact hr (z ▸ List.mem_map_of_mem hq)
            rw [this]
      · rw [if_neg e]
        have hr : k ∈ keysK r := by
          simp only [List.map_cons, List.mem_cons] at hm
          rcases hm with q | q
          · exact absurd q.symm e
          · exact q
        rw [ih hr]
        by_cases e3 : p.1 = k'
        · rw [if_pos e3, if_pos e3, if_neg (by rw [← e3]; exact e)]
        · rw [if_neg e3, if_neg e3]
  · rw [if_neg h, getK_app, getK_cons, getK_nil]
    have hn : k ∉ keysK kvs := fun z => h (any_key.mpr z)
    by_cases e : k' = k
    · subst e
      rw [getK_none.mpr hn]; simp
    · rw [if_neg e]
      simp only []
      rw [if_neg fun z => e z.symm]
      cases getK kvs k' <;> rfl
theorem keysK_set {kvs : KVs} {k : List Key} {v : MV} : (k ∈ keysK kvs ∧ keysK (setK kvs k v) = keysK kvs) ∨ (k ∉ keysK kvs ∧ keysK (setK kvs k v) = keysK kvs ++ [k]) := by
  unfold setK
  by_cases h : (kvs.any fun kv => decide (kv.1 = k)) = true
  · rw [if_pos h]
    refine .inl ⟨any_key.mp h, ?_⟩
    simp only [keysK, List.map_map]
    exact List.map_congr_left fun p _ => by
      simp only [Function.comp_apply]
      split <;> rfl
  · rw [if_neg h]
    refine .inr ⟨fun z => h (any_key.mpr z), ?_⟩
    simp [keysK]
theorem nodup_set {kvs : KVs} {k : List Key} {v : MV} (nd : (keysK kvs).Nodup) : (keysK (setK kvs k v)).Nodup := by
  rcases keysK_set (kvs := kvs) (k := k) (v := v) with ⟨h, e⟩ | ⟨h, e⟩ <;> rw [e]
  · exact nd
  · rw [List.nodup_append]
    exact ⟨nd, by simp, fun a ha b hb q => by simp at hb; exact h (hb ▸ q ▸ ha)⟩
theorem mem_set {kvs : KVs} {k k' : List Key} {v : MV} : k' ∈ keysK (setK kvs k v) ↔ k' = k ∨ k' ∈ keysK kvs := by
  rcases keysK_set (kvs := kvs) (k := k) (v := v) with ⟨h, e⟩ | ⟨h, e⟩ <;> rw [e]
  · exact ⟨.inr, fun z => z.elim (fun e => e ▸ h) id⟩
  · rw [List.mem_append, List.mem_singleton]; exact or_comm
theorem set_new {kvs : KVs} {k : List Key} {v : MV} (h : k ∉ keysK kvs) : setK kvs k v = kvs ++ [(k, v)] := by
  unfold setK
  rw [if_neg fun z => h (any_key.mp z)]
theorem len_set {kvs : KVs} {k : List Key} {v : MV} : (setK kvs k v).length ≤ kvs.length + 1 := by
  rcases keysK_set (kvs := kvs) (k := k) (v := v) with ⟨h, e⟩ | ⟨h, e⟩
  · have := congrArg List.length e
    simp only [keysK, List.length_map] at this
    omega
  · have := congrArg List.length e
    simp only [keysK, List.length_map, List.length_append, List.length_singleton] at this
    omega
theorem updAll_nil (kvs : KVs) : updAll kvs [] = kvs := rfl
theorem updAll_cons (kvs : KVs) (p : List Key × MV) (l : KVs) : updAll kvs (p :: l) = updAll (setK kvs p.1 p.2) l := rfl
theorem updAll_snoc (kvs : KVs) (p : List Key × MV) (l : KVs) : updAll kvs (l ++ [p]) = setK (updAll kvs l) p.1 p.2 := by simp [updAll]
theorem updAll_new : ∀ {l kvs : KVs}, (keysK (kvs ++ l)).Nodup → updAll kvs l = kvs ++ l
  | [], kvs, _ => by simp [updAll_nil]
  | p :: l, kvs, nd => by
    have hp : p.1 ∉ keysK kvs := fun z => by
      simp only [keysK, List.map_append, List.map_cons] at nd
      exact (List.nodup_append.mp nd).2.2 _ z p.1 (by simp) rfl
    rw [updAll_cons, set_new hp, updAll_new (by simpa using nd)]; simp
theorem updAll_nodup : ∀ {l kvs : KVs}, (keysK kvs).Nodup → (keysK (updAll kvs l)).Nodup
  | [], _, nd => nd
  | p :: l, kvs, nd => by rw [updAll_cons]; exact updAll_nodup (nodup_set nd)
theorem updAll_mem : ∀ {l kvs : KVs} {k : List Key}, k ∈ keysK (updAll kvs l) ↔ k ∈ keysK kvs ∨ k ∈ keysK l
  | [], kvs, k => by simp [updAll_nil]
  | p :: l, kvs, k => by
    rw [updAll_cons, updAll_mem, mem_set]
    simp only [List.map_cons, List.mem_cons]
    grind
theorem updAll_len : ∀ {l kvs : KVs}, (updAll kvs l).length ≤ kvs.length + l.length
  | [], kvs => by simp [updAll_nil]
  | p :: l, kvs => by
    rw [updAll_cons]
    have := updAll_len (l := l) (kvs := setK kvs p.1 p.2)
    have := len_set (kvs := kvs) (k := p.1) (v := p.2)
    simp; omega
/-- what a dict holds behind an update, for keys that are told once -/
theorem getK_upd : ∀ {l kvs : KVs} {k : List Key}, (keysK l).Nodup → getK (updAll kvs l) k = (getK l k).or (getK kvs k)
  | [], kvs, k, _ => by simp [updAll_nil, getK_nil]
  | p :: l, kvs, k, nd => by
    simp only [List.map_cons, List.nodup_cons] at nd
    rw [updAll_cons, getK_upd nd.2, getK_set, getK_cons]
    by_cases e : p.1 = k
    · rw [if_pos e, if_pos e.symm, getK_none.mpr (e ▸ nd.1)]; rfl
    · rw [if_neg e, if_neg fun z => e z.symm]
theorem getK_mem {k : List Key} {v : MV} : ∀ {kvs : KVs}, getK kvs k = some v → (k, v) ∈ kvs
  | [], h => by simp [getK_nil] at h
  | p :: r, h => by
    rw [getK_cons] at h
    by_cases e : p.1 = k
    · rw [if_pos e] at h
      cases h; subst e; simp
    · rw [if_neg e] at h
      exact List.mem_cons_of_mem _ (getK_mem h)
theorem getK_of_mem {k : List Key} {v : MV} : ∀ {kvs : KVs}, (keysK kvs).Nodup → (k, v) ∈ kvs → getK kvs k = some v
  | p :: r, nd, h => by
    simp only [List.map_cons, List.nodup_cons] at nd
    rw [getK_cons]
    rcases List.mem_cons.mp h with e | e
    · rw [← e]; simp
    · rw [if_neg, getK_of_mem nd.2 e]
      intro z
      exact nd.1 (z ▸ List.mem_map_of_mem (f := (·.1)) e)
theorem getK_del {k k' : List Key} : ∀ {kvs : KVs}, getK (delK kvs k) k' = if k' = k then none else getK kvs k'
  | [] => by simp [delK, getK_nil]
  | p :: r => by
    have ih := getK_del (k := k) (k' := k') (kvs := r)
    unfold delK at ih ⊢
    by_cases e : p.1 = k
    · rw [List.filter_cons_of_neg (by simp [e]), ih, getK_cons]
      by_cases e2 : k' = k
      · rw [if_pos e2, if_pos e2]
      · rw [if_neg e2, if_neg e2, if_neg (by rw [e]; exact fun z => e2 z.symm)]
    · rw [List.filter_cons_of_pos (by simp [e]), getK_cons, ih, getK_cons]
      by_cases e2 : p.1 = k'
      · rw [if_pos e2, if_pos e2, if_neg (by rw [← e2]; exact e)]
      · rw [if_neg e2, if_neg e2]
section
variable {α : Type} {G : CallT} {it : II} {tg : ITg} {k v : IE} {vs : List Nat} {env : MEnv} {h h0 : MH} {c : Chk} {u : Bool}
theorem getLast_h (h : MH) (o : MO) : (h ++ [o])[h.length]? = some o := by simp
theorem setLast_h (h : MH) (o o' : MO) : (h ++ [o]).set h.length o' = h ++ [o'] := by simp
theorem compD_f (g : α → MV) (kv : α → MV) (ks : α → List Key) (va : α → MV) (hc : ∀ kvs, c.ok (h ++ [.dct u kvs])) : ∀ (l : List α) (kvs : KVs), kvs.length + l.length ≤ 16777216 →
    (∀ a ∈ l, ∃ env1, asT tg (g a) env = some env1 ∧ dkey u (kv a) = some (ks a) ∧ ∀ kvs, ev G k env1 (h ++ [.dct u kvs]) = .ok (kv a) (h ++ [.dct u kvs]) ∧ ev G v env1 (h ++ [.dct u kvs]) = .ok (va a) (h ++ [.dct u kvs])) →
    compD h.length c (asT tg) (evT G .tt) (ev G k) (ev G v) env (l.map g) (h ++ [.dct u kvs]) = .ok () (h ++ [.dct u (updAll kvs (l.map fun a => (ks a, va a)))])
  | [], kvs, _, _ => by simp only [List.map_nil, compD, hc, if_true, updAll_nil]
  | a :: l, kvs, hl, hx => by
    obtain ⟨env1, e1, e2, e3⟩ := hx a List.mem_cons_self
    obtain ⟨e4, e5⟩ := e3 kvs
    have hl' : kvs.length + (l.length + 1) ≤ 16777216 := by simpa using hl
    have hp : putM (.ref h.length) (kv a) (va a) (h ++ [.dct u kvs]) = some (h ++ [.dct u (setK kvs (ks a) (va a))]) := by
      simp only [putM, getLast_h, e2]
      rw [if_pos (by omega), setLast_h]
    simp only [List.map_cons, compD, hc, if_true, e1, evT_tt, noX_ok, bind_ok, e4, e5, getLast_h, hp, updAll_cons]
    exact compD_f g kv ks va hc l _ (by have := len_set (kvs := kvs) (k := ks a) (v := va a); omega) fun b hb => hx b (List.mem_cons_of_mem _ hb)
theorem dcomp_f (l : List α) (g : α → MV) (kv : α → MV) (ks : α → List Key) (va : α → MV) (hi : evI G it env h = .ok (l.map g, c) h0) (hc : ∀ kvs, c.ok (h0 ++ [.dct u kvs])) (hl : l.length ≤ 16777216)
    (hx : ∀ a ∈ l, ∃ env1, asT tg (g a) (wipeM env vs) = some env1 ∧ dkey u (kv a) = some (ks a) ∧ ∀ kvs, ev G k env1 (h0 ++ [.dct u kvs]) = .ok (kv a) (h0 ++ [.dct u kvs]) ∧ ev G v env1 (h0 ++ [.dct u kvs]) = .ok (va a) (h0 ++ [.dct u kvs])) :
    ev G (.dcomp u it tg .tt k v vs) env h = .ok (.ref h0.length) (h0 ++ [.dct u (updAll [] (l.map fun a => (ks a, va a)))]) := by
  rw [ev_dcomp, hi, bind_ok, compD_f g kv ks va hc l [] (by simpa using hl) hx, bind_ok]
end
section
variable {h : MH} {n : Nat} {t : Bool} {kvs : KVs}
theorem dctOf_dct (e : h[n]? = some (.dct t kvs)) : dctOf h (.ref n) = some (t, kvs) := by simp [dctOf, e]
theorem dctOf_lck (e : h[n]? = some (.lck t kvs)) : dctOf h (.ref n) = some (t, kvs) := by simp [dctOf, e]
theorem dctOf_lstr {xs : List MV} (e : h[n]? = some (.lst xs)) : dctOf h (.ref n) = none := by simp [dctOf, e]
theorem keysOf_ints (l : List Int) : keysOf (l.map MV.int) = some (l.map Sum.inl) := by
  induction l with
  | nil => rfl
  | cons x l ih => simp [keysOf, keyOf, ih]
theorem dkey_ints (l : List Int) : dkey true (.tup (l.map MV.int)) = some (l.map Sum.inl) := keysOf_ints l
theorem dkey_2 (a b : Int) : dkey true (.tup [.int a, .int b]) = some [.inl a, .inl b] := rfl
/-- a pair's key -/
def k2 (x y : Nat) : List Key := [.inl (x : Int), .inl (y : Int)]
theorem k2_inj {x y x' y' : Nat} : k2 x y = k2 x' y' ↔ x = x' ∧ y = y' := by
  simp [k2, Int.ofNat_inj]
/-- the number at a pair -/
def look (kvs : KVs) (x y : Nat) : Int := match getK kvs (k2 x y) with
  | some (.int i) => i
  | _ => 0
end
abbrev Cl (h : MH) : Prop := keepO h.length h = true
theorem keep_app {n : Nat} {h h' : MH} (hn : n ≤ h.length) : keepO n (h ++ h') = keepO n h := by
  unfold keepO
  rw [List.take_append_of_le_length hn]
theorem gc_ok {h : MH} {x : MH} {m : MV} (c : Cl h) (hm : refsLt h.length m = true) : gcR h (.ok m (h ++ x)) = .ok m h := by
  show (if refsLt h.length m = true ∧ keepO h.length (h ++ x) = true then Res.ok m ((h ++ x).take h.length) else .err) = _
  rw [if_pos ⟨hm, by rw [keep_app (Nat.le_refl _)]; exact c⟩, List.take_left]
mutual
theorem refs_mono {n k : Nat} (h : n ≤ k) : ∀ m : MV, refsLt n m = true → refsLt k m = true
  | .tup xs, e => by simp only [refsLt] at e ⊢; exact refs_monoL h xs e
  | .lst xs, e => by simp only [refsLt] at e ⊢; exact refs_monoL h xs e
  | .exc _ _ xs, e => by simp only [refsLt] at e ⊢; exact refs_monoL h xs e
  | .ref i, e => by
    simp only [refsLt, decide_eq_true_eq] at e ⊢; omega
  | .non, _ => rfl
  | .bl _, _ => rfl
  | .int _, _ => rfl
  | .str _, _ => rfl
  | .scr _, _ => rfl
  | .rng _ _, _ => rfl
theorem refs_monoL {n k : Nat} (h : n ≤ k) : ∀ ms : List MV, refsLtL n ms = true → refsLtL k ms = true
  | [], _ => rfl
  | m :: ms, e => by
    simp only [refsLtL, Bool.and_eq_true] at e ⊢
    exact ⟨refs_mono h m e.1, refs_monoL h ms e.2⟩
end
theorem refs_monoK {n k : Nat} (h : n ≤ k) : ∀ ms : KVs, refsLtK n ms = true → refsLtK k ms = true
  | [], _ => rfl
  | p :: ms, e => by
    simp only [refsLtK, Bool.and_eq_true] at e ⊢
    exact ⟨refs_mono h p.2 e.1, refs_monoK h ms e.2⟩
theorem refs_monoO {n k : Nat} (h : n ≤ k) (o : MO) (e : refsLtO n o = true) : refsLtO k o = true := by
  cases o with
  | lst xs => exact refs_monoL h xs e
  | dct _ kvs => exact refs_monoK h kvs e
  | lck _ kvs => exact refs_monoK h kvs e
  | ins _ _ xs => exact refs_monoL h xs e
  | gone => rfl
/-- an object without references -/
def NoR (o : MO) : Prop := refsLtO 0 o = true
theorem cl_app {h x : MH} (c : Cl h) (hx : ∀ o ∈ x, NoR o) : Cl (h ++ x) := by
  unfold Cl keepO at *
  rw [List.take_of_length_le (Nat.le_refl _), List.all_eq_true] at *
  intro o ho
  rcases List.mem_append.mp ho with q | q
  · exact refs_monoO (by simp) o (c o q)
  · exact refs_monoO (by omega) o (hx o q)
theorem refs_ints (n : Nat) (l : List Int) : refsLtL n (l.map MV.int) = true := by
  induction l with
  | nil => rfl
  | cons x l ih => simp [refsLtL, refsLt, ih]
theorem refs_of {n : Nat} {l : List MV} (h : ∀ m ∈ l, refsLt n m = true) : refsLtL n l = true := by
  induction l with
  | nil => rfl
  | cons x l ih =>
    simp only [refsLtL, Bool.and_eq_true]
    exact ⟨h x (by simp), ih fun m hm => h m (List.mem_cons_of_mem _ hm)⟩
theorem refs_rw (n k : Nat) (f : Nat → Int) : refsLt n (rw_ k f) = true := by
  simp only [rw_, refsLt]
  exact refs_of fun m hm => by obtain ⟨y, _, rfl⟩ := List.mem_map.mp hm; rfl
theorem refs_wb (n k : Nat) (s : Nat → Nat → Int) : refsLt n (wb k s) = true := by
  simp only [wb, refsLt]
  exact refs_of fun m hm => by obtain ⟨y, _, rfl⟩ := List.mem_map.mp hm; exact refs_rw n k _
end Mi

set_option Elab.async false
set_option linter.all false
set_option maxRecDepth 100000
set_option maxHeartbeats 1000000
namespace Mi
open PySem PySem.Spec L2 LibI Mz
set_option autoImplicit false
/-- the ties, ascending -/
def tiesL (n : Nat) (s : Nat → Nat → Int) : List (Nat × Nat) := (List.range n).flatMap fun x => ((rg (x + 1) n).filter fun y => s x y != 0).map fun y => (x, y)
theorem mem_tiesL {n : Nat} {s : Nat → Nat → Int} {p : Nat × Nat} : p ∈ tiesL n s ↔ p.1 < p.2 ∧ p.2 < n ∧ s p.1 p.2 ≠ 0 := by
  simp only [tiesL, List.mem_flatMap, List.mem_range, List.mem_map, List.mem_filter, mem_rg, bne_iff_ne]
  constructor
  · rintro ⟨x, hx, y, ⟨hy, hs⟩, rfl⟩; exact ⟨by simp; omega, by simp; omega, hs⟩
  · rintro ⟨h1, h2, h3⟩; exact ⟨p.1, by omega, p.2, ⟨by omega, h3⟩, rfl⟩
theorem tiesL_nd {n : Nat} {s : Nat → Nat → Int} : (tiesL n s).Nodup := by
  unfold tiesL
  rw [List.nodup_iff_pairwise_ne, List.pairwise_flatMap]
  constructor
  · intro x _
    rw [List.pairwise_map]
    exact ((List.nodup_iff_pairwise_ne.mp (rg_nd (x + 1) n)).filter _).imp fun h e => h (congrArg Prod.snd e)
  · exact (List.nodup_iff_pairwise_ne.mp (List.nodup_range (n := n))).imp fun {a b} h x hx y hy e => by
      obtain ⟨c, _, rfl⟩ := List.mem_map.mp hx
      obtain ⟨d, _, rfl⟩ := List.mem_map.mp hy
      exact h (congrArg Prod.fst e)
theorem rg_len (a n : Nat) : (rg a n).length = n - a := by simp [rg]
theorem tiesL_len (n : Nat) (s : Nat → Nat → Int) : (tiesL n s).length ≤ n * n := by
  unfold tiesL
  have := len_flatMap_le (l := List.range n) (f := fun x => ((rg (x + 1) n).filter fun y => s x y != 0).map fun y => (x, y)) (k := n) fun x _ => by
    rw [List.length_map]
    exact Nat.le_trans (List.length_filter_le _ _) (by rw [rg_len]; omega)
  simpa using this
def prV (p : Nat × Nat) : MV := .tup [.int (p.1 : Nat), .int (p.2 : Nat)]
def tiesV (n : Nat) (s : Nat → Nat → Int) : List MV := (tiesL n s).map prV
/-- the dict of the signs -/
def signsK (n : Nat) (s : Nat → Nat → Int) : KVs := (tiesL n s).map fun p => (k2 p.1 p.2, .int (s p.1 p.2))
theorem signsK_nd {n : Nat} {s : Nat → Nat → Int} : (keysK (signsK n s)).Nodup := by
  simp only [keysK, signsK, List.map_map]
  rw [List.nodup_iff_pairwise_ne, List.pairwise_map]
  exact (List.nodup_iff_pairwise_ne.mp tiesL_nd).imp fun {a b} h e => h (by
    have := k2_inj.mp e
    exact Prod.ext this.1 this.2)
theorem signsK_len (n : Nat) (s : Nat → Nat → Int) : (signsK n s).length ≤ n * n := by
  simp only [signsK, List.length_map]; exact tiesL_len n s
theorem getK_signs {n : Nat} {s : Nat → Nat → Int} {x y : Nat} : getK (signsK n s) (k2 x y) = if x < y ∧ y < n ∧ s x y ≠ 0 then some (.int (s x y)) else none := by
  by_cases h : x < y ∧ y < n ∧ s x y ≠ 0
  · rw [if_pos h]
    refine getK_of_mem signsK_nd ?_
    exact List.mem_map.mpr ⟨(x, y), mem_tiesL.mpr h, rfl⟩
  · rw [if_neg h, getK_none]
    intro hm
    simp only [keysK, signsK, List.map_map, List.mem_map] at hm
    obtain ⟨p, hp, e⟩ := hm
    have := k2_inj.mp e
    have hp := mem_tiesL.mp hp
    rw [this.1, this.2] at hp
    exact h hp
theorem look_signs {n : Nat} {s : Nat → Nat → Int} {x y : Nat} (hx : x < y) (hy : y < n) : look (signsK n s) x y = s x y := by
  unfold look
  rw [getK_signs]
  by_cases h : s x y = 0
  · rw [if_neg fun z => z.2.2 h]; exact h.symm
  · rw [if_pos ⟨hx, hy, h⟩]
/-- the values of a dict are numbers -/
def IntsK (kvs : KVs) : Prop := ∀ k v, getK kvs k = some v → ∃ i, v = .int i
theorem signsK_ints {n : Nat} {s : Nat → Nat → Int} : IntsK (signsK n s) := fun k v h => by
  obtain ⟨p, _, e⟩ := List.mem_map.mp (getK_mem h)
  exact ⟨_, (congrArg Prod.snd e).symm⟩
/-- the web by a dict -/
def byK (kvs : KVs) (x y : Nat) : Int := look kvs (min x y) (max x y)
theorem byK_sy (kvs : KVs) (x y : Nat) : byK kvs x y = byK kvs y x := by
  unfold byK; rw [Nat.min_comm, Nat.max_comm]
def S_ties_of (G : CallT) : Prop := ∀ n s h, n ≤ 20 → G "ties_of" [wb n s] h = .ok (.lst (tiesV n s)) h
def S_foes_of (G : CallT) : Prop := ∀ n s h, n ≤ 20 → G "foes_of" [wb n s] h = .ok (.lst (((tiesL n s).filter fun p => s p.1 p.2 == -1).map prV)) h
def S_signs_of (G : CallT) : Prop := ∀ n s h, n ≤ 20 → G "signs_of" [wb n s] h = .ok (.ref h.length) (h ++ [.dct true (signsK n s)])
def S_web_by (G : CallT) : Prop := ∀ n h d kvs, n ≤ 20 → h[d]? = some (.dct true kvs) → IntsK kvs → G "web_by" [.int (n : Nat), .ref d] h = .ok (wb n (byK kvs)) h
section
variable {G G' : CallT}
theorem p_check_web (h1 : S_is_web G) (r : Runs G G' "check_web" F_check_web) : S_check_web G' := fun n s h n1 n2 W => by
  rw [r.no rfl]
  simp [F_check_web, ir_check_web, N_check_web, startM, h1 n s h n1 n2 W]
theorem p_check_place (h1 : S_is_between G) (r : Runs G G' "check_place" F_check_place) : S_check_place G' := fun n x h hx => by
  rw [r.no rfl]
  have : (x : Int) ≤ n - 1 := by omega
  simp [F_check_place, ir_check_place, N_check_place, startM, h1 _ _ _ h, this]
theorem p_tie_between (r : Runs G G' "tie_between" F_tie_between) : S_tie_between G' := fun x y h => by
  rw [r.no rfl]
  simp [F_tie_between, ir_tie_between, N_tie_between, startM]
  by_cases q : x < y
  · have q2 : min x y = x := by omega
    have q3 : max x y = y := by omega
    simp [q, q2, q3]
  · have q2 : min x y = y := by omega
    have q3 : max x y = x := by omega
    simp [q, q2, q3]
theorem p_ties_of (r : Runs G G' "ties_of" F_ties_of) : S_ties_of G' := fun n s h hn => by
  rw [r.no rfl]
  show bodyR (evS G ir_ties_of (startM N_ties_of [wb n s]) h) = _
  unfold ir_ties_of
  simp only [N_ties_of, startM, List.map, List.length_cons, List.length_nil, List.replicate, List.cons_append, List.nil_append]
  refine b_asg (.int n) h (by simp) (b_ret ?_)
  have key : tiesV n s = (List.range n).flatMap fun x => ((rg (x + 1) n).filter fun y => s x y != 0).map fun y => MV.tup [.int (x : Nat), .int (y : Nat)] := by
    simp only [tiesV, tiesL, List.map_flatMap, List.map_map]; rfl
  rw [key]
  refine comp2_m (List.range n) (fun x => .int (x : Nat)) (fun x => rg (x + 1) n) (fun y => .int (y : Nat)) (fun x y => s x y != 0) (fun x y => .tup [.int (x : Nat), .int (y : Nat)]) (c := .no) ?_ trivial ?_ fun x hx => ?_
  · simp [rangeM_nn n h (by omega)]
  · exact Nat.le_trans (len_flatMap_le (k := 20) fun x _ => by rw [rg_len]; omega) (by simp only [List.length_range]; omega)
  · have hx' := List.mem_range.mp hx
    refine ⟨_, rfl, ?_, fun y hy => ⟨_, rfl, ?_, fun _ => ?_⟩⟩
    · have := rangeM_2 (x + 1) n h (by omega) (by omega) (by omega) (by omega)
      have e := rng_rg (x + 1) n
      simp only [Int.natCast_add, Int.cast_ofNat_Int] at e
      simp [wipeM, this, e]
    · have hy' := mem_rg.mp hy
      simp [wipeM, ix_wbn, ix_rwn, hx', hy'.2, bne]
    · simp [wipeM]
theorem p_foes_of (h1 : S_ties_of G) (r : Runs G G' "foes_of" F_foes_of) : S_foes_of G' := fun n s h hn => by
  rw [r.no rfl]
  show bodyR (evS G ir_foes_of (startM N_foes_of [wb n s]) h) = _
  unfold ir_foes_of
  simp only [N_foes_of, startM, List.map, List.length_cons, List.length_nil, List.replicate, List.cons_append, List.nil_append]
  refine b_ret (comp_f (tiesL n s) prV (fun p => s p.1 p.2 == -1) prV (c := .no) ?_ trivial ?_ fun p hp => ?_)
  · simp [h1 n s h hn, tiesV]
  · exact Nat.le_trans (tiesL_len n s) (Nat.le_trans (Nat.mul_le_mul hn hn) (by decide))
  · obtain ⟨a, b⟩ := p
    have := mem_tiesL.mp hp
    have ha : a < n := by simp at this; omega
    have hb : b < n := by simp at this; omega
    refine ⟨[some (wb n s), some (.int a), some (.int b)], by simp [prV, wipeM], ?_, fun _ => ?_⟩
    · simp [wipeM, ix_wbn, ix_rwn, ha, hb]
    · simp [wipeM, prV]
theorem p_signs_of (h1 : S_ties_of G) (r : Runs G G' "signs_of" F_signs_of) : S_signs_of G' := fun n s h hn => by
  rw [r.no rfl]
  show bodyR (evS G ir_signs_of (startM N_signs_of [wb n s]) h) = _
  unfold ir_signs_of
  simp only [N_signs_of, startM, List.map, List.length_cons, List.length_nil, List.replicate, List.cons_append, List.nil_append]
  have e : signsK n s = updAll [] ((tiesL n s).map fun p => (k2 p.1 p.2, .int (s p.1 p.2))) := (updAll_new (kvs := []) (by rw [List.nil_append]; exact signsK_nd)).symm
  rw [e]
  refine b_ret (dcomp_f (tiesL n s) prV prV (fun p => k2 p.1 p.2) (fun p => .int (s p.1 p.2)) (c := .no) ?_ (fun _ => trivial) ?_ fun p hp => ?_)
  · simp [h1 n s h hn, tiesV]
  · exact Nat.le_trans (tiesL_len n s) (Nat.le_trans (Nat.mul_le_mul hn hn) (by decide))
  · obtain ⟨a, b⟩ := p
    have := mem_tiesL.mp hp
    have ha : a < n := by simp at this; omega
    have hb : b < n := by simp at this; omega
    refine ⟨[some (wb n s), some (.int a), some (.int b)], by simp [prV, wipeM], rfl, fun kvs => ⟨?_, ?_⟩⟩
    · simp [wipeM, prV]
    · simp [wipeM, ix_wbn, ix_rwn, ha, hb]
theorem p_web_by (h1 : S_tie_between G) (r : Runs G G' "web_by" F_web_by) : S_web_by G' := fun n h d kvs hn hd hk => by
  rw [r.no rfl]
  show bodyR (evS G ir_web_by (startM N_web_by [.int n, .ref d]) h) = _
  unfold ir_web_by
  simp only [N_web_by, startM, List.map, List.length_cons, List.length_nil, List.replicate, List.cons_append, List.nil_append]
  refine b_ret (e_tuple (by simp; omega) (comp_m (List.range n) (fun x => .int (x : Nat)) (fun x => rw_ n (byK kvs x)) (c := .no) ?_ trivial (by simp; omega) fun x hx => ⟨_, rfl, ?_⟩))
  · simp [rangeM_nn n h (by omega)]
  · refine e_tuple (by simp; omega) (comp_m (List.range n) (fun x => .int (x : Nat)) (fun y => .int (byK kvs x y)) (c := .no) ?_ trivial (by simp; omega) fun y hy => ⟨_, rfl, ?_⟩)
    · simp [wipeM, rangeM_nn n h (by omega)]
    · have e : (getK kvs (k2 (min x y) (max x y))).getD (.int 0) = .int (byK kvs x y) := by
        unfold byK look
        cases q : getK kvs (k2 (min x y) (max x y)) with
        | none => rfl
        | some v => obtain ⟨i, rfl⟩ := hk _ _ q; rfl
      have e2 : dkey true (.tup [.int (min x y : Nat), .int (max x y : Nat)]) = some (k2 (min x y) (max x y)) := rfl
      simp only [ev_meth, evMeth, ev_var, wipeM, List.set_cons_succ, List.set_cons_zero, List.getElem?_cons_succ, List.getElem?_cons_zero, bind_ok', tyM, hd, mtOk_get, isT, beq_self_eq_true, if_true, evL_cons, evL_nil, ev_call, h1 x y h, ev_cst, mtOp_get, dgetM, dctOf_dct hd, e2, mapO_some, ofO_some', e]
end
end Mi

set_option Elab.async false
set_option linter.all false
set_option maxRecDepth 100000
set_option maxHeartbeats 1000000
namespace Mi
open PySem PySem.Spec L2 LibI Mz
set_option autoImplicit false
def S_check_room (G : CallT) : Prop := ∀ (n : Nat) h, n ≤ 10 → G "check_room" [.int n] h = .ok .non h
def S_is_tie (G : CallT) : Prop := ∀ n s a b h, n ≤ 20 → a < b → b < n → s a b ≠ 0 → G "is_tie" [wb n s, prV (a, b)] h = .ok (.bl true) h
def S_check_tie (G : CallT) : Prop := ∀ n s a b h, n ≤ 20 → a < b → b < n → s a b ≠ 0 → G "check_tie" [wb n s, prV (a, b)] h = .ok .non h
/-- the moved dict -/
def movedK (m : Nat) (V : Nat → Nat → Int) (nm : Nat → Nat) : KVs := (tiesL m V).map fun p => (k2 (min (nm p.1) (nm p.2)) (max (nm p.1) (nm p.2)), .int (V p.1 p.2))
def rowV (m : Nat) (nm : Nat → Nat) : List MV := (List.range m).map fun y => .int (nm y : Nat)
def S_moved_signs (G : CallT) : Prop := ∀ m V nm h d, m ≤ 20 → h[d]? = some (.lst (rowV m nm)) → (∀ x < m, ∀ y < m, nm x = nm y → x = y) → G "moved_signs" [wb m V, .ref d] h = .ok (.ref (h.length + 1)) (h ++ [.lck true (signsK m V), .dct true (movedK m V nm)])
def S_joined_at (G : CallT) : Prop := ∀ n s k V p q h, 1 ≤ n → n + k ≤ 10 → Vw n s → Vw (k + 1) V → p < n → q ≤ k → Cl h → ∃ J, Joined n (k + 1) p q s V J ∧ Vw (n + k) J ∧ G "joined_at" [wb n s, wb (k + 1) V, .int (p : Nat), .int (q : Nat)] h = .ok (wb (n + k) J) h
def S_parted_tie (G : CallT) : Prop := ∀ n s a b h, 1 ≤ n → n ≤ 9 → Vw n s → a < b → b < n → s a b ≠ 0 → Cl h → ∃ L, Parted n a b s L ∧ Vw (n + 1) L ∧ G "parted_tie" [wb n s, prV (a, b)] h = .ok (wb (n + 1) L) h
theorem minmax_eq {a b c d : Nat} (h : min a b = min c d) (k : max a b = max c d) : (a = c ∧ b = d) ∨ (a = d ∧ b = c) := by omega
theorem movedK_nd {m : Nat} {V : Nat → Nat → Int} {nm : Nat → Nat} (inj : ∀ x < m, ∀ y < m, nm x = nm y → x = y) : (keysK (movedK m V nm)).Nodup := by
  simp only [keysK, movedK, List.map_map]
  rw [List.nodup_iff_pairwise_ne, List.pairwise_map]
  refine List.Pairwise.imp_of_mem (fun {a b} ha hb h e => ?_) (List.nodup_iff_pairwise_ne.mp (tiesL_nd (n := m) (s := V)))
  have h1 := mem_tiesL.mp ha
  have h2 := mem_tiesL.mp hb
  have e := k2_inj.mp e
  rcases minmax_eq e.1 e.2 with ⟨q1, q2⟩ | ⟨q1, q2⟩
  · exact h (Prod.ext (inj _ (by omega) _ (by omega) q1) (inj _ (by omega) _ (by omega) q2))
  · have := inj _ (by omega) _ (by omega) q1
    have := inj _ (by omega) _ (by omega) q2
    omega
theorem movedK_ints {m : Nat} {V : Nat → Nat → Int} {nm : Nat → Nat} : IntsK (movedK m V nm) := fun k v h => by
  obtain ⟨p, _, e⟩ := List.mem_map.mp (getK_mem h)
  exact ⟨_, (congrArg Prod.snd e).symm⟩
theorem movedK_len (m : Nat) (V : Nat → Nat → Int) (nm : Nat → Nat) : (movedK m V nm).length ≤ m * m := by
  simp only [movedK, List.length_map]; exact tiesL_len m V
def hh (x y : Nat) : Int := PySem.reduceHash (Builtin.Tuple.tupleHashOf [PySem.hashInt (x : Nat), PySem.hashInt (y : Nat)])
theorem hashT_k2 (x y : Nat) : hashT (k2 x y) = some (hh x y) := rfl
theorem hh_all : ((List.range 100).map fun i => hh (i / 10) (i % 10)).Nodup := by decide +kernel
theorem hh_inj {x y x' y' : Nat} (hx : x < 10) (hy : y < 10) (hx' : x' < 10) (hy' : y' < 10) (e : hh x y = hh x' y') : x = x' ∧ y = y' := by
  have nd := hh_all
  rw [List.nodup_iff_pairwise_ne, List.pairwise_map, List.pairwise_iff_getElem] at nd
  have key : ∀ i j : Nat, i < 100 → j < 100 → i < j → hh (i / 10) (i % 10) ≠ hh (j / 10) (j % 10) := fun i j hi hj hij => by
    have := nd i j (by simpa using hi) (by simpa using hj) hij
    simpa using this
  have e1 : (x * 10 + y) / 10 = x := by omega
  have e2 : (x * 10 + y) % 10 = y := by omega
  have e3 : (x' * 10 + y') / 10 = x' := by omega
  have e4 : (x' * 10 + y') % 10 = y' := by omega
  rcases Nat.lt_trichotomy (x * 10 + y) (x' * 10 + y') with q | q | q
  · have := key _ _ (by omega) (by omega) q
    rw [e1, e2, e3, e4] at this; exact absurd e this
  · omega
  · have := key _ _ (by omega) (by omega) q
    rw [e1, e2, e3, e4] at this; exact absurd e.symm this
theorem apart_of {α : Type} {l : List α} {f : α → Nat × Nat} {v : α → MV} (nd : (l.map f).Nodup) (lt : ∀ a ∈ l, (f a).1 < 10 ∧ (f a).2 < 10) : apartT (l.map fun a => (k2 (f a).1 (f a).2, v a)) = true := by
  unfold apartT
  have e : (l.map fun a => (k2 (f a).1 (f a).2, v a)).mapM (fun kv => hashT kv.1) = some (l.map fun a => hh (f a).1 (f a).2) := by
    clear nd lt
    induction l with
    | nil => rfl
    | cons a l ih => simp only [List.map_cons, List.mapM_cons, hashT_k2, ih]; rfl
  rw [e]
  simp only []
  rw [decide_eq_true_iff]
  rw [List.nodup_iff_pairwise_ne, List.pairwise_map] at nd ⊢
  refine List.Pairwise.imp_of_mem (fun {a b} ha hb h e => ?_) nd
  have h1 := lt a ha
  have h2 := lt b hb
  have := hh_inj h1.1 h1.2 h2.1 h2.2 e
  exact h (Prod.ext this.1 this.2)
section
variable {G G' : CallT}
theorem p_check_room (r : Runs G G' "check_room" F_check_room) : S_check_room G' := fun n h hn => by
  rw [r.no rfl]
  have : ¬ (10 : Int) < n := by omega
  simp [F_check_room, ir_check_room, N_check_room, startM, this]
theorem p_is_tie (h1 : S_is_between G) (h2 : S_is_tuple_of G) (r : Runs G G' "is_tie" F_is_tie) : S_is_tie G' := fun n s a b h hn hab hb hs => by
  rw [r.no rfl]
  show bodyR (evS G ir_is_tie (startM N_is_tie [wb n s, prV (a, b)]) h) = _
  unfold ir_is_tie
  simp only [N_is_tie, startM, List.map, List.length_cons, List.length_nil, List.replicate, List.cons_append, List.nil_append]
  refine b_if_no (h1 := h) (t_or (x := false) (y := false) (h1 := h) ?_ fun _ => t_not (x := true) (t_tru ?_)) ?_
  · simp [h2 _ _ h, prV]
  · refine e_allt [a, b] (fun x => .int (x : Nat)) (c := .no) (by simp [prV]) trivial (by simp) fun x hx => ⟨_, rfl, ?_⟩
    have : x < n := by simp at hx; omega
    have e : (x : Int) ≤ n - 1 := by omega
    simp [wipeM, h1 _ _ _ h, e]
  · refine b_ret (e_and (x := true) (y := true) ?_ fun _ => ?_)
    · have e0 : atI [MV.int (a : Nat), MV.int (b : Nat)] 0 = some (.int (a : Nat)) := rfl
      have e1 : atI [MV.int (a : Nat), MV.int (b : Nat)] 1 = some (.int (b : Nat)) := rfl
      have : (a : Int) < b := by omega
      simp [prV, e0, e1, hab]
    · have e0 : atI [MV.int (a : Nat), MV.int (b : Nat)] 0 = some (.int (a : Nat)) := rfl
      have e1 : atI [MV.int (a : Nat), MV.int (b : Nat)] 1 = some (.int (b : Nat)) := rfl
      have ha : a < n := by omega
      simp [prV, e0, e1, ix_wbn, ix_rwn, ha, hb, hs]
theorem p_check_tie (h1 : S_is_tie G) (r : Runs G G' "check_tie" F_check_tie) : S_check_tie G' := fun n s a b h hn hab hb hs => by
  rw [r.no rfl]
  simp [F_check_tie, ir_check_tie, N_check_tie, startM, h1 n s a b h hn hab hb hs]
theorem p_moved_signs (h1 : S_signs_of G) (h2 : S_tie_between G) (r : Runs G G' "moved_signs" F_moved_signs) : S_moved_signs G' := fun m V nm h d hm hd inj => by
  rw [r.no rfl]
  show bodyR (evS G ir_moved_signs (startM N_moved_signs [wb m V, .ref d]) h) = _
  unfold ir_moved_signs
  simp only [N_moved_signs, startM, List.map, List.length_cons, List.length_nil, List.replicate, List.cons_append, List.nil_append]
  have e : movedK m V nm = updAll [] ((tiesL m V).map fun p => (k2 (min (nm p.1) (nm p.2)) (max (nm p.1) (nm p.2)), .int (V p.1 p.2))) := (updAll_new (kvs := []) (by rw [List.nil_append]; exact movedK_nd inj)).symm
  have e2 : h ++ [MO.lck true (signsK m V), .dct true (movedK m V nm)] = (h ++ [.lck true (signsK m V)]) ++ [.dct true (movedK m V nm)] := by simp
  have e3 : h.length + 1 = (h ++ [MO.lck true (signsK m V)]).length := by simp
  have hdl : d < h.length := by
    apply Classical.byContradiction
    intro z
    rw [List.getElem?_eq_none (by omega)] at hd
    cases hd
  rw [e2, e3, e]
  refine b_ret (dcomp_f (tiesL m V) (fun p => .tup [prV p, .int (V p.1 p.2)]) (fun p => .tup [.int (min (nm p.1) (nm p.2) : Nat), .int (max (nm p.1) (nm p.2) : Nat)]) (fun p => k2 (min (nm p.1) (nm p.2)) (max (nm p.1) (nm p.2))) (fun p => .int (V p.1 p.2)) (c := .lck h.length true (signsK m V)) ?_ (fun kvs => ?_) ?_ fun p hp => ?_)
  · have hk : ∀ kv ∈ signsK m V, kv.1.length ≤ 1000 := fun kv hkv => by
      obtain ⟨p, _, rfl⟩ := List.mem_map.mp hkv
      simp [k2]
    have hi : itemPairs true (signsK m V) = (tiesL m V).map fun p => .tup [prV p, .int (V p.1 p.2)] := by
      simp only [itemPairs, signsK, List.map_map]; rfl
    have hg : (h ++ [MO.dct true (signsK m V)])[h.length]? = some (.dct true (signsK m V)) := by simp
    have hl : lockM (.ref h.length) (h ++ [MO.dct true (signsK m V)]) = some (((tiesL m V).map fun p => .tup [prV p, .int (V p.1 p.2)], .lck h.length true (signsK m V)), h ++ [.lck true (signsK m V)]) := by
      simp only [lockM, hg]
      rw [if_pos fun _ => hk, hi, setLast_h]
    simp only [evI_items, evItems, ev_call, evL_cons, evL_nil, ev_var, List.getElem?_cons_zero, bind_ok', h1 m V h hm, hl]
  · simp [Chk.ok]
  · exact Nat.le_trans (tiesL_len m V) (Nat.le_trans (Nat.mul_le_mul hm hm) (by decide))
  · obtain ⟨a, b⟩ := p
    have := mem_tiesL.mp hp
    have ha : a < m := by simp at this; omega
    have hb : b < m := by simp at this; omega
    refine ⟨[some (wb m V), some (.ref d), some (.int (V a b)), some (.int a), some (.int b)], by simp [prV, wipeM], rfl, fun kvs => ⟨?_, ?_⟩⟩
    · have hg : ∀ kvs, ((h ++ [MO.lck true (signsK m V)]) ++ [MO.dct true kvs])[d]? = some (.lst (rowV m nm)) := fun kvs => by
        rw [List.append_assoc, List.getElem?_append_left hdl]; exact hd
      have ix : ∀ kvs x, x < m → ixM (.ref d) (.int (x : Nat)) ((h ++ [MO.lck true (signsK m V)]) ++ [MO.dct true kvs]) = some (.int (nm x : Nat), (h ++ [MO.lck true (signsK m V)]) ++ [MO.dct true kvs]) := fun kvs x hx => by
        simp only [ixM, dctOf_lstr (hg kvs), sqOf, sqLOf, lstOf, hg, atI_nat]
        simp [rowV, hx]
      simp only [ev_call, evL_cons, evL_nil, ev_ix, ev_var, List.getElem?_cons_zero, List.getElem?_cons_succ, bind_ok', ix _ _ ha, ix _ _ hb, ofO_some']
      exact h2 _ _ _
    · simp
end
section
variable {n k p q : Nat} {s V : Nat → Nat → Int}
theorem moved_get (hp : p < n) {x y : Nat} (hx : x < k + 1) (hy : y < k + 1) (hxy : x < y) : getK (movedK (k + 1) V (nam n p q)) (k2 (min (nam n p q x) (nam n p q y)) (max (nam n p q x) (nam n p q y))) = if V x y ≠ 0 then some (.int (V x y)) else none := by
  have inj : ∀ x < k + 1, ∀ y < k + 1, nam n p q x = nam n p q y → x = y := fun x _ y _ => nam_inj hp
  by_cases h : V x y ≠ 0
  · rw [if_pos h]
    exact getK_of_mem (movedK_nd inj) (List.mem_map.mpr ⟨(x, y), mem_tiesL.mpr ⟨hxy, hy, h⟩, rfl⟩)
  · rw [if_neg h, getK_none]
    intro hm
    simp only [keysK, movedK, List.map_map, List.mem_map] at hm
    obtain ⟨z, hz, e⟩ := hm
    have e := k2_inj.mp e
    have hz := mem_tiesL.mp hz
    rcases minmax_eq e.1 e.2 with ⟨q1, q2⟩ | ⟨q1, q2⟩
    · rw [nam_inj hp q1, nam_inj hp q2] at hz; exact h hz.2.2
    · have := nam_inj hp q1
      have := nam_inj hp q2
      omega
theorem moved_none (hp : p < n) {a b : Nat} (h : ∀ x < k + 1, ∀ y < k + 1, x ≠ y → nam n p q x = a → nam n p q y ≠ b) : getK (movedK (k + 1) V (nam n p q)) (k2 (min a b) (max a b)) = none := by
  rw [getK_none]
  intro hm
  simp only [keysK, movedK, List.map_map, List.mem_map] at hm
  obtain ⟨z, hz, e⟩ := hm
  have e := k2_inj.mp e
  have hz := mem_tiesL.mp hz
  rcases minmax_eq e.1 e.2 with ⟨q1, q2⟩ | ⟨q1, q2⟩
  · exact h _ (by omega) _ (by omega) (by omega) q1 q2
  · exact h z.2 (by omega) z.1 (by omega) (by omega) q2 q1
/-- the joined web's dict -/
def joinK (n k p q : Nat) (s V : Nat → Nat → Int) : KVs := updAll (signsK n s) (movedK (k + 1) V (nam n p q))
theorem joinK_get (hp : p < n) (a b : Nat) : getK (joinK n k p q s V) (k2 a b) = (getK (movedK (k + 1) V (nam n p q)) (k2 a b)).or (getK (signsK n s) (k2 a b)) :=
  getK_upd (movedK_nd fun x _ y _ => nam_inj hp)
theorem joinK_ints (hp : p < n) : IntsK (joinK n k p q s V) := fun key v h => by
  rw [joinK, getK_upd (movedK_nd fun x _ y _ => nam_inj hp)] at h
  cases e : getK (movedK (k + 1) V (nam n p q)) key with
  | none => rw [e] at h; exact signsK_ints _ _ h
  | some w => rw [e] at h; cases h; exact movedK_ints _ _ e
theorem nam_lt_n (hp : p < n) {x : Nat} (h : nam n p q x < n) : x = q := by
  unfold nam at h
  by_cases e : x = q
  · exact e
  · rw [if_neg e] at h; omega
theorem join_named (hp : p < n) (hq : q ≤ k) (X : Vw (k + 1) V) {x y : Nat} (hx : x < k + 1) (hy : y < k + 1) (hxy : x ≠ y) : byK (joinK n k p q s V) (nam n p q x) (nam n p q y) = V x y := by
  have main : ∀ x y, x < k + 1 → y < k + 1 → x < y → byK (joinK n k p q s V) (nam n p q x) (nam n p q y) = V x y := fun x y hx hy h => by
    unfold byK look
    rw [joinK_get hp, moved_get hp hx hy h]
    by_cases e : V x y = 0
    · rw [if_neg (by simp [e]), getK_signs, if_neg, e]; rfl
      intro z
      have := nam_lt_n (n := n) (p := p) (q := q) hp (x := x) (by omega)
      have := nam_lt_n (n := n) (p := p) (q := q) hp (x := y) (by omega)
      omega
    · rw [if_pos e]; rfl
  rcases Nat.lt_or_gt_of_ne hxy with h | h
  · exact main x y hx hy h
  · rw [byK_sy, X.sy]; exact main y x hy hx h
theorem join_old (hp : p < n) (W : Vw n s) {x y : Nat} (hx : x < n) (hy : y < n) (hxy : x ≠ y) : byK (joinK n k p q s V) x y = s x y := by
  unfold byK look
  rw [joinK_get hp, moved_none hp fun a _ b _ hab e1 e2 => by
    have := nam_lt_n (n := n) (p := p) (q := q) hp (x := a) (by omega)
    have := nam_lt_n (n := n) (p := p) (q := q) hp (x := b) (by omega)
    omega]
  have e := look_signs (n := n) (s := s) (x := min x y) (y := max x y) (by omega) (by omega)
  unfold look at e
  rw [Option.none_or, e]
  rcases Nat.lt_or_gt_of_ne hxy with h | h
  · rw [show min x y = x by omega, show max x y = y by omega]
  · rw [show min x y = y by omega, show max x y = x by omega, W.sy]
theorem join_off (hp : p < n) {x y : Nat} (hx : n ≤ x) (hy : y < n) (hyp : y ≠ p) : byK (joinK n k p q s V) x y = 0 := by
  unfold byK look
  rw [joinK_get hp, moved_none hp fun a _ b _ hab e1 e2 => by
    have := nam_lt_n (n := n) (p := p) (q := q) hp (x := b) (by omega)
    subst this
    unfold nam at e2
    rw [if_pos rfl] at e2; omega, getK_signs, if_neg (by omega)]; rfl
theorem join_dg (hp : p < n) (x : Nat) : byK (joinK n k p q s V) x x = 0 := by
  unfold byK look
  rw [joinK_get hp, moved_none hp fun a _ b _ hab e1 e2 => hab (nam_inj hp (e1.trans e2.symm)), getK_signs, if_neg (by omega)]; rfl
theorem nam_q : nam n p q q = p := if_pos rfl
theorem nam_up {i : Nat} : nam n p q (up q i) = n + i := by
  unfold nam
  by_cases e : i < q
  · rw [up_lt e, if_neg (by omega), if_pos e]
  · rw [up_ge (by omega), if_neg (by omega), if_neg (by omega)]; omega
theorem up_lt' {i : Nat} (hq : q ≤ k) (h : i < k) : up q i < k + 1 := by unfold up; split <;> omega
theorem up_ne {i : Nat} : up q i ≠ q := by unfold up; split <;> omega
theorem up_inj {i j : Nat} (h : up q i = up q j) : i = j := by unfold up at h; split at h <;> split at h <;> omega
theorem join_joined (hp : p < n) (hq : q ≤ k) (W : Vw n s) (X : Vw (k + 1) V) : Joined n (k + 1) p q s V (byK (joinK n k p q s V)) where
  a x hx y hy := by
    by_cases e : x = y
    · subst e; rw [join_dg hp, W.dg x hx]
    · exact join_old hp W hx hy e
  b i hi y hy := by
    by_cases e : y = p
    · subst e
      rw [if_pos rfl]
      have := join_named (s := s) hp hq X (up_lt' hq (i := i) (by omega)) (show q < k + 1 by omega) up_ne
      rwa [nam_up, nam_q] at this
    · rw [if_neg e]; exact join_off hp (by omega) hy e
  c i hi j hj := by
    by_cases e : i = j
    · subst e; rw [join_dg hp, X.dg _ (up_lt' hq (by omega))]
    · have := join_named (s := s) hp hq X (up_lt' hq (i := i) (by omega)) (up_lt' hq (i := j) (by omega)) fun z => e (up_inj z)
      rwa [nam_up, nam_up] at this
theorem join_vw (hp : p < n) (hq : q ≤ k) (W : Vw n s) (X : Vw (k + 1) V) : Vw (n + k) (byK (joinK n k p q s V)) := by
  have J := join_joined hp hq W X
  have sy : ∀ x y, byK (joinK n k p q s V) x y = byK (joinK n k p q s V) y x := byK_sy _
  have bd : ∀ x y, x < n + k → y < n + k → -1 ≤ byK (joinK n k p q s V) x y ∧ byK (joinK n k p q s V) x y ≤ 1 := by
    have m1 : ∀ i y, i < k → y < n → -1 ≤ byK (joinK n k p q s V) (n + i) y ∧ byK (joinK n k p q s V) (n + i) y ≤ 1 := fun i y hi hy => by
      rw [J.b i (by omega) y hy]
      split
      · exact ⟨X.lo _ _ (up_lt' hq hi) (by omega), X.hi _ _ (up_lt' hq hi) (by omega)⟩
      · decide
    intro x y hx hy
    by_cases e1 : x < n <;> by_cases e2 : y < n
    · rw [J.a x e1 y e2]; exact ⟨W.lo x y e1 e2, W.hi x y e1 e2⟩
    · have := m1 (y - n) x (by omega) e1
      rw [show n + (y - n) = y by omega] at this
      rw [sy]; exact this
    · have := m1 (x - n) y (by omega) e2
      rw [show n + (x - n) = x by omega] at this
      exact this
    · have := J.c (x - n) (by omega) (y - n) (by omega)
      rw [show n + (x - n) = x by omega, show n + (y - n) = y by omega] at this
      rw [this]
      exact ⟨X.lo _ _ (up_lt' hq (by omega)) (up_lt' hq (by omega)), X.hi _ _ (up_lt' hq (by omega)) (up_lt' hq (by omega))⟩
  exact ⟨sy, fun x _ => join_dg hp x, fun x y hx hy => (bd x y hx hy).1, fun x y hx hy => (bd x y hx hy).2⟩
end
theorem rowV_set {n p q k : Nat} (hq : q ≤ k) : ((List.range (k + 1)).map fun (y : Nat) => MV.int ((n : Int) + (y : Int) - if q < y then 1 else 0)).set q (.int (p : Nat)) = rowV (k + 1) (nam n p q) := by
  apply List.ext_getElem?
  intro i
  unfold rowV
  rw [List.getElem?_set]
  simp only [List.getElem?_map, List.getElem?_range, List.length_map, List.length_range]
  by_cases e : q = i
  · subst e
    rw [if_pos rfl, if_pos (by omega), List.getElem?_range (by omega)]
    simp [nam]
  · rw [if_neg e]
    by_cases hi : i < k + 1
    · rw [List.getElem?_range hi]
      simp only [Option.map_some]
      congr 2
      unfold nam
      rw [if_neg fun (z : i = q) => e z.symm]
      by_cases h : i < q
      · rw [if_neg (by omega), if_pos h]; omega
      · rw [if_pos (by omega), if_neg h]; omega
    · have : (List.range (k + 1))[i]? = none := List.getElem?_eq_none (by simpa using hi)
      rw [this]; rfl
section
variable {G G' : CallT}
theorem p_joined_at (h1 : S_check_web G) (h2 : S_check_place G) (h3 : S_check_room G) (h4 : S_signs_of G) (h5 : S_moved_signs G) (h6 : S_web_by G) (r : Runs G G' "joined_at" F_joined_at) : S_joined_at G' := fun n s k V p q h n1 nk W X hp hq c => by
  refine ⟨_, join_joined hp hq W X, join_vw hp hq W X, ?_⟩
  rw [r.yes rfl]
  have main : bodyR (evS G ir_joined_at (startM N_joined_at [wb n s, wb (k + 1) V, .int (p : Nat), .int (q : Nat)]) h) = .ok (wb (n + k) (byK (joinK n k p q s V))) (h ++ [.lst (rowV (k + 1) (nam n p q)), .dct true (joinK n k p q s V), .lck true (signsK (k + 1) V), .dct true (movedK (k + 1) V (nam n p q))]) := by
    unfold ir_joined_at
    simp only [N_joined_at, startM, List.map, List.length_cons, List.length_nil, List.replicate, List.cons_append, List.nil_append]
    refine b_ex .non h (by simp [h1 n s h n1 (by omega) W]) ?_
    refine b_ex .non h (by simp [h1 (k + 1) V h (by omega) (by omega) X]) ?_
    refine b_ex .non h (by simp [h2 n p h hp]) ?_
    refine b_ex .non h (by have := h2 (k + 1) q h (by omega); simp at this; simp [this]) ?_
    refine b_asg (.int (n + k : Nat)) h (by simp; omega) ?_
    refine b_ex .non h (by have := h3 (n + k) h nk; simp at this; simp [this]) ?_
    refine b_asg (.ref h.length) (h ++ [.lst ((List.range (k + 1)).map fun (y : Nat) => MV.int ((n : Int) + (y : Int) - if q < y then 1 else 0))]) (comp_mt (List.range (k + 1)) (fun y => .int (y : Nat)) _ (c := .no) ?_ trivial (by simp; omega) fun y hy => ⟨_, rfl, ?_⟩) ?_
    · have := rangeM_nn (k + 1) h (by omega)
      simp only [Int.natCast_add, Int.cast_ofNat_Int] at this
      have e := rng_nat (k + 1)
      simp only [Int.natCast_add, Int.cast_ofNat_Int, Int.sub_zero, Int.zero_add] at e
      simp [this, e]
    · simp [wipeM, intM]
    refine b_nx (env1 := [some (wb n s), some (wb (k + 1) V), some (.int (p : Nat)), some (.int (q : Nat)), some (.int (n + k : Nat)), some (.ref h.length), none, none]) (h1 := h ++ [.lst (rowV (k + 1) (nam n p q))]) ?_ ?_
    · have e : putM (.ref h.length) (.int (q : Nat)) (.int (p : Nat)) (h ++ [.lst ((List.range (k + 1)).map fun (y : Nat) => MV.int ((n : Int) + (y : Int) - if q < y then 1 else 0))]) = some (h ++ [.lst (rowV (k + 1) (nam n p q))]) := by
        have hx : L2.ixN (k + 1) (q : Int) = some q := by
          unfold L2.ixN
          rw [if_pos (by omega), if_pos (by omega)]; simp
        simp only [putM, getLast_h, List.length_map, List.length_range, hx, mapO_some, setLast_h, rowV_set hq]
      simp [evsPut, e]
    refine b_asg (.ref (h.length + 1)) (h ++ [.lst (rowV (k + 1) (nam n p q)), .dct true (signsK n s)]) (by
      have := h4 n s (h ++ [.lst (rowV (k + 1) (nam n p q))]) (by omega)
      simp at this; simp [this]) ?_
    have hd0 : (h ++ [MO.lst (rowV (k + 1) (nam n p q)), .dct true (signsK n s)])[h.length]? = some (.lst (rowV (k + 1) (nam n p q))) := by simp
    have hd1 : (h ++ [MO.lst (rowV (k + 1) (nam n p q)), .dct true (signsK n s)])[h.length + 1]? = some (.dct true (signsK n s)) := by simp
    have hmv := h5 (k + 1) V (nam n p q) (h ++ [MO.lst (rowV (k + 1) (nam n p q)), .dct true (signsK n s)]) h.length (by omega) hd0 (fun x _ y _ => nam_inj hp)
    have hl : (h ++ [MO.lst (rowV (k + 1) (nam n p q)), .dct true (signsK n s)]).length + 1 = h.length + 3 := by simp
    have ha : (h ++ [MO.lst (rowV (k + 1) (nam n p q)), .dct true (signsK n s)]) ++ [MO.lck true (signsK (k + 1) V), .dct true (movedK (k + 1) V (nam n p q))] = h ++ [.lst (rowV (k + 1) (nam n p q)), .dct true (signsK n s), .lck true (signsK (k + 1) V), .dct true (movedK (k + 1) V (nam n p q))] := by simp
    rw [hl, ha] at hmv
    have hu : updateM "dict" (.ref (h.length + 1)) [.ref (h.length + 3)] (h ++ [.lst (rowV (k + 1) (nam n p q)), .dct true (signsK n s), .lck true (signsK (k + 1) V), .dct true (movedK (k + 1) V (nam n p q))]) = some (.non, h ++ [.lst (rowV (k + 1) (nam n p q)), .dct true (joinK n k p q s V), .lck true (signsK (k + 1) V), .dct true (movedK (k + 1) V (nam n p q))]) := by
      have g1 : (h ++ [MO.lst (rowV (k + 1) (nam n p q)), .dct true (signsK n s), .lck true (signsK (k + 1) V), .dct true (movedK (k + 1) V (nam n p q))])[h.length + 1]? = some (.dct true (signsK n s)) := by simp
      have g3 : (h ++ [MO.lst (rowV (k + 1) (nam n p q)), .dct true (signsK n s), .lck true (signsK (k + 1) V), .dct true (movedK (k + 1) V (nam n p q))])[h.length + 3]? = some (.dct true (movedK (k + 1) V (nam n p q))) := by simp
      have gs : (h ++ [MO.lst (rowV (k + 1) (nam n p q)), .dct true (signsK n s), .lck true (signsK (k + 1) V), .dct true (movedK (k + 1) V (nam n p q))]).set (h.length + 1) (.dct true (joinK n k p q s V)) = h ++ [.lst (rowV (k + 1) (nam n p q)), .dct true (joinK n k p q s V), .lck true (signsK (k + 1) V), .dct true (movedK (k + 1) V (nam n p q))] := by
        rw [List.set_append_right _ _ (by omega)]; simp
      have hap : apartT (movedK (k + 1) V (nam n p q)) = true := by
        refine apart_of (f := fun (z : Nat × Nat) => (min (nam n p q z.1) (nam n p q z.2), max (nam n p q z.1) (nam n p q z.2))) (v := fun z => MV.int (V z.1 z.2)) ?_ fun z hz => ?_
        · have := movedK_nd (m := k + 1) (V := V) (nm := nam n p q) fun x _ y _ => nam_inj hp
          simp only [keysK, movedK, List.map_map] at this
          rw [List.nodup_iff_pairwise_ne, List.pairwise_map] at this ⊢
          exact this.imp fun h e => h (by simp only [Function.comp_apply]; rw [k2_inj]; exact ⟨congrArg Prod.fst e, congrArg Prod.snd e⟩)
        · have := mem_tiesL.mp hz
          have h1 := nam_lt (p := p) hp hq (y := z.1) (by omega)
          have h2 := nam_lt (p := p) hp hq (y := z.2) (by omega)
          simp only []; omega
      have b1 := signsK_len n s
      have b2 := movedK_len (k + 1) V (nam n p q)
      have b3 : n * n ≤ 10 * 10 := Nat.mul_le_mul (by omega) (by omega)
      have b4 : (k + 1) * (k + 1) ≤ 11 * 11 := Nat.mul_le_mul (by omega) (by omega)
      simp only [updateM]
      rw [if_neg (by omega)]
      simp only [g1, dctOf_dct g3]
      rw [if_pos ⟨trivial, by omega, fun _ => .inr hap⟩, ← gs]; rfl
    refine b_ex .non (h ++ [.lst (rowV (k + 1) (nam n p q)), .dct true (joinK n k p q s V), .lck true (signsK (k + 1) V), .dct true (movedK (k + 1) V (nam n p q))]) (by
      simp only [List.set_cons_succ, List.set_cons_zero, ev_meth, evMeth, ev_var, List.getElem?_cons_succ, List.getElem?_cons_zero, bind_ok', tyM, hd1, mtOk_update, isT, beq_self_eq_true, if_true, evL_cons, evL_nil, ev_call, hmv, mtOp_update, hu, ofO_some']) ?_
    refine b_ret ?_
    have g1 : (h ++ [MO.lst (rowV (k + 1) (nam n p q)), .dct true (joinK n k p q s V), .lck true (signsK (k + 1) V), .dct true (movedK (k + 1) V (nam n p q))])[h.length + 1]? = some (.dct true (joinK n k p q s V)) := by simp
    have := h6 (n + k) _ (h.length + 1) _ (by omega) g1 (joinK_ints hp)
    simp at this
    simp [this]
  show gcR h (bodyR (evS G ir_joined_at (startM N_joined_at [wb n s, wb (k + 1) V, .int (p : Nat), .int (q : Nat)]) h)) = _
  rw [main]
  exact gc_ok c (refs_wb _ _ _)
end
end Mi

set_option Elab.async false
set_option linter.all false
set_option maxRecDepth 100000
set_option maxHeartbeats 1000000
namespace Mi
open PySem PySem.Spec L2 LibI Mz
set_option autoImplicit false
def partK (n a b : Nat) (s : Nat → Nat → Int) : KVs := setK (setK (delK (signsK n s) (k2 a b)) (k2 a n) (.int 1)) (k2 b n) (.int (s a b))
section
variable {n a b : Nat} {s : Nat → Nat → Int}
theorem partK_get (x y : Nat) : getK (partK n a b s) (k2 x y) = if x = b ∧ y = n then some (.int (s a b)) else if x = a ∧ y = n then some (.int 1) else if x = a ∧ y = b then none else getK (signsK n s) (k2 x y) := by
  unfold partK
  rw [getK_set, getK_set, getK_del]
  simp only [k2_inj]
theorem partK_ints : IntsK (partK n a b s) := fun k v h => by
  unfold partK at h
  rw [getK_set, getK_set, getK_del] at h
  split at h
  · cases h; exact ⟨_, rfl⟩
  · split at h
    · cases h; exact ⟨_, rfl⟩
    · split at h
      · cases h
      · exact signsK_ints _ _ h
theorem part_old (W : Vw n s) (hab : a < b) (hb : b < n) {x y : Nat} (hx : x < n) (hy : y < n) : byK (partK n a b s) x y = if (x = a ∧ y = b) ∨ (x = b ∧ y = a) then 0 else s x y := by
  unfold byK look
  rw [partK_get, if_neg (by omega), if_neg (by omega)]
  by_cases e : (x = a ∧ y = b) ∨ (x = b ∧ y = a)
  · rw [if_pos e, if_pos (by omega)]
  · rw [if_neg e, if_neg (by omega)]
    by_cases q : x = y
    · subst q
      rw [getK_signs, if_neg (by omega), W.dg x hx]
    · have e := look_signs (n := n) (s := s) (x := min x y) (y := max x y) (by omega) (by omega)
      unfold look at e
      rw [e]
      rcases Nat.lt_or_gt_of_ne q with h | h
      · rw [show min x y = x by omega, show max x y = y by omega]
      · rw [show min x y = y by omega, show max x y = x by omega, W.sy]
theorem part_new (hab : a < b) (hb : b < n) {y : Nat} (hy : y < n) : byK (partK n a b s) n y = if y = a then 1 else if y = b then s a b else 0 := by
  unfold byK look
  rw [partK_get, show min n y = y by omega, show max n y = n by omega]
  by_cases e : y = a
  · rw [if_pos e, if_neg (by omega), if_pos ⟨e, rfl⟩]
  · rw [if_neg e]
    by_cases e2 : y = b
    · rw [if_pos e2, if_pos ⟨e2, rfl⟩]
    · rw [if_neg e2, if_neg (by omega), if_neg (by omega), if_neg (by omega), getK_signs, if_neg (by omega)]
theorem part_vw (W : Vw n s) (hab : a < b) (hb : b < n) : Vw (n + 1) (byK (partK n a b s)) := by
  have dn : byK (partK n a b s) n n = 0 := by
    unfold byK look
    rw [partK_get]
    simp only [Nat.min_self, Nat.max_self]
    rw [if_neg (by omega), if_neg (by omega), if_neg (by omega), getK_signs, if_neg (by omega)]
  have bd : ∀ x y, x < n + 1 → y < n + 1 → -1 ≤ byK (partK n a b s) x y ∧ byK (partK n a b s) x y ≤ 1 := by
    have m1 : ∀ y, y < n → -1 ≤ byK (partK n a b s) n y ∧ byK (partK n a b s) n y ≤ 1 := fun y hy => by
      rw [part_new hab hb hy]
      have := W.lo a b (by omega) hb
      have := W.hi a b (by omega) hb
      split
      · decide
      · split
        · omega
        · decide
    intro x y hx hy
    by_cases e1 : x < n <;> by_cases e2 : y < n
    · rw [part_old W hab hb e1 e2]
      have := W.lo x y e1 e2
      have := W.hi x y e1 e2
      split
      · decide
      · omega
    · rw [byK_sy, show y = n by omega]; exact m1 x e1
    · rw [show x = n by omega]; exact m1 y e2
    · rw [show x = n by omega, show y = n by omega, dn]; decide
  refine ⟨byK_sy _, fun x hx => ?_, fun x y hx hy => (bd x y hx hy).1, fun x y hx hy => (bd x y hx hy).2⟩
  by_cases e : x < n
  · rw [part_old W hab hb e e, if_neg (by omega), W.dg x e]
  · rw [show x = n by omega, dn]
theorem part_parted (W : Vw n s) (hab : a < b) (hb : b < n) : Parted n a b s (byK (partK n a b s)) := ⟨fun x hx y hy => part_old W hab hb hx hy, fun y hy => part_new hab hb hy⟩
variable {G G' : CallT}
theorem p_parted_tie (h1 : S_check_web G) (h2 : S_check_tie G) (h3 : S_check_room G) (h4 : S_signs_of G) (h6 : S_web_by G) (r : Runs G G' "parted_tie" F_parted_tie) : S_parted_tie G' := fun n s a b h n1 nk W hab hb hs c => by
  refine ⟨_, part_parted W hab hb, part_vw W hab hb, ?_⟩
  rw [r.yes rfl]
  have main : bodyR (evS G ir_parted_tie (startM N_parted_tie [wb n s, prV (a, b)]) h) = .ok (wb (n + 1) (byK (partK n a b s))) (h ++ [.dct true (partK n a b s)]) := by
    unfold ir_parted_tie
    simp only [N_parted_tie, startM, List.map, List.length_cons, List.length_nil, List.replicate, List.cons_append, List.nil_append]
    refine b_ex .non h (by simp [h1 n s h n1 (by omega) W]) ?_
    refine b_ex .non h (by simp [h2 n s a b h (by omega) hab hb hs]) ?_
    refine b_ex .non h (by have := h3 (n + 1) h (by omega); simp at this; simp [this]) ?_
    refine b_asg (.ref h.length) (h ++ [.dct true (signsK n s)]) (by simp [h4 n s h (by omega)]) ?_
    have hd1 : (h ++ [MO.dct true (signsK n s)])[h.length]? = some (.dct true (signsK n s)) := by simp
    have hk : dkey true (prV (a, b)) = some (k2 a b) := rfl
    have hg : getK (signsK n s) (k2 a b) = some (.int (s a b)) := by rw [getK_signs, if_pos ⟨hab, hb, hs⟩]
    have hp : popM "dict" (.ref h.length) [prV (a, b)] (h ++ [.dct true (signsK n s)]) = some (.int (s a b), h ++ [.dct true (delK (signsK n s) (k2 a b))]) := by
      simp only [popM]
      rw [if_neg (by decide)]
      simp only [dpopM, hd1, hk, hg, mapO_some, setLast_h]
    refine b_asg (.int (s a b)) (h ++ [.dct true (delK (signsK n s) (k2 a b))]) (by
      simp only [List.set_cons_succ, List.set_cons_zero, ev_meth, evMeth, ev_var, List.getElem?_cons_succ, List.getElem?_cons_zero, bind_ok', tyM, hd1, mtOk_pop, popOk, beq_self_eq_true, Bool.or_true, if_true, evL_cons, evL_nil, mtOp_pop, hp, ofO_some']) ?_
    have b1 := signsK_len n s
    have b3 : n * n ≤ 10 * 10 := Nat.mul_le_mul (by omega) (by omega)
    have b4 : (delK (signsK n s) (k2 a b)).length ≤ (signsK n s).length := List.length_filter_le _ _
    have e0 : atI [MV.int (a : Nat), MV.int (b : Nat)] 0 = some (.int (a : Nat)) := rfl
    have e1 : atI [MV.int (a : Nat), MV.int (b : Nat)] 1 = some (.int (b : Nat)) := rfl
    have hput : ∀ kvs (x : Nat) (v : MV), kvs.length < 16777216 → putM (.ref h.length) (.tup [.int (x : Nat), .int (n : Nat)]) v (h ++ [.dct true kvs]) = some (h ++ [.dct true (setK kvs (k2 x n) v)]) := fun kvs x v hl => by
      have g : (h ++ [MO.dct true kvs])[h.length]? = some (.dct true kvs) := by simp
      have k : dkey true (.tup [.int (x : Nat), .int (n : Nat)]) = some (k2 x n) := rfl
      simp only [putM, g, k]
      rw [if_pos hl, setLast_h]
    refine b_nx (env1 := [some (wb n s), some (prV (a, b)), some (.ref h.length), some (.int (s a b))]) (h1 := h ++ [.dct true (setK (delK (signsK n s) (k2 a b)) (k2 a n) (.int 1))]) ?_ ?_
    · have := hput (delK (signsK n s) (k2 a b)) a (.int 1) (by omega)
      simp [evsPut, prV, e0, this]
    have b5 := len_set (kvs := delK (signsK n s) (k2 a b)) (k := k2 a n) (v := .int 1)
    refine b_nx (env1 := [some (wb n s), some (prV (a, b)), some (.ref h.length), some (.int (s a b))]) (h1 := h ++ [.dct true (partK n a b s)]) ?_ ?_
    · have := hput (setK (delK (signsK n s) (k2 a b)) (k2 a n) (.int 1)) b (.int (s a b)) (by omega)
      simp [evsPut, prV, e1, this, partK]
    refine b_ret ?_
    have g1 : (h ++ [MO.dct true (partK n a b s)])[h.length]? = some (.dct true (partK n a b s)) := by simp
    have := h6 (n + 1) _ h.length _ (by omega) g1 partK_ints
    simp at this
    simp [this]
  show gcR h (bodyR (evS G ir_parted_tie (startM N_parted_tie [wb n s, prV (a, b)]) h)) = _
  rw [main]
  exact gc_ok c (refs_wb _ _ _)
end
end Mi

set_option Elab.async false
set_option linter.all false
set_option maxRecDepth 100000
set_option maxHeartbeats 1000000
namespace Mi
open PySem PySem.Spec L2 LibI Mz
set_option autoImplicit false
def gN (c : List Nat) (k : Nat) : Nat := c.getD k 0
def nsV (c : List Nat) : List MV := c.map fun x => MV.int (x : Nat)
def rgV (c : List Nat) : MV := .tup (nsV c)
@[simp] theorem nsV_len (c : List Nat) : (nsV c).length = c.length := by simp [nsV]
theorem nsV_app (a b : List Nat) : nsV (a ++ b) = nsV a ++ nsV b := by simp [nsV]
theorem at_nat {c : List Nat} {k : Nat} (h : k < c.length) : atI (nsV c) (k : Int) = some (.int (gN c k : Nat)) := by
  rw [atI_nat]
  simp [nsV, gN, h]
theorem at_neg {α : Type} {xs : List α} {i : Int} (h : i < 0) (h2 : -(xs.length : Int) ≤ i) : atI xs i = xs[(i + xs.length).toNat]? := by
  unfold atI L2.ixN
  rw [if_neg (by omega), if_pos h2]; rfl
theorem at_last {c : List Nat} (h : c ≠ []) : atI (nsV c) (-1) = some (.int (ls c : Nat)) := by
  have hl : 0 < c.length := List.length_pos_iff.mpr h
  rw [at_neg (by omega) (by rw [nsV_len]; omega), nsV_len]
  have : (-1 + (c.length : Int)).toNat = c.length - 1 := by omega
  rw [this]
  unfold nsV
  rw [List.getElem?_map, List.getElem?_eq_getElem (by omega)]
  simp only [Option.map_some]
  congr 3
  unfold ls
  rw [List.getLastD_eq_getLast?, List.getLast?_eq_getElem?, List.getElem?_eq_getElem (by omega)]; rfl
theorem at_prev {c : List Nat} {k : Nat} (h : k < c.length) : atI (nsV c) ((k : Int) - 1) = some (.int (prev c k : Nat)) := by
  unfold prev
  cases k with
  | zero =>
    rw [if_pos rfl]
    exact at_last (fun e => by rw [e] at h; simp at h)
  | succ k =>
    rw [if_neg (by omega)]
    have : ((k + 1 : Nat) : Int) - 1 = (k : Nat) := by omega
    rw [this, at_nat (by omega)]; rfl
theorem at_0 {c : List Nat} (h : c ≠ []) : atI (nsV c) 0 = some (.int (hd c : Nat)) := by
  have := at_nat (c := c) (k := 0) (List.length_pos_iff.mpr h)
  rw [gN, hd_get] at this
  exact this
theorem at_1 {c : List Nat} (h : 2 ≤ c.length) : atI (nsV c) 1 = some (.int (hd c.tail : Nat)) := by
  have := at_nat (c := c) (k := 1) (by omega)
  obtain ⟨x, l, rfl⟩ := List.exists_cons_of_ne_nil (l := c) (fun e => by rw [e] at h; simp at h)
  rw [gN, show (x :: l).getD 1 0 = l.getD 0 0 by simp, hd_get] at this
  exact this
theorem allInts_ns (c : List Nat) : allInts (nsV c) = some (c.map fun (x : Nat) => (x : Int)) := by
  have := allInts_map (c.map fun (x : Nat) => (x : Int))
  rw [List.map_map] at this
  exact this
theorem dLt_int (a b : Nat) : PySem.W.dataLt (.int (a : Nat)) (.int (b : Nat)) = decide (a < b) := by
  rw [PySem.W.dataLt_int]
  simp
theorem best_min : ∀ (l : List Nat) (a : Nat), bestV PySem.W.dataLt (.int (a : Nat), .int (a : Nat)) ((nsV l).zip (l.map fun x => PyData.int (x : Nat))) = (.int (mn (a :: l) : Nat), .int (mn (a :: l) : Nat))
  | [], a => rfl
  | x :: l, a => by
    have ih := best_min l (if x < a then x else a)
    unfold bestV at ih ⊢
    simp only [nsV, List.map_cons, List.zip_cons_cons, List.foldl_cons, dLt_int] at ih ⊢
    have e : (if decide (x < a) = true then ((MV.int (x : Nat), PyData.int (x : Nat)) : MV × PyData) else (MV.int (a : Nat), PyData.int (a : Nat))) = (MV.int ((if x < a then x else a : Nat) : Nat), PyData.int ((if x < a then x else a : Nat) : Nat)) := by
      by_cases h : x < a <;> simp [h]
    rw [e, ih]
    have e2 : mn ((if x < a then x else a) :: l) = mn (a :: x :: l) := by
      cases l with
      | nil =>
        simp only [mn]
        split <;> omega
      | cons y l =>
        simp only [mn]
        split <;> omega
    rw [e2]
theorem pdL_ns (h : MH) (l : List Nat) : pdL h (nsV l) = some (l.map fun x => PyData.int (x : Nat)) := by
  unfold pdL
  induction l with
  | nil => rfl
  | cons x l ih =>
    simp only [nsV, List.map_cons, List.mapM_cons] at ih ⊢
    rw [ih]; rfl
theorem alikeB_ints {α : Type} (f : α → Int) (l : List α) : alikeB (l.map fun x => PyData.int (f x)) = true := by
  unfold alikeB
  simp [PySem.W.alike]
theorem min_tup {c : List Nat} (h : c ≠ []) (H : MH) : minDM [.tup (nsV c)] H = some (.int (mn c : Nat), H) := by
  obtain ⟨x, l, rfl⟩ := List.exists_cons_of_ne_nil h
  have e0 : minM [.tup (nsV (x :: l))] H = none := rfl
  have e1 : sqOf H (.tup (nsV (x :: l))) = some (.int (x : Nat) :: nsV l) := rfl
  have e2 : pdM H 60 (.int (x : Nat)) = some (.int (x : Nat)) := rfl
  have e3 : bestOk (.int (x : Nat) :: nsV l) (.int (x : Nat) :: l.map fun x => PyData.int (x : Nat)) = true := by
    unfold bestOk
    have a := alikeB_ints (fun y : Nat => (y : Int)) (x :: l)
    simp only [List.map_cons] at a
    rw [a]
    simp only [Bool.true_and, Bool.and_eq_true]
    refine ⟨by simp [notN], ?_⟩
    have : ∀ l : List Nat, noLs (nsV l) = true := fun l => by
      induction l with
      | nil => rfl
      | cons y l ih => simp only [nsV, List.map_cons, noLs, noL, Bool.true_and] at ih ⊢; exact ih
    exact this (x :: l)
  unfold minDM
  simp only [e0, bestDM, e1, e2, pdL_ns, e3, if_true, best_min]
theorem dedup_from : ∀ (l ks : List Int), (ks ++ l).Nodup → l.foldl PyProof.Rows.step_dedup ks = ks ++ l
  | [], ks, _ => by simp
  | x :: l, ks, nd => by
    have hx : x ∉ ks := fun z => (List.nodup_append.mp nd).2.2 x z x (by simp) rfl
    have e : PyProof.Rows.step_dedup ks x = ks ++ [x] := by
      unfold PyProof.Rows.step_dedup
      rw [if_neg]
      simpa using hx
    rw [List.foldl_cons, e, dedup_from l (ks ++ [x]) (by simpa using nd)]
    simp
theorem lenSet_ns {c : List Nat} (nd : c.Nodup) (hl : c.length ≤ 4000) (H : MH) : lenSetM (rgV c) H = some (.int (c.length : Nat), H) := by
  have e1 : sqOf H (rgV c) = some (nsV c) := rfl
  have e2 : (dedupI (c.map fun (x : Nat) => (x : Int))).length = c.length := by
    unfold dedupI
    rw [dedup_from _ [] (by
      rw [List.nil_append, List.nodup_iff_pairwise_ne, List.pairwise_map]
      exact (List.nodup_iff_pairwise_ne.mp nd).imp fun h e => h (by omega))]
    simp
  unfold lenSetM
  simp only [e1, allInts_ns]
  rw [if_pos (by simpa using hl), e2]
def S_is_way_round (G : CallT) : Prop := ∀ n s c h, n ≤ 20 → Cyc (tied s) c → (∀ x ∈ c, x < n) → G "is_way_round" [wb n s, rgV c] h = .ok (.bl true) h
def S_is_ring_of (G : CallT) : Prop := ∀ n s c h, n ≤ 20 → IsR n s c → G "is_ring_of" [wb n s, rgV c] h = .ok (.bl true) h
def S_is_ring (G : CallT) : Prop := ∀ n s c h, 1 ≤ n → n ≤ 10 → Vw n s → IsR n s c → G "is_ring" [wb n s, rgV c] h = .ok (.bl true) h
def S_check_ring (G : CallT) : Prop := ∀ n s c h, n ≤ 20 → IsR n s c → G "check_ring" [wb n s, rgV c] h = .ok .non h
def S_ring_sign_of (G : CallT) : Prop := ∀ n s c h, n ≤ 20 → Vw n s → IsR n s c → G "ring_sign_of" [wb n s, rgV c] h = .ok (.int (csg s c)) h
def S_ring_sign (G : CallT) : Prop := ∀ n s c h, 1 ≤ n → n ≤ 10 → Vw n s → IsR n s c → G "ring_sign" [wb n s, rgV c] h = .ok (.int (csg s c)) h
section
variable {G G' : CallT}
theorem mem_get {c : List Nat} {k : Nat} (hk : k < c.length) : gN c k ∈ c := by
  rw [gN]
  rw [List.getD_eq_getElem?_getD, List.getElem?_eq_getElem hk]; exact List.getElem_mem hk
theorem mem_prev {c : List Nat} {k : Nat} (hk : k < c.length) : prev c k ∈ c := by
  unfold prev; split
  · exact ls_mem (fun e => by rw [e] at hk; simp at hk)
  · exact mem_get (by omega)
theorem p_is_way_round (h1 : S_is_between G) (r : Runs G G' "is_way_round" F_is_way_round) : S_is_way_round G' := fun n s c h hn hc lt => by
  rw [r.no rfl]
  show bodyR (evS G ir_is_way_round (startM N_is_way_round [wb n s, rgV c]) h) = _
  unfold ir_is_way_round
  simp only [N_is_way_round, startM, List.map, List.length_cons, List.length_nil, List.replicate, List.cons_append, List.nil_append]
  have hl := hc.len
  have hll := nd_len hc.nd lt
  refine b_if_no (h1 := h) (t_or (x := false) (y := false) (h1 := h) ?_ fun _ => ?_) ?_
  · simp [isiM, tyN, isB, rgV]
  · have : ¬ (c.length : Int) < 3 := by omega
    simp [rgV, this]
  refine b_if_no (h1 := h) (t_or (x := false) (y := false) (h1 := h) (t_not (x := true) (t_tru ?_)) fun _ => ?_) ?_
  · refine e_allt c (fun x => .int (x : Nat)) (c := .no) (by simp [rgV, nsV]) trivial (by omega) fun x hx => ⟨_, rfl, ?_⟩
    have : (x : Int) ≤ n - 1 := by have := lt x hx; omega
    simp [wipeM, h1 _ _ _ h, this]
  · simp [lenSet_ns hc.nd (by omega) h]
    simp [rgV]
  refine b_ret (e_allt (List.range c.length) (fun k => .int (k : Nat)) (c := .no) ?_ trivial (by simp; omega) fun k hk => ⟨_, rfl, ?_⟩)
  · have := rangeM_nn c.length h (by omega)
    simp [rgV, this]
  · have hk := List.mem_range.mp hk
    have a1 := at_nat hk
    have a2 := at_prev hk
    have t : s (prev c k) (gN c k) ≠ 0 := cyc_get hc hk
    simp [wipeM, rgV, a1, a2, ix_wbn, ix_rwn, lt _ (mem_get hk), lt _ (mem_prev hk), t]
theorem p_is_ring_of (h1 : S_is_way_round G) (r : Runs G G' "is_ring_of" F_is_ring_of) : S_is_ring_of G' := fun n s c h hn hc => by
  rw [r.no rfl]
  show bodyR (evS G ir_is_ring_of (startM N_is_ring_of [wb n s, rgV c]) h) = _
  unfold ir_is_ring_of
  simp only [N_is_ring_of, startM, List.map, List.length_cons, List.length_nil, List.replicate, List.cons_append, List.nil_append]
  have ne := hc.1.ne
  have hm : mn c = hd c := mn_eq (hd_mem ne) fun x hx => by
    have := hc.1.least
    obtain ⟨y, l, rfl⟩ := List.exists_cons_of_ne_nil ne
    rcases List.mem_cons.mp hx with e | e
    · rw [e]; exact Nat.le_refl _
    · exact Nat.le_of_lt (this x e)
  have a0 := at_0 ne
  have a1 := at_1 (c := c) (by have := hc.1.len; omega)
  have al := at_last ne
  have tt := hc.1.turn
  refine b_ret (e_and (x := true) (y := true) (h1 := h) ?_ fun _ => e_and (x := true) (y := true) (h1 := h) ?_ fun _ => ?_)
  · simp [h1 n s c h hn hc.1.toCyc hc.2]
  · simp [rgV, a0, min_tup ne h, hm]
  · simp [rgV, a1, al, tt]
theorem p_is_ring (h1 : S_check_web G) (h2 : S_is_ring_of G) (r : Runs G G' "is_ring" F_is_ring) : S_is_ring G' := fun n s c h n1 n2 W hc => by
  rw [r.no rfl]
  show bodyR (evS G ir_is_ring (startM N_is_ring [wb n s, rgV c]) h) = _
  unfold ir_is_ring
  simp only [N_is_ring, startM, List.map, List.length_cons, List.length_nil, List.replicate, List.cons_append, List.nil_append]
  refine b_ex .non h (by simp [h1 n s h n1 n2 W]) (b_ret ?_)
  simp [h2 n s c h (by omega) hc]
theorem p_check_ring (h1 : S_is_ring_of G) (r : Runs G G' "check_ring" F_check_ring) : S_check_ring G' := fun n s c h hn hc => by
  rw [r.no rfl]
  simp [F_check_ring, ir_check_ring, N_check_ring, startM, h1 n s c h hn hc]
theorem p_ring_sign_of (r : Runs G G' "ring_sign_of" F_ring_sign_of) : S_ring_sign_of G' := fun n s c h hn W hc => by
  rw [r.no rfl]
  show bodyR (evS G ir_ring_sign_of (startM N_ring_sign_of [wb n s, rgV c]) h) = _
  unfold ir_ring_sign_of
  simp only [N_ring_sign_of, startM, List.map, List.length_cons, List.length_nil, List.replicate, List.cons_append, List.nil_append]
  have hll := nd_len hc.1.nd hc.2
  have key : ev G (.bi false "len" (.cons (.comp false (.val (.bi false "range" (.cons (.bi false "len" (.cons (.var 1) .nil)) .nil))) (.name 2) (.cmp .Eq (.ix (.ix (.var 0) (.ix (.var 1) (.bin false .Sub (.var 2) (.cst (.int 1))))) (.ix (.var 1) (.var 2))) (.neg (.cst (.int 1)))) (.var 2) [2]) .nil)) [some (wb n s), some (rgV c), none] h =
      .ok (.int (((List.range c.length).filter fun k => s (prev c k) (gN c k) == -1).length : Nat)) h := by
    have := e_len (m := false) (comp_f (G := G) (vs := [2]) (it := .val (.bi false "range" (.cons (.bi false "len" (.cons (.var 1) .nil)) .nil))) (tg := .name 2) (t := .cmp .Eq (.ix (.ix (.var 0) (.ix (.var 1) (.bin false .Sub (.var 2) (.cst (.int 1))))) (.ix (.var 1) (.var 2))) (.neg (.cst (.int 1)))) (e := .var 2)
      (env := [some (wb n s), some (rgV c), none]) (h := h) (List.range c.length) (fun k => .int (k : Nat)) (fun k => s (prev c k) (gN c k) == -1) (fun k => .int (k : Nat)) (c := .no) ?_ trivial (by simp; omega) fun k hk => ⟨_, rfl, ?_, fun _ => ?_⟩)
    · rw [this, List.length_map]
    · have := rangeM_nn c.length h (by omega)
      simp [rgV, this]
    · have hk := List.mem_range.mp hk
      have a1 := at_nat hk
      have a2 := at_prev hk
      simp [wipeM, rgV, a1, a2, ix_wbn, ix_rwn, hc.2 _ (mem_get hk), hc.2 _ (mem_prev hk)]
    · simp [wipeM]
  refine b_ret ?_
  rw [csg_foes W hc.1.toCyc hc.2]
  change _ = Res.ok (MV.int (1 - 2 * ((((List.range c.length).filter fun k => s (prev c k) (gN c k) == -1).length : Int) % 2))) h
  simp only [ev_bin, ev_cst, bind_ok', key, opB_Mod, opB_Mult, opB_Sub, iiM_ii, modI]
  rw [if_pos (by decide)]
  have mm : ∀ j : Int, mulM false (.int 2) (.int j) h = some (.int (2 * j), h) := fun j => by
    simp only [mulM]
    rw [if_pos]
    simp [mulOk, absLe]
  simp [mm]
theorem p_ring_sign (h1 : S_check_web G) (h2 : S_check_ring G) (h3 : S_ring_sign_of G) (r : Runs G G' "ring_sign" F_ring_sign) : S_ring_sign G' := fun n s c h n1 n2 W hc => by
  rw [r.no rfl]
  show bodyR (evS G ir_ring_sign (startM N_ring_sign [wb n s, rgV c]) h) = _
  unfold ir_ring_sign
  simp only [N_ring_sign, startM, List.map, List.length_cons, List.length_nil, List.replicate, List.cons_append, List.nil_append]
  refine b_ex .non h (by simp [h1 n s h n1 n2 W]) (b_ex .non h (by simp [h2 n s c h (by omega) hc]) (b_ret ?_))
  simp [h3 n s c h (by omega) W hc]
end
end Mi

set_option Elab.async false
set_option linter.all false
set_option maxRecDepth 100000
set_option maxHeartbeats 1000000
namespace Mi
open PySem PySem.Spec L2 LibI Mz
set_option autoImplicit false
def szV (c : List Nat) : MV := .tup [.int (c.length : Nat), rgV c]
def szD (c : List Nat) : PyData := .tuple [.int (c.length : Nat), .tuple (c.map fun x => PyData.int (x : Nat))]
def srt (l : List (List Nat)) : List (List Nat) := l.mergeSort (PySem.W.dataLe false szD)
theorem toks_ints : ∀ {l m : List Nat}, PySem.W.keyToksAll (l.map fun x => PyData.int (x : Nat)) = PySem.W.keyToksAll (m.map fun x => PyData.int (x : Nat)) → l = m
  | [], [], _ => rfl
  | [], y :: m, h => by simp [PySem.W.keyToksAll] at h
  | x :: l, [], h => by simp [PySem.W.keyToksAll] at h
  | x :: l, y :: m, h => by
    simp only [List.map_cons, PySem.W.keyToksAll, PySem.W.keyToks, List.cons_append, List.nil_append, List.cons.injEq, Sum.inl.injEq, true_and] at h
    rw [toks_ints h.2, show x = y by omega]
theorem szD_inj {c d : List Nat} (h : PySem.W.keyToks (szD c) = PySem.W.keyToks (szD d)) : c = d := by
  simp only [szD, PySem.W.keyToks, PySem.W.keyToksAll, List.cons_append, List.nil_append, List.cons.injEq, Sum.inl.injEq, true_and] at h
  exact toks_ints (List.append_cancel_right h.2)
theorem srt_perm (l : List (List Nat)) : (srt l).Perm l := List.mergeSort_perm _ _
theorem srt_eq {l m : List (List Nat)} (h : l.Perm m) : srt l = srt m := by
  have T := PySem.W.sortLe_total (PyProof.Rows.listOrd PyProof.Rows.itemOrd) false fun b => PySem.W.keyToks (szD b)
  refine List.Perm.eq_of_pairwise (le := fun a b => PySem.W.dataLe false szD a b = true) (fun a b _ _ h1 h2 => ?_) (PySem.W.sort_pairwise T l) (PySem.W.sort_pairwise T m) ((srt_perm l).trans (h.trans (srt_perm m).symm))
  unfold PySem.W.dataLe PySem.W.sortLe at h1 h2
  simp only [cond_false, Bool.not_eq_true'] at h1 h2
  exact szD_inj ((PyProof.Rows.listOrd PyProof.Rows.itemOrd).total _ _ h2 h1)
theorem pdM_ns (h : MH) (k : Nat) (c : List Nat) : (nsV c).mapM (pdM h (k + 1)) = some (c.map fun x => PyData.int (x : Nat)) := by
  induction c with
  | nil => rfl
  | cons x l ih =>
    simp only [nsV, List.map_cons, List.mapM_cons] at ih ⊢
    rw [ih]; rfl
theorem pdM_rg (h : MH) (k : Nat) (c : List Nat) : pdM h (k + 2) (rgV c) = some (.tuple (c.map fun x => PyData.int (x : Nat))) := by
  show ((nsV c).mapM (pdM h (k + 1))).map PyData.tuple = _
  rw [pdM_ns]; rfl
theorem pdM_sz (h : MH) (k : Nat) (c : List Nat) : pdM h (k + 3) (szV c) = some (szD c) := by
  show ([MV.int (c.length : Nat), rgV c].mapM (pdM h (k + 2))).map PyData.tuple = _
  simp only [List.mapM_cons, List.mapM_nil, pdM_rg]
  rfl
theorem pdL_sz (h : MH) (l : List (List Nat)) : pdL h (l.map szV) = some (l.map szD) := by
  unfold pdL
  induction l with
  | nil => rfl
  | cons x l ih =>
    simp only [List.map_cons, List.mapM_cons]
    rw [ih, pdM_sz]; rfl
theorem alike_ints : ∀ (l m : List Nat), PySem.W.alikeAll (l.map fun x => PyData.int (x : Nat)) (m.map fun x => PyData.int (x : Nat)) = true
  | [], [] => rfl
  | [], _ :: _ => rfl
  | _ :: _, [] => rfl
  | x :: l, y :: m => by simp only [List.map_cons, PySem.W.alikeAll, PySem.W.alike, alike_ints l m, Bool.and_self]
theorem sortOk_sz (l : List (List Nat)) : sortOk (l.map szD) = true := by
  unfold sortOk alikeB
  simp [szD, PySem.W.alike, PySem.W.alikeAll, alike_ints, isTup1]
theorem sortV_sz (l : List (List Nat)) : sortV (l.map szV) (l.map szD) = (srt l).map szV := by
  unfold sortV srt
  have e : (l.map szV).zip (l.map szD) = l.map fun c => (szV c, szD c) := by
    rw [List.zip_map']
  rw [e, ← List.map_mergeSort (r := PySem.W.dataLe false szD) (s := PySem.W.dataLe false Prod.snd) (f := fun c => (szV c, szD c)) (fun a _ b _ => rfl), List.map_map]
  rfl
theorem sorted_sz {h : MH} (l : List (List Nat)) (hl : l.length ≤ 16777216) : sortedM false [.lst (l.map szV)] h = some (.lst ((srt l).map szV), h) := by
  have : ((srt l).map szV).length ≤ 16777216 := by rw [List.length_map, (srt_perm l).length_eq]; exact hl
  have e : sqOf h (.lst (l.map szV)) = some (l.map szV) := rfl
  simp only [sortedM, sqOf_lst, sqLOf_lst, pdL_sz, sortOk_sz, if_true, sortV_sz, newL_false]
  rw [if_pos this]
def S_rings_of (G : CallT) : Prop := ∀ n s h, n ≤ 9 → Cl h → G "rings_of" [wb n s] h = .ok (.lst ((srt (ringsL n s)).map rgV)) h
def S_check_few (G : CallT) : Prop := ∀ n s h, n ≤ 7 → G "check_few" [wb n s] h = .ok .non h
def S_rings (G : CallT) : Prop := ∀ n s h, 1 ≤ n → n ≤ 7 → Vw n s → Cl h → G "rings" [wb n s] h = .ok (.lst ((srt (ringsL n s)).map rgV)) h
theorem lay_ints : ∀ l : List Nat, PyData.canLayAll0 (l.map fun x => PyData.int (x : Nat)) = true
  | [] => rfl
  | x :: l => by simp only [List.map_cons, PyData.canLayAll0, PyData.canLay0, lay_ints l, Bool.and_self]
theorem depth_ints : ∀ l : List Nat, PyData.depthAll (l.map fun x => PyData.int (x : Nat)) = 0
  | [] => rfl
  | x :: l => by simp only [List.map_cons, PyData.depthAll, PyData.depth, depth_ints l, Nat.max_self]
theorem shaped_int (i : Int) : SeqAt.shaped (.int i) = true := by
  simp [SeqAt.shaped, PyData.canLay0, PyData.depth]
theorem shaped_ints (l : List Nat) : SeqAt.shaped (.list (l.map fun x => PyData.int (x : Nat))) = true := by
  simp [SeqAt.shaped, PyData.canLay0, PyData.depth, lay_ints, depth_ints]
theorem shaped_tints (l : List Nat) : SeqAt.shaped (.tuple (l.map fun x => PyData.int (x : Nat))) = true := by
  simp [SeqAt.shaped, PyData.canLay0, PyData.depth, lay_ints, depth_ints]
def rgD (c : List Nat) : PyData := .tuple (c.map fun x => PyData.int (x : Nat))
theorem lay_rgs : ∀ l : List (List Nat), PyData.canLayAll0 (l.map rgD) = true
  | [] => rfl
  | x :: l => by simp only [List.map_cons, PyData.canLayAll0, rgD, PyData.canLay0, lay_ints, lay_rgs l, Bool.and_self]
theorem depth_rgs : ∀ l : List (List Nat), PyData.depthAll (l.map rgD) ≤ 1
  | [] => by simp [PyData.depthAll]
  | x :: l => by
    have := depth_rgs l
    simp only [List.map_cons, PyData.depthAll, rgD, PyData.depth, depth_ints] at this ⊢
    omega
theorem shaped_rgs (l : List (List Nat)) : SeqAt.shaped (.list (l.map rgD)) = true := by
  have := depth_rgs l
  simp [SeqAt.shaped, PyData.canLay0, PyData.depth, lay_rgs]
  omega
theorem pdM_rgs (h : MH) (k : Nat) (l : List (List Nat)) : pdM h (k + 3) (.lst (l.map rgV)) = some (.list (l.map rgD)) := by
  show (match sqLOf h (.lst (l.map rgV)) with
    | some xs => (xs.mapM (pdM h (k + 2))).map PyData.list
    | none => none) = _
  simp only [sqLOf_lst]
  have : (l.map rgV).mapM (pdM h (k + 2)) = some (l.map rgD) := by
    induction l with
    | nil => rfl
    | cons x l ih =>
      simp only [List.map_cons, List.mapM_cons]
      rw [ih, pdM_rg]; rfl
  rw [this]; rfl
/-- equal rows of rounds are not unequal -/
theorem ne_rgs {h : MH} (l : List (List Nat)) : neM (.lst (l.map rgV)) (.lst (l.map rgV)) h = some (.bl false, h) := by
  have e : PyData.eqv (.list (l.map rgD)) (.list (l.map rgD)) = true := by
    simp only [PyData.eqv]
    exact PySem.SeqAt.eqvAll_refl _ (lay_rgs l)
  simp only [neM, pdM_rgs, shaped_rgs, and_self, if_true, e]; rfl
/-- in a row of numbers -/
theorem any_eqv (y : Nat) : ∀ c : List Nat, ((c.map fun x => PyData.int (x : Nat)).any fun z => PyData.eqv z (.int (y : Nat))) = c.contains y
  | [] => rfl
  | x :: l => by
    rw [List.map_cons, List.any_cons, any_eqv y l, List.contains_cons]
    congr 1
    simp only [PyData.eqv]
    rw [Bool.eq_iff_iff]
    simp only [beq_iff_eq]
    omega
theorem notIn_ns {h : MH} (y : Nat) (c : List Nat) : notInM (.int (y : Nat)) (.tup (nsV c)) h = some (.bl (!c.contains y), h) := by
  have e : inB (.int (y : Nat)) (.tup (nsV c)) h = some (c.contains y) := by
    simp only [inB, dctOf_tup, sqOf_tup, inD]
    rw [pdM_ns]
    simp only [pdM, shaped_int, shaped_ints, and_self, if_true, any_eqv]
  simp only [notInM, isRng, Bool.false_eq_true, if_false, e, mapO_some]
theorem notIn_lns {h : MH} (y : Nat) (c : List Nat) : notInM (.int (y : Nat)) (.lst (nsV c)) h = some (.bl (!c.contains y), h) := by
  have e : inB (.int (y : Nat)) (.lst (nsV c)) h = some (c.contains y) := by
    simp only [inB, dctOf_lst, sqOf_lst, inD]
    rw [pdM_ns]
    simp only [pdM, shaped_int, shaped_ints, and_self, if_true, any_eqv]
  simp only [notInM, isRng, Bool.false_eq_true, if_false, e, mapO_some]
section
variable {G G' : CallT}
theorem p_check_few (r : Runs G G' "check_few" F_check_few) : S_check_few G' := fun n s h hn => by
  rw [r.no rfl]
  have : ¬ (7 : Int) < n := by omega
  simp [F_check_few, ir_check_few, N_check_few, startM, this]
theorem newT_ok {xs : List MV} {h : MH} (hl : xs.length ≤ 16777216) : newT xs h = some (.tup xs, h) := if_pos hl
theorem p_rings_of (r : Runs G G' "rings_of" F_rings_of) : S_rings_of G' := fun n s h hn c => by
  rw [r.yes rfl]
  have main : bodyR (evS G ir_rings_of (startM N_rings_of [wb n s]) h) = .ok (.lst ((srt (ringsL n s)).map rgV)) (h ++ [.lst ((ringsL n s).map rgV)]) := by
    unfold ir_rings_of
    simp only [N_rings_of, startM, List.map, List.length_cons, List.length_nil, List.replicate, List.cons_append, List.nil_append]
    refine b_asg (.int n) h (by simp) ?_
    refine b_asg (.ref h.length) (h ++ [.lst []]) (by simp) ?_
    refine b_asg (.lst ((ways n s 0).map rgV)) (h ++ [.lst []]) ?_ ?_
    · have e : (ways n s 0).map rgV = (List.range n).map fun x => MV.tup [.int (x : Nat)] := by simp [ways, rgV, nsV]
      rw [e]
      refine comp_m (List.range n) (fun x => .int (x : Nat)) (fun x => .tup [.int (x : Nat)]) (c := .no) ?_ trivial (by simp; omega) fun x hx => ⟨_, rfl, ?_⟩
      · simp [rangeM_nn n _ (by omega)]
      · simp [wipeM]
    refine b_while (fun k env h' => ∃ o1 o2 o3, k ≤ n ∧ env = [some (wb n s), some (.int n), some (.ref h.length), some (.lst ((ways n s k).map rgV)), o1, o2, o3, none, none] ∧ h' = h ++ [.lst ((ringsTo n s k).map rgV)]) n (by omega) ⟨none, none, none, by omega, rfl, by simp [ringsTo]⟩ ?_ ?_
    · rintro k env h' ⟨o1, o2, o3, hk, rfl, rfl⟩
      have ht : evT G (.tru (.var 3)) [some (wb n s), some (.int n), some (.ref h.length), some (.lst ((ways n s k).map rgV)), o1, o2, o3, none, none] (h ++ [.lst ((ringsTo n s k).map rgV)]) = .ok (!(ways n s k).isEmpty) (h ++ [.lst ((ringsTo n s k).map rgV)]) := by simp
      by_cases hw : ways n s k = []
      · left; rw [ht, hw]; rfl
      right
      have hkn : k < n := by
        apply Classical.byContradiction
        intro z
        have : k = n := by omega
        subst this
        exact hw ways_end
      have ww : ∀ w ∈ ways n s k, Way n s w := fun w hw => (mem_ways.mp hw).1
      have wl : ∀ w ∈ ways n s k, w.length = k + 1 := fun w hw => (mem_ways.mp hw).2
      refine ⟨hkn, by rw [ht]; cases hx : ways n s k with | nil => exact absurd hx hw | cons a l => rfl, .nx, [some (wb n s), some (.int n), some (.ref h.length), some (.lst ((ways n s (k + 1)).map rgV)), o1, o2, o3, none, none], h ++ [.lst ((ringsTo n s (k + 1)).map rgV)], ?_, .inl rfl, o1, o2, o3, by omega, rfl, rfl⟩
      refine s_nx (env1 := [some (wb n s), some (.int n), some (.ref h.length), some (.lst ((ways n s k).map rgV)), o1, o2, o3, none, none]) (h1 := h ++ [.lst ((ringsTo n s (k + 1)).map rgV)]) ?_ ?_
      · have hl1 := ringsTo_len (s := s) hn k
        have hl2 := ways_len (s := s) hn k
        have hl3 := List.length_filter_le (clo s) (ways n s k)
        refine s_aug (x := .ref h.length) (y := .lst (((ways n s k).filter (clo s)).map rgV)) (m := .ref h.length) (h1 := h ++ [.lst ((ringsTo n s k).map rgV)]) rfl (comp_f (ways n s k) rgV (clo s) rgV (c := .no) (by simp) trivial (by omega) fun w hw => ⟨_, rfl, ?_, fun _ => by simp [wipeM]⟩) ?_
        · have W := ww w hw
          have l := wl w hw
          have a0 := at_0 W.ne
          have al := at_last W.ne
          have b0 := W.lt _ (hd_mem W.ne)
          have bl := W.lt _ (ls_mem W.ne)
          unfold clo
          refine t_and (x := decide (2 < w.length)) (h1 := h ++ [.lst ((ringsTo n s k).map rgV)]) ?_ fun h2 => t_and (h1 := h ++ [.lst ((ringsTo n s k).map rgV)]) ?_ fun h3 => ?_
          · simp [wipeM, rgV]; omega
          · simp [wipeM, rgV, a0, al, ix_wbn, ix_rwn, b0, bl, bne]
          · have a1 := at_1 (c := w) (by simp at h2; omega)
            simp [wipeM, rgV, a1, al]
        · simp only [opI, iaddM, extM, getLast_h, lstOf]
          rw [if_pos (by simp only [List.length_map]; omega), setLast_h, ringsTo_succ, List.map_append]
      · have hl2 := ways_len (s := s) hn k
        have e : (ways n s (k + 1)).map rgV = (ways n s k).flatMap fun w => ((rg (hd w + 1) n).filter fun y => s (ls w) y != 0 && !w.contains y).map fun y => rgV (w ++ [y]) := by
          simp only [ways, List.map_flatMap, ext, List.map_map]; rfl
        rw [e]
        refine s_asg1 (comp2_m (ways n s k) rgV (fun w => rg (hd w + 1) n) (fun y => .int (y : Nat)) (fun w y => s (ls w) y != 0 && !w.contains y) (fun w y => rgV (w ++ [y])) (c := .no) (by simp) trivial ?_ fun w hw => ⟨_, rfl, ?_, fun y hy => ⟨_, rfl, ?_, fun hp => ?_⟩⟩)
        · exact Nat.le_trans (len_flatMap_le (k := 9) fun w _ => by rw [rg_len]; omega) (by omega)
        · have W := ww w hw
          have a0 := at_0 W.ne
          have b0 := W.lt _ (hd_mem W.ne)
          have := fun H => rangeM_2 (hd w + 1) n H (by omega) (by omega) (by omega) (by omega)
          have e := rng_rg (hd w + 1) n
          simp only [Int.natCast_add, Int.cast_ofNat_Int] at e
          simp [wipeM, rgV, a0, this, e]
        · have W := ww w hw
          have al := at_last W.ne
          have bl := W.lt _ (ls_mem W.ne)
          have hy' := mem_rg.mp hy
          refine t_and (x := s (ls w) y != 0) (h1 := h ++ [.lst ((ringsTo n s (k + 1)).map rgV)]) ?_ fun h2 => ?_
          · simp [wipeM, rgV, al, ix_wbn, ix_rwn, bl, hy'.2, bne]
          · have := notIn_ns (h := h ++ [.lst ((ringsTo n s (k + 1)).map rgV)]) y w
            simp only [rgV, wipeM, List.set_cons_succ, List.set_cons_zero, evT_cmp, ev_cmp, ev_var, List.getElem?_cons_succ, List.getElem?_cons_zero, bind_ok', opC_NotIn, this, ofO_some', asB_ok]
        · have l := wl w hw
          have : addM false (rgV w) (.tup [.int (y : Nat)]) (h ++ [.lst ((ringsTo n s (k + 1)).map rgV)]) = some (rgV (w ++ [y]), h ++ [.lst ((ringsTo n s (k + 1)).map rgV)]) := by
            show newT (nsV w ++ [MV.int (y : Nat)]) _ = _
            rw [newT_ok (by simp; omega)]
            simp [rgV, nsV]
          simp [wipeM, this]
    · rintro k env h' ⟨o1, o2, o3, hk, rfl, rfl⟩ ht
      have hw : ways n s k = [] := by
        simp at ht
        exact ht
      rw [rings_of_end hw]
      have hlen := ringsTo_len (s := s) hn n
      change (ringsL n s).length ≤ _ at hlen
      have e0 : ∀ o1 o2 o3, ev G (.comp false (.val (.var 2)) (.name 8) .tt (.tup (.cons (.bi false "len" (.cons (.var 8) .nil)) (.cons (.var 8) .nil))) [8]) [some (wb n s), some (.int n), some (.ref h.length), some (.lst ((ways n s k).map rgV)), o1, o2, o3, none, none] (h ++ [.lst ((ringsL n s).map rgV)]) = .ok (.lst ((ringsL n s).map szV)) (h ++ [.lst ((ringsL n s).map rgV)]) := fun o1 o2 o3 => by
        refine comp_m (ringsL n s) rgV szV (c := .lst h.length ((ringsL n s).map rgV)) ?_ (by simp [Chk.ok]) (by omega) fun c hc => ⟨_, rfl, ?_⟩
        · simp [itM]
        · simp [wipeM, rgV, szV]
      refine b_ret (comp_m (srt (ringsL n s)) szV rgV (c := .no) ?_ trivial (by rw [(srt_perm _).length_eq]; omega) fun c hc => ⟨[some (wb n s), some (.int n), some (.ref h.length), some (.lst ((ways n s k).map rgV)), o1, o2, o3, some (.int c.length), some (rgV c)], ?_, ?_⟩)
      · simp [e0, sorted_sz _ (by omega : (ringsL n s).length ≤ 16777216)]
      · simp [wipeM, szV]
      · simp
  show gcR h (bodyR (evS G ir_rings_of (startM N_rings_of [wb n s]) h)) = _
  rw [main]
  exact gc_ok c (by
    simp only [refsLt]
    exact refs_of fun m hm => by
      obtain ⟨c, _, rfl⟩ := List.mem_map.mp hm
      simp only [rgV, refsLt]
      exact refs_of fun m hm => by obtain ⟨y, _, rfl⟩ := List.mem_map.mp hm; rfl)
theorem p_rings (h1 : S_check_web G) (h2 : S_check_few G) (h3 : S_rings_of G) (r : Runs G G' "rings" F_rings) : S_rings G' := fun n s h n1 n2 W c => by
  rw [r.no rfl]
  show bodyR (evS G ir_rings (startM N_rings [wb n s]) h) = _
  unfold ir_rings
  simp only [N_rings, startM, List.map, List.length_cons, List.length_nil, List.replicate, List.cons_append, List.nil_append]
  refine b_ex .non h (by simp [h1 n s h n1 (by omega) W]) (b_ex .non h (by simp [h2 n s h n2]) (b_ret ?_))
  simp [h3 n s h (by omega) c]
end
end Mi

set_option Elab.async false
set_option linter.all false
set_option maxRecDepth 100000
set_option maxHeartbeats 1000000
namespace Mi
open PySem PySem.Spec L2 LibI Mz
set_option autoImplicit false
theorem S_sum (f : Nat → Int) : ∀ n : Nat, ((List.range n).map f).sum = S n f
  | 0 => rfl
  | n + 1 => by rw [List.range_succ, List.map_append, List.sum_append, S_sum f n]; simp [S]
theorem len_flatMap_S {β : Type} (f : Nat → List β) : ∀ n : Nat, (((List.range n).flatMap f).length : Int) = S n (fun x => ((f x).length : Int))
  | 0 => rfl
  | n + 1 => by
    rw [List.range_succ, List.flatMap_append, List.length_append]
    simp only [S]
    rw [← len_flatMap_S f n]; simp
theorem rg_succ (a n : Nat) : rg a (n + 1) = rg a n ++ (if a ≤ n then [n] else []) := by
  unfold rg
  by_cases h : a ≤ n
  · rw [if_pos h, show n + 1 - a = (n - a) + 1 by omega, List.range_succ, List.map_append]
    simp only [List.map_cons, List.map_nil]
    rw [show a + (n - a) = n by omega]
  · rw [if_neg h, show n + 1 - a = 0 by omega, show n - a = 0 by omega]; rfl
def cnt (s : Nat → Nat → Int) (x n : Nat) : Int := (((rg (x + 1) n).filter fun y => s x y == -1).length : Int)
theorem cnt_succ (s : Nat → Nat → Int) {x n : Nat} (h : x < n) : cnt s x (n + 1) = cnt s x n + (if s x n = -1 then 1 else 0) := by
  unfold cnt
  rw [rg_succ, if_pos (by omega), List.filter_append, List.length_append]
  by_cases e : s x n = -1
  · rw [if_pos e, List.filter_cons_of_pos (by simp [e])]; simp
  · rw [if_neg e, List.filter_cons_of_neg (by simp [e])]; simp
theorem foe_ff (v : Int) : foe v false false = if v = -1 then 1 else 0 := rfl
theorem cnt_F (s : Nat → Nat → Int) (sy : ∀ x y, s x y = s y x) : ∀ n : Nat, S n (fun x => cnt s x n) = F s (fun _ => false) n
  | 0 => rfl
  | n + 1 => by
    simp only [S, F]
    rw [S_congr (g := fun x => cnt s x n + foe (s n x) false false) fun x hx => by rw [cnt_succ s hx, foe_ff, sy x n], S_add, cnt_F s sy n]
    have : cnt s n (n + 1) = 0 := by unfold cnt rg; simp
    rw [this]; omega
theorem foes_F {n : Nat} {s : Nat → Nat → Int} (sy : ∀ x y, s x y = s y x) : (((tiesL n s).filter fun p => s p.1 p.2 == -1).length : Int) = F s (fun _ => false) n := by
  rw [← cnt_F s sy n]
  unfold tiesL
  rw [List.filter_flatMap, len_flatMap_S]
  refine S_congr fun x _ => ?_
  unfold cnt
  rw [List.filter_map, List.length_map, List.filter_filter]
  congr 2
  refine List.filter_congr fun y _ => ?_
  simp only [Function.comp_apply]
  by_cases e : s x y = -1
  · simp [e]
  · simp [e]
theorem bits_zero : bits 0 = fun _ => false := by funext y; simp [bits]
/-- a mask by its highest place -/
theorem bits_top {m : Nat} (hm : 1 ≤ m) : ∃ top rest, m = 2 ^ top + rest ∧ rest < 2 ^ top ∧ top = m.log2 ∧ bits m = turn (bits rest) top ∧ bits rest top = false := by
  have h1 : 2 ^ m.log2 ≤ m := Nat.log2_self_le (by omega)
  have h2 : m < 2 ^ (m.log2 + 1) := Nat.lt_log2_self
  have h3 : 2 ^ (m.log2 + 1) = 2 ^ m.log2 + 2 ^ m.log2 := by rw [Nat.pow_succ]; omega
  have hr : m - 2 ^ m.log2 < 2 ^ m.log2 := by omega
  have hb : bits (m - 2 ^ m.log2) m.log2 = false := Nat.testBit_lt_two_pow hr
  refine ⟨m.log2, m - 2 ^ m.log2, by omega, hr, rfl, ?_, hb⟩
  funext y
  have e : m = 2 ^ m.log2 + (m - 2 ^ m.log2) := by omega
  unfold turn bits
  by_cases hy : y = m.log2
  · rw [if_pos hy]
    conv => lhs; rw [e]
    rw [hy, Nat.testBit_two_pow_add_eq, Nat.testBit_lt_two_pow hr]; rfl
  · rw [if_neg hy]
    conv => lhs; rw [e]
    by_cases h : y < m.log2
    · exact Nat.testBit_two_pow_add_gt h _
    · rw [Nat.testBit_lt_two_pow (Nat.lt_of_lt_of_le hr (Nat.pow_le_pow_right (by omega) (by omega))), ← e]
      exact Nat.testBit_lt_two_pow (Nat.lt_of_lt_of_le h2 (Nat.pow_le_pow_right (by omega) (by omega)))
theorem xor_top {m top rest : Nat} (e : m = 2 ^ top + rest) (hr : rest < 2 ^ top) : Builtin.bitXor (m : Int) (1 * 2 ^ top) = (rest : Nat) := by
  have e2 : (1 * 2 ^ top : Int) = ((2 ^ top : Nat) : Int) := by simp
  have h : m &&& 2 ^ top = 2 ^ top := by
    apply Nat.eq_of_testBit_eq
    intro j
    rw [Nat.testBit_and, Nat.testBit_two_pow]
    by_cases q : top = j
    · subst q
      rw [e, Nat.testBit_two_pow_add_eq, Nat.testBit_lt_two_pow hr]; simp
    · simp [q]
  rw [e2, PyProof.Rows.bitXor_and, PySem.W.os_band, h, e]
  simp only [Int.natCast_add]; omega
/-- a bit asked -/
theorem bit_and (m y : Nat) : Builtin.bitAnd ((m : Int) / 2 ^ y) 1 = if bits m y then 1 else 0 := by
  have e : ((m : Int) / 2 ^ y) = ((m / 2 ^ y : Nat) : Int) := by simp
  rw [e, PyProof.Rows.bitAnd_m1]
  unfold bits
  rw [Nat.testBit_eq_decide_div_mod_eq]
  have : (m / 2 ^ y) % 2 = 0 ∨ (m / 2 ^ y) % 2 = 1 := by omega
  rcases this with h | h
  · rw [h]; simp; omega
  · rw [h]; simp; omega
theorem bits_nat {m : Nat} (hm : 1 ≤ m) : Builtin.Int.intBits (m : Int) = m.log2 + 1 := by
  unfold Builtin.Int.intBits
  rw [if_neg (by simp; omega)]; rfl
def tabV (n : Nat) (s : Nat → Nat → Int) (k : Nat) : List MV := (List.range k).map fun m => .int (F s (bits m) n)
theorem minI_ok : ∀ {l : List Int}, l ≠ [] → ∃ v, minI l = some v ∧ v ∈ l ∧ ∀ x ∈ l, v ≤ x
  | [x], _ => ⟨x, rfl, by simp, by simp⟩
  | x :: y :: l, _ => by
    obtain ⟨v, e, h1, h2⟩ := minI_ok (l := y :: l) (by simp)
    refine ⟨if v < x then v else x, by rw [minI, e], ?_, ?_⟩
    · split
      · exact List.mem_cons_of_mem _ h1
      · simp
    · intro z hz
      rcases List.mem_cons.mp hz with q | q
      · subst q; split <;> omega
      · have := h2 z q; split <;> omega
def S_foe_table (G : CallT) : Prop := ∀ n s h, n ≤ 10 → Vw n s → G "foe_table" [wb n s] h = .ok (.ref h.length) (h ++ [.lst (tabV n s (2 ^ n))])
def S_trouble_of (G : CallT) : Prop := ∀ n s h, n ≤ 10 → Vw n s → Cl h → ∃ v, Least n s v ∧ G "trouble_of" [wb n s] h = .ok (.int v) h
def S_trouble (G : CallT) : Prop := ∀ n s h, 1 ≤ n → n ≤ 10 → Vw n s → Cl h → ∃ v, Least n s v ∧ G "trouble" [wb n s] h = .ok (.int v) h
section
variable {G G' : CallT}
theorem enum_rw {n : Nat} {f : Nat → Int} : enumPairs ((List.range n).map fun y => MV.int (f y)) = (List.range n).map fun y => .tup [.int (y : Nat), .int (f y)] := by
  unfold enumPairs
  apply List.ext_getElem?
  intro i
  simp only [List.length_map, List.length_range, List.getElem?_zipWith, List.getElem?_map]
  by_cases h : i < n
  · simp [List.getElem?_range h]
  · have : (List.range n)[i]? = none := List.getElem?_eq_none (by simpa using h)
    simp [this]
theorem p_foe_table (h1 : S_foes_of G) (r : Runs G G' "foe_table" F_foe_table) : S_foe_table G' := fun n s h hn W => by
  rw [r.no rfl]
  show bodyR (evS G ir_foe_table (startM N_foe_table [wb n s]) h) = _
  unfold ir_foe_table
  simp only [N_foe_table, startM, List.map, List.length_cons, List.length_nil, List.replicate, List.cons_append, List.nil_append]
  have pw : (2 : Nat) ^ n ≤ 2 ^ 10 := Nat.pow_le_pow_right (by omega) hn
  have pw1 : 1 ≤ (2 : Nat) ^ n := Nat.one_le_two_pow
  have pe : (2 : Int) ^ n = ((2 ^ n : Nat) : Int) := by simp
  have sh : ∀ k : Nat, k ≤ 10 → shlI 1 (k : Nat) = some (1 * 2 ^ k) := fun k hk => by
    unfold shlI
    rw [if_pos ⟨by omega, absLe_iff.mpr (by omega), absLe_iff.mpr (by omega)⟩]; simp
  refine b_asg (.int n) h (by simp) ?_
  refine b_asg (.ref h.length) (h ++ [.lst (tabV n s 1)]) ?_ ?_
  · have := foes_F (n := n) W.sy
    simp [h1 n s h (by omega), tabV, bits_zero, this]
  refine b_for (List.range (2 ^ n - 1)) (fun k => .int ((1 : Int) + (k : Nat))) (fun i env h' => ∃ o3 o4 o5 o6, env = [some (wb n s), some (.int n), some (.ref h.length), o3, o4, o5, o6, none, none] ∧ h' = h ++ [.lst (tabV n s (i + 1))]) (c := .no) (h0 := h ++ [.lst (tabV n s 1)]) ?_ (fun _ _ _ _ => trivial) ⟨none, none, none, none, rfl, rfl⟩ ?_ ?_
  · have := rangeM_2 1 (1 * 2 ^ n) (h ++ [.lst (tabV n s 1)]) (by omega) (by omega) (by omega) (by omega)
    have e : (1 * 2 ^ n - 1 : Int).toNat = 2 ^ n - 1 := by omega
    simp only [Int.one_mul] at this e
    simp [sh n hn, this, e]
  · rintro i hi env h' ⟨o3, o4, o5, o6, rfl, rfl⟩
    simp only [List.getElem_range]
    have hi' : i < 2 ^ n - 1 := by simpa using hi
    obtain ⟨top, rest, e1, e2, e3, e4, e5⟩ := bits_top (m := 1 + i) (by omega)
    have ht : top < n := by
      rw [e3]
      exact (Nat.log2_lt (by omega)).mpr (by omega)
    have cm : ((1 : Int) + (i : Nat)) = ((1 + i : Nat) : Int) := by omega
    rw [cm]
    refine ⟨_, rfl, .nx, [some (wb n s), some (.int n), some (.ref h.length), some (.int ((1 + i : Nat) : Int)), some (.int (top : Nat)), some (.int (rest : Nat)), some (.int (S n fun y => sw (bits rest y) (s top y))), none, none], h ++ [.lst (tabV n s (i + 1 + 1))], ?_, .inl rfl, _, _, _, _, rfl, rfl⟩
    refine s_asg (.int (top : Nat)) (h ++ [.lst (tabV n s (i + 1))]) ?_ ?_
    · have := bits_nat (m := 1 + i) (by omega)
      rw [← e3] at this
      simp only [List.set_cons_succ, List.set_cons_zero, ev_bin, ev_meth, evMeth, ev_var, List.getElem?_cons_succ, List.getElem?_cons_zero, bind_ok', tyM, mtOk_bits, isT, beq_self_eq_true, if_true, evL_nil, mtOp_bits, bitsM, this, ofO_some', ev_cst, opB_Sub, iiM_ii, subI_ii, mapO_some]
      congr 2; omega
    refine s_asg (.int (rest : Nat)) (h ++ [.lst (tabV n s (i + 1))]) ?_ ?_
    · have := xor_top e1 e2
      simp only [List.set_cons_succ, List.set_cons_zero, ev_bin, ev_var, List.getElem?_cons_succ, List.getElem?_cons_zero, bind_ok', ev_cst, opB_BitXor, opB_LShift, iiM_ii, sh top (by omega), mapO_some, ofO_some', xorI, this]
    refine s_asg (.int (S n fun y => sw (bits rest y) (s top y))) (h ++ [.lst (tabV n s (i + 1))]) ?_ ?_
    · rw [← S_sum]
      refine e_sum (l := List.range n) (fun y => sw (bits rest y) (s top y)) (comp_m (List.range n) (fun y => .tup [.int (y : Nat), .int (s top y)]) (fun y => .int (sw (bits rest y) (s top y))) (c := .no) ?_ trivial (by simp; omega) fun y hy => ⟨[some (wb n s), some (.int n), some (.ref h.length), some (.int ((1 + i : Nat) : Int)), some (.int (top : Nat)), some (.int (rest : Nat)), o6, some (.int (y : Nat)), some (.int (s top y))], ?_, ?_⟩)
      · have ee := enum_rw (n := n) (f := s top)
        simp [evEnum, ix_wbn, ht, walkM, rw_, ee]
      · simp [wipeM]
      · have := bit_and rest y
        have hs : shrI (rest : Nat) (y : Nat) = some ((rest : Int) / 2 ^ y) := by
          unfold shrI; rw [if_pos (by omega)]; simp
        cases hb : bits rest y <;> simp [hs, andI, this, hb, sw]
    · have hg : (h ++ [MO.lst (tabV n s (i + 1))])[h.length]? = some (.lst (tabV n s (i + 1))) := by simp
      have hri : rest < i + 1 := by omega
      have hx : ixM (.ref h.length) (.int (rest : Nat)) (h ++ [.lst (tabV n s (i + 1))]) = some (.int (F s (bits rest) n), h ++ [.lst (tabV n s (i + 1))]) := by
        simp only [ixM, dctOf_lstr hg, sqOf, sqLOf, lstOf, hg, atI_nat]
        simp [tabV, hri]
      have hap : appendM "list" (.ref h.length) [.int (F s (bits rest) n + S n fun y => sw (bits rest y) (s top y))] (h ++ [.lst (tabV n s (i + 1))]) = some (.non, h ++ [.lst (tabV n s (i + 1 + 1))]) := by
        simp only [appendM, hg]
        rw [if_pos (by simp [tabV]; omega), setLast_h]
        congr 4
        have ft := F_turn W (t := bits rest) (a := top) ht e5
        rw [← e4] at ft
        rw [← ft, show 1 + i = i + 1 by omega]
        unfold tabV
        rw [List.range_succ (n := i + 1), List.map_append]; rfl
      simp only [List.set_cons_succ, List.set_cons_zero, evS_ex, ev_meth, evMeth, ev_var, List.getElem?_cons_succ, List.getElem?_cons_zero, bind_ok', tyM, hg, mtOk_append, isT, beq_self_eq_true, if_true, evL_cons, evL_nil, ev_bin, ev_ix, hx, ofO_some', opB_Add, addM_ii, mtOp_append, hap, ofE_ok']
  · rintro env2 h2 ⟨o3, o4, o5, o6, rfl, rfl⟩
    refine b_ret ?_
    simp only [List.length_range]
    rw [show 2 ^ n - 1 + 1 = 2 ^ n by omega]
    simp
theorem p_trouble_of (h1 : S_foe_table G) (r : Runs G G' "trouble_of" F_trouble_of) : S_trouble_of G' := fun n s h hn W c => by
  have pw1 : 1 ≤ (2 : Nat) ^ n := Nat.one_le_two_pow
  obtain ⟨v, e, m1, m2⟩ := minI_ok (l := (List.range (2 ^ n)).map fun m => F s (bits m) n) (by simp)
  refine ⟨v, ⟨?_, fun t => ?_⟩, ?_⟩
  · obtain ⟨m, _, rfl⟩ := List.mem_map.mp m1
    exact ⟨_, rfl⟩
  · obtain ⟨m, hm, hb⟩ := bits_all t n
    have := m2 (F s (bits m) n) (List.mem_map.mpr ⟨m, List.mem_range.mpr hm, rfl⟩)
    rwa [F_congr (t := bits m) (t' := t) (fun _ _ _ _ => rfl) (fun x hx => hb x hx)] at this
  · rw [r.yes rfl]
    have hg : (h ++ [MO.lst (tabV n s (2 ^ n))])[h.length]? = some (.lst (tabV n s (2 ^ n))) := by simp
    have ha : allInts (tabV n s (2 ^ n)) = some ((List.range (2 ^ n)).map fun m => F s (bits m) n) := by
      have := allInts_map ((List.range (2 ^ n)).map fun m => F s (bits m) n)
      rwa [List.map_map] at this
    have main : bodyR (evS G ir_trouble_of (startM N_trouble_of [wb n s]) h) = .ok (.int v) (h ++ [.lst (tabV n s (2 ^ n))]) := by
      unfold ir_trouble_of
      simp only [N_trouble_of, startM, List.map, List.length_cons, List.length_nil, List.replicate, List.cons_append, List.nil_append]
      refine b_ret ?_
      have : minDM [.ref h.length] (h ++ [MO.lst (tabV n s (2 ^ n))]) = some (.int v, h ++ [MO.lst (tabV n s (2 ^ n))]) := by
        unfold minDM
        have : minM [.ref h.length] (h ++ [MO.lst (tabV n s (2 ^ n))]) = some (.int v, h ++ [MO.lst (tabV n s (2 ^ n))]) := by
          simp only [minM, sqLOf, lstOf, hg, ha, e, mapO_some]
        rw [this]
      simp [h1 n s h hn W, this]
    show gcR h (bodyR (evS G ir_trouble_of (startM N_trouble_of [wb n s]) h)) = _
    rw [main]
    exact gc_ok c rfl
theorem p_trouble (h1 : S_check_web G) (h2 : S_trouble_of G) (r : Runs G G' "trouble" F_trouble) : S_trouble G' := fun n s h n1 n2 W c => by
  obtain ⟨v, l, e⟩ := h2 n s h n2 W c
  refine ⟨v, l, ?_⟩
  rw [r.no rfl]
  show bodyR (evS G ir_trouble (startM N_trouble [wb n s]) h) = _
  unfold ir_trouble
  simp only [N_trouble, startM, List.map, List.length_cons, List.length_nil, List.replicate, List.cons_append, List.nil_append]
  refine b_ex .non h (by simp [h1 n s h n1 n2 W]) (b_ret ?_)
  simp [e]
end
end Mi

set_option Elab.async false
set_option linter.all false
set_option maxRecDepth 100000
set_option maxHeartbeats 1000000
namespace Mi
open PySem PySem.Spec L2 LibI Mz
set_option autoImplicit false
def wl (a b : Int) : MO := .lst [.int a, .int b]
def S_law_well (G : CallT) : Prop := ∀ ns h, ns.length ≤ 63 → sumBits ns ≤ 1048576 → ∃ a b, G "_law_well" [.scr ns] h = .ok (.ref h.length) (h ++ [wl a b])
def S_law_dip (G : CallT) : Prop := ∀ h w a b (m : Nat), h[w]? = some (wl a b) → 1 ≤ m → m ≤ 1000 → ∃ (k : Nat) (a' b' : Int), k < m ∧ G "_law_dip" [.ref w, .int m] h = .ok (.int k) (h.set w (wl a' b'))
def S_law_web (G : CallT) : Prop := ∀ h w a b (n : Nat), h[w]? = some (wl a b) → 1 ≤ n → n ≤ 10 → Cl h → ∃ s a' b', Vw n s ∧ G "_law_web" [.ref w, .int n] h = .ok (wb n s) (h.set w (wl a' b'))
def S_law_ties (G : CallT) : Prop := ∀ n s h, n ≤ 20 → G "_law_ties" [wb n s] h = .ok (.lst (tiesV n s)) h
theorem mulM_ok {i j : Int} {h : MH} (m : Bool) (k : mulOk i j = true) : mulM m (.int i) (.int j) h = some (.int (i * j), h) := by
  simp only [mulM, k, if_true]
theorem mulOk_r {i j : Int} (k : absLe 18446744073709551615 j = true) : mulOk i j = true := by
  unfold mulOk; rw [k]; simp
theorem bits_lt {a : Int} {B : Nat} (h0 : 0 ≤ a) (h : a < 2 ^ B) : Builtin.Int.intBits a ≤ B := by
  unfold Builtin.Int.intBits
  split
  · omega
  · rename_i q
    obtain ⟨k, rfl⟩ := Int.eq_ofNat_of_zero_le h0
    have hk : k ≠ 0 := fun z => q (by rw [z]; rfl)
    have : k < 2 ^ B := by
      have e : ((2 : Int) ^ B) = ((2 ^ B : Nat) : Int) := by simp
      rw [e] at h; omega
    have := (Nat.log2_lt hk).mpr this
    rw [show (k : Int).natAbs = k by omega]
    omega
theorem lt_bits (c : Int) : (c.natAbs : Int) + 2 ≤ 2 ^ (Builtin.Int.intBits c + 1) := by
  unfold Builtin.Int.intBits
  split
  · rename_i q
    have : c = 0 := by simpa using q
    rw [this]; decide
  · rename_i q
    have hk : c.natAbs ≠ 0 := fun z => q (by simp; omega)
    have h1 : c.natAbs < 2 ^ (c.natAbs.log2 + 1) := Nat.lt_log2_self
    have e : ((2 : Int) ^ (c.natAbs.log2 + 1 + 1)) = ((2 ^ (c.natAbs.log2 + 1 + 1) : Nat) : Int) := by simp
    have h2 : 2 ^ (c.natAbs.log2 + 1 + 1) = 2 ^ (c.natAbs.log2 + 1) * 2 := Nat.pow_succ ..
    have h3 : 2 ≤ 2 ^ (c.natAbs.log2 + 1) := by
      have : 2 ^ 1 ≤ 2 ^ (c.natAbs.log2 + 1) := Nat.pow_le_pow_right (by omega) (by omega)
      simpa using this
    rw [e, h2]; omega
theorem abs_eq (c : Int) : (if c < 0 then -c else c) = (c.natAbs : Int) := by split <;> omega
theorem pow61 (h : MH) : powI 2 61 = some 2305843009213693952 := by
  unfold powI
  rw [if_pos ⟨by decide, by decide, by decide⟩]; rfl
section
variable {G G' : CallT}
theorem sumBits_take (ns : List Int) (i : Nat) (hi : i < ns.length) : sumBits (ns.take (i + 1)) = sumBits (ns.take i) + (Builtin.Int.intBits ns[i] + 1) := by
  unfold sumBits
  rw [List.take_succ_eq_append_getElem hi, List.map_append, List.sum_append]; simp
theorem sumBits_le (ns : List Int) (i : Nat) : sumBits (ns.take i) ≤ sumBits ns := by
  have : sumBits ns = sumBits (ns.take i) + sumBits (ns.drop i) := by
    unfold sumBits
    rw [← List.sum_append, ← List.map_append, List.take_append_drop]
  omega
theorem p_law_well (r : Runs G G' "_law_well" F__law_well) : S_law_well G' := fun ns h hl hb => by
  suffices main : ∃ a b, bodyR (evS G ir__law_well (startM N__law_well [.scr ns]) h) = .ok (.ref h.length) (h ++ [wl a b]) by
    obtain ⟨a, b, e⟩ := main
    exact ⟨a, b, by rw [r.no rfl]; exact e⟩
  unfold ir__law_well
  simp only [N__law_well, startM, List.map, List.length_cons, List.length_nil, List.replicate, List.cons_append, List.nil_append]
  obtain ⟨env2, h2, w1, a, b, o, _, _, rfl, rfl⟩ := for_inv (G := G) (it := .val (.var 0)) (tg := .name 3) (c := .no) (env := [some (.scr ns), some (.int 0), some (.int ns.length), none]) (h := h) (h0 := h)
    (a := .seq (.asg (.name 1) (.bin false .Add (.bin false .Mult (.var 1) (.bin false .Add (.bi false "abs" (.cons (.var 3) .nil)) (.cst (.int 2)))) (.bi false "abs" (.cons (.var 3) .nil))))
      (.asg (.name 2) (.bin false .Mod (.bi false "int" (.cons (.bin false .Add (.bin false .Add (.bin false .Mult (.var 2) (.cst (.int 31))) (.bin false .Mult (.var 3) (.cst (.int 2654435761)))) (.cst (.int 40503))) .nil)) (.bin false .Sub (.bin false .Pow (.cst (.int 2)) (.cst (.int 61))) (.cst (.int 1))))))
    ns MV.int (fun i env h' => ∃ a b o, 0 ≤ a ∧ a + 1 ≤ 2 ^ sumBits (ns.take i) ∧ env = [some (.scr ns), some (.int a), some (.int b), o] ∧ h' = h) (by simp) (fun _ _ _ _ => trivial)
    ⟨0, ns.length, none, by omega, by simp [sumBits], rfl, rfl⟩ (by
      rintro i hi env h' ⟨a, b, o, ha, hb2, rfl, rfl⟩
      have hbi := sumBits_le ns i
      have hs := sumBits_take ns i hi
      have hle := sumBits_le ns (i + 1)
      have ha2 : a < 2 ^ sumBits (ns.take i) := by omega
      have bl := bits_lt ha ha2
      have lc := lt_bits ns[i]
      have bl2 : Builtin.Int.intBits ((ns[i].natAbs : Int) + 2) ≤ Builtin.Int.intBits ns[i] + 2 := by
        refine bits_lt (by omega) ?_
        have : (2 : Int) ^ (Builtin.Int.intBits ns[i] + 2) = 2 ^ (Builtin.Int.intBits ns[i] + 1) * 2 := Int.pow_succ ..
        omega
      have m1 : mulOk a ((ns[i].natAbs : Int) + 2) = true := by
        unfold mulOk
        rw [Bool.or_eq_true]; right
        rw [Nat.ble_eq]; omega
      refine ⟨_, rfl, .nx, [some (.scr ns), some (.int (a * ((ns[i].natAbs : Int) + 2) + (ns[i].natAbs : Int))), some (.int ((b * 31 + ns[i] * 2654435761 + 40503) % 2305843009213693951)), some (.int ns[i])], h', ?_, .inl rfl, _, _, _, ?_, ?_, rfl, rfl⟩
      · refine s_asg (.int (a * ((ns[i].natAbs : Int) + 2) + (ns[i].natAbs : Int))) h' ?_ ?_
        · have := mulM_ok (h := h') false m1
          simp [absM, abs_eq, this]
        · have m2 := mulM_ok (h := h') false (mulOk_r (i := b) (j := 31) (by decide))
          have m3 := mulM_ok (h := h') false (mulOk_r (i := ns[i]) (j := 2654435761) (by decide))
          simp [m2, m3, intM, pow61 h', modI]
      · have : 0 ≤ a * ((ns[i].natAbs : Int) + 2) := Int.mul_nonneg ha (by omega)
        omega
      · rw [hs, Int.pow_add]
        have h1 : a * ((ns[i].natAbs : Int) + 2) + (ns[i].natAbs : Int) + 1 ≤ (a + 1) * ((ns[i].natAbs : Int) + 2) := by
          rw [Int.add_mul]; omega
        have h2 : (a + 1) * ((ns[i].natAbs : Int) + 2) ≤ 2 ^ sumBits (ns.take i) * 2 ^ (Builtin.Int.intBits ns[i] + 1) := Int.mul_le_mul hb2 lc (by omega) (by omega)
        omega)
  refine ⟨a, b, ?_⟩
  refine b_asg (.int 0) h2 (by simp) (b_asg (.int ns.length) h2 (by simp) (b_nx w1 (b_ret ?_)))
  simp [wl]
theorem set_get {h : MH} {w : Nat} {o o' : MO} (e : h[w]? = some o) : (h.set w o')[w]? = some o' := by
  have : w < h.length := by
    apply Classical.byContradiction
    intro z
    rw [List.getElem?_eq_none (by omega)] at e; cases e
  simp [this]
theorem p_law_dip (r : Runs G G' "_law_dip" F__law_dip) : S_law_dip G' := fun h w a b m hw m1 m2 => by
  suffices main : ∃ (k : Nat) (a' b' : Int), k < m ∧ bodyR (evS G ir__law_dip (startM N__law_dip [.ref w, .int m]) h) = .ok (.int k) (h.set w (wl a' b')) by
    obtain ⟨k, a', b', hk, e⟩ := main
    exact ⟨k, a', b', hk, by rw [r.no rfl]; exact e⟩
  unfold ir__law_dip
  simp only [N__law_dip, startM, List.map, List.length_cons, List.length_nil, List.replicate, List.cons_append, List.nil_append]
  have ix0 : ∀ {H : MH} {x y : Int}, H[w]? = some (wl x y) → ixM (.ref w) (.int 0) H = some (.int x, H) := fun {H x y} e => by
    simp only [wl] at e
    simp only [ixM, dctOf_lstr e, sqOf, sqLOf, lstOf, e]; rfl
  have ix1 : ∀ {H : MH} {x y : Int}, H[w]? = some (wl x y) → ixM (.ref w) (.int 1) H = some (.int y, H) := fun {H x y} e => by
    simp only [wl] at e
    simp only [ixM, dctOf_lstr e, sqOf, sqLOf, lstOf, e]; rfl
  have mpos : (0 : Int) < m := by omega
  have mp2 : 0 < m := by omega
  have mn0 : m ≠ 0 := by omega
  have ml : m.log2 < 9000 := by
    have := (Nat.log2_lt (n := m) (k := 10) (by omega)).mpr (by omega)
    omega
  have md : ∀ z : Int, ∃ k : Nat, k < m ∧ z % (m : Int) = k := fun z => by
    have h1 := Int.emod_nonneg z (show (m : Int) ≠ 0 by omega)
    have h2 := Int.emod_lt_of_pos z mpos
    exact ⟨(z % m).toNat, by omega, by omega⟩
  by_cases ha : 0 < a
  · obtain ⟨k, hk, ek⟩ := md a
    refine ⟨k, a / m, b, hk, ?_⟩
    refine b_rt (env1 := [some (.ref w), some (.int m), some (.int k)]) (s_if_yes (h1 := h) (by simp [ix0 hw, ha]) ?_)
    refine s_asg (.int k) h (by simp [ix0 hw, intM, modI, mpos, mp2, mn0, ek, wl]) ?_
    refine s_nx (env1 := [some (.ref w), some (.int m), some (.int k)]) (h1 := h.set w (wl (a / m) b)) ?_ (by simp)
    have hp : putM (.ref w) (.int 0) (.int (a / m)) h = some (h.set w (wl (a / m) b)) := by
      have e := hw
      simp only [wl] at e
      simp only [putM, e]; rfl
    simp [evsPut, ix0 hw, fdivI, mpos, mp2, ml, hp]
  · obtain ⟨k, hk, ek⟩ := md ((b * 6364136223846793005 + 1442695040888963407) % 2305843009213693951 / 4099)
    refine ⟨k, a, (b * 6364136223846793005 + 1442695040888963407) % 2305843009213693951, hk, ?_⟩
    refine b_if_no' (h1 := h) (by simp [ix0 hw, ha]) ?_
    have m2 := mulM_ok (h := h) false (mulOk_r (i := b) (j := 6364136223846793005) (by decide))
    have hp : putM (.ref w) (.int 1) (.int ((b * 6364136223846793005 + 1442695040888963407) % 2305843009213693951)) h = some (h.set w (wl a ((b * 6364136223846793005 + 1442695040888963407) % 2305843009213693951))) := by
      have e := hw
      simp only [wl] at e
      simp only [putM, e]; rfl
    refine b_nx (env1 := [some (.ref w), some (.int m), none]) (h1 := h.set w (wl a ((b * 6364136223846793005 + 1442695040888963407) % 2305843009213693951))) ?_ (b_ret ?_)
    · simp [evsPut, ix1 hw, m2, intM, pow61 h, modI, hp]
    · have g := set_get (o' := wl a ((b * 6364136223846793005 + 1442695040888963407) % 2305843009213693951)) hw
      have l4 : Nat.log2 4099 < 9000 := by decide
      simp [ix1 g, fdivI, l4, intM, modI, mpos, mp2, mn0, ek]
def prs (n : Nat) (A B : Nat → MO) : List MO := (List.range n).flatMap fun i => [A i, B i]
theorem prs_succ (n : Nat) (A B : Nat → MO) : prs (n + 1) A B = prs n A B ++ [A n, B n] := by
  simp [prs, List.range_succ, List.flatMap_append]
theorem prs_len (n : Nat) (A B : Nat → MO) : (prs n A B).length = 2 * n := by
  induction n with
  | zero => rfl
  | succ n ih => rw [prs_succ, List.length_append, ih]; simp; omega
theorem prs_get {n : Nat} {A B : Nat → MO} {x : Nat} (hx : x < n) : (prs n A B)[2 * x + 1]? = some (B x) := by
  induction n with
  | zero => omega
  | succ n ih =>
    rw [prs_succ]
    by_cases e : x < n
    · rw [List.getElem?_append_left (by rw [prs_len]; omega)]; exact ih e
    · have : x = n := by omega
      subst this
      rw [List.getElem?_append_right (by rw [prs_len]; omega), prs_len]
      have : 2 * x + 1 - 2 * x = 1 := by omega
      rw [this]; rfl
theorem prs_congr {n : Nat} {A A' B B' : Nat → MO} (h : ∀ i < n, A i = A' i ∧ B i = B' i) : prs n A B = prs n A' B' := by
  induction n with
  | zero => rfl
  | succ n ih => rw [prs_succ, prs_succ, ih fun i hi => h i (by omega), (h n (by omega)).1, (h n (by omega)).2]
theorem prs_set {n : Nat} {A B : Nat → MO} {x : Nat} {o : MO} (hx : x < n) : (prs n A B).set (2 * x + 1) o = prs n A (fun i => if i = x then o else B i) := by
  induction n with
  | zero => omega
  | succ n ih =>
    rw [prs_succ, prs_succ]
    by_cases e : x < n
    · rw [List.set_append_left _ _ (by rw [prs_len]; omega), ih e, if_neg (by omega)]
    · have : x = n := by omega
      subst this
      rw [List.set_append_right _ _ (by rw [prs_len]; omega), prs_len]
      have : 2 * x + 1 - 2 * x = 1 := by omega
      rw [this, if_pos rfl]
      congr 1
      exact prs_congr fun i hi => ⟨rfl, by rw [if_neg (by omega)]⟩
def rowO (n : Nat) (f : Nat → Int) : MO := .lst ((List.range n).map fun y => .int (f y))
def z1 : Nat → MO := fun _ => .lst [.int 0]
/-- the heap of the lines -/
def HH (h : MH) (w : Nat) (a b : Int) (n : Nat) (s : Nat → Nat → Int) : MH := h.set w (wl a b) ++ prs n z1 fun i => rowO n (s i)
section
variable {h : MH} {w n : Nat} {a b : Int} {s : Nat → Nat → Int}
theorem HH_well {x y : Int} (hw : h[w]? = some (wl x y)) : (HH h w a b n s)[w]? = some (wl a b) := by
  have hl : w < h.length := by
    apply Classical.byContradiction
    intro z
    rw [List.getElem?_eq_none (by omega)] at hw; cases hw
  unfold HH
  rw [List.getElem?_append_left (by simpa using hl)]
  exact set_get hw
theorem HH_set {x y : Int} (hw : h[w]? = some (wl x y)) (a' b' : Int) : (HH h w a b n s).set w (wl a' b') = HH h w a' b' n s := by
  have hl : w < h.length := by
    apply Classical.byContradiction
    intro z
    rw [List.getElem?_eq_none (by omega)] at hw; cases hw
  unfold HH
  rw [List.set_append_left _ _ (by simpa using hl), List.set_set]
theorem HH_row {x : Nat} (hx : x < n) : (HH h w a b n s)[h.length + (2 * x + 1)]? = some (rowO n (s x)) := by
  unfold HH
  rw [List.getElem?_append_right (by simp), List.length_set]
  have : h.length + (2 * x + 1) - h.length = 2 * x + 1 := by omega
  rw [this]; exact prs_get hx
def upd (s : Nat → Nat → Int) (x y : Nat) (v : Int) : Nat → Nat → Int := fun i j => if i = x ∧ j = y then v else s i j
theorem rowO_set {f : Nat → Int} {y : Nat} {v : Int} : ((List.range n).map fun j => MV.int (f j)).set y (.int v) = (List.range n).map fun j => MV.int (if j = y then v else f j) := by
  apply List.ext_getElem?
  intro i
  rw [List.getElem?_set]
  simp only [List.length_map, List.length_range, List.getElem?_map]
  by_cases e : y = i
  · subst e
    rw [if_pos rfl]
    by_cases hy : y < n
    · rw [if_pos hy, List.getElem?_range hy]; simp
    · rw [if_neg hy, List.getElem?_eq_none (by simpa using hy)]; rfl
  · rw [if_neg e]
    by_cases hi : i < n
    · rw [List.getElem?_range hi]
      simp only [Option.map_some]
      rw [if_neg fun z => e z.symm]
    · rw [List.getElem?_eq_none (by simpa using hi)]; rfl
theorem HH_put {x y : Nat} {v : Int} (hx : x < n) (hy : y < n) : putM (.ref (h.length + (2 * x + 1))) (.int (y : Nat)) (.int v) (HH h w a b n s) = some (HH h w a b n (upd s x y v)) := by
  have e := HH_row (h := h) (w := w) (a := a) (b := b) (s := s) hx
  simp only [rowO] at e
  have ix : L2.ixN n (y : Int) = some y := by
    unfold L2.ixN
    rw [if_pos (by omega), if_pos (by omega)]; simp
  simp only [putM, e, List.length_map, List.length_range, ix, mapO_some, rowO_set]
  congr 1
  unfold HH
  rw [List.set_append_right _ _ (by simp), List.length_set]
  have : h.length + (2 * x + 1) - h.length = 2 * x + 1 := by omega
  rw [this, prs_set hx]
  congr 1
  refine prs_congr fun i hi => ⟨rfl, ?_⟩
  by_cases e2 : i = x
  · subst e2
    rw [if_pos rfl]
    unfold rowO upd
    congr 1
    exact List.map_congr_left fun j _ => by simp
  · rw [if_neg e2]
    unfold rowO upd
    congr 1
    exact List.map_congr_left fun j _ => by rw [if_neg fun z => e2 z.1]
theorem HH_ix {x y : Nat} (hx : x < n) (hy : y < n) : ixM (.ref (h.length + (2 * x + 1))) (.int (y : Nat)) (HH h w a b n s) = some (.int (s x y), HH h w a b n s) := by
  have e := HH_row (h := h) (w := w) (a := a) (b := b) (s := s) hx
  simp only [rowO] at e
  simp only [ixM, dctOf_lstr e, sqOf, sqLOf, lstOf, e, atI_nat]
  simp [hy]
end
theorem keep_set {h : MH} {w : Nat} {a b : Int} (c : Cl h) : keepO h.length (h.set w (wl a b)) = true := by
  unfold Cl keepO at *
  rw [List.all_eq_true] at *
  intro o ho
  rw [List.take_of_length_le (by simp)] at ho
  rcases List.mem_or_eq_of_mem_set ho with q | q
  · exact c o (by rw [List.take_of_length_le (Nat.le_refl _)]; exact q)
  · subst q; rfl
theorem cl_set {h : MH} {w : Nat} {a b : Int} (c : Cl h) : Cl (h.set w (wl a b)) := by
  have := keep_set (w := w) (a := a) (b := b) c
  unfold Cl; rwa [List.length_set]
theorem gc_set {h : MH} {w : Nat} {a b : Int} {x : MH} {m : MV} (c : Cl h) (hm : refsLt h.length m = true) : gcR h (.ok m (h.set w (wl a b) ++ x)) = .ok m (h.set w (wl a b)) := by
  have e : h.length ≤ (h.set w (wl a b)).length := by simp
  show (if refsLt h.length m = true ∧ keepO h.length (h.set w (wl a b) ++ x) = true then Res.ok m ((h.set w (wl a b) ++ x).take h.length) else .err) = _
  rw [if_pos ⟨hm, by rw [keep_app e]; exact keep_set c⟩]
  congr 1
  rw [List.take_append_of_le_length e, List.take_of_length_le (by simp)]
theorem compL_h {α : Type} {c : Chk} {tg : ITg} {t : IT} {e : IE} {env : MEnv} (f : Nat → MV) (H : Nat → MH) (hc : ∀ i, c.ok (H i)) (g : α → MV) : ∀ (l : List α) (k : Nat) (acc : List MV), acc.length + l.length ≤ 16777216 →
    (∀ i (hi : i < l.length), ∃ env1, asT tg (g l[i]) env = some env1 ∧ evT G t env1 (H (k + i)) = .ok true (H (k + i)) ∧ ev G e env1 (H (k + i)) = .ok (f (k + i)) (H (k + i + 1))) →
    compL c (asT tg) (evT G t) (ev G e) env acc (l.map g) (H k) = .ok (acc ++ (List.range l.length).map fun i => f (k + i)) (H (k + l.length))
  | [], k, acc, hl, _ => by
    have : acc.length ≤ 16777216 := by simpa using hl
    simp [compL, hc, this]
  | x :: l, k, acc, hl, hx => by
    obtain ⟨env1, e1, e2, e3⟩ := hx 0 (by simp)
    have e1 : asT tg (g x) env = some env1 := e1
    simp only [Nat.add_zero] at e2 e3
    have hl' : acc.length + (l.length + 1) ≤ 16777216 := by simpa using hl
    simp only [List.map_cons, compL, hc, if_true, e1, e2, e3, noX_ok, bind_ok]
    rw [compL_h f H hc g l (k + 1) (acc ++ [f k]) (by simp; omega) fun i hi => by
      have := hx (i + 1) (by simpa using hi)
      rw [show k + (i + 1) = k + 1 + i by omega] at this
      exact this]
    congr 1
    · rw [List.append_assoc, List.length_cons, List.range_succ_eq_map, List.map_cons, List.map_map]
      simp only [Nat.add_zero, List.singleton_append]
      congr 2
      exact List.map_congr_left fun i _ => by simp only [Function.comp_apply]; rw [show k + (i + 1) = k + 1 + i by omega]
    · rw [List.length_cons]; congr 1; omega
end
end Mi

set_option Elab.async false
set_option linter.all false
set_option maxRecDepth 100000
set_option maxHeartbeats 1000000
namespace Mi
open PySem PySem.Spec L2 LibI Mz
set_option autoImplicit false
section
variable {G G' : CallT}
theorem vw_upd {n : Nat} {s : Nat → Nat → Int} (W : Vw n s) {x y : Nat} (hxy : y < x) (hx : x < n) {v : Int} (hv : v = 1 ∨ v = -1) : Vw n (upd (upd s x y v) y x v) := by
  refine ⟨fun i j => ?_, fun i hi => ?_, fun i j hi hj => ?_, fun i j hi hj => ?_⟩
  · unfold upd
    have := W.sy i j
    by_cases h1 : i = y ∧ j = x
    · rw [if_pos h1, if_neg (by omega), if_pos (by omega)]
    · rw [if_neg h1]
      by_cases h2 : i = x ∧ j = y
      · rw [if_pos h2, if_pos (by omega)]
      · rw [if_neg h2, if_neg (by omega), if_neg (by omega)]; exact this
  · unfold upd
    rw [if_neg (by omega), if_neg (by omega)]; exact W.dg i hi
  · have := W.lo i j hi hj
    unfold upd
    split
    · omega
    · split
      · omega
      · exact this
  · have := W.hi i j hi hj
    unfold upd
    split
    · omega
    · split
      · omega
      · exact this
theorem vw_zero (n : Nat) : Vw n (fun _ _ => 0) := ⟨fun _ _ => rfl, fun _ _ => rfl, fun _ _ _ _ => by decide, fun _ _ _ _ => by decide⟩
def tiesTo (n : Nat) (s : Nat → Nat → Int) (k : Nat) : List (Nat × Nat) := (List.range k).flatMap fun x => ((rg (x + 1) n).filter fun y => s x y != 0).map fun y => (x, y)
theorem zeros (n : Nat) : (List.replicate n [MV.int 0]).flatten = (List.range n).map fun _ => MV.int 0 := by
  induction n with
  | zero => rfl
  | succ n ih => rw [List.replicate_succ', List.flatten_append, ih, List.range_succ, List.map_append]; simp
def linesV (h n : Nat) : MV := .lst ((List.range n).map fun i => .ref (h + (2 * i + 1)))
theorem lines_ix {h n x : Nat} {H : MH} (hx : x < n) : ixM (linesV h n) (.int (x : Nat)) H = some (.ref (h + (2 * x + 1)), H) := by
  unfold linesV
  rw [ixM_lst, atI_nat]
  simp [hx]
theorem p_law_web (h1 : S_law_dip G) (r : Runs G G' "_law_web" F__law_web) : S_law_web G' := fun h w a b n hw n1 n2 c => by
  suffices main : ∃ s a' b', Vw n s ∧ bodyR (evS G ir__law_web (startM N__law_web [.ref w, .int n]) h) = .ok (wb n s) (HH h w a' b' n s) by
    obtain ⟨s, a', b', W, e⟩ := main
    refine ⟨s, a', b', W, ?_⟩
    rw [r.yes rfl]
    show gcR h (bodyR (evS G ir__law_web (startM N__law_web [.ref w, .int n]) h)) = _
    rw [e]
    exact gc_set c (refs_wb _ _ _)
  unfold ir__law_web
  simp only [N__law_web, startM, List.map, List.length_cons, List.length_nil, List.replicate, List.cons_append, List.nil_append]
  obtain ⟨Q, hQ⟩ : ∃ Q : Res MV → Prop, Q = fun R => ∃ s a' b', Vw n s ∧ R = .ok (wb n s) (HH h w a' b' n s) := ⟨_, rfl⟩
  have hQ2 : ∀ R, Q R ↔ ∃ s a' b', Vw n s ∧ R = .ok (wb n s) (HH h w a' b' n s) := fun R => by rw [hQ]
  rw [← hQ2]
  clear hQ
  obtain ⟨k1, a1, b1, hk1, d1⟩ := h1 h w a b 6 hw (by omega) (by omega)
  have g1 := set_get (o' := wl a1 b1) hw
  obtain ⟨k2, a2, b2, hk2, d2⟩ := h1 _ w a1 b1 5 g1 (by omega) (by omega)
  rw [List.set_set] at d2
  have Hx : ∀ i, ev G (.bin true .Mult (.lst true (.cons (.cst (.int 0)) .nil)) (.var 1)) [some (.ref w), some (.int n), some (.int (1 + (k1 : Int))), some (.int k2), none, some (.int (i : Nat)), none, none, none] (h.set w (wl a2 b2) ++ prs i z1 fun _ => rowO n fun _ => 0) = .ok (.ref (h.length + (2 * i + 1))) (h.set w (wl a2 b2) ++ prs (i + 1) z1 fun _ => rowO n fun _ => 0) := fun i => by
    have hg : (h.set w (wl a2 b2) ++ ((prs i z1 fun _ => rowO n fun _ => 0) ++ [MO.lst [.int 0]]))[h.length + 2 * i]? = some (.lst [.int 0]) := by
      rw [List.getElem?_append_right (by simp), List.length_set, List.getElem?_append_right (by rw [prs_len]; omega), prs_len]
      have : h.length + 2 * i - h.length - 2 * i = 0 := by omega
      rw [this]; rfl
    have hm : mulM true (.ref (h.length + 2 * i)) (.int n) (h.set w (wl a2 b2) ++ ((prs i z1 fun _ => rowO n fun _ => 0) ++ [MO.lst [.int 0]])) = some (.ref (h.length + (2 * i + 1)), h.set w (wl a2 b2) ++ prs (i + 1) z1 fun _ => rowO n fun _ => 0) := by
      have hn : absLe 4611686018427387904 (n : Nat) = true := absLe_iff.mpr (by omega)
      simp only [mulM, lstOf, hg, hn, Int.toNat_natCast, List.length_cons, List.length_nil, true_and, newL, zeros]
      rw [if_pos (by omega), if_pos (by simp; omega)]
      simp only [if_true]
      congr 2
      · simp [prs_len]
        try omega
      · rw [prs_succ]; simp [z1, rowO]
    simp only [ev_bin, ev_lst, evL_cons, evL_nil, ev_cst, bind_ok', List.length_cons, List.length_nil, opB_Mult]
    rw [if_pos (by omega)]
    simp [prs_len, hm]
  refine x_of (b_asg (.int (1 + (k1 : Int))) (h.set w (wl a1 b1)) ?_ rfl) ?_
  · simp at d1; simp [d1]
  refine x_of (b_asg (.int (k2 : Nat)) (h.set w (wl a2 b2)) ?_ rfl) ?_
  · simp at d2; simp [d2]
  refine x_of (b_asg (linesV h.length n) (HH h w a2 b2 n fun _ _ => 0) ?_ rfl) ?_
  · have hr : evI G (.val (.bi false "range" (.cons (.var 1) .nil))) [some (.ref w), some (.int n), some (.int (1 + (k1 : Int))), some (.int k2), none, none, none, none, none] (h.set w (wl a2 b2)) = .ok ((List.range n).map fun (k : Nat) => MV.int (k : Nat), .no) (h.set w (wl a2 b2)) := by
      simp [rangeM_nn n _ (by omega)]
    have hc := compL_h (G := G) (c := .no) (tg := .name 5) (t := .tt) (e := .bin true .Mult (.lst true (.cons (.cst (.int 0)) .nil)) (.var 1)) (env := wipeM [some (.ref w), some (.int n), some (.int (1 + (k1 : Int))), some (.int k2), none, none, none, none, none] [5])
      (fun i => .ref (h.length + (2 * i + 1))) (fun i => h.set w (wl a2 b2) ++ prs i z1 fun _ => rowO n fun _ => 0) (fun _ => trivial) (fun (k : Nat) => MV.int (k : Nat)) (List.range n) 0 [] (by simp; omega) fun i hi => ⟨_, rfl, rfl, by
        simp only [List.getElem_range, Nat.zero_add]
        exact Hx i⟩
    simp only [prs, List.range_zero, List.flatMap_nil, List.append_nil, List.nil_append, Nat.zero_add, List.length_range] at hc
    rw [ev_comp]
    simp only [List.set_cons_succ, List.set_cons_zero]
    rw [hr, bind_ok]
    simp only [hc, bind_ok', Bool.false_eq_true, if_false]
    rfl
  refine x_for (List.range n) (fun (k : Nat) => MV.int (k : Nat)) (fun _ env h' => ∃ s a b o5 o6 o7 o8, Vw n s ∧ env = [some (.ref w), some (.int n), some (.int (1 + (k1 : Int))), some (.int k2), some (linesV h.length n), o5, o6, o7, o8] ∧ h' = HH h w a b n s) (c := .no) (h0 := HH h w a2 b2 n fun _ _ => 0) ?_ (fun _ _ _ _ => trivial) ⟨fun _ _ => 0, a2, b2, none, none, none, none, vw_zero n, rfl, rfl⟩ ?_ ?_
  · simp [rangeM_nn n _ (by omega)]
  · rintro x hx env h' ⟨s, a3, b3, o5, o6, o7, o8, W, rfl, rfl⟩
    simp only [List.getElem_range]
    have hx : x < n := by simpa using hx
    obtain ⟨env2, h2, e1, s', a', b', o6', o7', o8', W', e2, e3⟩ := for_inv (G := G) (it := .val (.bi false "range" (.cons (.var 5) .nil))) (tg := .name 6) (c := .no) (env := [some (.ref w), some (.int n), some (.int (1 + (k1 : Int))), some (.int k2), some (linesV h.length n), some (.int (x : Nat)), o6, o7, o8]) (h := HH h w a3 b3 n s) (h0 := HH h w a3 b3 n s)
      (a := .if_ (.cmp .Lt (.call "_law_dip" (.cons (.var 0) (.cons (.cst (.int 6)) .nil))) (.var 2))
        (.seq (.asg (.name 7) (.ix (.var 4) (.var 5)))
        (.seq (.put (.var 7) (.var 6) (.ite (.cmp .Lt (.call "_law_dip" (.cons (.var 0) (.cons (.cst (.int 4)) .nil))) (.var 3)) (.neg (.cst (.int 1))) (.cst (.int 1))))
        (.seq (.asg (.name 8) (.ix (.var 4) (.var 6)))
        (.put (.var 8) (.var 5) (.ix (.var 7) (.var 6))))))
        .nx)
      (List.range x) (fun (k : Nat) => MV.int (k : Nat)) (fun _ env h' => ∃ s a b o6 o7 o8, Vw n s ∧ env = [some (.ref w), some (.int n), some (.int (1 + (k1 : Int))), some (.int k2), some (linesV h.length n), some (.int (x : Nat)), o6, o7, o8] ∧ h' = HH h w a b n s)
      (by simp [rangeM_nn x _ (by omega)]) (fun _ _ _ _ => trivial) ⟨s, a3, b3, o6, o7, o8, W, rfl, rfl⟩ (by
        rintro y hy env h' ⟨s, a3, b3, o6, o7, o8, W, rfl, rfl⟩
        simp only [List.getElem_range]
        have hy : y < x := by simpa using hy
        obtain ⟨k3, a4, b4, hk3, d3⟩ := h1 _ w a3 b3 6 (HH_well (n := n) (s := s) (a := a3) (b := b3) hw) (by omega) (by omega)
        rw [HH_set hw] at d3
        have ht : evT G (.cmp .Lt (.call "_law_dip" (.cons (.var 0) (.cons (.cst (.int 6)) .nil))) (.var 2)) [some (.ref w), some (.int n), some (.int (1 + (k1 : Int))), some (.int k2), some (linesV h.length n), some (.int (x : Nat)), some (.int (y : Nat)), o7, o8] (HH h w a3 b3 n s) = .ok (decide ((k3 : Int) < 1 + (k1 : Int))) (HH h w a4 b4 n s) := by
          simp at d3; simp [d3]
        by_cases hq : (k3 : Int) < 1 + (k1 : Int)
        · rw [decide_eq_true hq] at ht
          obtain ⟨k4, a5, b5, hk4, d4⟩ := h1 _ w a4 b4 4 (HH_well (n := n) (s := s) (a := a4) (b := b4) hw) (by omega) (by omega)
          rw [HH_set hw] at d4
          obtain ⟨v, hv, ev4⟩ : ∃ v : Int, (v = 1 ∨ v = -1) ∧ ev G (.ite (.cmp .Lt (.call "_law_dip" (.cons (.var 0) (.cons (.cst (.int 4)) .nil))) (.var 3)) (.neg (.cst (.int 1))) (.cst (.int 1))) [some (.ref w), some (.int n), some (.int (1 + (k1 : Int))), some (.int k2), some (linesV h.length n), some (.int (x : Nat)), some (.int (y : Nat)), some (.ref (h.length + (2 * x + 1))), o8] (HH h w a4 b4 n s) = .ok (.int v) (HH h w a5 b5 n s) := by
            by_cases q : (k4 : Int) < (k2 : Int)
            · have q' : k4 < k2 := by omega
              exact ⟨-1, .inr rfl, by simp at d4; simp [d4, q']⟩
            · have q' : ¬ k4 < k2 := by omega
              exact ⟨1, .inl rfl, by simp at d4; simp [d4, q']⟩
          refine ⟨_, rfl, .nx, [some (.ref w), some (.int n), some (.int (1 + (k1 : Int))), some (.int k2), some (linesV h.length n), some (.int (x : Nat)), some (.int (y : Nat)), some (.ref (h.length + (2 * x + 1))), some (.ref (h.length + (2 * y + 1)))], HH h w a5 b5 n (upd (upd s x y v) y x v), ?_, .inl rfl, _, _, _, _, _, _, vw_upd W hy hx hv, rfl, rfl⟩
          refine s_if_yes ht ?_
          refine s_asg (.ref (h.length + (2 * x + 1))) (HH h w a4 b4 n s) ?_ ?_
          · simp [lines_ix hx]
          refine s_nx (env1 := [some (.ref w), some (.int n), some (.int (1 + (k1 : Int))), some (.int k2), some (linesV h.length n), some (.int (x : Nat)), some (.int (y : Nat)), some (.ref (h.length + (2 * x + 1))), o8]) (h1 := HH h w a5 b5 n (upd s x y v)) ?_ ?_
          · have hp := HH_put (h := h) (w := w) (a := a5) (b := b5) (s := s) (v := v) (x := x) (y := y) hx (by omega)
            simp only [evS_put, evsPut, List.set_cons_succ, List.set_cons_zero, ev4, ofE_ok', ev_var, List.getElem?_cons_succ, List.getElem?_cons_zero, hp]
          refine s_asg (.ref (h.length + (2 * y + 1))) (HH h w a5 b5 n (upd s x y v)) ?_ ?_
          · simp [lines_ix (show y < n by omega)]
          · have hi := HH_ix (h := h) (w := w) (a := a5) (b := b5) (s := upd s x y v) (x := x) (y := y) hx (by omega)
            have hp := HH_put (h := h) (w := w) (a := a5) (b := b5) (s := upd s x y v) (v := v) (x := y) (y := x) (by omega) hx
            have hu : upd s x y v x y = v := by unfold upd; simp
            rw [hu] at hi
            simp only [evS_put, evsPut, List.set_cons_succ, List.set_cons_zero, ev_ix, ev_var, List.getElem?_cons_succ, List.getElem?_cons_zero, bind_ok', hi, ofO_some', ofE_ok', hp]
        · rw [decide_eq_false hq] at ht
          exact ⟨_, rfl, .nx, [some (.ref w), some (.int n), some (.int (1 + (k1 : Int))), some (.int k2), some (linesV h.length n), some (.int (x : Nat)), some (.int (y : Nat)), o7, o8], HH h w a4 b4 n s, s_if_no ht rfl, .inl rfl, _, _, _, _, _, _, W, rfl, rfl⟩)
    subst e2 e3
    exact ⟨_, rfl, .nx, _, _, e1, .inl rfl, _, _, _, _, _, _, _, W', rfl, rfl⟩
  · rintro env2 h2 ⟨s, a3, b3, o5, o6, o7, o8, W, rfl, rfl⟩
    refine (hQ2 _).mpr ⟨s, a3, b3, W, ?_⟩
    refine b_ret (e_tuple (by simp; omega) (comp_m (List.range n) (fun i => .ref (h.length + (2 * i + 1))) (fun i => rw_ n (s i)) (c := .no) ?_ trivial (by simp; omega) fun i hi => ⟨_, rfl, ?_⟩))
    · simp [linesV]
    · have hi := List.mem_range.mp hi
      have e := HH_row (h := h) (w := w) (a := a3) (b := b3) (s := s) hi
      simp only [rowO] at e
      have : tupleM [.ref (h.length + (2 * i + 1))] (HH h w a3 b3 n s) = some (rw_ n (s i), HH h w a3 b3 n s) := by
        simp only [tupleM, sqLOf, lstOf, e]
        exact newT_ok (by simp; omega)
      simp [wipeM, this]
theorem p_law_ties (r : Runs G G' "_law_ties" F__law_ties) : S_law_ties G' := fun n s h hn => by
  rw [r.no rfl]
  show bodyR (evS G ir__law_ties (startM N__law_ties [wb n s]) h) = _
  unfold ir__law_ties
  simp only [N__law_ties, startM, List.map, List.length_cons, List.length_nil, List.replicate, List.cons_append, List.nil_append]
  have hle : ∀ k, k ≤ n → (tiesTo n s k).length ≤ 400 := fun k hk => by
    unfold tiesTo
    have := len_flatMap_le (l := List.range k) (f := fun x => ((rg (x + 1) n).filter fun y => s x y != 0).map fun y => (x, y)) (k := 20) fun x _ => by
      rw [List.length_map]
      exact Nat.le_trans (List.length_filter_le _ _) (by rw [rg_len]; omega)
    simp only [List.length_range] at this
    omega
  refine b_asg (.lst []) h (by simp) ?_
  refine b_for (List.range n) (fun (k : Nat) => MV.int (k : Nat)) (fun i env h' => ∃ o2, i ≤ n ∧ env = [some (wb n s), some (.lst ((tiesTo n s i).map prV)), o2, none] ∧ h' = h) (c := .no) (h0 := h) ?_ (fun _ _ _ _ => trivial) ⟨none, by omega, rfl, rfl⟩ ?_ ?_
  · simp [rangeM_nn n _ (by omega)]
  · rintro x hx env h' ⟨o2, hxn, rfl, rfl⟩
    simp only [List.getElem_range]
    have hx : x < n := by simpa using hx
    refine ⟨_, rfl, .nx, [some (wb n s), some (.lst ((tiesTo n s (x + 1)).map prV)), some (.int (x : Nat)), none], h', ?_, .inl rfl, _, by omega, rfl, rfl⟩
    have hc : ev G (.comp false (.val (.bi false "range" (.cons (.bin false .Add (.var 2) (.cst (.int 1))) (.cons (.bi false "len" (.cons (.var 0) .nil)) .nil)))) (.name 3) (.cmp .NotEq (.ix (.ix (.var 0) (.var 2)) (.var 3)) (.cst (.int 0))) (.tup (.cons (.var 2) (.cons (.var 3) .nil))) [3]) [some (wb n s), some (.lst ((tiesTo n s x).map prV)), some (.int (x : Nat)), none] h' = .ok (.lst (((rg (x + 1) n).filter fun y => s x y != 0).map fun y => prV (x, y))) h' := by
      refine comp_f (rg (x + 1) n) (fun y => .int (y : Nat)) (fun y => s x y != 0) (fun y => prV (x, y)) (c := .no) ?_ trivial (by rw [rg_len]; omega) fun y hy => ⟨_, rfl, ?_, fun _ => ?_⟩
      · have := rangeM_2 (x + 1) n h' (by omega) (by omega) (by omega) (by omega)
        have e := rng_rg (x + 1) n
        simp only [Int.natCast_add, Int.cast_ofNat_Int] at e
        simp [this, e]
      · have hy' := mem_rg.mp hy
        simp [wipeM, ix_wbn, ix_rwn, hx, hy'.2, bne]
      · simp [wipeM, prV]
    refine s_asg1 (m := .lst ((tiesTo n s (x + 1)).map prV)) ?_
    have e : (tiesTo n s (x + 1)).map prV = (tiesTo n s x).map prV ++ ((rg (x + 1) n).filter fun y => s x y != 0).map fun y => prV (x, y) := by
      unfold tiesTo
      rw [List.range_succ, List.flatMap_append, List.map_append]
      simp only [List.flatMap_cons, List.flatMap_nil, List.append_nil, List.map_map]; rfl
    have ha : addM false (.lst ((tiesTo n s x).map prV)) (.lst (((rg (x + 1) n).filter fun y => s x y != 0).map fun y => prV (x, y))) h' = some (.lst ((tiesTo n s (x + 1)).map prV), h') := by
      show newL false _ _ = _
      rw [← e, newL_false, if_pos (by rw [List.length_map]; exact Nat.le_trans (hle (x + 1) (by omega)) (by decide))]
    simp only [List.set_cons_succ, List.set_cons_zero, ev_bin, hc, ev_var, List.getElem?_cons_succ, List.getElem?_cons_zero, bind_ok', opB_Add, ha, ofO_some']
  · rintro env2 h2 ⟨o2, _, rfl, rfl⟩
    refine b_ret ?_
    simp [tiesV, tiesL, tiesTo]
end
end Mi

set_option Elab.async false
set_option linter.all false
set_option maxRecDepth 100000
set_option maxHeartbeats 1000000
namespace Mi
open PySem PySem.Spec L2 Mz
set_option autoImplicit false
/-- a list of numbers, by value or in the heap -/
def IsL (h : MH) (v : MV) (xs : List MV) : Prop := v = .lst xs ∨ ∃ r, v = .ref r ∧ h[r]? = some (.lst xs)
theorem IsL.ix {h : MH} {v : MV} {xs : List MV} (e : IsL h v xs) (i : Int) : ixM v (.int i) h = (atI xs i).map fun m => (m, h) := by
  rcases e with rfl | ⟨r, rfl, e⟩
  · rfl
  · simp only [ixM, dctOf_lstr e, sqOf, sqLOf, lstOf, e]
theorem IsL.len {h : MH} {v : MV} {xs : List MV} (e : IsL h v xs) : lenM [v] h = some (.int xs.length, h) := by
  rcases e with rfl | ⟨r, rfl, e⟩
  · rfl
  · simp only [lenM, dctOf_lstr e, sqOf, sqLOf, lstOf, e]; rfl
theorem IsL.sq {h : MH} {v : MV} {xs : List MV} (e : IsL h v xs) : sqLOf h v = some xs := by
  rcases e with rfl | ⟨r, rfl, e⟩
  · rfl
  · simp only [sqLOf, lstOf, e]
theorem IsL.app {h : MH} {v : MV} {xs : List MV} (e : IsL h v xs) (x : MH) : IsL (h ++ x) v xs := by
  rcases e with rfl | ⟨r, rfl, e⟩
  · exact .inl rfl
  · have : r < h.length := by
      apply Classical.byContradiction
      intro z
      rw [List.getElem?_eq_none (by omega)] at e; cases e
    exact .inr ⟨r, rfl, by rw [List.getElem?_append_left this]; exact e⟩
theorem neM_bl (a b : Bool) (h : MH) : neM (.bl a) (.bl b) h = some (.bl (a != b), h) := by
  cases a <;> cases b <;> rfl
/-- sides by a mask of the places behind the first one -/
def tm (m : Nat) : Nat → Bool := fun y => decide (0 < y) && m.testBit (y - 1)
def dpV (s : Nat → Nat → Int) (i : Nat) : List MV := (List.range (2 ^ i)).map fun m => .int (F s (tm m) (i + 1))
theorem tm_top {m i : Nat} (h : m < 2 ^ i) : tm m (i + 1) = false := by
  unfold tm
  rw [Nat.add_sub_cancel, Nat.testBit_lt_two_pow h]; simp
theorem tm_add {m i y : Nat} (hy : y ≤ i) : tm (m + 2 ^ i) y = tm m y := by
  unfold tm
  by_cases h : 0 < y
  · rw [Nat.add_comm, Nat.testBit_two_pow_add_gt (by omega)]
  · simp [h]
theorem tm_add_top {m i : Nat} (h : m < 2 ^ i) : tm (m + 2 ^ i) (i + 1) = true := by
  unfold tm
  rw [Nat.add_sub_cancel, Nat.add_comm m, Nat.testBit_two_pow_add_eq, Nat.testBit_lt_two_pow h]; simp
theorem F_low {s : Nat → Nat → Int} {m i : Nat} (h : m < 2 ^ i) : F s (tm m) (i + 1 + 1) = F s (tm m) (i + 1) + S (i + 1) (fun y => foe (s (i + 1) y) false (tm m y)) := by
  show F s (tm m) (i + 1) + S (i + 1) (fun y => foe (s (i + 1) y) (tm m (i + 1)) (tm m y)) = _
  rw [tm_top h]
theorem foe_flip {v : Int} (h : v = -1 ∨ v = 0 ∨ v = 1) (t : Bool) : foe v true t = (if v ≠ 0 then 1 else 0) - foe v false t := by
  rcases h with rfl | rfl | rfl <;> cases t <;> decide
theorem S_sub (f g : Nat → Int) : ∀ n : Nat, S n (fun y => f y - g y) = S n f - S n g
  | 0 => rfl
  | n + 1 => by simp only [S]; rw [S_sub f g n]; omega
theorem F_high {n : Nat} {s : Nat → Nat → Int} (W : Vw n s) {m i : Nat} (hi : i + 1 < n) (h : m < 2 ^ i) : F s (tm (m + 2 ^ i)) (i + 1 + 1) = F s (tm m) (i + 1) + S (i + 1) (fun y => if s (i + 1) y ≠ 0 then 1 else 0) - S (i + 1) (fun y => foe (s (i + 1) y) false (tm m y)) := by
  show F s (tm (m + 2 ^ i)) (i + 1) + S (i + 1) (fun y => foe (s (i + 1) y) (tm (m + 2 ^ i) (i + 1)) (tm (m + 2 ^ i) y)) = _
  rw [tm_add_top h, F_congr (t := tm (m + 2 ^ i)) (t' := tm m) (fun _ _ _ _ => rfl) (fun x hx => tm_add (by omega))]
  rw [S_congr (g := fun y => (if s (i + 1) y ≠ 0 then 1 else 0) - foe (s (i + 1) y) false (tm m y)) fun y hy => by
    rw [tm_add (by omega), foe_flip (W.three hi (by omega))], S_sub]
  omega
theorem least_dp {n : Nat} {s : Nat → Nat → Int} {v : Int} (m1 : v ∈ (List.range (2 ^ n)).map fun m => F s (tm m) (n + 1)) (m2 : ∀ x ∈ (List.range (2 ^ n)).map fun m => F s (tm m) (n + 1), v ≤ x) : Least (n + 1) s v := by
  refine ⟨?_, fun t => ?_⟩
  · obtain ⟨m, _, rfl⟩ := List.mem_map.mp m1
    exact ⟨_, rfl⟩
  · have main : ∀ t : Nat → Bool, t 0 = false → v ≤ F s t (n + 1) := fun t h0 => by
      obtain ⟨m, hm, hb⟩ := bits_all (fun y => t (y + 1)) n
      have := m2 (F s (tm m) (n + 1)) (List.mem_map.mpr ⟨m, List.mem_range.mpr hm, rfl⟩)
      rwa [F_congr (t := tm m) (t' := t) (fun _ _ _ _ => rfl) (fun x hx => by
        unfold tm
        cases x with
        | zero => simp [h0]
        | succ x => rw [Nat.add_sub_cancel, hb x (by omega)]; simp)] at this
    cases h0 : t 0 with
    | false => exact main t h0
    | true =>
      have := main (fun x => !t x) (by simp [h0])
      rwa [F_not] at this
def S_law_trouble (G : CallT) : Prop := ∀ n s h, 1 ≤ n → n ≤ 10 → Vw n s → Cl h → ∃ v, Least n s v ∧ G "_law_trouble" [wb n s] h = .ok (.int v) h
section
variable {G G' : CallT}
/-- the new row of counts, so far -/
def aft (s : Nat → Nat → Int) (i j : Nat) : List MV := (List.range (2 * 2 ^ i)).map fun m => .int (if m < j ∨ (2 ^ i ≤ m ∧ m < 2 ^ i + j) then F s (tm m) (i + 1 + 1) else 0)
theorem set_range {k : Nat} {f : Nat → MV} {j : Nat} {v : MV} : ((List.range k).map f).set j v = (List.range k).map fun m => if m = j then v else f m := by
  apply List.ext_getElem?
  intro i
  rw [List.getElem?_set]
  simp only [List.length_map, List.length_range, List.getElem?_map]
  by_cases e : j = i
  · subst e
    rw [if_pos rfl]
    by_cases hy : j < k
    · rw [if_pos hy, List.getElem?_range hy]; simp
    · rw [if_neg hy, List.getElem?_eq_none (by simpa using hy)]; rfl
  · rw [if_neg e]
    by_cases hi : i < k
    · rw [List.getElem?_range hi]
      simp only [Option.map_some]
      rw [if_neg fun z => e z.symm]
    · rw [List.getElem?_eq_none (by simpa using hi)]; rfl
theorem p_law_trouble (r : Runs G G' "_law_trouble" K76i.F__law_trouble) : S_law_trouble G' := fun n s h n1 n2 W c => by
  suffices main : ∃ v x, Least n s v ∧ bodyR (evS G K76i.ir__law_trouble (startM K76i.N__law_trouble [wb n s]) h) = .ok (.int v) (h ++ x) by
    obtain ⟨v, x, l, e⟩ := main
    refine ⟨v, l, ?_⟩
    rw [r.yes rfl]
    show gcR h (bodyR (evS G K76i.ir__law_trouble (startM K76i.N__law_trouble [wb n s]) h)) = _
    rw [e]
    exact gc_ok c rfl
  unfold K76i.ir__law_trouble
  simp only [K76i.N__law_trouble, startM, List.map, List.length_cons, List.length_nil, List.replicate, List.cons_append, List.nil_append]
  obtain ⟨Q, hQ⟩ : ∃ Q : Res MV → Prop, Q = fun R => ∃ v x, Least n s v ∧ R = .ok (.int v) (h ++ x) := ⟨_, rfl⟩
  have hQ2 : ∀ R, Q R ↔ ∃ v x, Least n s v ∧ R = .ok (.int v) (h ++ x) := fun R => by rw [hQ]
  rw [← hQ2]
  clear hQ
  refine x_of (b_asg (.lst [.int 0]) h (by simp) rfl) ?_
  refine x_for (List.range (n - 1)) (fun (k : Nat) => MV.int ((1 : Int) + (k : Nat))) (fun i env h' => ∃ v1 x o2 o3 o4 o5 o6 o7 o8, env = [some (wb n s), some v1, o2, o3, o4, o5, o6, o7, o8] ∧ h' = h ++ x ∧ IsL h' v1 (dpV s i)) (c := .no) (h0 := h) ?_ (fun _ _ _ _ => trivial) ⟨.lst [.int 0], [], none, none, none, none, none, none, none, rfl, by simp, .inl rfl⟩ ?_ ?_
  · have := rangeM_2 1 n h (by omega) (by omega) (by omega) (by omega)
    have e : ((n : Int) - 1).toNat = n - 1 := by omega
    simp [this, e]
  · rintro i hi env h' ⟨v1, x, o2, o3, o4, o5, o6, o7, o8, rfl, rfl, hv⟩
    simp only [List.getElem_range]
    have hi : i < n - 1 := by simpa using hi
    have cm : ((1 : Int) + (i : Nat)) = ((i + 1 : Nat) : Int) := by omega
    rw [cm]
    have hlen := hv.len
    have pl : (dpV s i).length = 2 ^ i := by simp [dpV]
    have p10 : 2 ^ i ≤ 2 ^ 10 := Nat.pow_le_pow_right (by omega) (by omega)
    rw [pl] at hlen
    generalize hH : h ++ x = H at hv hlen ⊢
    have lenK : ∀ A, lenM [v1] (H ++ [.lst [.int 0], .lst A]) = some (.int (2 ^ i : Nat), H ++ [.lst [.int 0], .lst A]) := fun A => by
      have := (hv.app [.lst [.int 0], .lst A]).len
      rw [pl] at this; exact this
    refine ⟨_, rfl, .nx, ?_⟩
    suffices go : ∃ env2, evS G _ ([some (wb n s), some v1, some (.int ((i + 1 : Nat) : Int)), o3, o4, o5, o6, o7, o8]) H = .ok .nx env2 (H ++ [.lst [.int 0], .lst (aft s i (2 ^ i))]) ∧ ∃ o2 o3 o4 o5 o6 o7 o8, env2 = [some (wb n s), some (.ref (H.length + 1)), o2, o3, o4, o5, o6, o7, o8] by
      obtain ⟨env2, e1, o2, o3, o4, o5, o6, o7, o8, e2⟩ := go
      subst e2
      refine ⟨_, _, e1, .inl rfl, _, x ++ [.lst [.int 0], .lst (aft s i (2 ^ i))], _, _, _, _, _, _, _, rfl, ?_, .inr ⟨_, rfl, ?_⟩⟩
      · rw [← hH]; simp
      · have : aft s i (2 ^ i) = dpV s (i + 1) := by
          unfold aft dpV
          rw [Nat.pow_succ, Nat.mul_comm (2 ^ i) 2]
          exact List.map_congr_left fun m hm => by
            have := List.mem_range.mp hm
            rw [if_pos (by omega)]
        rw [this]; simp
    obtain ⟨P, hP⟩ : ∃ P : SRes → Prop, P = fun R => ∃ env2, R = .ok .nx env2 (H ++ [.lst [.int 0], .lst (aft s i (2 ^ i))]) ∧ ∃ o2 o3 o4 o5 o6 o7 o8, env2 = [some (wb n s), some (.ref (H.length + 1)), o2, o3, o4, o5, o6, o7, o8] := ⟨_, rfl⟩
    have hP2 : ∀ R, P R ↔ ∃ env2, R = .ok .nx env2 (H ++ [.lst [.int 0], .lst (aft s i (2 ^ i))]) ∧ ∃ o2 o3 o4 o5 o6 o7 o8, env2 = [some (wb n s), some (.ref (H.length + 1)), o2, o3, o4, o5, o6, o7, o8] := fun R => by rw [hP]
    rw [← hP2]
    clear hP
    refine y_of (s_asg (.ref (H.length + 1)) (H ++ [.lst [.int 0], .lst (aft s i 0)]) ?_ rfl) ?_
    · have l1 : lenM [v1] (H ++ [.lst [.int 0]]) = some (.int (2 ^ i : Nat), H ++ [.lst [.int 0]]) := by
        have := (hv.app [.lst [.int 0]]).len
        rw [pl] at this; exact this
      have hm := mulM_ok (h := H ++ [.lst [.int 0]]) false (mulOk_r (i := 2) (j := (2 ^ i : Nat)) (absLe_iff.mpr (by omega)))
      have hg : (H ++ [MO.lst [.int 0]])[H.length]? = some (.lst [.int 0]) := by simp
      have hz : aft s i 0 = (List.range (2 * 2 ^ i)).map fun _ => MV.int 0 := List.map_congr_left fun m _ => by rw [if_neg (by omega)]
      have cast : (2 : Int) * ((2 ^ i : Nat) : Int) = ((2 * 2 ^ i : Nat) : Int) := by rw [Int.natCast_mul]; rfl
      have hm2 : mulM true (.ref H.length) (.int ((2 * 2 ^ i : Nat) : Int)) (H ++ [.lst [.int 0]]) = some (.ref (H.length + 1), H ++ [.lst [.int 0], .lst (aft s i 0)]) := by
        have hn : absLe 4611686018427387904 ((2 * 2 ^ i : Nat) : Int) = true := absLe_iff.mpr (by omega)
        simp only [mulM, lstOf, hg, hn, Int.toNat_natCast, List.length_cons, List.length_nil, true_and, newL, zeros]
        rw [if_pos (by omega), if_pos (by simp; omega)]
        rw [hz]; simp
      rw [← cast] at hm2
      simp only [List.set_cons_succ, List.set_cons_zero, ev_bin, ev_lst, evL_cons, evL_nil, ev_cst, bind_ok', List.length_cons, List.length_nil, opB_Mult, ev_len, ev_var, List.getElem?_cons_succ, List.getElem?_cons_zero]
      rw [if_pos (by omega)]
      simp only [if_true, bind_ok', l1, ofO_some', hm, hm2]
    refine y_for (List.range (2 ^ i)) (fun (k : Nat) => MV.int (k : Nat)) (fun j env h' => ∃ o4 o5 o6 o7 o8, env = [some (wb n s), some v1, some (.int ((i + 1 : Nat) : Int)), some (.ref (H.length + 1)), o4, o5, o6, o7, o8] ∧ h' = H ++ [.lst [.int 0], .lst (aft s i j)]) (c := .no) (h0 := H ++ [.lst [.int 0], .lst (aft s i 0)]) ?_ (fun _ _ _ _ => trivial) ⟨o4, o5, o6, o7, o8, rfl, rfl⟩ ?_ ?_
    · have := rangeM_nn (2 ^ i) (H ++ [.lst [.int 0], .lst (aft s i 0)]) (by omega)
      have e := rng_nat (2 ^ i)
      simp only [Int.sub_zero, Int.zero_add] at e
      simp only [List.set_cons_succ, List.set_cons_zero, evI_val, ev_range, ev_len, ev_var, List.getElem?_cons_succ, List.getElem?_cons_zero, bind_ok', lenK, ofO_some', this, itM_rng, Int.sub_zero, Int.zero_add, e]
    · rintro j hj env h' ⟨o4, o5, o6, o7, o8, rfl, rfl⟩
      simp only [List.getElem_range]
      have hj : j < 2 ^ i := by simpa using hj
      have hv2 := hv.app [.lst [.int 0], .lst (aft s i j)]
      have ixv := hv2.ix (j : Int)
      have hat : atI (dpV s i) (j : Int) = some (.int (F s (tm j) (i + 1))) := by
        rw [atI_nat]; simp [dpV, hj]
      rw [hat] at ixv
      simp only [mapO_some] at ixv
      refine ⟨_, rfl, .nx, ?_⟩
      suffices go2 : ∃ o4 o5 o6 o7 o8, evS G _ [some (wb n s), some v1, some (.int ((i + 1 : Nat) : Int)), some (.ref (H.length + 1)), some (.int (j : Nat)), _, _, _, _] (H ++ [.lst [.int 0], .lst (aft s i j)]) = .ok .nx [some (wb n s), some v1, some (.int ((i + 1 : Nat) : Int)), some (.ref (H.length + 1)), o4, o5, o6, o7, o8] (H ++ [.lst [.int 0], .lst (aft s i (j + 1))]) by
        obtain ⟨o4, o5, o6, o7, o8, e⟩ := go2
        exact ⟨_, _, e, .inl rfl, _, _, _, _, _, rfl, rfl⟩
      obtain ⟨P, hP⟩ : ∃ P : SRes → Prop, P = fun R => ∃ o4 o5 o6 o7 o8, R = .ok .nx [some (wb n s), some v1, some (.int ((i + 1 : Nat) : Int)), some (.ref (H.length + 1)), o4, o5, o6, o7, o8] (H ++ [.lst [.int 0], .lst (aft s i (j + 1))]) := ⟨_, rfl⟩
      have hP3 : ∀ R, P R ↔ ∃ o4 o5 o6 o7 o8, R = .ok .nx [some (wb n s), some v1, some (.int ((i + 1 : Nat) : Int)), some (.ref (H.length + 1)), o4, o5, o6, o7, o8] (H ++ [.lst [.int 0], .lst (aft s i (j + 1))]) := fun R => by rw [hP]
      rw [← hP3]
      clear hP
      refine y_of (s_asg (.int 0) (H ++ [.lst [.int 0], .lst (aft s i j)]) (by simp) rfl) ?_
      refine y_of (s_asg (.int 0) (H ++ [.lst [.int 0], .lst (aft s i j)]) (by simp) rfl) ?_
      refine y_for (List.range (i + 1)) (fun (k : Nat) => MV.int (k : Nat)) (fun k env h' => ∃ o7 o8, env = [some (wb n s), some v1, some (.int ((i + 1 : Nat) : Int)), some (.ref (H.length + 1)), some (.int (j : Nat)), some (.int (S k fun y => if s (i + 1) y ≠ 0 then 1 else 0)), some (.int (S k fun y => foe (s (i + 1) y) false (tm j y))), o7, o8] ∧ h' = H ++ [.lst [.int 0], .lst (aft s i j)]) (c := .no) (h0 := H ++ [.lst [.int 0], .lst (aft s i j)]) ?_ (fun _ _ _ _ => trivial) ⟨_, _, rfl, rfl⟩ ?_ ?_
      · have := rangeM_nn (i + 1) (H ++ [.lst [.int 0], .lst (aft s i j)]) (by omega)
        have e := rng_nat (i + 1)
        simp only [Int.sub_zero, Int.zero_add] at e
        simp only [List.set_cons_succ, List.set_cons_zero, evI_val, ev_range, ev_var, List.getElem?_cons_succ, List.getElem?_cons_zero, bind_ok', ofO_some', this, itM_rng, Int.sub_zero, Int.zero_add, e]
      · rintro k hk env h' ⟨o7, o8, rfl, rfl⟩
        simp only [List.getElem_range]
        have hk : k < i + 1 := by simpa using hk
        have hkn : k < n := by omega
        have hin : i + 1 < n := by omega
        have three := W.three hin hkn
        have ht : evT G (.cmp .NotEq (.ix (.ix (.var 0) (.var 2)) (.var 7)) (.cst (.int 0))) [some (wb n s), some v1, some (.int ((i + 1 : Nat) : Int)), some (.ref (H.length + 1)), some (.int (j : Nat)), some (.int (S k fun y => if s (i + 1) y ≠ 0 then 1 else 0)), some (.int (S k fun y => foe (s (i + 1) y) false (tm j y))), some (.int (k : Nat)), o8] (H ++ [.lst [.int 0], .lst (aft s i j)]) = .ok (!(s (i + 1) k == 0)) (H ++ [.lst [.int 0], .lst (aft s i j)]) := by
          have := ix_wbn (n := n) (s := s) (h := H ++ [.lst [.int 0], .lst (aft s i j)]) hin
          simp only [evT_cmp, ev_cmp, ev_ix, ev_var, List.getElem?_cons_succ, List.getElem?_cons_zero, bind_ok', this, ofO_some', ix_rwn hkn, ev_cst, opC_NotEq, neM_ii, asB_ok]
        by_cases h0 : s (i + 1) k = 0
        · refine ⟨_, rfl, .nx, _, _, s_if_no (h1 := H ++ [.lst [.int 0], .lst (aft s i j)]) (by rw [show ([some (wb n s), some v1, some (.int ((i + 1 : Nat) : Int)), some (.ref (H.length + 1)), some (.int (j : Nat)), some (.int (S k fun y => if s (i + 1) y ≠ 0 then 1 else 0)), some (.int (S k fun y => foe (s (i + 1) y) false (tm j y))), o7, o8] : MEnv).set 7 (some (.int (k : Nat))) = [some (wb n s), some v1, some (.int ((i + 1 : Nat) : Int)), some (.ref (H.length + 1)), some (.int (j : Nat)), some (.int (S k fun y => if s (i + 1) y ≠ 0 then 1 else 0)), some (.int (S k fun y => foe (s (i + 1) y) false (tm j y))), some (.int (k : Nat)), o8] from rfl, ht, h0]; rfl) rfl, .inl rfl, some (.int (k : Nat)), o8, ?_, rfl⟩
          simp only [S, List.set_cons_succ, List.set_cons_zero]
          rw [h0, foe_zero]; simp
        · refine ⟨_, rfl, .nx, _, _, s_if_yes (h1 := H ++ [.lst [.int 0], .lst (aft s i j)]) (by rw [show ([some (wb n s), some v1, some (.int ((i + 1 : Nat) : Int)), some (.ref (H.length + 1)), some (.int (j : Nat)), some (.int (S k fun y => if s (i + 1) y ≠ 0 then 1 else 0)), some (.int (S k fun y => foe (s (i + 1) y) false (tm j y))), o7, o8] : MEnv).set 7 (some (.int (k : Nat))) = [some (wb n s), some v1, some (.int ((i + 1 : Nat) : Int)), some (.ref (H.length + 1)), some (.int (j : Nat)), some (.int (S k fun y => if s (i + 1) y ≠ 0 then 1 else 0)), some (.int (S k fun y => foe (s (i + 1) y) false (tm j y))), some (.int (k : Nat)), o8] from rfl, ht]; simp [h0]) (s_asg (.bl (tm j k)) (H ++ [.lst [.int 0], .lst (aft s i j)]) ?_ (s_asg (.int (S (k + 1) fun y => if s (i + 1) y ≠ 0 then 1 else 0)) (H ++ [.lst [.int 0], .lst (aft s i j)]) ?_ (s_asg1 (m := .int (S (k + 1) fun y => foe (s (i + 1) y) false (tm j y))) ?_))), .inl rfl, some (.int (k : Nat)), some (.bl (tm j k)), rfl, rfl⟩
          · unfold tm
            refine e_and (h1 := H ++ [.lst [.int 0], .lst (aft s i j)]) (x := decide (0 < k)) (y := j.testBit (k - 1)) ?_ fun hk0 => ?_
            · simp
            have hk1 : 0 < k := by simpa using hk0
            have hs : shrI (j : Nat) ((k : Int) - 1) = some ((j : Int) / 2 ^ (k - 1)) := by
              unfold shrI
              rw [if_pos (by omega), show ((k : Int) - 1).toNat = k - 1 by omega]
            have hb := bit_and j (k - 1)
            unfold bits at hb
            cases hx : j.testBit (k - 1) <;> simp [hs, andI, hb, hx]
          · simp only [S, List.set_cons_succ, List.set_cons_zero]
            simp [h0]
          · have hf : foe (s (i + 1) k) false (tm j k) = (if ((s (i + 1) k == -1) != tm j k) = true then 1 else 0) := by
              rcases three with e | e | e
              · rw [e]; cases tm j k <;> rfl
              · exact absurd e h0
              · rw [e]; cases tm j k <;> rfl
            have := ix_wbn (n := n) (s := s) (h := H ++ [.lst [.int 0], .lst (aft s i j)]) hin
            simp only [S]
            rw [hf]
            simp only [List.set_cons_succ, List.set_cons_zero, ev_bin, ev_neg, ev_int, ev_cmp, ev_ix, ev_var, List.getElem?_cons_succ, List.getElem?_cons_zero, bind_ok', this, ofO_some', ix_rwn hkn, ev_cst, opC_NotEq, opC_Eq, eqM_ii, negM_i, neM_bl, intM, opB_Add, addM_ii]
      · rintro env2 h2 ⟨o7, o8, rfl, rfl⟩
        simp only [List.length_range]
        have hg : ∀ A, (H ++ [MO.lst [.int 0], .lst A])[H.length + 1]? = some (.lst A) := fun A => by simp
        have hset : ∀ A B, (H ++ [MO.lst [.int 0], .lst A]).set (H.length + 1) (.lst B) = H ++ [.lst [.int 0], .lst B] := fun A B => by
          rw [List.set_append_right _ _ (by omega)]; simp
        have hal : (aft s i j).length = 2 * 2 ^ i := by simp [aft]
        have hput : ∀ (A : List MV) (q : Nat) (v : MV), q < A.length → putM (.ref (H.length + 1)) (.int (q : Nat)) v (H ++ [.lst [.int 0], .lst A]) = some (H ++ [.lst [.int 0], .lst (A.set q v)]) := fun A q v hq => by
          have ix : L2.ixN A.length (q : Int) = some q := by
            unfold L2.ixN
            rw [if_pos (by omega), if_pos (by omega)]; simp
          simp only [putM, hg, ix, mapO_some, hset]
        have p1 := hput (aft s i j) j (.int (F s (tm j) (i + 1 + 1))) (by omega)
        have p2 := hput ((aft s i j).set j (.int (F s (tm j) (i + 1 + 1)))) (j + 2 ^ i) (.int (F s (tm (j + 2 ^ i)) (i + 1 + 1))) (by rw [List.length_set]; omega)
        have fin : ((aft s i j).set j (.int (F s (tm j) (i + 1 + 1)))).set (j + 2 ^ i) (.int (F s (tm (j + 2 ^ i)) (i + 1 + 1))) = aft s i (j + 1) := by
          unfold aft
          rw [set_range, set_range]
          refine List.map_congr_left fun m hm => ?_
          have := List.mem_range.mp hm
          by_cases q1 : m = j + 2 ^ i
          · rw [if_pos q1, if_pos (by omega), q1]
          · rw [if_neg q1]
            by_cases q2 : m = j
            · rw [if_pos q2, if_pos (by omega), q2]
            · rw [if_neg q2]
              by_cases q3 : m < j ∨ (2 ^ i ≤ m ∧ m < 2 ^ i + j)
              · rw [if_pos q3, if_pos (by omega)]
              · rw [if_neg q3, if_neg (by omega)]
        rw [fin] at p2
        have fl := F_low (s := s) hj
        have fh := F_high W (show i + 1 < n by omega) hj
        have hv3 := hv.app [.lst [.int 0], .lst ((aft s i j).set j (.int (F s (tm j) (i + 1 + 1))))]
        have ixv3 := hv3.ix (j : Int)
        rw [hat] at ixv3
        simp only [mapO_some] at ixv3
        rw [fl] at p1 ixv3 p2
        rw [fh] at p2
        refine (hP3 _).mpr ⟨some (.int (j : Nat)), some (.int (S (i + 1) fun y => if s (i + 1) y ≠ 0 then 1 else 0)), some (.int (S (i + 1) fun y => foe (s (i + 1) y) false (tm j y))), o7, o8, s_nx (env1 := [some (wb n s), some v1, some (.int ((i + 1 : Nat) : Int)), some (.ref (H.length + 1)), some (.int (j : Nat)), some (.int (S (i + 1) fun y => if s (i + 1) y ≠ 0 then 1 else 0)), some (.int (S (i + 1) fun y => foe (s (i + 1) y) false (tm j y))), o7, o8]) (h1 := H ++ [.lst [.int 0], .lst ((aft s i j).set j (.int (F s (tm j) (i + 1) + S (i + 1) fun y => foe (s (i + 1) y) false (tm j y))))]) ?_ ?_⟩
        · simp only [evS_put, evsPut, ev_bin, ev_ix, ev_var, List.getElem?_cons_succ, List.getElem?_cons_zero, bind_ok', ixv, ofO_some', opB_Add, addM_ii, ofE_ok', p1]
        · have cast : ((j : Int) + ((2 ^ i : Nat) : Int)) = ((j + 2 ^ i : Nat) : Int) := by omega
          simp only [evS_put, evsPut, ev_bin, ev_len, ev_ix, ev_var, List.getElem?_cons_succ, List.getElem?_cons_zero, bind_ok', ixv3, lenK, ofO_some', opB_Add, opB_Sub, iiM_ii, subI_ii, mapO_some, addM_ii, ofE_ok', cast, p2]
    · rintro env2 h2 ⟨o4, o5, o6, o7, o8, rfl, rfl⟩
      refine (hP2 _).mpr ⟨_, s_asg1 ?_, _, _, _, _, _, _, _, rfl⟩
      simp
  · rintro env2 h2 ⟨v1, x, o2, o3, o4, o5, o6, o7, o8, rfl, rfl, hv⟩
    simp only [List.length_range] at hv
    obtain ⟨v, e, m1, m2⟩ := minI_ok (l := (List.range (2 ^ (n - 1))).map fun m => F s (tm m) (n - 1 + 1)) (by simp)
    have l := least_dp m1 m2
    rw [show n - 1 + 1 = n by omega] at l
    refine (hQ2 _).mpr ⟨v, x, l, b_ret ?_⟩
    have ha : allInts (dpV s (n - 1)) = some ((List.range (2 ^ (n - 1))).map fun m => F s (tm m) (n - 1 + 1)) := by
      have := allInts_map ((List.range (2 ^ (n - 1))).map fun m => F s (tm m) (n - 1 + 1))
      rwa [List.map_map] at this
    have hm : minDM [v1] (h ++ x) = some (.int v, h ++ x) := by
      have : minM [v1] (h ++ x) = some (.int v, h ++ x) := by
        simp only [minM, hv.sq, ha, e, mapO_some]
      unfold minDM; rw [this]
    simp [hm]
end
end Mi

set_option Elab.async false
set_option linter.all false
set_option maxRecDepth 100000
set_option maxHeartbeats 1000000
namespace Mi
open PySem PySem.Spec L2 Mz
set_option autoImplicit false
def S_law_told_form (G : CallT) : Prop := ∀ v c h, IsL h v (nsV c) → c.Nodup → 3 ≤ c.length → c.length ≤ 1000 → G "_law_told_form" [v] h = .ok (rgV (told c)) h
theorem minI_ns : ∀ {c : List Nat}, c ≠ [] → minI (c.map fun (x : Nat) => (x : Int)) = some ((mn c : Nat) : Int)
  | [x], _ => rfl
  | x :: y :: l, _ => by
    have := minI_ns (c := y :: l) (by simp)
    simp only [List.map_cons] at this ⊢
    rw [minI, this]
    simp only [mn]
    congr 1
    by_cases h : mn (y :: l) < x
    · rw [if_pos (by omega)]; omega
    · rw [if_neg (by omega)]; omega
theorem IsL.min {h : MH} {v : MV} {c : List Nat} (e : IsL h v (nsV c)) (hc : c ≠ []) : minDM [v] h = some (.int (mn c : Nat), h) := by
  have : minM [v] h = some (.int (mn c : Nat), h) := by
    simp only [minM, e.sq, allInts_ns, minI_ns hc, mapO_some]
  unfold minDM; rw [this]
theorem IsL.ty {h : MH} {v : MV} {xs : List MV} (e : IsL h v xs) : tyM h v = some "list" := by
  rcases e with rfl | ⟨r, rfl, e⟩
  · rfl
  · simp only [tyM, e]
theorem first_at {m : Nat} : ∀ {A B : List Nat}, m ∉ A → firstAt (.int (m : Nat)) ((A ++ m :: B).map fun x => PyData.int (x : Nat)) = some A.length
  | [], B, _ => by simp [firstAt, PyData.eqv]
  | a :: A, B, h => by
    have ha : ¬ (a : Int) = m := fun z => h (by simp; omega)
    have := first_at (m := m) (A := A) (B := B) fun z => h (List.mem_cons_of_mem _ z)
    have hf : PyData.eqv (.int (a : Nat)) (.int (m : Nat)) = false := by
      simp only [PyData.eqv]; simpa using ha
    simp only [List.cons_append, List.map_cons, firstAt, List.length_cons]
    rw [hf, if_neg Bool.false_ne_true, this]; rfl
theorem IsL.index {h : MH} {v : MV} {A B : List Nat} {m : Nat} (e : IsL h v (nsV (A ++ m :: B))) (hm : m ∉ A) : indexM "list" v [.int (m : Nat)] h = some (.int (A.length : Nat), h) := by
  have e2 : pdM h 66 (.int (m : Nat)) = some (.int (m : Nat)) := rfl
  simp only [indexM, e.sq, e2, pdM_ns, shaped_int, shaped_ints, and_self, if_true, first_at hm, mapO_some]
theorem cut_from {xs : List MV} {k : Nat} (hk : k ≤ xs.length) : cutM xs (some (k : Int)) none = xs.drop k := by
  unfold cutM
  rw [HT.sIx_nat, HT.sIx_none, Nat.min_eq_left hk]
  rw [List.take_of_length_le (by rw [List.length_drop]; omega)]
theorem cut_to {xs : List MV} {k : Nat} (hk : k ≤ xs.length) : cutM xs none (some (k : Int)) = xs.take k := by
  unfold cutM
  rw [HT.sIx_nat, HT.sIx_none, Nat.min_eq_left hk]; simp
theorem IsL.sl {h : MH} {v : MV} {xs : List MV} (e : IsL h v xs) (lo hi : Option Int) : slM false v lo hi h = newL false (cutM xs lo hi) h := by
  rcases e with rfl | ⟨r, rfl, e⟩
  · rfl
  · simp only [slM, sqLOf, lstOf, e]
section
variable {G G' : CallT}
theorem p_law_told_form (r : Runs G G' "_law_told_form" K76i.F__law_told_form) : S_law_told_form G' := fun v c h e nd l3 l1 => by
  rw [r.no rfl]
  show bodyR (evS G K76i.ir__law_told_form (startM K76i.N__law_told_form [v]) h) = _
  unfold K76i.ir__law_told_form
  simp only [K76i.N__law_told_form, startM, List.map, List.length_cons, List.length_nil, List.replicate, List.cons_append, List.nil_append]
  have hne : c ≠ [] := fun q => by rw [q] at l3; simp at l3
  obtain ⟨A, B, m, ec, hm⟩ := split_mn hne nd
  have hmn : mn c = m := mn_eq (by rw [ec]; simp) fun x hx => by
    rw [ec] at hx
    simp only [List.mem_append, List.mem_cons] at hx
    rcases hx with q | q | q
    · exact Nat.le_of_lt (hm x (List.mem_append_left _ q))
    · omega
    · exact Nat.le_of_lt (hm x (List.mem_append_right _ q))
  have hmA : m ∉ A := fun z => Nat.lt_irrefl _ (hm m (List.mem_append_left _ z))
  have hlen : A.length ≤ c.length := by rw [ec]; simp
  have emin := e.min hne
  rw [hmn] at emin
  have eidx : indexM "list" v [.int (m : Nat)] h = some (.int (A.length : Nat), h) := by
    rw [ec] at e; exact e.index hmA
  refine b_asg (.int (A.length : Nat)) h ?_ ?_
  · simp only [ev_meth, evMeth, ev_var, List.getElem?_cons_zero, bind_ok', e.ty, mtOk_index, isT, beq_self_eq_true, if_true, evL_cons, evL_nil, ev_min1, emin, ofO_some', mtOp_index, eidx]
  have s1 : slM false v (some (A.length : Int)) none h = some (.lst (nsV (m :: B)), h) := by
    rw [e.sl, cut_from (by simpa using hlen), newL_false, if_pos (by simp; omega)]
    congr 3
    rw [ec, nsV_app, List.drop_left' (by simp)]
  have s2 : slM false v none (some (A.length : Int)) h = some (.lst (nsV A), h) := by
    rw [e.sl, cut_to (by simpa using hlen), newL_false, if_pos (by simp; omega)]
    congr 3
    rw [ec, nsV_app, List.take_left' (by simp)]
  have ll : (m :: (B ++ A)).length = c.length := by rw [ec]; simp; omega
  have hadd : addM false (.lst (nsV (m :: B))) (.lst (nsV A)) h = some (.lst (nsV (m :: (B ++ A))), h) := by
    show newL false (nsV (m :: B) ++ nsV A) h = _
    rw [← nsV_app, newL_false, if_pos (by simp at ll ⊢; omega)]; rfl
  have htup : tupleM [.lst (nsV (m :: (B ++ A)))] h = some (.tup (nsV (m :: (B ++ A))), h) := by
    rw [tupleM_lst]; exact newT_ok (by rw [nsV_len, ll]; omega)
  refine b_asg (rgV (m :: (B ++ A))) h ?_ ?_
  · simp [evPart, s1, s2, hadd, htup, rgV]
  rw [ec, told_eq hm]
  have ll2 : 2 ≤ (B ++ A).length := by simp at ll ⊢; omega
  have a1 := at_1 (c := m :: (B ++ A)) (by omega)
  have al := at_last (c := m :: (B ++ A)) (by simp)
  have els : ls (m :: (B ++ A)) = ls (B ++ A) := by
    obtain ⟨x, l, q⟩ := List.exists_cons_of_ne_nil (l := B ++ A) (fun q => by rw [q] at ll2; simp at ll2)
    rw [q, ls_cons]
  rw [els] at al
  simp only [List.tail_cons] at a1
  refine b_ret ?_
  have ht : evT G (.cmp .Lt (.ix (.var 2) (.cst (.int 1))) (.ix (.var 2) (.neg (.cst (.int 1))))) [some v, some (.int (A.length : Nat)), some (rgV (m :: (B ++ A)))] h = .ok (decide (hd (B ++ A) < ls (B ++ A))) h := by
    simp [rgV, a1, al]
  simp only [List.set_cons_succ, List.set_cons_zero, ev_ite, ht, bind_ok']
  unfold fixR
  by_cases q : hd (B ++ A) < ls (B ++ A)
  · simp [q]
  · have c1 : cutM (nsV (m :: (B ++ A))) none (some 1) = nsV [m] := by
      have := cut_to (xs := nsV (m :: (B ++ A))) (k := 1) (by simp)
      exact this
    have c2 : cutM (nsV (m :: (B ++ A))) (some 1) none = nsV (B ++ A) := by
      have := cut_from (xs := nsV (m :: (B ++ A))) (k := 1) (by simp)
      exact this
    have hadd2 : addM false (.tup (nsV [m])) (.tup (nsV (B ++ A)).reverse) h = some (.tup (nsV (m :: (B ++ A).reverse)), h) := by
      show newT (nsV [m] ++ (nsV (B ++ A)).reverse) h = _
      have : nsV [m] ++ (nsV (B ++ A)).reverse = nsV (m :: (B ++ A).reverse) := by simp [nsV]
      rw [this]
      exact newT_ok (by simp at ll ⊢; omega)
    simp [q, rgV, evPart, slM, c1, c2, revTM, hadd2]
end
end Mi

set_option Elab.async false
set_option linter.all false
set_option maxRecDepth 100000
set_option maxHeartbeats 1000000
namespace Mi
open PySem PySem.Spec L2 Mz
set_option autoImplicit false
def kN (c : List Nat) : List Key := c.map fun (x : Nat) => .inl (x : Int)
theorem kN_inj {c d : List Nat} (h : kN c = kN d) : c = d := by
  induction c generalizing d with
  | nil => cases d with
    | nil => rfl
    | cons y d => simp [kN] at h
  | cons x c ih => cases d with
    | nil => simp [kN] at h
    | cons y d =>
      simp only [kN, List.map_cons, List.cons.injEq, Sum.inl.injEq] at h
      rw [ih h.2, show x = y by omega]
theorem dkey_rg (c : List Nat) : dkey true (rgV c) = some (kN c) := by
  have := dkey_ints (c.map fun (x : Nat) => (x : Int))
  rw [List.map_map, List.map_map] at this
  exact this
theorem unkey_kN (c : List Nat) : unkey true (kN c) = rgV c := by
  simp only [unkey, kN, List.map_map]; rfl
/-- rounds with their signs -/
def rE (s : Nat → Nat → Int) (w : List Nat) : List Key × MV := (kN w, .int (csg s w))
def wyV (s : Nat → Nat → Int) (w : List Nat) : MV := .tup [.lst (nsV w), .int (sg s w)]
theorem sg_bd {n : Nat} {s : Nat → Nat → Int} (W : Vw n s) : ∀ {w : List Nat}, (∀ x ∈ w, x < n) → -1 ≤ sg s w ∧ sg s w ≤ 1
  | [], _ => by simp only [sg]; decide
  | [_], _ => by simp only [sg]; decide
  | x :: y :: l, h => by
    have ih := sg_bd W (w := y :: l) fun z hz => h z (List.mem_cons_of_mem _ hz)
    have := W.three (h x (by simp)) (h y (by simp))
    simp only [sg]
    rcases this with e | e | e <;> rw [e] <;> omega
def itC (v : MV) (xs : List MV) : Chk := match v with
  | .ref r => .lst r xs
  | _ => .no
theorem IsL.it {h : MH} {v : MV} {xs : List MV} (e : IsL h v xs) : itM v h = some (xs, itC v xs) := by
  rcases e with rfl | ⟨r, rfl, e⟩
  · rfl
  · simp only [itM, e, itC]
theorem IsL.chk {h : MH} {v : MV} {xs : List MV} (e : IsL h v xs) : (itC v xs).ok h := by
  rcases e with rfl | ⟨r, rfl, e⟩
  · trivial
  · exact e
theorem nor_wy (s : Nat → Nat → Int) (l : List (List Nat)) : NoR (.lst (l.map (wyV s))) := by
  unfold NoR
  simp only [refsLtO]
  exact refs_of fun m hm => by
    obtain ⟨c, _, rfl⟩ := List.mem_map.mp hm
    simp only [wyV, refsLt, refsLtL, Bool.and_true]
    exact refs_of fun m hm => by obtain ⟨y, _, rfl⟩ := List.mem_map.mp hm; rfl
theorem nor_rE (s : Nat → Nat → Int) (l : List (List Nat)) : NoR (.dct true (l.map (rE s))) := by
  unfold NoR
  simp only [refsLtO]
  induction l with
  | nil => rfl
  | cons c l ih => simp only [List.map_cons, refsLtK, rE, refsLt, Bool.true_and]; exact ih
theorem nor_row (m : Nat) (nm : Nat → Nat) : NoR (.lst (rowV m nm)) := by
  unfold NoR
  simp only [refsLtO]
  exact refs_of fun m hm => by obtain ⟨y, _, rfl⟩ := List.mem_map.mp hm; rfl
/-- the heap of the law's rounds -/
def RHp (h : MH) (K : List (List Nat)) (s : Nat → Nat → Int) (x : MH) (Y : List (List Nat)) : MH := h ++ [.dct true (K.map (rE s))] ++ x ++ [.lst (Y.map (wyV s))]
def S_law_rounds (G : CallT) : Prop := ∀ n s h, 1 ≤ n → n ≤ 9 → Vw n s → ∃ x, (∀ o ∈ x, NoR o) ∧ G "_law_rounds" [wb n s] h = .ok (.ref h.length) (h ++ .dct true ((ringsL n s).map (rE s)) :: x)
section
variable {h : MH} {K Y : List (List Nat)} {s : Nat → Nat → Int} {x : MH}
theorem RHp_dct : (RHp h K s x Y)[h.length]? = some (.dct true (K.map (rE s))) := by
  unfold RHp
  rw [List.append_assoc, List.append_assoc, List.getElem?_append_right (Nat.le_refl _)]; simp
theorem RHp_lst : (RHp h K s x Y)[h.length + 1 + x.length]? = some (.lst (Y.map (wyV s))) := by
  unfold RHp
  rw [List.getElem?_append_right (by simp; omega)]
  have : h.length + 1 + x.length - (h ++ [MO.dct true (K.map (rE s))] ++ x).length = 0 := by simp; omega
  rw [this]; rfl
theorem RHp_setd {K' : List (List Nat)} : (RHp h K s x Y).set h.length (.dct true (K'.map (rE s))) = RHp h K' s x Y := by
  unfold RHp
  rw [List.append_assoc, List.append_assoc, List.append_assoc, List.append_assoc, List.set_append_right _ _ (Nat.le_refl _)]; simp
theorem RHp_setl {Y' : List (List Nat)} : (RHp h K s x Y).set (h.length + 1 + x.length) (.lst (Y'.map (wyV s))) = RHp h K s x Y' := by
  unfold RHp
  rw [List.set_append_right _ _ (by simp; omega)]
  have : h.length + 1 + x.length - (h ++ [MO.dct true (K.map (rE s))] ++ x).length = 0 := by simp; omega
  rw [this]; rfl
theorem keys_rE : keysK (K.map (rE s)) = K.map kN := by simp only [keysK, List.map_map]; rfl
theorem mem_kN {w : List Nat} : kN w ∈ keysK (K.map (rE s)) ↔ w ∈ K := by
  rw [keys_rE]
  constructor
  · intro hm
    obtain ⟨d, hd, e⟩ := List.mem_map.mp hm
    exact kN_inj e ▸ hd
  · exact fun hm => List.mem_map_of_mem hm
theorem RHp_put {w : List Nat} (hn : w ∉ K) (hl : K.length < 16777216) : putM (.ref h.length) (rgV w) (.int (csg s w)) (RHp h K s x Y) = some (RHp h (K ++ [w]) s x Y) := by
  simp only [putM, RHp_dct, dkey_rg]
  rw [if_pos (by simpa using hl), set_new (fun z => hn (mem_kN.mp z))]
  have : K.map (rE s) ++ [(kN w, MV.int (csg s w))] = (K ++ [w]).map (rE s) := by simp [rE]
  rw [this, RHp_setd]
theorem RHp_app {w : List Nat} (hl : Y.length < 16777216) : appendM "list" (.ref (h.length + 1 + x.length)) [wyV s w] (RHp h K s x Y) = some (.non, RHp h K s x (Y ++ [w])) := by
  simp only [appendM, RHp_lst]
  rw [if_pos (by simpa using hl)]
  have : Y.map (wyV s) ++ [wyV s w] = (Y ++ [w]).map (wyV s) := by simp
  rw [this, RHp_setl]
theorem RHp_isl {v : MV} {xs : List MV} (hv : ∀ K : List (List Nat), IsL (h ++ [.dct true (K.map (rE s))] ++ x) v xs) : IsL (RHp h K s x Y) v xs := (hv K).app _
end
section
variable {G G' : CallT}
theorem p_law_rounds (r : Runs G G' "_law_rounds" K76i.F__law_rounds) : S_law_rounds G' := fun n s h n1 n2 W => by
  suffices main : ∃ x, (∀ o ∈ x, NoR o) ∧ bodyR (evS G K76i.ir__law_rounds (startM K76i.N__law_rounds [wb n s]) h) = .ok (.ref h.length) (h ++ .dct true ((ringsL n s).map (rE s)) :: x) by
    obtain ⟨x, no, e⟩ := main
    exact ⟨x, no, by rw [r.no rfl]; exact e⟩
  unfold K76i.ir__law_rounds
  simp only [K76i.N__law_rounds, startM, List.map, List.length_cons, List.length_nil, List.replicate, List.cons_append, List.nil_append]
  obtain ⟨Q, hQ⟩ : ∃ Q : Res MV → Prop, Q = fun R => ∃ x, (∀ o ∈ x, NoR o) ∧ R = .ok (.ref h.length) (h ++ .dct true ((ringsL n s).map (rE s)) :: x) := ⟨_, rfl⟩
  have hQ2 : ∀ R, Q R ↔ ∃ x, (∀ o ∈ x, NoR o) ∧ R = .ok (.ref h.length) (h ++ .dct true ((ringsL n s).map (rE s)) :: x) := fun R => by rw [hQ]
  rw [← hQ2]
  clear hQ
  refine x_of (b_asg (.ref h.length) (h ++ [.dct true []]) (by simp) rfl) ?_
  refine x_of (b_asg (.lst ((ways n s 0).map (wyV s))) (h ++ [.dct true []]) ?_ rfl) ?_
  · have e : (ways n s 0).map (wyV s) = (List.range n).map fun x => MV.tup [.lst [.int (x : Nat)], .int 1] := by simp [ways, wyV, nsV, sg]
    rw [e]
    refine comp_m (List.range n) (fun x => .int (x : Nat)) (fun x => .tup [.lst [.int (x : Nat)], .int 1]) (c := .no) ?_ trivial (by simp; omega) fun x hx => ⟨_, rfl, ?_⟩
    · simp [rangeM_nn n _ (by omega)]
    · simp [wipeM]
  refine x_for (List.range n) (fun (k : Nat) => MV.int (k : Nat)) (fun k env h' => ∃ v2 x o3 o4 o6 o7 o8 o9, k ≤ n ∧ (∀ o ∈ x, NoR o) ∧ env = [some (wb n s), some (.ref h.length), some v2, o3, o4, none, o6, o7, o8, o9] ∧ h' = h ++ [.dct true ((ringsTo n s k).map (rE s))] ++ x ∧ ∀ K : List (List Nat), IsL (h ++ [.dct true (K.map (rE s))] ++ x) v2 ((ways n s k).map (wyV s))) (c := .no) (h0 := h ++ [.dct true []]) ?_ (fun _ _ _ _ => trivial) ⟨_, [], none, none, none, none, none, none, by omega, (fun o ho => by cases ho), rfl, by simp [ringsTo], fun _ => .inl rfl⟩ ?_ ?_
  · simp [rangeM_nn n _ (by omega)]
  · rintro k hk env h' ⟨v2, x, o3, o4, o6, o7, o8, o9, _, no, rfl, rfl, hv⟩
    simp only [List.getElem_range]
    have hk : k < n := by simpa using hk
    have ww : ∀ w ∈ ways n s k, Way n s w := fun w hw => (mem_ways.mp hw).1
    have wl : ∀ w ∈ ways n s k, w.length = k + 1 := fun w hw => (mem_ways.mp hw).2
    refine ⟨_, rfl, stp ?_⟩
    have hl1 := ringsTo_len (s := s) n2 (k + 1)
    have hl2 := ways_len (s := s) n2 k
    have hl3 := ways_len (s := s) n2 (k + 1)
    have isl : ∀ K Y, IsL (RHp h K s x Y) v2 ((ways n s k).map (wyV s)) := fun K Y => RHp_isl hv
    refine y_of (s_asg (.ref (h.length + 1 + x.length)) (RHp h (ringsTo n s k) s x []) ?_ rfl) ?_
    · simp [RHp]; omega
    refine y_for (ways n s k) (wyV s) (fun j env h' => ∃ o6 o7 o8 o9, env = [some (wb n s), some (.ref h.length), some v2, some (.int (k : Nat)), some (.ref (h.length + 1 + x.length)), none, o6, o7, o8, o9] ∧ h' = RHp h (ringsTo n s k ++ ((ways n s k).take j).filter (clo s)) s x (((ways n s k).take j).flatMap (ext n s))) (c := itC v2 ((ways n s k).map (wyV s))) (h0 := RHp h (ringsTo n s k) s x []) ?_ ?_ ⟨_, _, _, _, rfl, by simp⟩ ?_ ?_
    · simp [(isl (ringsTo n s k) []).it]
    · rintro j env h' ⟨o6, o7, o8, o9, rfl, rfl⟩
      exact (isl _ _).chk
    · rintro j hj env h' ⟨o6, o7, o8, o9, rfl, rfl⟩
      have hw : (ways n s k)[j] ∈ ways n s k := List.getElem_mem hj
      have tk : (ways n s k).take (j + 1) = (ways n s k).take j ++ [(ways n s k)[j]] := List.take_succ_eq_append_getElem hj
      generalize (ways n s k)[j] = w at hw tk ⊢
      have Wy := ww w hw
      have l := wl w hw
      have b0 := Wy.lt _ (hd_mem Wy.ne)
      have bl := Wy.lt _ (ls_mem Wy.ne)
      have a0 := at_0 Wy.ne
      have al := at_last Wy.ne
      have ixb : ∀ {H : MH} {a b : Nat}, a < n → b < n → ixM (wb n s) (.int (a : Nat)) H = some (rw_ n (s a), H) ∧ ixM (rw_ n (s a)) (.int (b : Nat)) H = some (.int (s a b), H) := fun ha hb => ⟨ix_wbn ha, ix_rwn hb⟩
      have nK : w ∉ ringsTo n s k ++ ((ways n s k).take j).filter (clo s) := by
        intro hm
        rcases List.mem_append.mp hm with q | q
        · unfold ringsTo at q
          obtain ⟨i, hi, q⟩ := List.mem_flatMap.mp q
          have := (mem_ways.mp (List.mem_filter.mp q).1).2
          have := List.mem_range.mp hi
          omega
        · have h1 := (List.mem_filter.mp q).1
          have nd : ((ways n s k).take (j + 1)).Nodup := List.Nodup.sublist (List.take_sublist _ _) (ways_nd k)
          rw [tk, List.nodup_append] at nd
          exact nd.2.2 w h1 w (by simp) rfl
      have lK : (ringsTo n s k ++ ((ways n s k).take j).filter (clo s)).length ≤ 9 * 362880 := by
        have : ((ways n s k).take j).filter (clo s) |>.Sublist ((ways n s k).filter (clo s)) := (List.take_sublist _ _).filter _
        have := this.length_le
        rw [ringsTo_succ, List.length_append] at hl1
        rw [List.length_append]
        have : (k + 1) * 362880 ≤ 9 * 362880 := Nat.mul_le_mul_right _ (by omega)
        omega
      refine ⟨[some (wb n s), some (.ref h.length), some v2, some (.int (k : Nat)), some (.ref (h.length + 1 + x.length)), none, some (.lst (nsV w)), some (.int (sg s w)), o8, o9], by simp [wyV], stp ?_⟩
      rw [tk, List.filter_append, List.flatMap_append, ← List.append_assoc]
      simp only [List.flatMap_cons, List.flatMap_nil, List.append_nil]
      generalize hKK : ringsTo n s k ++ ((ways n s k).take j).filter (clo s) = K at nK lK ⊢
      generalize hYY : ((ways n s k).take j).flatMap (ext n s) = Y at ⊢
      have lY : Y.length + (ext n s w).length ≤ 362880 := by
        have : ((ways n s k).take (j + 1)).flatMap (ext n s) = Y ++ ext n s w := by rw [tk, List.flatMap_append, hYY]; simp
        have h2 := congrArg List.length this
        rw [List.length_append] at h2
        rw [← h2]
        have sub : (((ways n s k).take (j + 1)).flatMap (ext n s)).length ≤ ((ways n s k).flatMap (ext n s)).length := by
          conv => rhs; rw [← List.take_append_drop (j + 1) (ways n s k)]
          rw [List.flatMap_append, List.length_append]; omega
        exact Nat.le_trans sub hl3
      refine y_of (s_asg (.int (ls w : Nat)) (RHp h K s x Y) ?_ rfl) ?_
      · simp [al]
      have a1 : 2 < w.length → atI (nsV w) 1 = some (.int (hd w.tail : Nat)) := fun z => at_1 (by omega)
      have hcond : evT G (.and (.cmp .Gt (.bi false "len" (.cons (.var 6) .nil)) (.cst (.int 2))) (.and (.cmp .NotEq (.ix (.ix (.var 0) (.var 8)) (.ix (.var 6) (.cst (.int 0)))) (.cst (.int 0))) (.cmp .Lt (.ix (.var 6) (.cst (.int 1))) (.var 8)))) [some (wb n s), some (.ref h.length), some v2, some (.int (k : Nat)), some (.ref (h.length + 1 + x.length)), none, some (.lst (nsV w)), some (.int (sg s w)), some (.int (ls w : Nat)), o9] (RHp h K s x Y) = .ok (clo s w) (RHp h K s x Y) := by
        unfold clo
        refine t_and (x := decide (2 < w.length)) (h1 := RHp h K s x Y) ?_ fun h2 => t_and (h1 := RHp h K s x Y) ?_ fun h3 => ?_
        · simp; omega
        · simp [a0, ix_wbn, ix_rwn, b0, bl, bne, W.sy (ls w) (hd w)]
        · simp [a1 (by simpa using h2)]
      have hput : evS G (.if_ (.and (.cmp .Gt (.bi false "len" (.cons (.var 6) .nil)) (.cst (.int 2))) (.and (.cmp .NotEq (.ix (.ix (.var 0) (.var 8)) (.ix (.var 6) (.cst (.int 0)))) (.cst (.int 0))) (.cmp .Lt (.ix (.var 6) (.cst (.int 1))) (.var 8)))) (.put (.var 1) (.bi false "tuple" (.cons (.var 6) .nil)) (.bin false .Mult (.var 7) (.ix (.ix (.var 0) (.var 8)) (.ix (.var 6) (.cst (.int 0)))))) .nx) [some (wb n s), some (.ref h.length), some v2, some (.int (k : Nat)), some (.ref (h.length + 1 + x.length)), none, some (.lst (nsV w)), some (.int (sg s w)), some (.int (ls w : Nat)), o9] (RHp h K s x Y) = .ok .nx [some (wb n s), some (.ref h.length), some v2, some (.int (k : Nat)), some (.ref (h.length + 1 + x.length)), none, some (.lst (nsV w)), some (.int (sg s w)), some (.int (ls w : Nat)), o9] (RHp h (K ++ [w].filter (clo s)) s x Y) := by
        cases hc : clo s w with
        | false =>
          rw [hc] at hcond
          refine s_if_no hcond ?_
          rw [List.filter_cons_of_neg (by simp [hc])]
          simp
        | true =>
          rw [hc] at hcond
          refine s_if_yes hcond ?_
          rw [List.filter_cons_of_pos hc, List.filter_nil]
          have hm : mulM false (.int (sg s w)) (.int (s (ls w) (hd w))) (RHp h K s x Y) = some (.int (csg s w), RHp h K s x Y) := mulM_ok false (mulOk_r (absLe_iff.mpr (by have := W.three bl b0; omega)))
          have hp := RHp_put (h := h) (s := s) (x := x) (Y := Y) nK (by omega)
          have ht : newT (nsV w) (RHp h K s x Y) = some (rgV w, RHp h K s x Y) := newT_ok (by rw [nsV_len]; omega)
          simp only [evS_put, evsPut, ev_bin, ev_ix, ev_tuple, ev_var, List.getElem?_cons_succ, List.getElem?_cons_zero, bind_ok', (ixb bl b0).1, (ixb bl b0).2, ev_cst, ixM_lst, a0, mapO_some, ofO_some', opB_Mult, hm, ofE_ok', tupleM_lst, ht, hp]
      refine y_of (s_nx hput rfl) ?_
      clear hput hcond
      generalize K ++ [w].filter (clo s) = K2
      refine z_for (rg (hd w + 1) n) (fun (y : Nat) => MV.int (y : Nat)) (fun i env h' => ∃ o9, env = [some (wb n s), some (.ref h.length), some v2, some (.int (k : Nat)), some (.ref (h.length + 1 + x.length)), none, some (.lst (nsV w)), some (.int (sg s w)), some (.int (ls w : Nat)), o9] ∧ h' = RHp h K2 s x (Y ++ (((rg (hd w + 1) n).take i).filter fun y => s (ls w) y != 0 && !w.contains y).map fun y => w ++ [y])) (c := .no) (h0 := RHp h K2 s x Y) ?_ (fun _ _ _ _ => trivial) ⟨o9, rfl, by simp⟩ ?_ ?_
      · have := fun H => rangeM_2 (hd w + 1) n H (by omega) (by omega) (by omega) (by omega)
        have e := rng_rg (hd w + 1) n
        simp only [Int.natCast_add, Int.cast_ofNat_Int] at e
        simp [a0, this, e]
      · rintro i hi env h' ⟨o9, rfl, rfl⟩
        have hy : (rg (hd w + 1) n)[i] ∈ rg (hd w + 1) n := List.getElem_mem hi
        have tk2 : (rg (hd w + 1) n).take (i + 1) = (rg (hd w + 1) n).take i ++ [(rg (hd w + 1) n)[i]] := List.take_succ_eq_append_getElem hi
        have ley : ((((rg (hd w + 1) n).take i).filter fun y => s (ls w) y != 0 && !w.contains y).map fun y => w ++ [y]).length ≤ 9 := by
          rw [List.length_map]
          refine Nat.le_trans (List.length_filter_le _ _) ?_
          rw [List.length_take, rg_len]; omega
        rw [tk2, List.filter_append, List.map_append, ← List.append_assoc]
        generalize (rg (hd w + 1) n)[i] = y at hy ⊢
        generalize hYY2 : (Y ++ (((rg (hd w + 1) n).take i).filter fun y => s (ls w) y != 0 && !w.contains y).map fun y => w ++ [y]) = Y2
        have lY2 : Y2.length ≤ 362889 := by rw [← hYY2, List.length_append]; omega
        have hy' := mem_rg.mp hy
        refine ⟨_, rfl, stp ?_⟩
        have hc2 : evT G (.and (.cmp .NotEq (.ix (.ix (.var 0) (.var 8)) (.var 9)) (.cst (.int 0))) (.cmp .NotIn (.var 9) (.var 6))) [some (wb n s), some (.ref h.length), some v2, some (.int (k : Nat)), some (.ref (h.length + 1 + x.length)), none, some (.lst (nsV w)), some (.int (sg s w)), some (.int (ls w : Nat)), some (.int (y : Nat))] (RHp h K2 s x Y2) = .ok (s (ls w) y != 0 && !w.contains y) (RHp h K2 s x Y2) := by
          refine t_and (x := s (ls w) y != 0) (h1 := RHp h K2 s x Y2) ?_ fun h2 => ?_
          · simp only [evT_cmp, ev_cmp, ev_ix, ev_var, List.getElem?_cons_succ, List.getElem?_cons_zero, bind_ok', (ixb bl hy'.2).1, (ixb bl hy'.2).2, ofO_some', ev_cst, opC_NotEq, neM_ii, asB_ok]; rfl
          · simp only [evT_cmp, ev_cmp, ev_var, List.getElem?_cons_succ, List.getElem?_cons_zero, bind_ok', opC_NotIn, notIn_lns, ofO_some', asB_ok]
        cases hp2 : (s (ls w) y != 0 && !w.contains y) with
        | false =>
          rw [hp2] at hc2
          refine Stp.of (s_if_no hc2 rfl) ⟨some (.int (y : Nat)), rfl, ?_⟩
          simp only [List.filter_cons, hp2]; simp
        | true =>
          rw [hp2] at hc2
          refine Stp.of (s_if_yes hc2 ?_) ⟨some (.int (y : Nat)), rfl, rfl⟩
          have hfl : [y].filter (fun y => s (ls w) y != 0 && !w.contains y) = [y] := by simp only [List.filter_cons, hp2]; simp
          rw [hfl]
          have hadd : addM false (.lst (nsV w)) (.lst [.int (y : Nat)]) (RHp h K2 s x Y2) = some (.lst (nsV (w ++ [y])), RHp h K2 s x Y2) := by
            show newL false (nsV w ++ [MV.int (y : Nat)]) _ = _
            rw [newL_false, if_pos (by simp; omega)]
            simp [nsV]
          have hm : mulM false (.int (sg s w)) (.int (s (ls w) y)) (RHp h K2 s x Y2) = some (.int (sg s (w ++ [y])), RHp h K2 s x Y2) := by
            rw [mulM_ok false (mulOk_r (absLe_iff.mpr (by have := W.three bl hy'.2; omega)))]
            rw [sg_append s w [y] Wy.ne (by simp), hd_cons]
            simp [sg]
          have hap := RHp_app (h := h) (K := K2) (s := s) (x := x) (Y := Y2) (w := w ++ [y]) (by omega)
          unfold wyV at hap
          have hty : tyM (RHp h K2 s x Y2) (.ref (h.length + 1 + x.length)) = some "list" := by simp only [tyM, RHp_lst]
          simp only [List.set_cons_succ, List.set_cons_zero, evS_ex, ev_meth, evMeth, ev_var, List.getElem?_cons_succ, List.getElem?_cons_zero, bind_ok', hty, mtOk_append, isT, beq_self_eq_true, if_true, evL_cons, evL_nil, ev_tup, ev_bin, ev_lst, List.length_cons, List.length_nil, Bool.false_eq_true, if_false, opB_Add, opB_Mult, ev_ix, (ixb bl hy'.2).1, (ixb bl hy'.2).2, ofO_some', hm, mtOp_append]
          simp [hadd, hm, hap]
      · rintro env2 h2 ⟨o9, rfl, rfl⟩
        refine Stp.nx ⟨_, _, _, _, rfl, ?_⟩
        rw [List.take_length]; rfl
    · rintro env2 h2 ⟨o6, o7, o8, o9, rfl, rfl⟩
      rw [List.take_length]
      refine Stp.of (s_asg1 (m := .ref (h.length + 1 + x.length)) rfl) ⟨.ref (h.length + 1 + x.length), x ++ [.lst ((ways n s (k + 1)).map (wyV s))], some (.int (k : Nat)), some (.ref (h.length + 1 + x.length)), o6, o7, o8, o9, by omega, (fun o ho => by
        rcases List.mem_append.mp ho with q | q
        · exact no o q
        · rw [List.mem_singleton] at q; rw [q]; exact nor_wy s _), rfl, ?_, fun K => .inr ⟨_, rfl, ?_⟩⟩
      · rw [← ringsTo_succ]; simp [RHp, ways]
      · have := RHp_lst (h := h) (K := K) (s := s) (x := x) (Y := ways n s (k + 1))
        unfold RHp at this
        rw [← this]; simp
  · rintro env2 h2 ⟨v2, x, o3, o4, o6, o7, o8, o9, _, no, rfl, rfl, hv⟩
    simp only [List.length_range]
    refine (hQ2 _).mpr ⟨x, no, b_ret ?_⟩
    simp [ringsL]
end
end Mi

set_option Elab.async false
set_option linter.all false
set_option maxRecDepth 100000
set_option maxHeartbeats 1000000
namespace Mi
open PySem PySem.Spec L2 Mz
set_option autoImplicit false
/-- all rounds, once -/
structure Due (n : Nat) (s : Nat → Nat → Int) (cs : List (List Nat)) : Prop where
  nd : cs.Nodup
  iff_ : ∀ c, c ∈ cs ↔ IsR n s c
def S_law_are_rounds (G : CallT) : Prop := ∀ n s h d cs, 1 ≤ n → n ≤ 9 → Vw n s → Cl h → Due n s cs → h[d]? = some (.dct true (cs.map (rE s))) → G "_law_are_rounds" [wb n s, .ref d] h = .ok (.bl true) h
theorem Due.perm {n : Nat} {s : Nat → Nat → Int} {cs : List (List Nat)} (D : Due n s cs) (sy : ∀ x y, s x y = s y x) : cs.Perm (ringsL n s) :=
  (List.perm_ext_iff_of_nodup D.nd ringsL_nd).mpr fun c => by rw [D.iff_, mem_ringsL sy]
theorem getK_rE {s : Nat → Nat → Int} {cs : List (List Nat)} (nd : cs.Nodup) {c : List Nat} (hc : c ∈ cs) : getK (cs.map (rE s)) (kN c) = some (.int (csg s c)) := by
  refine getK_of_mem ?_ (List.mem_map.mpr ⟨c, hc, rfl⟩)
  rw [keys_rE]
  rw [List.nodup_iff_pairwise_ne, List.pairwise_map]
  exact (List.nodup_iff_pairwise_ne.mp nd).imp fun h e => h (kN_inj e)
theorem list_rE {s : Nat → Nat → Int} {cs : List (List Nat)} {h : MH} {d : Nat} (hd : h[d]? = some (.dct true (cs.map (rE s)))) (hl : cs.length ≤ 16777216) (hk : ∀ c ∈ cs, c.length ≤ 1000) : listM false [.ref d] h = some (.lst (cs.map rgV), h) := by
  have e : (cs.map (rE s)).map (fun kv => unkey true kv.1) = cs.map rgV := by
    rw [List.map_map]
    exact List.map_congr_left fun c _ => unkey_kN c
  simp only [listM, dctOf_dct hd]
  rw [if_pos, e, newL_false, if_pos (by simpa using hl)]
  intro _ kv hkv
  obtain ⟨c, hc, rfl⟩ := List.mem_map.mp hkv
  simp only [rE, kN, List.length_map]
  exact hk c hc
section
variable {G G' : CallT}
theorem isR_len {n : Nat} {s : Nat → Nat → Int} {c : List Nat} (r : IsR n s c) : c.length ≤ n := nd_len r.1.nd r.2
theorem p_law_are_rounds (h1 : S_rings G) (h2 : S_is_ring G) (h3 : S_ring_sign G) (h4 : S_law_rounds G) (r : Runs G G' "_law_are_rounds" K76i.F__law_are_rounds) : S_law_are_rounds G' := fun n s h d cs n1 n2 W cl D hd => by
  obtain ⟨x, _, hx⟩ := h4 n s h n1 n2 W
  have pm := D.perm W.sy
  have hlen := ringsTo_len (s := s) n2 n
  change (ringsL n s).length ≤ _ at hlen
  have ple := pm.length_eq
  have hl9 : n * 362880 ≤ 9 * 362880 := Nat.mul_le_mul_right _ n2
  have hck : ∀ c ∈ cs, c.length ≤ 1000 := fun c hc => by have := isR_len ((D.iff_ c).mp hc); omega
  have hlist := list_rE hd (by omega) hck
  have main : bodyR (evS G K76i.ir__law_are_rounds (startM K76i.N__law_are_rounds [wb n s, .ref d]) h) = .ok (.bl true) (h ++ .dct true ((ringsL n s).map (rE s)) :: x) := by
    unfold K76i.ir__law_are_rounds
    simp only [K76i.N__law_are_rounds, startM, List.map, List.length_cons, List.length_nil, List.replicate, List.cons_append, List.nil_append]
    refine b_nx (env1 := [some (wb n s), some (.ref d), none, none]) (h1 := h) ?_ ?_
    · by_cases h8 : n < 8
      · refine s_if_yes (h1 := h) (by simp; omega) (s_if_no (h1 := h) ?_ (by simp))
        have e0 : ev G (.comp false (.val (.bi false "list" (.cons (.var 1) .nil))) (.name 2) .tt (.tup (.cons (.bi false "len" (.cons (.var 2) .nil)) (.cons (.var 2) .nil))) [2]) [some (wb n s), some (.ref d), none, none] h = .ok (.lst (cs.map szV)) h := by
          refine comp_m cs rgV szV (c := .no) ?_ trivial (by omega) fun c hc => ⟨_, rfl, ?_⟩
          · simp [hlist]
          · simp [wipeM, rgV, szV]
        have e1 : ev G (.comp false (.val (.bi false "sorted" (.cons (.comp false (.val (.bi false "list" (.cons (.var 1) .nil))) (.name 2) .tt (.tup (.cons (.bi false "len" (.cons (.var 2) .nil)) (.cons (.var 2) .nil))) [2]) .nil))) (.tup [(.name 3), (.name 2)]) .tt (.var 2) [3, 2]) [some (wb n s), some (.ref d), none, none] h = .ok (.lst ((srt (ringsL n s)).map rgV)) h := by
          rw [← srt_eq pm]
          refine comp_m (srt cs) szV rgV (c := .no) ?_ trivial (by rw [(srt_perm _).length_eq]; omega) fun c hc => ⟨[some (wb n s), some (.ref d), some (rgV c), some (.int c.length)], ?_, ?_⟩
          · simp [e0, sorted_sz _ (by omega : cs.length ≤ 16777216)]
          · simp [wipeM, szV]
          · simp
        have e2 := h1 n s h n1 (by omega) W cl
        simp only [evT_cmp, ev_cmp, ev_call, evL_cons, evL_nil, ev_var, List.getElem?_cons_zero, bind_ok', e2, e1, opC_NotEq, ne_rgs, ofO_some', asB_ok]
      · refine s_if_no (h1 := h) (by simp; omega) (by simp)
    refine b_for cs rgV (fun i env h' => ∃ o2, env = [some (wb n s), some (.ref d), o2, none] ∧ h' = h) (c := .no) (h0 := h) (by simp [hlist]) (fun _ _ _ _ => trivial) ⟨none, rfl, rfl⟩ ?_ ?_
    · rintro i hi env h' ⟨o2, rfl, rfl⟩
      have hc : cs[i] ∈ cs := List.getElem_mem hi
      generalize cs[i] = c at hc ⊢
      have R := (D.iff_ c).mp hc
      refine ⟨_, rfl, Stp.of (s_if_no (h1 := h') (t_or (x := false) (y := false) (h1 := h') ?_ fun _ => ?_) rfl) ⟨some (rgV c), rfl, rfl⟩⟩
      · simp [h2 n s c h' n1 (by omega) W R, isNotM, isNone]
      · have e1 := h3 n s c h' n1 (by omega) W R
        have e2 : ixM (.ref d) (rgV c) h' = some (.int (csg s c), h') := by
          show (match dctOf h' (.ref d) with
            | some (t, kvs) => match dkey t (rgV c) with
              | some k => (getK kvs k).map fun m => (m, h')
              | none => none
            | none => match sqOf h' (.ref d), rgV c with
              | some xs, .int i => (atI xs i).map fun m => (m, h')
              | _, _ => none) = _
          simp only [dctOf_dct hd, dkey_rg, getK_rE D.nd hc, mapO_some]
        simp [e1, e2]
    · rintro env2 h2' ⟨o2, rfl, rfl⟩
      refine b_ret ?_
      have g1 : (h2' ++ MO.dct true ((ringsL n s).map (rE s)) :: x)[h2'.length]? = some (.dct true ((ringsL n s).map (rE s))) := by simp
      have g2 : (h2' ++ MO.dct true ((ringsL n s).map (rE s)) :: x)[d]? = some (.dct true (cs.map (rE s))) := by
        have : d < h2'.length := by
          apply Classical.byContradiction
          intro z
          rw [List.getElem?_eq_none (by omega)] at hd; cases hd
        rw [List.getElem?_append_left this]; exact hd
      have l1 : lenM [.ref h2'.length] (h2' ++ MO.dct true ((ringsL n s).map (rE s)) :: x) = some (.int (ringsL n s).length, h2' ++ MO.dct true ((ringsL n s).map (rE s)) :: x) := by
        simp only [lenM, dctOf_dct g1, List.length_map]
      have l2 : lenM [.ref d] (h2' ++ MO.dct true ((ringsL n s).map (rE s)) :: x) = some (.int (ringsL n s).length, h2' ++ MO.dct true ((ringsL n s).map (rE s)) :: x) := by
        simp only [lenM, dctOf_dct g2, List.length_map, ple]
      simp [hx, l1, l2]
  rw [r.yes rfl]
  show gcR h (bodyR (evS G K76i.ir__law_are_rounds (startM K76i.N__law_are_rounds [wb n s, .ref d]) h)) = _
  rw [main]
  exact gc_ok cl rfl
/-- a round put to a dict of rounds -/
theorem setK_rE {s : Nat → Nat → Int} {cs : List (List Nat)} (nd : cs.Nodup) (c : List Nat) : ∃ cs' : List (List Nat), setK (cs.map (rE s)) (kN c) (.int (csg s c)) = cs'.map (rE s) ∧ cs'.Nodup ∧ cs'.length ≤ cs.length + 1 ∧ ∀ d, d ∈ cs' ↔ d = c ∨ d ∈ cs := by
  by_cases hc : c ∈ cs
  · refine ⟨cs, ?_, nd, by omega, fun d => ⟨.inr, fun z => z.elim (fun e => e ▸ hc) id⟩⟩
    unfold setK
    rw [if_pos (any_key.mpr (mem_kN.mpr hc)), List.map_map]
    refine List.map_congr_left fun d _ => ?_
    simp only [Function.comp_apply]
    split
    · rename_i e
      have := kN_inj (show kN d = kN c from e)
      subst this; rfl
    · rfl
  · refine ⟨cs ++ [c], ?_, ?_, by simp, fun d => by simp [or_comm]⟩
    · rw [set_new fun z => hc (mem_kN.mp z)]; simp [rE]
    · rw [List.nodup_append]
      exact ⟨nd, by simp, fun a ha b hb e => by simp at hb; exact hc (hb ▸ e ▸ ha)⟩
def S_law_joined_right (G : CallT) : Prop := ∀ n s k V p q h, 1 ≤ n → n + k ≤ 9 → Vw n s → Vw (k + 1) V → p < n → q ≤ k → Cl h → G "_law_joined_right" [wb n s, wb (k + 1) V, .int (p : Nat), .int (q : Nat)] h = .ok (.bl true) h
theorem p_law_joined_right (h1 : S_joined_at G) (h2 : S_law_rounds G) (h3 : S_law_told_form G) (h4 : S_law_are_rounds G) (h5 : S_law_trouble G) (h6 : S_trouble G) (r : Runs G G' "_law_joined_right" K76i.F__law_joined_right) : S_law_joined_right G' := fun n s k V p q h n1 nk W X hp hq cl => by
  suffices main : ∃ x, bodyR (evS G K76i.ir__law_joined_right (startM K76i.N__law_joined_right [wb n s, wb (k + 1) V, .int (p : Nat), .int (q : Nat)]) h) = .ok (.bl true) (h ++ x) by
    obtain ⟨x, e⟩ := main
    rw [r.yes rfl]
    show gcR h (bodyR (evS G K76i.ir__law_joined_right (startM K76i.N__law_joined_right [wb n s, wb (k + 1) V, .int (p : Nat), .int (q : Nat)]) h)) = _
    rw [e]
    exact gc_ok cl rfl
  obtain ⟨J, jj, JW, ej⟩ := h1 n s k V p q h n1 (by omega) W X hp hq cl
  unfold K76i.ir__law_joined_right
  simp only [K76i.N__law_joined_right, startM, List.map, List.length_cons, List.length_nil, List.replicate, List.cons_append, List.nil_append]
  obtain ⟨Q, hQ⟩ : ∃ Q : Res MV → Prop, Q = fun R => ∃ x, R = .ok (.bl true) (h ++ x) := ⟨_, rfl⟩
  have hQ2 : ∀ R, Q R ↔ ∃ x, R = .ok (.bl true) (h ++ x) := fun R => by rw [hQ]
  rw [← hQ2]
  clear hQ
  refine x_of (b_asg (.int n) h (by simp) rfl) ?_
  refine x_of (b_asg (wb (n + k) J) h (by simp [ej]) rfl) ?_
  refine x_of (b_asg (.ref h.length) (h ++ [.lst ((List.range (k + 1)).map fun (y : Nat) => MV.int ((n : Int) + (y : Int) - if q < y then 1 else 0))]) (comp_mt (List.range (k + 1)) (fun y => .int (y : Nat)) _ (c := .no) ?_ trivial (by simp; omega) fun y hy => ⟨_, rfl, ?_⟩) rfl) ?_
  · have := rangeM_nn (k + 1) h (by omega)
    simp only [Int.natCast_add, Int.cast_ofNat_Int] at this
    have e := rng_nat (k + 1)
    simp only [Int.natCast_add, Int.cast_ofNat_Int, Int.sub_zero, Int.zero_add] at e
    simp [this, e]
  · simp [wipeM, intM]
  obtain ⟨x1, no1, e1⟩ := h2 n s (h ++ [.lst (rowV (k + 1) (nam n p q))]) n1 (by omega) W
  obtain ⟨x2, no2, e2⟩ := h2 (k + 1) V (h ++ [.lst (rowV (k + 1) (nam n p q))] ++ .dct true ((ringsL n s).map (rE s)) :: x1) (by omega) (by omega) X
  have hst : (ringsL n s).map (rE s) = (ringsL n s).map (rE J) := List.map_congr_left fun c hc => by
    have := ((mem_ringsL W.sy).mp hc).left jj
    unfold rE; rw [this.2]
  obtain ⟨Hp, hHp⟩ : ∃ Hp : List (List Nat) → MH, Hp = fun K => h ++ (.lst (rowV (k + 1) (nam n p q)) :: .dct true (K.map (rE J)) :: (x1 ++ .dct true ((ringsL (k + 1) V).map (rE V)) :: x2)) := ⟨_, rfl⟩
  have Hp0 : (h ++ [.lst (rowV (k + 1) (nam n p q))] ++ .dct true ((ringsL n s).map (rE s)) :: x1) ++ .dct true ((ringsL (k + 1) V).map (rE V)) :: x2 = Hp (ringsL n s) := by
    rw [hHp, hst]; simp
  have g6 : ∀ K, (Hp K)[h.length]? = some (.lst (rowV (k + 1) (nam n p q))) := fun K => by rw [hHp]; simp
  have g7 : ∀ K, (Hp K)[h.length + 1]? = some (.dct true (K.map (rE J))) := fun K => by rw [hHp]; simp
  have g8 : ∀ K, (Hp K)[h.length + 2 + x1.length]? = some (.dct true ((ringsL (k + 1) V).map (rE V))) := fun K => by
    rw [hHp]
    simp only []
    rw [List.getElem?_append_right (by omega), show h.length + 2 + x1.length - h.length = x1.length + 1 + 1 by omega, List.getElem?_cons_succ, List.getElem?_cons_succ, List.getElem?_append_right (Nat.le_refl _)]; simp
  have s7 : ∀ K K' : List (List Nat), (Hp K).set (h.length + 1) (.dct true (K'.map (rE J))) = Hp K' := fun K K' => by
    rw [hHp]
    simp only []
    rw [List.set_append_right _ _ (by omega)]; simp
  have pre : ∀ K, ∃ x, Hp K = h ++ x := fun K => by rw [hHp]; exact ⟨_, rfl⟩
  rw [Hp0] at e2
  have e2l : (h ++ [MO.lst (rowV (k + 1) (nam n p q))] ++ .dct true ((ringsL n s).map (rE s)) :: x1).length = h.length + 2 + x1.length := by simp; omega
  rw [e2l] at e2
  refine x_of (b_nx (env1 := [some (wb n s), some (wb (k + 1) V), some (.int (p : Nat)), some (.int (q : Nat)), some (.int (n : Nat)), some (wb (n + k) J), some (.ref h.length), none, none, none, none, none, none]) (h1 := h ++ [.lst (rowV (k + 1) (nam n p q))]) ?_ rfl) ?_
  · have e : putM (.ref h.length) (.int (q : Nat)) (.int (p : Nat)) (h ++ [.lst ((List.range (k + 1)).map fun (y : Nat) => MV.int ((n : Int) + (y : Int) - if q < y then 1 else 0))]) = some (h ++ [.lst (rowV (k + 1) (nam n p q))]) := by
      have hx : L2.ixN (k + 1) (q : Int) = some q := by
        unfold L2.ixN
        rw [if_pos (by omega), if_pos (by omega)]; simp
      simp only [putM, getLast_h, List.length_map, List.length_range, hx, mapO_some, setLast_h, rowV_set hq]
    simp [evsPut, e]
  refine x_of (b_asg (.ref (h.length + 1)) (h ++ [.lst (rowV (k + 1) (nam n p q))] ++ .dct true ((ringsL n s).map (rE s)) :: x1) ?_ rfl) ?_
  · simp only [ev_call, evL_cons, evL_nil, ev_var, List.getElem?_cons_zero, bind_ok', e1]; simp
  refine x_of (b_asg (.ref (h.length + 2 + x1.length)) (Hp (ringsL n s)) ?_ rfl) ?_
  · simp only [List.set_cons_succ, List.set_cons_zero, ev_call, evL_cons, evL_nil, ev_var, List.getElem?_cons_succ, List.getElem?_cons_zero, bind_ok', e2]
  have lenV := ringsTo_len (n := k + 1) (s := V) (by omega) (k + 1)
  change (ringsL (k + 1) V).length ≤ _ at lenV
  have lenV9 : (k + 1) * 362880 ≤ 9 * 362880 := Nat.mul_le_mul_right _ (by omega)
  have lenS := ringsTo_len (n := n) (s := s) (by omega) n
  change (ringsL n s).length ≤ _ at lenS
  have lenS9 : n * 362880 ≤ 9 * 362880 := Nat.mul_le_mul_right _ (by omega)
  have memV : ∀ c, c ∈ ringsL (k + 1) V ↔ IsR (k + 1) V c := fun c => mem_ringsL X.sy
  refine x_for (ringsL (k + 1) V) rgV (fun i env h' => ∃ cs o9, i ≤ (ringsL (k + 1) V).length ∧ env = [some (wb n s), some (wb (k + 1) V), some (.int (p : Nat)), some (.int (q : Nat)), some (.int (n : Nat)), some (wb (n + k) J), some (.ref h.length), some (.ref (h.length + 1)), some (.ref (h.length + 2 + x1.length)), o9, none, none, none] ∧ h' = Hp cs ∧ cs.Nodup ∧ cs.length ≤ (ringsL n s).length + i ∧ (∀ c ∈ cs, IsR (n + k) J c) ∧ (∀ c, IsR n s c → c ∈ cs) ∧ ∀ c ∈ (ringsL (k + 1) V).take i, told (c.map (nam n p q)) ∈ cs) (c := .no) (h0 := Hp (ringsL n s)) ?_ (fun _ _ _ _ => trivial) ⟨ringsL n s, none, by omega, rfl, rfl, ringsL_nd, by omega, fun c hc => (((mem_ringsL W.sy).mp hc).left jj).1, fun c hc => (mem_ringsL W.sy).mpr hc, fun c hc => by simp at hc⟩ ?_ ?_
  · have := list_rE (g8 (ringsL n s)) (by omega) fun c hc => by have := isR_len ((memV c).mp hc); omega
    simp [this]
  · rintro i hi env h' ⟨cs, o9, _, rfl, rfl, nd, len, all, old, new⟩
    have hc : (ringsL (k + 1) V)[i] ∈ ringsL (k + 1) V := List.getElem_mem hi
    have tk : (ringsL (k + 1) V).take (i + 1) = (ringsL (k + 1) V).take i ++ [(ringsL (k + 1) V)[i]] := List.take_succ_eq_append_getElem hi
    generalize (ringsL (k + 1) V)[i] = c at hc tk ⊢
    have R := (memV c).mp hc
    obtain ⟨R1, R2⟩ := R.right jj hp hq W X JW
    have cl9 := isR_len R
    have hl3 := R.1.len
    obtain ⟨cs', k1, k2, k3, k4⟩ := setK_rE (s := J) nd (told (c.map (nam n p q)))
    rw [R2] at k1
    have ecomp : ev G (.comp false (.val (.var 9)) (.name 12) .tt (.ix (.var 6) (.var 12)) [12]) [some (wb n s), some (wb (k + 1) V), some (.int (p : Nat)), some (.int (q : Nat)), some (.int (n : Nat)), some (wb (n + k) J), some (.ref h.length), some (.ref (h.length + 1)), some (.ref (h.length + 2 + x1.length)), some (rgV c), none, none, none] (Hp cs) = .ok (.lst (nsV (c.map (nam n p q)))) (Hp cs) := by
      have : nsV (c.map (nam n p q)) = c.map fun x => MV.int (nam n p q x : Nat) := by simp [nsV]
      rw [this]
      refine comp_m c (fun x => .int (x : Nat)) (fun x => .int (nam n p q x : Nat)) (c := .no) (by simp [rgV, nsV]) trivial (by omega) fun y hy => ⟨_, rfl, ?_⟩
      have hy' : y < k + 1 := R.2 y hy
      have : ixM (.ref h.length) (.int (y : Nat)) (Hp cs) = some (.int (nam n p q y : Nat), Hp cs) := by
        simp only [ixM, dctOf_lstr (g6 cs), sqOf, sqLOf, lstOf, g6, atI_nat]
        simp [rowV, hy']
      simp [wipeM, this]
    have ndm : (c.map (nam n p q)).Nodup := nodup_map_of R.1.nd fun x _ y _ => nam_inj hp
    have etold := h3 (.lst (nsV (c.map (nam n p q)))) (c.map (nam n p q)) (Hp cs) (.inl rfl) ndm (by simpa using hl3) (by simp; omega)
    have eix : ixM (.ref (h.length + 2 + x1.length)) (rgV c) (Hp cs) = some (.int (csg V c), Hp cs) := by
      show (match dctOf (Hp cs) (.ref (h.length + 2 + x1.length)) with
        | some (t, kvs) => match dkey t (rgV c) with
          | some k => (getK kvs k).map fun m => (m, Hp cs)
          | none => none
        | none => match sqOf (Hp cs) (.ref (h.length + 2 + x1.length)), rgV c with
          | some xs, .int i => (atI xs i).map fun m => (m, Hp cs)
          | _, _ => none) = _
      simp only [dctOf_dct (g8 cs), dkey_rg, getK_rE ringsL_nd hc, mapO_some]
    have eput : putM (.ref (h.length + 1)) (rgV (told (c.map (nam n p q)))) (.int (csg V c)) (Hp cs) = some (Hp cs') := by
      simp only [putM, g7, dkey_rg]
      rw [if_pos (by simp; omega), k1, s7]
    refine ⟨_, rfl, Stp.of (env := [some (wb n s), some (wb (k + 1) V), some (.int (p : Nat)), some (.int (q : Nat)), some (.int (n : Nat)), some (wb (n + k) J), some (.ref h.length), some (.ref (h.length + 1)), some (.ref (h.length + 2 + x1.length)), some (rgV c), none, none, none]) (h := Hp cs') ?_ ⟨cs', some (rgV c), by omega, rfl, rfl, k2, by omega, fun d hd => ?_, fun d hd => (k4 d).mpr (.inr (old d hd)), fun d hd => ?_⟩⟩
    · simp only [evS_put, evsPut, List.set_cons_succ, List.set_cons_zero, ev_ix, ev_call, evL_cons, evL_nil, ecomp, ev_var, List.getElem?_cons_succ, List.getElem?_cons_zero, bind_ok', eix, ofO_some', ofE_ok', etold, eput]
    · rcases (k4 d).mp hd with e | e
      · rw [e]; exact R1
      · exact all d e
    · rw [tk] at hd
      rcases List.mem_append.mp hd with e | e
      · exact (k4 _).mpr (.inr (new d e))
      · simp at e; subst e; exact (k4 _).mpr (.inl rfl)
  · rintro env2 h2' ⟨cs, o9, _, rfl, rfl, nd, len, all, old, new⟩
    rw [List.take_length] at new
    have D : Due (n + k) J cs := ⟨nd, fun c => ⟨all c, fun R => by
      rcases R.split jj hp hq W X JW with z | ⟨d, z1, z2⟩
      · exact old c z
      · rw [← z2]; exact new d ((memV d).mpr z1)⟩⟩
    obtain ⟨x, ex⟩ := pre cs
    have clp : Cl (Hp cs) := by
      rw [hHp]
      refine cl_app cl fun o ho => ?_
      simp only [List.mem_cons, List.mem_append] at ho
      rcases ho with e | e | e | e | e
      · rw [e]; exact nor_row _ _
      · rw [e]; exact nor_rE _ _
      · exact no1 o e
      · rw [e]; exact nor_rE _ _
      · exact no2 o e
    have ear := h4 (n + k) J (Hp cs) (h.length + 1) cs (by omega) nk JW clp D (g7 cs)
    obtain ⟨v1, L1, t1⟩ := h5 n s (Hp cs) n1 (by omega) W clp
    obtain ⟨v2, L2, t2⟩ := h5 (k + 1) V (Hp cs) (by omega) (by omega) X clp
    obtain ⟨v3, L3, t3⟩ := h5 (n + k) J (Hp cs) (by omega) (by omega) JW clp
    obtain ⟨u1, M1, w1⟩ := h6 n s (Hp cs) n1 (by omega) W clp
    obtain ⟨u2, M2, w2⟩ := h6 (k + 1) V (Hp cs) (by omega) (by omega) X clp
    obtain ⟨u3, M3, w3⟩ := h6 (n + k) J (Hp cs) (by omega) (by omega) JW clp
    have LJ := Least.joined jj hp hq X L1 L2
    have q1 := L3.uniq LJ
    have q2 := M3.uniq LJ
    have q3 := M1.uniq L1
    have q4 := M2.uniq L2
    subst q1 q2 q3 q4
    refine (hQ2 _).mpr ⟨x, ?_⟩
    rw [← ex]
    refine b_if_no (h1 := Hp cs) (by simp [ear]) ?_
    refine b_asg (.int (u1 + u2)) (Hp cs) (by simp [t1, t2]) ?_
    refine b_ret (e_and (x := true) (y := true) (h1 := Hp cs) (by simp [w3]) fun _ => e_and (x := true) (y := true) (h1 := Hp cs) (by simp [t3]) fun _ => ?_)
    simp [w1, w2]
end
end Mi

set_option Elab.async false
set_option linter.all false
set_option maxRecDepth 100000
set_option maxHeartbeats 1000000
namespace Mi
open PySem PySem.Spec L2 Mz
set_option autoImplicit false
def nxt (c : List Nat) (k : Nat) : Nat := if k + 1 = c.length then hd c else gN c (k + 1)
theorem at_next {c : List Nat} {k : Nat} (h : k < c.length) : atI (nsV c) ((k : Int) + 1 - c.length) = some (.int (nxt c k : Nat)) := by
  unfold nxt
  by_cases e : k + 1 = c.length
  · rw [if_pos e]
    have : ((k : Int) + 1 - c.length) = 0 := by omega
    rw [this]; exact at_0 (fun q => by rw [q] at h; simp at h)
  · rw [if_neg e, at_neg (by omega) (by rw [nsV_len]; omega), nsV_len]
    have : ((k : Int) + 1 - c.length + c.length).toNat = k + 1 := by omega
    rw [this]
    have := at_nat (c := c) (k := k + 1) (by omega)
    rwa [atI_nat] at this
theorem row_range {a b n : Nat} {c : List Nat} (hc : c ≠ []) : row a b n c = (List.range c.length).flatMap fun k => gN c k :: mk a b n (gN c k) (nxt c k) := by
  rw [row_zip c hc]
  have : c.zip (c.tail ++ [hd c]) = (List.range c.length).map fun k => (gN c k, nxt c k) := by
    obtain ⟨x, l, rfl⟩ := List.exists_cons_of_ne_nil hc
    apply List.ext_getElem?
    intro i
    simp only [List.tail_cons, hd_cons]
    rw [List.getElem?_map]
    by_cases hi : i < l.length + 1
    · rw [List.getElem?_range (by simpa using hi)]
      have h1 : (x :: l)[i]? = some (gN (x :: l) i) := by
        rw [List.getElem?_eq_getElem (by simpa using hi)]
        unfold gN
        rw [List.getD_eq_getElem?_getD, List.getElem?_eq_getElem (by simpa using hi)]; rfl
      have h2 : (l ++ [x])[i]? = some (nxt (x :: l) i) := by
        unfold nxt
        by_cases e : i = l.length
        · rw [if_pos (by simp [e]), List.getElem?_append_right (by omega)]
          simp [e, hd]
        · rw [if_neg (by simp; omega), List.getElem?_append_left (by omega), List.getElem?_eq_getElem (by omega)]
          unfold gN
          rw [List.getD_eq_getElem?_getD, List.getElem?_cons_succ, List.getElem?_eq_getElem (by omega)]; rfl
      rw [List.zip, List.getElem?_zipWith, h1, h2]; rfl
    · rw [List.getElem?_eq_none (by simp; omega), List.getElem?_eq_none (by simp; omega)]; rfl
  rw [this, List.flatMap_map]
theorem sort2 {α : Type} (le : α → α → Bool) (a b : α) : [a, b].mergeSort le = if le a b then [a, b] else [b, a] := by
  by_cases h : le a b = true
  · rw [if_pos h]
    simp [List.mergeSort, List.MergeSort.Internal.splitInTwo, List.merge, h]
  · rw [if_neg h]
    simp [List.mergeSort, List.MergeSort.Internal.splitInTwo, List.merge, h]
theorem sorted_2 {h : MH} (x y : Nat) : sortedM false [.lst [.int (x : Nat), .int (y : Nat)]] h = some (.lst [.int (min x y : Nat), .int (max x y : Nat)], h) := by
  have e1 : pdL h [.int (x : Nat), .int (y : Nat)] = some [.int (x : Nat), .int (y : Nat)] := rfl
  have e2 : sortOk [.int (x : Nat), .int (y : Nat)] = true := rfl
  have e3 : sortV [.int (x : Nat), .int (y : Nat)] [.int (x : Nat), .int (y : Nat)] = [.int (min x y : Nat), .int (max x y : Nat)] := by
    unfold sortV
    have e : PySem.W.dataLe false Prod.snd ((MV.int (x : Nat), PyData.int (x : Nat)) : MV × PyData) (MV.int (y : Nat), PyData.int (y : Nat)) = decide (x ≤ y) := by
      have := dLt_int y x
      unfold PySem.W.dataLt at this
      show (!PyProof.Rows.lexLt PyProof.Rows.itemOrd _ _) = _
      rw [this]
      by_cases q : y < x
      · simp [q]
      · simp [q]; omega
    rw [List.zip_cons_cons, List.zip_cons_cons, List.zip_nil_left, sort2, e]
    by_cases q : x ≤ y
    · rw [if_pos (by simpa using q), Nat.min_eq_left q, Nat.max_eq_right q]; rfl
    · rw [if_neg (by simpa using q), Nat.min_eq_right (by omega), Nat.max_eq_left (by omega)]; rfl
  simp only [sortedM, sqOf, sqLOf_lst, e1, e2, if_true, e3, newL_false]
  rw [if_pos (by simp)]
theorem eq_2 {h : MH} (x y a b : Nat) : eqM (.lst [.int (x : Nat), .int (y : Nat)]) (.lst [.int (a : Nat), .int (b : Nat)]) h = some (.bl (decide (x = a ∧ y = b)), h) := by
  have e1 : ∀ x y : Nat, pdM h 66 (.lst [.int (x : Nat), .int (y : Nat)]) = some (.list [.int (x : Nat), .int (y : Nat)]) := fun _ _ => rfl
  have s1 : ∀ x y : Nat, SeqAt.shaped (.list [.int (x : Nat), .int (y : Nat)]) = true := fun x y => shaped_ints [x, y]
  simp only [eqM, e1, s1, and_self, if_true]
  congr 3
  simp only [PyData.eqv, PyData.eqvAll]
  rw [Bool.eq_iff_iff]
  simp only [Bool.and_true, Bool.and_eq_true, beq_iff_eq, decide_eq_true_eq]
  omega
theorem ed_sorted {a b x y : Nat} (hab : a < b) : (min x y = a ∧ max x y = b) ↔ Ed a b x y := by unfold Ed; omega
def S_law_parted_right (G : CallT) : Prop := ∀ n s a b h, 1 ≤ n → n ≤ 8 → Vw n s → a < b → b < n → s a b ≠ 0 → Cl h → G "_law_parted_right" [wb n s, prV (a, b)] h = .ok (.bl true) h
section
variable {G G' : CallT}
theorem p_law_parted_right (h1 : S_parted_tie G) (h2 : S_law_rounds G) (h3 : S_law_told_form G) (h4 : S_law_are_rounds G) (h5 : S_law_trouble G) (h6 : S_trouble G) (r : Runs G G' "_law_parted_right" K76i.F__law_parted_right) : S_law_parted_right G' := fun n s a b h n1 n2 W hab hb hs cl => by
  suffices main : ∃ x, bodyR (evS G K76i.ir__law_parted_right (startM K76i.N__law_parted_right [wb n s, prV (a, b)]) h) = .ok (.bl true) (h ++ x) by
    obtain ⟨x, e⟩ := main
    rw [r.yes rfl]
    show gcR h (bodyR (evS G K76i.ir__law_parted_right (startM K76i.N__law_parted_right [wb n s, prV (a, b)]) h)) = _
    rw [e]
    exact gc_ok cl rfl
  obtain ⟨L, ll, LW, el⟩ := h1 n s a b h n1 (by omega) W hab hb hs cl
  unfold K76i.ir__law_parted_right
  simp only [K76i.N__law_parted_right, startM, List.map, List.length_cons, List.length_nil, List.replicate, List.cons_append, List.nil_append]
  obtain ⟨Q, hQ⟩ : ∃ Q : Res MV → Prop, Q = fun R => ∃ x, R = .ok (.bl true) (h ++ x) := ⟨_, rfl⟩
  have hQ2 : ∀ R, Q R ↔ ∃ x, R = .ok (.bl true) (h ++ x) := fun R => by rw [hQ]
  rw [← hQ2]
  clear hQ
  obtain ⟨x1, no1, e1⟩ := h2 n s (h ++ [.dct true []]) n1 (by omega) W
  obtain ⟨Hp, hHp⟩ : ∃ Hp : List (List Nat) → MH → MH, Hp = fun K y => h ++ (.dct true (K.map (rE L)) :: .dct true ((ringsL n s).map (rE s)) :: (x1 ++ y)) := ⟨_, rfl⟩
  have Hp0 : (h ++ [MO.dct true []]) ++ .dct true ((ringsL n s).map (rE s)) :: x1 = Hp [] [] := by
    rw [hHp]; simp
  have g4 : ∀ K y, (Hp K y)[h.length]? = some (.dct true (K.map (rE L))) := fun K y => by rw [hHp]; simp
  have g5 : ∀ K y, (Hp K y)[h.length + 1]? = some (.dct true ((ringsL n s).map (rE s))) := fun K y => by rw [hHp]; simp
  have gl : ∀ K y o, (Hp K (y ++ [o]))[h.length + 2 + x1.length + y.length]? = some o := fun K y o => by
    rw [hHp]
    simp only []
    rw [List.getElem?_append_right (by omega), show h.length + 2 + x1.length + y.length - h.length = x1.length + y.length + 1 + 1 by omega, List.getElem?_cons_succ, List.getElem?_cons_succ, List.getElem?_append_right (by omega), show x1.length + y.length - x1.length = y.length by omega, List.getElem?_append_right (Nat.le_refl _)]; simp
  have s4 : ∀ (K K' : List (List Nat)) y, (Hp K y).set h.length (.dct true (K'.map (rE L))) = Hp K' y := fun K K' y => by
    rw [hHp]
    simp only []
    rw [List.set_append_right _ _ (by omega)]; simp
  have sl : ∀ K y o o', (Hp K (y ++ [o])).set (h.length + 2 + x1.length + y.length) o' = Hp K (y ++ [o']) := fun K y o o' => by
    rw [hHp]
    simp only []
    rw [List.set_append_right _ _ (by omega), show h.length + 2 + x1.length + y.length - h.length = x1.length + y.length + 1 + 1 by omega, List.set_cons_succ, List.set_cons_succ, List.set_append_right _ _ (by omega), show x1.length + y.length - x1.length = y.length by omega, List.set_append_right _ _ (Nat.le_refl _)]; simp
  have al : ∀ K y o, Hp K y ++ [o] = Hp K (y ++ [o]) := fun K y o => by rw [hHp]; simp
  have lenH : ∀ K y, (Hp K y).length = h.length + 2 + x1.length + y.length := fun K y => by rw [hHp]; simp; omega
  have pre : ∀ K y, ∃ x, Hp K y = h ++ x := fun K y => by rw [hHp]; exact ⟨_, rfl⟩
  rw [Hp0] at e1
  refine x_of (b_asg (.int n) h (by simp) rfl) ?_
  refine x_of (b_asg (wb (n + 1) L) h (by simp [el]) rfl) ?_
  refine x_of (b_asg (.ref h.length) (h ++ [.dct true []]) (by simp) rfl) ?_
  refine x_of (b_asg (.ref (h.length + 1)) (Hp [] []) ?_ rfl) ?_
  · simp [e1]
  have lenS := ringsTo_len (n := n) (s := s) (by omega) n
  change (ringsL n s).length ≤ _ at lenS
  have lenS9 : n * 362880 ≤ 9 * 362880 := Nat.mul_le_mul_right _ (by omega)
  have memS : ∀ c, c ∈ ringsL n s ↔ IsR n s c := fun c => mem_ringsL W.sy
  have nol : ∀ l : List Nat, NoR (.lst (nsV l)) := fun l => refs_of fun m hm => by obtain ⟨y, _, rfl⟩ := List.mem_map.mp hm; rfl
  refine x_for (ringsL n s) rgV (fun i env h' => ∃ cs y o6 o7 o8, i ≤ (ringsL n s).length ∧ (∀ o ∈ y, NoR o) ∧ env = [some (wb n s), some (prV (a, b)), some (.int (n : Nat)), some (wb (n + 1) L), some (.ref h.length), some (.ref (h.length + 1)), o6, o7, o8] ∧ h' = Hp cs y ∧ cs.Nodup ∧ cs.length ≤ i ∧ (∀ c ∈ cs, IsR (n + 1) L c) ∧ ∀ c ∈ (ringsL n s).take i, told (row a b n c) ∈ cs) (c := .no) (h0 := Hp [] []) ?_ (fun _ _ _ _ => trivial) ⟨[], [], none, none, none, by omega, (fun o ho => by cases ho), rfl, rfl, List.nodup_nil, by simp, (fun c hc => by cases hc), fun c hc => by simp at hc⟩ ?_ ?_
  · have := list_rE (g5 [] []) (by omega) fun c hc => by have := isR_len ((memS c).mp hc); omega
    simp [this]
  · rintro i hi env h' ⟨cs, y, o6, o7, o8, _, noy, rfl, rfl, nd, len, all, new⟩
    have hc : (ringsL n s)[i] ∈ ringsL n s := List.getElem_mem hi
    have tk : (ringsL n s).take (i + 1) = (ringsL n s).take i ++ [(ringsL n s)[i]] := List.take_succ_eq_append_getElem hi
    generalize (ringsL n s)[i] = c at hc tk ⊢
    have R := (memS c).mp hc
    obtain ⟨R1, R2⟩ := R.parted ll hab hb W LW.sy hs
    obtain ⟨C1, C2, C3⟩ := parted_cyc ll hab hb W LW.sy R.1.toCyc R.2 hs
    have cl9 := isR_len R
    have rl9 := nd_len C1.nd C3
    obtain ⟨cs', k1, k2, k3, k4⟩ := setK_rE (s := L) nd (told (row a b n c))
    rw [R2] at k1
    have hne := R.1.ne
    have eix : ∀ y, ixM (.ref (h.length + 1)) (rgV c) (Hp cs y) = some (.int (csg s c), Hp cs y) := fun y => by
      show (match dctOf (Hp cs y) (.ref (h.length + 1)) with
        | some (t, kvs) => match dkey t (rgV c) with
          | some k => (getK kvs k).map fun m => (m, Hp cs y)
          | none => none
        | none => match sqOf (Hp cs y) (.ref (h.length + 1)), rgV c with
          | some xs, .int i => (atI xs i).map fun m => (m, Hp cs y)
          | _, _ => none) = _
      simp only [dctOf_dct (g5 cs y), dkey_rg, getK_rE ringsL_nd hc, mapO_some]
    have eput : ∀ y, putM (.ref h.length) (rgV (told (row a b n c))) (.int (csg s c)) (Hp cs y) = some (Hp cs' y) := fun y => by
      simp only [putM, g4, dkey_rg]
      rw [if_pos (by simp; omega), k1, s4]
    refine ⟨_, rfl, stp ?_⟩
    refine y_of (s_asg (.ref (h.length + 2 + x1.length + y.length)) (Hp cs (y ++ [.lst (nsV [])])) ?_ rfl) ?_
    · simp [lenH, al, nsV]
    refine y_for (List.range c.length) (fun (k : Nat) => MV.int (k : Nat)) (fun j env h' => ∃ o8, env = [some (wb n s), some (prV (a, b)), some (.int (n : Nat)), some (wb (n + 1) L), some (.ref h.length), some (.ref (h.length + 1)), some (rgV c), some (.ref (h.length + 2 + x1.length + y.length)), o8] ∧ h' = Hp cs (y ++ [.lst (nsV ((List.range j).flatMap fun k => gN c k :: mk a b n (gN c k) (nxt c k)))])) (c := .no) (h0 := Hp cs (y ++ [.lst (nsV [])])) ?_ (fun _ _ _ _ => trivial) ⟨o8, rfl, by simp⟩ ?_ ?_
    · have := fun H => rangeM_nn c.length H (by omega)
      simp [rgV, this]
    · rintro j hj env h' ⟨o8, rfl, rfl⟩
      simp only [List.getElem_range]
      have hj : j < c.length := by simpa using hj
      have lj : ((List.range j).flatMap fun k => gN c k :: mk a b n (gN c k) (nxt c k)).length ≤ 100 := by
        have := len_flatMap_le (l := List.range j) (f := fun k => gN c k :: mk a b n (gN c k) (nxt c k)) (k := 2) fun k _ => by
          unfold mk; split <;> simp
        simp only [List.length_range] at this
        omega
      rw [List.range_succ, List.flatMap_append, List.flatMap_cons, List.flatMap_nil, List.append_nil]
      generalize ((List.range j).flatMap fun k => gN c k :: mk a b n (gN c k) (nxt c k)) = X at lj ⊢
      have an := at_nat hj
      have ax := at_next hj
      have happ : ∀ (X : List Nat) (z : Nat), X.length ≤ 200 → appendM "list" (.ref (h.length + 2 + x1.length + y.length)) [.int (z : Nat)] (Hp cs (y ++ [.lst (nsV X)])) = some (.non, Hp cs (y ++ [.lst (nsV (X ++ [z]))])) := fun X z hX => by
        simp only [appendM, gl]
        rw [if_pos (by simp; omega), sl]
        simp [nsV]
      have hty : ∀ X : List Nat, tyM (Hp cs (y ++ [.lst (nsV X)])) (.ref (h.length + 2 + x1.length + y.length)) = some "list" := fun X => by simp only [tyM, gl]
      refine ⟨_, rfl, stp ?_⟩
      refine y_of (s_nx (env1 := [some (wb n s), some (prV (a, b)), some (.int (n : Nat)), some (wb (n + 1) L), some (.ref h.length), some (.ref (h.length + 1)), some (rgV c), some (.ref (h.length + 2 + x1.length + y.length)), some (.int (j : Nat))]) (h1 := Hp cs (y ++ [.lst (nsV (X ++ [gN c j]))])) ?_ rfl) ?_
      · simp only [List.set_cons_succ, List.set_cons_zero, evS_ex, ev_meth, evMeth, ev_var, List.getElem?_cons_succ, List.getElem?_cons_zero, bind_ok', hty, mtOk_append, isT, beq_self_eq_true, if_true, evL_cons, evL_nil, ev_ix, rgV, ixM_tup, an, mapO_some, ofO_some', mtOp_append, happ X (gN c j) (by omega), ofE_ok']
      have ht : evT G (.cmp .Eq (.bi false "sorted" (.cons (.lst false (.cons (.ix (.var 6) (.var 8)) (.cons (.ix (.var 6) (.bin false .Sub (.bin false .Add (.var 8) (.cst (.int 1))) (.bi false "len" (.cons (.var 6) .nil)))) .nil))) .nil)) (.bi false "list" (.cons (.var 1) .nil))) [some (wb n s), some (prV (a, b)), some (.int (n : Nat)), some (wb (n + 1) L), some (.ref h.length), some (.ref (h.length + 1)), some (rgV c), some (.ref (h.length + 2 + x1.length + y.length)), some (.int (j : Nat))] (Hp cs (y ++ [.lst (nsV (X ++ [gN c j]))])) = .ok (decide (Ed a b (gN c j) (nxt c j))) (Hp cs (y ++ [.lst (nsV (X ++ [gN c j]))])) := by
        have ls2 : listM false [prV (a, b)] (Hp cs (y ++ [.lst (nsV (X ++ [gN c j]))])) = some (.lst [.int (a : Nat), .int (b : Nat)], Hp cs (y ++ [.lst (nsV (X ++ [gN c j]))])) := by
          show newL false [MV.int (a : Nat), MV.int (b : Nat)] _ = _
          rw [newL_false, if_pos (by simp)]
        have eq2 := eq_2 (h := Hp cs (y ++ [.lst (nsV (X ++ [gN c j]))])) (min (gN c j) (nxt c j)) (max (gN c j) (nxt c j)) a b
        have hd : decide (min (gN c j) (nxt c j) = a ∧ max (gN c j) (nxt c j) = b) = decide (Ed a b (gN c j) (nxt c j)) := by
          rw [Bool.eq_iff_iff]; simp only [decide_eq_true_eq]; exact ed_sorted hab
        rw [hd] at eq2
        simp only [evT_cmp, ev_cmp, ev_sorted, ev_list, ev_lst, evL_cons, evL_nil, ev_ix, ev_bin, ev_len, ev_var, ev_cst, List.getElem?_cons_succ, List.getElem?_cons_zero, bind_ok', rgV, lenM_tup, nsV_len, opB_Add, opB_Sub, addM_ii, iiM_ii, subI_ii, ixM_tup, an, ax, mapO_some, ofO_some', List.length_cons, List.length_nil, Bool.false_eq_true, if_false, ls2, opC_Eq]
        rw [if_pos (by omega)]
        simp only [bind_ok', sorted_2, ofO_some', ls2, eq2, asB_ok]
      by_cases he : Ed a b (gN c j) (nxt c j)
      · rw [decide_eq_true he] at ht
        refine Stp.of (h := Hp cs (y ++ [.lst (nsV (X ++ [gN c j] ++ [n]))])) (s_if_yes ht ?_) ⟨some (.int (j : Nat)), rfl, ?_⟩
        · simp only [evS_ex, ev_meth, evMeth, ev_var, List.getElem?_cons_succ, List.getElem?_cons_zero, bind_ok', hty, mtOk_append, isT, beq_self_eq_true, if_true, evL_cons, evL_nil, mtOp_append, happ (X ++ [gN c j]) n (by simp; omega), ofO_some', ofE_ok']
        · unfold mk; rw [if_pos he]; simp
      · rw [decide_eq_false he] at ht
        refine Stp.of (h := Hp cs (y ++ [.lst (nsV (X ++ [gN c j]))])) (s_if_no ht rfl) ⟨some (.int (j : Nat)), rfl, ?_⟩
        unfold mk; rw [if_neg he]
    · rintro env2 h2' ⟨o8, rfl, rfl⟩
      simp only [List.length_range]
      rw [← row_range hne]
      have etold := h3 (.ref (h.length + 2 + x1.length + y.length)) (row a b n c) (Hp cs (y ++ [.lst (nsV (row a b n c))])) (.inr ⟨_, rfl, gl _ _ _⟩) C1.nd C1.len (by omega)
      refine Stp.of (env := [some (wb n s), some (prV (a, b)), some (.int (n : Nat)), some (wb (n + 1) L), some (.ref h.length), some (.ref (h.length + 1)), some (rgV c), some (.ref (h.length + 2 + x1.length + y.length)), o8]) (h := Hp cs' (y ++ [.lst (nsV (row a b n c))])) ?_ ⟨cs', y ++ [.lst (nsV (row a b n c))], _, _, _, by omega, (fun o ho => ?_), rfl, rfl, k2, by omega, fun d hd => ?_, fun d hd => ?_⟩
      · simp only [evS_put, evsPut, ev_ix, ev_call, evL_cons, evL_nil, ev_var, List.getElem?_cons_succ, List.getElem?_cons_zero, bind_ok', eix, ofO_some', ofE_ok', etold, eput]
      · rcases List.mem_append.mp ho with q | q
        · exact noy o q
        · rw [List.mem_singleton] at q; rw [q]; exact nol _
      · rcases (k4 d).mp hd with e | e
        · rw [e]; exact R1
        · exact all d e
      · rw [tk] at hd
        rcases List.mem_append.mp hd with e | e
        · exact (k4 _).mpr (.inr (new d e))
        · simp at e; subst e; exact (k4 _).mpr (.inl rfl)
  · rintro env2 h2' ⟨cs, y, o6, o7, o8, _, noy, rfl, rfl, nd, len, all, new⟩
    rw [List.take_length] at new
    have D : Due (n + 1) L cs := ⟨nd, fun c => ⟨all c, fun R => by
      obtain ⟨d, z1, z2⟩ := R.parted_back ll hab hb W LW.sy hs
      rw [← z2]; exact new d ((memS d).mpr z1)⟩⟩
    obtain ⟨x, ex⟩ := pre cs y
    have clp : Cl (Hp cs y) := by
      rw [hHp]
      refine cl_app cl fun o ho => ?_
      simp only [List.mem_cons, List.mem_append] at ho
      rcases ho with e | e | e | e
      · rw [e]; exact nor_rE _ _
      · rw [e]; exact nor_rE _ _
      · exact no1 o e
      · exact noy o e
    have ear := h4 (n + 1) L (Hp cs y) h.length cs (by omega) (by omega) LW clp D (g4 cs y)
    obtain ⟨v1, L1, t1⟩ := h5 n s (Hp cs y) n1 (by omega) W clp
    obtain ⟨u1, M1, w1⟩ := h6 n s (Hp cs y) n1 (by omega) W clp
    obtain ⟨u3, M3, w3⟩ := h6 (n + 1) L (Hp cs y) (by omega) (by omega) LW clp
    have LL := Least.parted W ll hab hb L1
    have q2 := M3.uniq LL
    have q3 := M1.uniq L1
    subst q2 q3
    refine (hQ2 _).mpr ⟨x, ?_⟩
    rw [← ex]
    refine b_ret (e_and (x := true) (y := true) (h1 := Hp cs y) (by simp [ear]) fun _ => e_and (x := true) (y := true) (h1 := Hp cs y) (by simp [w3, t1]) fun _ => ?_)
    simp [w1, t1]
end
end Mi

set_option Elab.async false
set_option linter.all false
set_option maxRecDepth 100000
set_option maxHeartbeats 1000000
namespace Mi
open PySem PySem.Spec L2 Mz LibI
set_option autoImplicit false
section
variable {G : CallT}
theorem dip0 (h1 : S_law_dip G) (a b : Int) (m : Nat) (m1 : 1 ≤ m) (m2 : m ≤ 1000) : ∃ (k : Nat) (a' b' : Int), k < m ∧ G "_law_dip" [.ref 0, .int m] [wl a b] = .ok (.int k) [wl a' b'] := h1 [wl a b] 0 a b m rfl m1 m2
theorem web0 (h1 : S_law_web G) (a b : Int) (n : Nat) (n1 : 1 ≤ n) (n2 : n ≤ 10) : ∃ s a' b', Vw n s ∧ G "_law_web" [.ref 0, .int n] [wl a b] = .ok (wb n s) [wl a' b'] := h1 [wl a b] 0 a b n rfl n1 n2 rfl
theorem cl0 (a b : Int) : Cl [wl a b] := rfl
theorem tiesV_rg (n : Nat) (s : Nat → Nat → Int) : tiesV n s = ((tiesL n s).map fun p => [p.1, p.2]).map rgV := by
  rw [List.map_map]; rfl
theorem eq_ties {n : Nat} {s : Nat → Nat → Int} {h : MH} : eqM (.lst (tiesV n s)) (.lst []) h = some (.bl (tiesL n s).isEmpty, h) := by
  rw [tiesV_rg]
  have e2 : pdM h 66 (.lst []) = some (.list []) := rfl
  have s2 : SeqAt.shaped (.list []) = true := rfl
  simp only [eqM, pdM_rgs, e2, shaped_rgs, s2, and_self, if_true]
  cases tiesL n s <;> rfl
theorem law_body (h1 : S_law_well G) (h2 : S_law_dip G) (h3 : S_law_web G) (h4 : S_law_ties G) (h5 : S_law_joined_right G) (h6 : S_law_parted_right G) (ns : List Int) (hl : ns.length ≤ 63) (hb : sumBits ns ≤ 1048576) :
    ∃ H, bodyR (evS G K76i.ir_law (startM K76i.N_law [.scr ns]) []) = .ok (.bl true) H := by
  unfold K76i.ir_law
  simp only [K76i.N_law, startM, List.map, List.length_cons, List.length_nil, List.replicate, List.cons_append, List.nil_append]
  obtain ⟨Q, hQ⟩ : ∃ Q : Res MV → Prop, Q = fun R => ∃ H, R = .ok (.bl true) H := ⟨_, rfl⟩
  have hQ2 : ∀ R, Q R ↔ ∃ H, R = .ok (.bl true) H := fun R => by rw [hQ]
  rw [← hQ2]
  clear hQ
  obtain ⟨a, b, e1⟩ := h1 ns [] hl hb
  refine x_of (b_asg (.ref 0) [wl a b] ?_ rfl) ?_
  · simp [e1]
  obtain ⟨k1, a1, b1, hk1, d1⟩ := dip0 h2 a b 5 (by omega) (by omega)
  obtain ⟨s, a2, b2, W, w1⟩ := web0 h3 a1 b1 (1 + k1) (by omega) (by omega)
  refine x_of (b_asg (wb (1 + k1) s) [wl a2 b2] ?_ rfl) ?_
  · simp at d1 w1; simp [d1, w1]
  obtain ⟨k2, a3, b3, hk2, d2⟩ := dip0 h2 a2 b2 5 (by omega) (by omega)
  obtain ⟨V, a4, b4, X, w2⟩ := web0 h3 a3 b3 (1 + k2) (by omega) (by omega)
  refine x_of (b_asg (wb (1 + k2) V) [wl a4 b4] ?_ rfl) ?_
  · simp at d2 w2; simp [d2, w2]
  obtain ⟨k3, a5, b5, hk3, d3⟩ := dip0 h2 a4 b4 4 (by omega) (by omega)
  have step : ∃ n s2 m V2 a b, 1 ≤ n ∧ 1 ≤ m ∧ n ≤ 7 ∧ n + m ≤ 10 ∧ Vw n s2 ∧ Vw m V2 ∧ evS G (.if_ (.cmp .Eq (.call "_law_dip" (.cons (.var 1) (.cons (.cst (.int 4)) .nil))) (.cst (.int 0)))
      (.seq (.asg (.name 2) (.call "_law_web" (.cons (.var 1) (.cons (.bin false .Add (.cst (.int 6)) (.call "_law_dip" (.cons (.var 1) (.cons (.cst (.int 2)) .nil)))) .nil))))
      (.asg (.name 3) (.call "_law_web" (.cons (.var 1) (.cons (.bin false .Add (.cst (.int 1)) (.call "_law_dip" (.cons (.var 1) (.cons (.cst (.int 3)) .nil)))) .nil))))) .nx) [some (.scr ns), some (.ref 0), some (wb (1 + k1) s), some (wb (1 + k2) V), none, none, none] [wl a4 b4] = .ok .nx [some (.scr ns), some (.ref 0), some (wb n s2), some (wb m V2), none, none, none] [wl a b] := by
    have ht : evT G (.cmp .Eq (.call "_law_dip" (.cons (.var 1) (.cons (.cst (.int 4)) .nil))) (.cst (.int 0))) [some (.scr ns), some (.ref 0), some (wb (1 + k1) s), some (wb (1 + k2) V), none, none, none] [wl a4 b4] = .ok ((k3 : Int) == 0) [wl a5 b5] := by
      simp at d3; simp [d3]
    cases hz : ((k3 : Int) == 0) with
    | false =>
      rw [hz] at ht
      exact ⟨1 + k1, s, 1 + k2, V, a5, b5, by omega, by omega, by omega, by omega, W, X, s_if_no ht rfl⟩
    | true =>
      rw [hz] at ht
      obtain ⟨k4, a6, b6, hk4, d4⟩ := dip0 h2 a5 b5 2 (by omega) (by omega)
      obtain ⟨s', a7, b7, W', w3⟩ := web0 h3 a6 b6 (6 + k4) (by omega) (by omega)
      obtain ⟨k5, a8, b8, hk5, d5⟩ := dip0 h2 a7 b7 3 (by omega) (by omega)
      obtain ⟨V', a9, b9, X', w4⟩ := web0 h3 a8 b8 (1 + k5) (by omega) (by omega)
      refine ⟨6 + k4, s', 1 + k5, V', a9, b9, by omega, by omega, by omega, by omega, W', X', s_if_yes ht (s_asg (wb (6 + k4) s') [wl a7 b7] ?_ (s_asg1 (m := wb (1 + k5) V') ?_))⟩
      · simp at d4 w3; simp [d4, w3]
      · simp at d5 w4; simp [d5, w4]
  clear W X w1 w2 d1 d2 d3
  obtain ⟨n, s, m, V, a, b, n1, m1, n7, nm, W, X, est⟩ := step
  refine x_of (b_nx est rfl) ?_
  obtain ⟨p, a1, b1, hp, d1⟩ := dip0 h2 a b n n1 (by omega)
  refine x_of (b_asg (.int p) [wl a1 b1] (by simp [d1]) rfl) ?_
  obtain ⟨q, a2, b2, hq, d2⟩ := dip0 h2 a1 b1 m m1 (by omega)
  refine x_of (b_asg (.int q) [wl a2 b2] (by simp [d2]) rfl) ?_
  obtain ⟨m', rfl⟩ : ∃ m', m = m' + 1 := ⟨m - 1, by omega⟩
  obtain ⟨n', rfl⟩ : ∃ n', n = n' + 1 := ⟨n - 1, by omega⟩
  have j1 := h5 (n' + 1) s m' V p q [wl a2 b2] n1 (by omega) W X hp (by omega) (cl0 _ _)
  have j2 := h5 (m' + 1) V n' s q p [wl a2 b2] m1 (by omega) X W hq (by omega) (cl0 _ _)
  refine x_of (b_if_no (h1 := [wl a2 b2]) (by simp [j1, j2]) rfl) ?_
  have et := h4 (n' + 1) s [wl a2 b2] (by omega)
  refine x_of (b_asg (.lst (tiesV (n' + 1) s)) [wl a2 b2] (by simp [et]) rfl) ?_
  by_cases hne : (tiesL (n' + 1) s).isEmpty = true
  · refine (hQ2 _).mpr ⟨[wl a2 b2], b_ret (e_or (x := true) (y := true) (h1 := [wl a2 b2]) ?_ fun z => by cases z)⟩
    simp [eq_ties]
    simpa using hne
  · have hpos : 1 ≤ (tiesL (n' + 1) s).length := by
      cases hx : tiesL (n' + 1) s with
      | nil => rw [hx] at hne; exact absurd rfl hne
      | cons y l => simp
    have tl := tiesL_len (n' + 1) s
    have tl2 : (n' + 1) * (n' + 1) ≤ 7 * 7 := Nat.mul_le_mul n7 n7
    obtain ⟨k, a3, b3, hk, d3⟩ := dip0 h2 a2 b2 (tiesL (n' + 1) s).length hpos (by omega)
    have hm : (tiesL (n' + 1) s)[k] ∈ tiesL (n' + 1) s := List.getElem_mem hk
    have hat : atI (tiesV (n' + 1) s) (k : Int) = some (prV (tiesL (n' + 1) s)[k]) := by
      rw [atI_nat]; simp [tiesV, hk]
    generalize (tiesL (n' + 1) s)[k] = t at hm hat
    obtain ⟨x, y⟩ := t
    obtain ⟨t1, t2, t3⟩ := mem_tiesL.mp hm
    have pr := h6 (n' + 1) s x y [wl a3 b3] n1 (by omega) W t1 t2 t3 (cl0 _ _)
    have hle : ((tiesV (n' + 1) s).length : Int) = ((tiesL (n' + 1) s).length : Nat) := by simp [tiesV]
    refine (hQ2 _).mpr ⟨[wl a3 b3], b_ret ?_⟩
    have hne' : (tiesL (n' + 1) s).isEmpty = false := by simpa using hne
    rw [ev_or]
    have ecmp : ev G (.cmp .Eq (.var 6) (.lst false .nil)) [some (.scr ns), some (.ref 0), some (wb (n' + 1) s), some (wb (m' + 1) V), some (.int p), some (.int q), some (.lst (tiesV (n' + 1) s))] [wl a2 b2] = .ok (.bl false) [wl a2 b2] := by
      simp [eq_ties, hne']
    simp only [List.set_cons_succ, List.set_cons_zero]
    rw [ecmp]
    simp only [bind_ok', Bool.false_eq_true, if_false, ev_call, evL_cons, evL_nil, ev_var, List.getElem?_cons_succ, List.getElem?_cons_zero, ev_ix, ev_len, lenM_lst, ofO_some', hle, d3, ixM_lst, hat, mapO_some, pr]
end
/-- THE LAW -/
theorem law_true76 (ns : List Int) (hl : ns.length ≤ 63) (hb : sumBits ns ≤ 1048576) : ∃ h, run K76i.D 30 ("law" : Str) [.scr ns] [] = .ok (.bl true) h := by
  have L_is_integer : ∀ k, S_is_integer (run K76i.D (k + 1)) := fun k => p_is_integer (runs_of (by kernel_rfl) k)
  have L_is_between : ∀ k, S_is_between (run K76i.D (k + 2)) := fun k => p_is_between (L_is_integer k) (runs_of (by kernel_rfl) (k + 1))
  have L_is_tuple_of : ∀ k, S_is_tuple_of (run K76i.D (k + 1)) := fun k => p_is_tuple_of (runs_of (by kernel_rfl) k)
  have L_check_place : ∀ k, S_check_place (run K76i.D (k + 3)) := fun k => p_check_place (L_is_between k) (runs_of (by kernel_rfl) (k + 2))
  have L_is_web : ∀ k, S_is_web (run K76i.D (k + 3)) := fun k => p_is_web (L_is_between k) (L_is_tuple_of (k + 1)) (runs_of (by kernel_rfl) (k + 2))
  have L_check_web : ∀ k, S_check_web (run K76i.D (k + 4)) := fun k => p_check_web (L_is_web k) (runs_of (by kernel_rfl) (k + 3))
  have L_tie_between : ∀ k, S_tie_between (run K76i.D (k + 1)) := fun k => p_tie_between (runs_of (by kernel_rfl) k)
  have L_ties_of : ∀ k, S_ties_of (run K76i.D (k + 1)) := fun k => p_ties_of (runs_of (by kernel_rfl) k)
  have L_signs_of : ∀ k, S_signs_of (run K76i.D (k + 2)) := fun k => p_signs_of (L_ties_of k) (runs_of (by kernel_rfl) (k + 1))
  have L_web_by : ∀ k, S_web_by (run K76i.D (k + 2)) := fun k => p_web_by (L_tie_between k) (runs_of (by kernel_rfl) (k + 1))
  have L_is_tie : ∀ k, S_is_tie (run K76i.D (k + 3)) := fun k => p_is_tie (L_is_between k) (L_is_tuple_of (k + 1)) (runs_of (by kernel_rfl) (k + 2))
  have L_check_tie : ∀ k, S_check_tie (run K76i.D (k + 4)) := fun k => p_check_tie (L_is_tie k) (runs_of (by kernel_rfl) (k + 3))
  have L_foes_of : ∀ k, S_foes_of (run K76i.D (k + 2)) := fun k => p_foes_of (L_ties_of k) (runs_of (by kernel_rfl) (k + 1))
  have L_is_way_round : ∀ k, S_is_way_round (run K76i.D (k + 3)) := fun k => p_is_way_round (L_is_between k) (runs_of (by kernel_rfl) (k + 2))
  have L_is_ring_of : ∀ k, S_is_ring_of (run K76i.D (k + 4)) := fun k => p_is_ring_of (L_is_way_round k) (runs_of (by kernel_rfl) (k + 3))
  have L_is_ring : ∀ k, S_is_ring (run K76i.D (k + 5)) := fun k => p_is_ring (L_check_web k) (L_is_ring_of k) (runs_of (by kernel_rfl) (k + 4))
  have L_check_ring : ∀ k, S_check_ring (run K76i.D (k + 5)) := fun k => p_check_ring (L_is_ring_of k) (runs_of (by kernel_rfl) (k + 4))
  have L_ring_sign_of : ∀ k, S_ring_sign_of (run K76i.D (k + 1)) := fun k => p_ring_sign_of (runs_of (by kernel_rfl) k)
  have L_ring_sign : ∀ k, S_ring_sign (run K76i.D (k + 6)) := fun k => p_ring_sign (L_check_web (k + 1)) (L_check_ring k) (L_ring_sign_of (k + 4)) (runs_of (by kernel_rfl) (k + 5))
  have L_rings_of : ∀ k, S_rings_of (run K76i.D (k + 1)) := fun k => p_rings_of (runs_of (by kernel_rfl) k)
  have L_check_few : ∀ k, S_check_few (run K76i.D (k + 1)) := fun k => p_check_few (runs_of (by kernel_rfl) k)
  have L_rings : ∀ k, S_rings (run K76i.D (k + 5)) := fun k => p_rings (L_check_web k) (L_check_few (k + 3)) (L_rings_of (k + 3)) (runs_of (by kernel_rfl) (k + 4))
  have L_check_room : ∀ k, S_check_room (run K76i.D (k + 1)) := fun k => p_check_room (runs_of (by kernel_rfl) k)
  have L_moved_signs : ∀ k, S_moved_signs (run K76i.D (k + 3)) := fun k => p_moved_signs (L_signs_of k) (L_tie_between (k + 1)) (runs_of (by kernel_rfl) (k + 2))
  have L_joined_at : ∀ k, S_joined_at (run K76i.D (k + 5)) := fun k => p_joined_at (L_check_web k) (L_check_place (k + 1)) (L_check_room (k + 3)) (L_signs_of (k + 2)) (L_moved_signs (k + 1)) (L_web_by (k + 2)) (runs_of (by kernel_rfl) (k + 4))
  have L_parted_tie : ∀ k, S_parted_tie (run K76i.D (k + 5)) := fun k => p_parted_tie (L_check_web k) (L_check_tie k) (L_check_room (k + 3)) (L_signs_of (k + 2)) (L_web_by (k + 2)) (runs_of (by kernel_rfl) (k + 4))
  have L_foe_table : ∀ k, S_foe_table (run K76i.D (k + 3)) := fun k => p_foe_table (L_foes_of k) (runs_of (by kernel_rfl) (k + 2))
  have L_trouble_of : ∀ k, S_trouble_of (run K76i.D (k + 4)) := fun k => p_trouble_of (L_foe_table k) (runs_of (by kernel_rfl) (k + 3))
  have L_trouble : ∀ k, S_trouble (run K76i.D (k + 5)) := fun k => p_trouble (L_check_web k) (L_trouble_of k) (runs_of (by kernel_rfl) (k + 4))
  have L_law_well : ∀ k, S_law_well (run K76i.D (k + 1)) := fun k => p_law_well (runs_of (by kernel_rfl) k)
  have L_law_dip : ∀ k, S_law_dip (run K76i.D (k + 1)) := fun k => p_law_dip (runs_of (by kernel_rfl) k)
  have L_law_web : ∀ k, S_law_web (run K76i.D (k + 2)) := fun k => p_law_web (L_law_dip k) (runs_of (by kernel_rfl) (k + 1))
  have L_law_ties : ∀ k, S_law_ties (run K76i.D (k + 1)) := fun k => p_law_ties (runs_of (by kernel_rfl) k)
  have L_law_trouble : ∀ k, S_law_trouble (run K76i.D (k + 1)) := fun k => p_law_trouble (runs_of (by kernel_rfl) k)
  have L_told_form : ∀ k, S_law_told_form (run K76i.D (k + 1)) := fun k => p_law_told_form (runs_of (by kernel_rfl) k)
  have L_law_rounds : ∀ k, S_law_rounds (run K76i.D (k + 1)) := fun k => p_law_rounds (runs_of (by kernel_rfl) k)
  have L_are_rounds : ∀ k, S_law_are_rounds (run K76i.D (k + 7)) := fun k => p_law_are_rounds (L_rings (k + 1)) (L_is_ring (k + 1)) (L_ring_sign k) (L_law_rounds (k + 5)) (runs_of (by kernel_rfl) (k + 6))
  have L_joined_right : ∀ k, S_law_joined_right (run K76i.D (k + 8)) := fun k => p_law_joined_right (L_joined_at (k + 2)) (L_law_rounds (k + 6)) (L_told_form (k + 6)) (L_are_rounds k) (L_law_trouble (k + 6)) (L_trouble (k + 2)) (runs_of (by kernel_rfl) (k + 7))
  have L_parted_right : ∀ k, S_law_parted_right (run K76i.D (k + 8)) := fun k => p_law_parted_right (L_parted_tie (k + 2)) (L_law_rounds (k + 6)) (L_told_form (k + 6)) (L_are_rounds k) (L_law_trouble (k + 6)) (L_trouble (k + 2)) (runs_of (by kernel_rfl) (k + 7))
  obtain ⟨H, e⟩ := law_body (L_law_well 28) (L_law_dip 28) (L_law_web 27) (L_law_ties 28) (L_joined_right 21) (L_parted_right 21) ns hl hb
  have r : Runs (run K76i.D 29) (run K76i.D 30) "law" K76i.F_law := runs_of (by kernel_rfl) 29
  refine ⟨[], ?_⟩
  rw [r.yes rfl]
  show gcR [] (bodyR (evS (run K76i.D 29) K76i.ir_law (startM K76i.N_law [.scr ns]) [])) = _
  rw [e]
  rfl
end Mi

set_option Elab.async false
set_option linter.all false
set_option maxRecDepth 1000000
set_option maxHeartbeats 0
namespace K76e
open PySem PySem.Spec Mi
theorem law_true (ns : List Int) (hl : ns.length ≤ 63) (hb : sumBits ns ≤ 1048576) : ∃ h, run K76i.D 30 ("law" : Str) [.scr ns] [] = .ok (.bl true) h := Mi.law_true76 ns hl hb
end K76e
namespace K76e
open PySem PySem.Spec PyProof.Rows L2 Mi
section
variable {P : Program} {w : World} {K : PySem.W.Frag} {mg : Str → Option Value} {h : Heap}
theorem k_is_integer (X : K.In h) (G : h.Ns mainGlobals mg) (c : He.SaysD K76h.facts K76h.defs K) : DOk P w K mg K76i.CCk K76i.D ("is_integer" : Str) 1 :=
  dok_of (ps := ["value"]) (dd := LibI.F_is_integer) X G c 0 0 (d := K76h.d_is_integer) rfl rfl rfl rfl (by kernel_rfl) (by kernel_rfl) (fun _ _ _ _ _ _ us hl => match us, hl with | [_], _ => rfl) K76i.c_is_integer
theorem k_is_between (X : K.In h) (G : h.Ns mainGlobals mg) (c : He.SaysD K76h.facts K76h.defs K) : DOk P w K mg K76i.CCk K76i.D ("is_between" : Str) 3 :=
  dok_of (ps := ["low", "value", "high"]) (dd := LibI.F_is_between) X G c 1 1 (d := K76h.d_is_between) rfl rfl rfl rfl (by kernel_rfl) (by kernel_rfl) (fun _ _ _ _ _ _ us hl => match us, hl with | [_, _, _], _ => rfl) K76i.c_is_between
theorem k_is_tuple_of (X : K.In h) (G : h.Ns mainGlobals mg) (c : He.SaysD K76h.facts K76h.defs K) : DOk P w K mg K76i.CCk K76i.D ("is_tuple_of" : Str) 2 :=
  dok_of (ps := ["many", "value"]) (dd := LibI.F_is_tuple_of) X G c 2 2 (d := K76h.d_is_tuple_of) rfl rfl rfl rfl (by kernel_rfl) (by kernel_rfl) (fun _ _ _ _ _ _ us hl => match us, hl with | [_, _], _ => rfl) K76i.c_is_tuple_of
theorem k_check_place (X : K.In h) (G : h.Ns mainGlobals mg) (c : He.SaysD K76h.facts K76h.defs K) : DOk P w K mg K76i.CCk K76i.D ("check_place" : Str) 2 :=
  dok_of (ps := ["many", "value"]) (dd := LibI.F_check_place) X G c 3 3 (d := K76h.d_check_place) rfl rfl rfl rfl (by kernel_rfl) (by kernel_rfl) (fun _ _ _ _ _ _ us hl => match us, hl with | [_, _], _ => rfl) K76i.c_check_place
theorem k_is_web (X : K.In h) (G : h.Ns mainGlobals mg) (c : He.SaysD K76h.facts K76h.defs K) : DOk P w K mg K76i.CCk K76i.D ("is_web" : Str) 1 :=
  dok_of (ps := ["value"]) (dd := LibI.F_is_web) X G c 4 4 (d := K76h.d_is_web) rfl rfl rfl rfl (by kernel_rfl) (by kernel_rfl) (fun _ _ _ _ _ _ us hl => match us, hl with | [_], _ => rfl) K76i.c_is_web
theorem k_check_web (X : K.In h) (G : h.Ns mainGlobals mg) (c : He.SaysD K76h.facts K76h.defs K) : DOk P w K mg K76i.CCk K76i.D ("check_web" : Str) 1 :=
  dok_of (ps := ["value"]) (dd := LibI.F_check_web) X G c 5 5 (d := K76h.d_check_web) rfl rfl rfl rfl (by kernel_rfl) (by kernel_rfl) (fun _ _ _ _ _ _ us hl => match us, hl with | [_], _ => rfl) K76i.c_check_web
theorem k_tie_between (X : K.In h) (G : h.Ns mainGlobals mg) (c : He.SaysD K76h.facts K76h.defs K) : DOk P w K mg K76i.CCk K76i.D ("tie_between" : Str) 2 :=
  dok_of (ps := ["x", "y"]) (dd := LibI.F_tie_between) X G c 6 6 (d := K76h.d_tie_between) rfl rfl rfl rfl (by kernel_rfl) (by kernel_rfl) (fun _ _ _ _ _ _ us hl => match us, hl with | [_, _], _ => rfl) K76i.c_tie_between
theorem k_ties_of (X : K.In h) (G : h.Ns mainGlobals mg) (c : He.SaysD K76h.facts K76h.defs K) : DOk P w K mg K76i.CCk K76i.D ("ties_of" : Str) 1 :=
  dok_of (ps := ["web"]) (dd := LibI.F_ties_of) X G c 7 7 (d := K76h.d_ties_of) rfl rfl rfl rfl (by kernel_rfl) (by kernel_rfl) (fun _ _ _ _ _ _ us hl => match us, hl with | [_], _ => rfl) K76i.c_ties_of
theorem k_signs_of (X : K.In h) (G : h.Ns mainGlobals mg) (c : He.SaysD K76h.facts K76h.defs K) : DOk P w K mg K76i.CCk K76i.D ("signs_of" : Str) 1 :=
  dok_of (ps := ["web"]) (dd := LibI.F_signs_of) X G c 8 8 (d := K76h.d_signs_of) rfl rfl rfl rfl (by kernel_rfl) (by kernel_rfl) (fun _ _ _ _ _ _ us hl => match us, hl with | [_], _ => rfl) K76i.c_signs_of
theorem k_web_by (X : K.In h) (G : h.Ns mainGlobals mg) (c : He.SaysD K76h.facts K76h.defs K) : DOk P w K mg K76i.CCk K76i.D ("web_by" : Str) 2 :=
  dok_of (ps := ["many", "signs"]) (dd := LibI.F_web_by) X G c 9 9 (d := K76h.d_web_by) rfl rfl rfl rfl (by kernel_rfl) (by kernel_rfl) (fun _ _ _ _ _ _ us hl => match us, hl with | [_, _], _ => rfl) K76i.c_web_by
theorem k_is_tie (X : K.In h) (G : h.Ns mainGlobals mg) (c : He.SaysD K76h.facts K76h.defs K) : DOk P w K mg K76i.CCk K76i.D ("is_tie" : Str) 2 :=
  dok_of (ps := ["web", "value"]) (dd := LibI.F_is_tie) X G c 10 10 (d := K76h.d_is_tie) rfl rfl rfl rfl (by kernel_rfl) (by kernel_rfl) (fun _ _ _ _ _ _ us hl => match us, hl with | [_, _], _ => rfl) K76i.c_is_tie
theorem k_check_tie (X : K.In h) (G : h.Ns mainGlobals mg) (c : He.SaysD K76h.facts K76h.defs K) : DOk P w K mg K76i.CCk K76i.D ("check_tie" : Str) 2 :=
  dok_of (ps := ["web", "value"]) (dd := LibI.F_check_tie) X G c 11 11 (d := K76h.d_check_tie) rfl rfl rfl rfl (by kernel_rfl) (by kernel_rfl) (fun _ _ _ _ _ _ us hl => match us, hl with | [_, _], _ => rfl) K76i.c_check_tie
theorem k_foes_of (X : K.In h) (G : h.Ns mainGlobals mg) (c : He.SaysD K76h.facts K76h.defs K) : DOk P w K mg K76i.CCk K76i.D ("foes_of" : Str) 1 :=
  dok_of (ps := ["web"]) (dd := LibI.F_foes_of) X G c 12 12 (d := K76h.d_foes_of) rfl rfl rfl rfl (by kernel_rfl) (by kernel_rfl) (fun _ _ _ _ _ _ us hl => match us, hl with | [_], _ => rfl) K76i.c_foes_of
theorem k_is_way_round (X : K.In h) (G : h.Ns mainGlobals mg) (c : He.SaysD K76h.facts K76h.defs K) : DOk P w K mg K76i.CCk K76i.D ("is_way_round" : Str) 2 :=
  dok_of (ps := ["web", "value"]) (dd := LibI.F_is_way_round) X G c 13 13 (d := K76h.d_is_way_round) rfl rfl rfl rfl (by kernel_rfl) (by kernel_rfl) (fun _ _ _ _ _ _ us hl => match us, hl with | [_, _], _ => rfl) K76i.c_is_way_round
theorem k_is_ring_of (X : K.In h) (G : h.Ns mainGlobals mg) (c : He.SaysD K76h.facts K76h.defs K) : DOk P w K mg K76i.CCk K76i.D ("is_ring_of" : Str) 2 :=
  dok_of (ps := ["web", "value"]) (dd := LibI.F_is_ring_of) X G c 14 14 (d := K76h.d_is_ring_of) rfl rfl rfl rfl (by kernel_rfl) (by kernel_rfl) (fun _ _ _ _ _ _ us hl => match us, hl with | [_, _], _ => rfl) K76i.c_is_ring_of
theorem k_is_ring (X : K.In h) (G : h.Ns mainGlobals mg) (c : He.SaysD K76h.facts K76h.defs K) : DOk P w K mg K76i.CCk K76i.D ("is_ring" : Str) 2 :=
  dok_of (ps := ["web", "value"]) (dd := LibI.F_is_ring) X G c 15 15 (d := K76h.d_is_ring) rfl rfl rfl rfl (by kernel_rfl) (by kernel_rfl) (fun _ _ _ _ _ _ us hl => match us, hl with | [_, _], _ => rfl) K76i.c_is_ring
theorem k_check_ring (X : K.In h) (G : h.Ns mainGlobals mg) (c : He.SaysD K76h.facts K76h.defs K) : DOk P w K mg K76i.CCk K76i.D ("check_ring" : Str) 2 :=
  dok_of (ps := ["web", "value"]) (dd := LibI.F_check_ring) X G c 16 16 (d := K76h.d_check_ring) rfl rfl rfl rfl (by kernel_rfl) (by kernel_rfl) (fun _ _ _ _ _ _ us hl => match us, hl with | [_, _], _ => rfl) K76i.c_check_ring
theorem k_ring_sign_of (X : K.In h) (G : h.Ns mainGlobals mg) (c : He.SaysD K76h.facts K76h.defs K) : DOk P w K mg K76i.CCk K76i.D ("ring_sign_of" : Str) 2 :=
  dok_of (ps := ["web", "ring"]) (dd := LibI.F_ring_sign_of) X G c 17 17 (d := K76h.d_ring_sign_of) rfl rfl rfl rfl (by kernel_rfl) (by kernel_rfl) (fun _ _ _ _ _ _ us hl => match us, hl with | [_, _], _ => rfl) K76i.c_ring_sign_of
theorem k_ring_sign (X : K.In h) (G : h.Ns mainGlobals mg) (c : He.SaysD K76h.facts K76h.defs K) : DOk P w K mg K76i.CCk K76i.D ("ring_sign" : Str) 2 :=
  dok_of (ps := ["web", "ring"]) (dd := LibI.F_ring_sign) X G c 18 18 (d := K76h.d_ring_sign) rfl rfl rfl rfl (by kernel_rfl) (by kernel_rfl) (fun _ _ _ _ _ _ us hl => match us, hl with | [_, _], _ => rfl) K76i.c_ring_sign
theorem k_rings_of (X : K.In h) (G : h.Ns mainGlobals mg) (c : He.SaysD K76h.facts K76h.defs K) : DOk P w K mg K76i.CCk K76i.D ("rings_of" : Str) 1 :=
  dok_of (ps := ["web"]) (dd := LibI.F_rings_of) X G c 19 19 (d := K76h.d_rings_of) rfl rfl rfl rfl (by kernel_rfl) (by kernel_rfl) (fun _ _ _ _ _ _ us hl => match us, hl with | [_], _ => rfl) K76i.c_rings_of
theorem k_check_few (X : K.In h) (G : h.Ns mainGlobals mg) (c : He.SaysD K76h.facts K76h.defs K) : DOk P w K mg K76i.CCk K76i.D ("check_few" : Str) 1 :=
  dok_of (ps := ["web"]) (dd := LibI.F_check_few) X G c 20 20 (d := K76h.d_check_few) rfl rfl rfl rfl (by kernel_rfl) (by kernel_rfl) (fun _ _ _ _ _ _ us hl => match us, hl with | [_], _ => rfl) K76i.c_check_few
theorem k_rings (X : K.In h) (G : h.Ns mainGlobals mg) (c : He.SaysD K76h.facts K76h.defs K) : DOk P w K mg K76i.CCk K76i.D ("rings" : Str) 1 :=
  dok_of (ps := ["web"]) (dd := LibI.F_rings) X G c 21 21 (d := K76h.d_rings) rfl rfl rfl rfl (by kernel_rfl) (by kernel_rfl) (fun _ _ _ _ _ _ us hl => match us, hl with | [_], _ => rfl) K76i.c_rings
theorem k_check_room (X : K.In h) (G : h.Ns mainGlobals mg) (c : He.SaysD K76h.facts K76h.defs K) : DOk P w K mg K76i.CCk K76i.D ("check_room" : Str) 1 :=
  dok_of (ps := ["many"]) (dd := LibI.F_check_room) X G c 22 22 (d := K76h.d_check_room) rfl rfl rfl rfl (by kernel_rfl) (by kernel_rfl) (fun _ _ _ _ _ _ us hl => match us, hl with | [_], _ => rfl) K76i.c_check_room
theorem k_moved_signs (X : K.In h) (G : h.Ns mainGlobals mg) (c : He.SaysD K76h.facts K76h.defs K) : DOk P w K mg K76i.CCk K76i.D ("moved_signs" : Str) 2 :=
  dok_of (ps := ["web", "row"]) (dd := LibI.F_moved_signs) X G c 23 23 (d := K76h.d_moved_signs) rfl rfl rfl rfl (by kernel_rfl) (by kernel_rfl) (fun _ _ _ _ _ _ us hl => match us, hl with | [_, _], _ => rfl) K76i.c_moved_signs
theorem k_joined_at (X : K.In h) (G : h.Ns mainGlobals mg) (c : He.SaysD K76h.facts K76h.defs K) : DOk P w K mg K76i.CCk K76i.D ("joined_at" : Str) 4 :=
  dok_of (ps := ["web", "other_web", "place", "spot"]) (dd := LibI.F_joined_at) X G c 24 24 (d := K76h.d_joined_at) rfl rfl rfl rfl (by kernel_rfl) (by kernel_rfl) (fun _ _ _ _ _ _ us hl => match us, hl with | [_, _, _, _], _ => rfl) K76i.c_joined_at
theorem k_parted_tie (X : K.In h) (G : h.Ns mainGlobals mg) (c : He.SaysD K76h.facts K76h.defs K) : DOk P w K mg K76i.CCk K76i.D ("parted_tie" : Str) 2 :=
  dok_of (ps := ["web", "tie"]) (dd := LibI.F_parted_tie) X G c 25 25 (d := K76h.d_parted_tie) rfl rfl rfl rfl (by kernel_rfl) (by kernel_rfl) (fun _ _ _ _ _ _ us hl => match us, hl with | [_, _], _ => rfl) K76i.c_parted_tie
theorem k_foe_table (X : K.In h) (G : h.Ns mainGlobals mg) (c : He.SaysD K76h.facts K76h.defs K) : DOk P w K mg K76i.CCk K76i.D ("foe_table" : Str) 1 :=
  dok_of (ps := ["web"]) (dd := LibI.F_foe_table) X G c 26 26 (d := K76h.d_foe_table) rfl rfl rfl rfl (by kernel_rfl) (by kernel_rfl) (fun _ _ _ _ _ _ us hl => match us, hl with | [_], _ => rfl) K76i.c_foe_table
theorem k_trouble_of (X : K.In h) (G : h.Ns mainGlobals mg) (c : He.SaysD K76h.facts K76h.defs K) : DOk P w K mg K76i.CCk K76i.D ("trouble_of" : Str) 1 :=
  dok_of (ps := ["web"]) (dd := LibI.F_trouble_of) X G c 27 27 (d := K76h.d_trouble_of) rfl rfl rfl rfl (by kernel_rfl) (by kernel_rfl) (fun _ _ _ _ _ _ us hl => match us, hl with | [_], _ => rfl) K76i.c_trouble_of
theorem k_trouble (X : K.In h) (G : h.Ns mainGlobals mg) (c : He.SaysD K76h.facts K76h.defs K) : DOk P w K mg K76i.CCk K76i.D ("trouble" : Str) 1 :=
  dok_of (ps := ["web"]) (dd := LibI.F_trouble) X G c 28 28 (d := K76h.d_trouble) rfl rfl rfl rfl (by kernel_rfl) (by kernel_rfl) (fun _ _ _ _ _ _ us hl => match us, hl with | [_], _ => rfl) K76i.c_trouble
theorem k__law_well (X : K.In h) (G : h.Ns mainGlobals mg) (c : He.SaysD K76h.facts K76h.defs K) : DOk P w K mg K76i.CCk K76i.D ("_law_well" : Str) 1 :=
  dok_of (ps := ["_law_script"]) (dd := LibI.F__law_well) X G c 29 29 (d := K76h.d__law_well) rfl rfl rfl rfl (by kernel_rfl) (by kernel_rfl) (fun _ _ _ _ _ _ us hl => match us, hl with | [_], _ => rfl) K76i.c__law_well
theorem k__law_dip (X : K.In h) (G : h.Ns mainGlobals mg) (c : He.SaysD K76h.facts K76h.defs K) : DOk P w K mg K76i.CCk K76i.D ("_law_dip" : Str) 2 :=
  dok_of (ps := ["_law_well_here", "_law_many"]) (dd := LibI.F__law_dip) X G c 30 30 (d := K76h.d__law_dip) rfl rfl rfl rfl (by kernel_rfl) (by kernel_rfl) (fun _ _ _ _ _ _ us hl => match us, hl with | [_, _], _ => rfl) K76i.c__law_dip
theorem k__law_web (X : K.In h) (G : h.Ns mainGlobals mg) (c : He.SaysD K76h.facts K76h.defs K) : DOk P w K mg K76i.CCk K76i.D ("_law_web" : Str) 2 :=
  dok_of (ps := ["_law_well_here", "_law_many"]) (dd := LibI.F__law_web) X G c 31 31 (d := K76h.d__law_web) rfl rfl rfl rfl (by kernel_rfl) (by kernel_rfl) (fun _ _ _ _ _ _ us hl => match us, hl with | [_, _], _ => rfl) K76i.c__law_web
theorem k__law_ties (X : K.In h) (G : h.Ns mainGlobals mg) (c : He.SaysD K76h.facts K76h.defs K) : DOk P w K mg K76i.CCk K76i.D ("_law_ties" : Str) 1 :=
  dok_of (ps := ["_law_web_here"]) (dd := LibI.F__law_ties) X G c 32 32 (d := K76h.d__law_ties) rfl rfl rfl rfl (by kernel_rfl) (by kernel_rfl) (fun _ _ _ _ _ _ us hl => match us, hl with | [_], _ => rfl) K76i.c__law_ties
theorem k__law_trouble (X : K.In h) (G : h.Ns mainGlobals mg) (c : He.SaysD K76h.facts K76h.defs K) : DOk P w K mg K76i.CCk K76i.D ("_law_trouble" : Str) 1 :=
  dok_of (ps := ["_law_web_here"]) (dd := K76i.F__law_trouble) X G c 33 33 (d := K76h.d__law_trouble) rfl rfl rfl rfl (by kernel_rfl) (by kernel_rfl) (fun _ _ _ _ _ _ us hl => match us, hl with | [_], _ => rfl) K76i.c__law_trouble
theorem k__law_told_form (X : K.In h) (G : h.Ns mainGlobals mg) (c : He.SaysD K76h.facts K76h.defs K) : DOk P w K mg K76i.CCk K76i.D ("_law_told_form" : Str) 1 :=
  dok_of (ps := ["_law_row"]) (dd := K76i.F__law_told_form) X G c 34 34 (d := K76h.d__law_told_form) rfl rfl rfl rfl (by kernel_rfl) (by kernel_rfl) (fun _ _ _ _ _ _ us hl => match us, hl with | [_], _ => rfl) K76i.c__law_told_form
theorem k__law_rounds (X : K.In h) (G : h.Ns mainGlobals mg) (c : He.SaysD K76h.facts K76h.defs K) : DOk P w K mg K76i.CCk K76i.D ("_law_rounds" : Str) 1 :=
  dok_of (ps := ["_law_web_here"]) (dd := K76i.F__law_rounds) X G c 35 35 (d := K76h.d__law_rounds) rfl rfl rfl rfl (by kernel_rfl) (by kernel_rfl) (fun _ _ _ _ _ _ us hl => match us, hl with | [_], _ => rfl) K76i.c__law_rounds
theorem k__law_are_rounds (X : K.In h) (G : h.Ns mainGlobals mg) (c : He.SaysD K76h.facts K76h.defs K) : DOk P w K mg K76i.CCk K76i.D ("_law_are_rounds" : Str) 2 :=
  dok_of (ps := ["_law_web_here", "_law_due"]) (dd := K76i.F__law_are_rounds) X G c 36 36 (d := K76h.d__law_are_rounds) rfl rfl rfl rfl (by kernel_rfl) (by kernel_rfl) (fun _ _ _ _ _ _ us hl => match us, hl with | [_, _], _ => rfl) K76i.c__law_are_rounds
theorem k__law_joined_right (X : K.In h) (G : h.Ns mainGlobals mg) (c : He.SaysD K76h.facts K76h.defs K) : DOk P w K mg K76i.CCk K76i.D ("_law_joined_right" : Str) 4 :=
  dok_of (ps := ["_law_web_here", "_law_other", "_law_place", "_law_spot"]) (dd := K76i.F__law_joined_right) X G c 37 37 (d := K76h.d__law_joined_right) rfl rfl rfl rfl (by kernel_rfl) (by kernel_rfl) (fun _ _ _ _ _ _ us hl => match us, hl with | [_, _, _, _], _ => rfl) K76i.c__law_joined_right
theorem k__law_parted_right (X : K.In h) (G : h.Ns mainGlobals mg) (c : He.SaysD K76h.facts K76h.defs K) : DOk P w K mg K76i.CCk K76i.D ("_law_parted_right" : Str) 2 :=
  dok_of (ps := ["_law_web_here", "_law_tie"]) (dd := K76i.F__law_parted_right) X G c 38 38 (d := K76h.d__law_parted_right) rfl rfl rfl rfl (by kernel_rfl) (by kernel_rfl) (fun _ _ _ _ _ _ us hl => match us, hl with | [_, _], _ => rfl) K76i.c__law_parted_right
theorem k_law (X : K.In h) (G : h.Ns mainGlobals mg) (c : He.SaysD K76h.facts K76h.defs K) : DOk P w K mg K76i.CCk K76i.D ("law" : Str) 1 :=
  dok_of (ps := ["_law_script"]) (dd := K76i.F_law) X G c 39 39 (d := K76h.d_law) rfl rfl rfl rfl (by kernel_rfl) (by kernel_rfl) (fun _ _ _ _ _ _ us hl => match us, hl with | [_], _ => rfl) K76i.c_law
theorem k_all (X : K.In h) (G : h.Ns mainGlobals mg) (c : He.SaysD K76h.facts K76h.defs K) : ∀ p ∈ K76i.fsL, DOk P w K mg K76i.CCk K76i.D p.1 p.2 :=
  (forall_cons (k_is_integer X G c) (forall_cons (k_is_between X G c) (forall_cons (k_is_tuple_of X G c) (forall_cons (k_check_place X G c) (forall_cons (k_is_web X G c) (forall_cons (k_check_web X G c) (forall_cons (k_tie_between X G c) (forall_cons (k_ties_of X G c) (forall_cons (k_signs_of X G c) (forall_cons (k_web_by X G c) (forall_cons (k_is_tie X G c) (forall_cons (k_check_tie X G c) (forall_cons (k_foes_of X G c) (forall_cons (k_is_way_round X G c) (forall_cons (k_is_ring_of X G c) (forall_cons (k_is_ring X G c) (forall_cons (k_check_ring X G c) (forall_cons (k_ring_sign_of X G c) (forall_cons (k_ring_sign X G c) (forall_cons (k_rings_of X G c) (forall_cons (k_check_few X G c) (forall_cons (k_rings X G c) (forall_cons (k_check_room X G c) (forall_cons (k_moved_signs X G c) (forall_cons (k_joined_at X G c) (forall_cons (k_parted_tie X G c) (forall_cons (k_foe_table X G c) (forall_cons (k_trouble_of X G c) (forall_cons (k_trouble X G c) (forall_cons (k__law_well X G c) (forall_cons (k__law_dip X G c) (forall_cons (k__law_web X G c) (forall_cons (k__law_ties X G c) (forall_cons (k__law_trouble X G c) (forall_cons (k__law_told_form X G c) (forall_cons (k__law_rounds X G c) (forall_cons (k__law_are_rounds X G c) (forall_cons (k__law_joined_right X G c) (forall_cons (k__law_parted_right X G c) (forall_cons (k_law X G c) forall_nil))))))))))))))))))))))))))))))))))))))))
theorem b_all (X : K.In h) (G : h.Ns mainGlobals mg) (c : He.SaysD K76h.facts K76h.defs K) : ∀ x ∈ K76i.bsL, mg x = none :=
  (forall_cons (He.free_ok X G (c.fact 41 (f := .free "abs") rfl)) (forall_cons (He.free_ok X G (c.fact 42 (f := .free "all") rfl)) (forall_cons (He.free_ok X G (c.fact 43 (f := .free "bool") rfl)) (forall_cons (He.free_ok X G (c.fact 44 (f := .free "enumerate") rfl)) (forall_cons (He.free_ok X G (c.fact 45 (f := .free "int") rfl)) (forall_cons (He.free_ok X G (c.fact 46 (f := .free "isinstance") rfl)) (forall_cons (He.free_ok X G (c.fact 47 (f := .free "len") rfl)) (forall_cons (He.free_ok X G (c.fact 48 (f := .free "list") rfl)) (forall_cons (He.free_ok X G (c.fact 49 (f := .free "min") rfl)) (forall_cons (He.free_ok X G (c.fact 50 (f := .free "range") rfl)) (forall_cons (He.free_ok X G (c.fact 51 (f := .free "set") rfl)) (forall_cons (He.free_ok X G (c.fact 52 (f := .free "sorted") rfl)) (forall_cons (He.free_ok X G (c.fact 53 (f := .free "sum") rfl)) (forall_cons (He.free_ok X G (c.fact 55 (f := .free "tuple") rfl)) forall_nil))))))))))))))
theorem s_all (X : K.In h) (G : h.Ns mainGlobals mg) (c : He.SaysD K76h.facts K76h.defs K) : ∀ p ∈ K76i.ksL, ∃ u v, mg p.1 = some u ∧ RelV v u ∧ ∀ fi Z H, R K fi Z H p.2 v :=
  (forall_cons (let ⟨t, e⟩ := He.int_ok X G (c.fact 56 (f := .int "MOST_PLACES" 10) rfl); ⟨_, .int 10, e, ⟨t, rfl⟩, fun _ _ _ => by simp only [R]⟩) (forall_cons (let ⟨t, e⟩ := He.int_ok X G (c.fact 57 (f := .int "MOST_FOR_RINGS" 7) rfl); ⟨_, .int 7, e, ⟨t, rfl⟩, fun _ _ _ => by simp only [R]⟩) forall_nil))
end
end K76e
open PySem PySem.W PySem.Calls PyProof.Rows
theorem PySem.Challenge.cw_signrounds_k76_whole_rounds_of_joined_an_holds : PySem.Challenge.rw_signrounds_k76_whole_rounds_of_joined_an.Holds := by
  w_on; o_law
  refine HandSHeadRun.head_any (r := OpenLaw.row PySem.Challenge.rw_signrounds_k76_whole_rounds_of_joined_an) (q := view (OpenLaw.row PySem.Challenge.rw_signrounds_k76_whole_rounds_of_joined_an).prog [53]) (H := K76h.hk) (ob := K76h.ob) (M := 6000) (loose := K76h.loose) (d := HandSHeadRun.topDef (OpenLaw.row PySem.Challenge.rw_signrounds_k76_whole_rounds_of_joined_an).prog 53) (kwd := []) K76h.ob_eq
    (by kernel_rfl) (fun s => by kernel_rfl) K76h.run (by kernel_rfl) (by kernel_rfl) (by kernel_rfl) (by rfl) (by first | assumption | decide +kernel) (by decide +kernel) ⟨rfl, rfl, rfl, rfl, rfl, by decide +kernel⟩ ?hw ?hc
  case hw => w_witness2
  case hc =>
    refine Mi.walk_mi (l := PySem.Challenge.rw_signrounds_k76_whole_rounds_of_joined_an) (n := 63) (k := 30) (fa := K76h.facts) (fn := K76h.defs) (C := K76i.CCk) (D := K76i.D) rfl (by decide) (by kernel_rfl) ⟨rfl, by decide, by decide⟩ (by kernel_rfl) (fun w mg h K X G c => ⟨K76e.b_all X G c, K76e.s_all X G c, K76e.k_all X G c⟩) (by kernel_rfl) ?hrun
    exact K76e.law_true

