import PyProof.Rows.All
import Wide.All
import OpenK.AllK
import Wide.FinOn
import HandS.Conv
import HandS.Deep
import HandS.DictComp
import HandS.ForMost
import HandS.IsInst
import HandS.Iter
import HandS.ListItems
import HandS.NoneIn
import HandS.Rev
import HandS.RevTup
import HandS.SetBool
import HandS.SetFor
import HandS.SetIn
import HandS.SetKeys
import HandS.SortKw
import HandS.Star
import HandS.Strs
import HandS.Style
import HandS.TupAny
import HandS.TupLen
import HandS.TupMul
import HandS.TupSets
import HandS.Wide
import HandS.WideBits
import HandS.WordsDict
import HandS.Zip
import HandS.Zip0
import KE.DataAny
import KE.DataCmp
import KE.DataMinMax
import KE.KDictDisplayH
import KE.KIndexOf
import KE.KItemsList
import KE.SortData
import PyProof.SumAny
import PyProof.TupleOfGen
import PySem.Challenge.RW_oneform_k06_counts_of_words_alike
set_option Elab.async false
set_option linter.all false
set_option autoImplicit false
set_option maxRecDepth 100000
set_option maxHeartbeats 4000000 
/-! L0: values without a heap (Pv), the state's relation (RS), steps (Step). -/
namespace Q
open PySem PySem.Spec PyProof.Rows L2

inductive Pv where
  | non | bl (b : Bool) | int (i : Int) | str (s : Str) | tup (l : List Pv) | lst (l : List Pv) | loc (n : Nat) | scr (l : List Int)

mutual
def Pv.dec : (a b : Pv) → Decidable (a = b)
  | .non, .non => Decidable.isTrue rfl
  | .bl a, .bl b => if h : a = b then Decidable.isTrue (by rw [h]) else Decidable.isFalse (fun q => h (Pv.bl.inj q))
  | .int a, .int b => if h : a = b then Decidable.isTrue (by rw [h]) else Decidable.isFalse (fun q => h (Pv.int.inj q))
  | .str a, .str b => if h : a = b then Decidable.isTrue (by rw [h]) else Decidable.isFalse (fun q => h (Pv.str.inj q))
  | .loc a, .loc b => if h : a = b then Decidable.isTrue (by rw [h]) else Decidable.isFalse (fun q => h (Pv.loc.inj q))
  | .scr a, .scr b => if h : a = b then Decidable.isTrue (by rw [h]) else Decidable.isFalse (fun q => h (Pv.scr.inj q))
  | .tup a, .tup b => match Pv.decs a b with
    | Decidable.isTrue h => Decidable.isTrue (by rw [h])
    | Decidable.isFalse h => Decidable.isFalse (fun q => h (Pv.tup.inj q))
  | .lst a, .lst b => match Pv.decs a b with
    | Decidable.isTrue h => Decidable.isTrue (by rw [h])
    | Decidable.isFalse h => Decidable.isFalse (fun q => h (Pv.lst.inj q))
  | .non, .bl _ | .non, .int _ | .non, .str _ | .non, .tup _ | .non, .lst _ | .non, .loc _ | .non, .scr _ => Decidable.isFalse (fun q => nomatch q)
  | .bl _, .non | .bl _, .int _ | .bl _, .str _ | .bl _, .tup _ | .bl _, .lst _ | .bl _, .loc _ | .bl _, .scr _ => Decidable.isFalse (fun q => nomatch q)
  | .int _, .non | .int _, .bl _ | .int _, .str _ | .int _, .tup _ | .int _, .lst _ | .int _, .loc _ | .int _, .scr _ => Decidable.isFalse (fun q => nomatch q)
  | .str _, .non | .str _, .bl _ | .str _, .int _ | .str _, .tup _ | .str _, .lst _ | .str _, .loc _ | .str _, .scr _ => Decidable.isFalse (fun q => nomatch q)
  | .tup _, .non | .tup _, .bl _ | .tup _, .int _ | .tup _, .str _ | .tup _, .lst _ | .tup _, .loc _ | .tup _, .scr _ => Decidable.isFalse (fun q => nomatch q)
  | .lst _, .non | .lst _, .bl _ | .lst _, .int _ | .lst _, .str _ | .lst _, .tup _ | .lst _, .loc _ | .lst _, .scr _ => Decidable.isFalse (fun q => nomatch q)
  | .loc _, .non | .loc _, .bl _ | .loc _, .int _ | .loc _, .str _ | .loc _, .tup _ | .loc _, .lst _ | .loc _, .scr _ => Decidable.isFalse (fun q => nomatch q)
  | .scr _, .non | .scr _, .bl _ | .scr _, .int _ | .scr _, .str _ | .scr _, .tup _ | .scr _, .lst _ | .scr _, .loc _ => Decidable.isFalse (fun q => nomatch q)
def Pv.decs : (a b : List Pv) → Decidable (a = b)
  | [], [] => Decidable.isTrue rfl
  | [], _ :: _ => Decidable.isFalse (fun q => nomatch q)
  | _ :: _, [] => Decidable.isFalse (fun q => nomatch q)
  | x :: a, y :: b => match Pv.dec x y with
    | Decidable.isFalse h => Decidable.isFalse (fun q => h (List.cons.inj q).1)
    | Decidable.isTrue h => match Pv.decs a b with
      | Decidable.isTrue k => Decidable.isTrue (by rw [h, k])
      | Decidable.isFalse k => Decidable.isFalse (fun q => k (List.cons.inj q).2)
end
instance : DecidableEq Pv := Pv.dec

/-- what an object of the store is -/
inductive MO where
  | dk (kvs : List (Key × Pv))
  | ls (l : List Pv)
  | dt (kvs : List (List Key × Pv))
  | fk (kvs : List (Key × Pv))

/-- a slot of the frame -/
inductive SV where
  | none | val (v : Pv) | ml (l : List Pv)

structure Wd where
  K : PySem.W.Frag
  H : Hp
  ι : List Addr
  B : Addr → Prop

def CL (K : PySem.W.Frag) (a : Addr) (vs : List V) : Prop :=
  ∃ (o : Obj) (its : Array Value) (n : Nat), K.lookup a = some o ∧ o.cls = .type "list" ∧ o.dict = none ∧ o.data = .seq its n ∧ its.size ≤ sizeLine ∧ Vals vs its.toList
def CT (K : PySem.W.Frag) (a : Addr) (vs : List V) : Prop :=
  ∃ (o : Obj) (its : Array Value) (n : Nat), K.lookup a = some o ∧ o.cls = .type "tuple" ∧ o.data = .seq its n ∧ its.size ≤ sizeLine ∧ Vals vs its.toList

mutual
def Rl (W : Wd) : Pv → V → Prop
  | .non, x => x = .non
  | .bl b, x => x = .bl b
  | .int i, x => x = .int i
  | .str s, x => x = .str s
  | .tup l, x => ∃ a vs, x = .ref a ∧ (W.H a = some (.tup vs) ∧ ¬ W.B a) ∧ Rls W l vs
  | .lst l, x => ∃ a vs, x = .ref a ∧ (W.H a = some (.lst vs) ∧ ¬ W.B a) ∧ Rls W l vs
  | .scr ns, x => ∃ a, x = .ref a ∧ ((∃ o, W.H a = some (.frz o (.lst (ns.map V.int))) ∧ ¬ W.B a) ∨ CL W.K a (ns.map V.int))
  | .loc n, x => ∃ a, W.ι[n]? = some a ∧ x = .ref a
def Rls (W : Wd) : List Pv → List V → Prop
  | [], xs => xs = []
  | v :: l, xs => ∃ x r, xs = x :: r ∧ Rl W v x ∧ Rls W l r
end

/-- a later world -/
structure Le (W W' : Wd) : Prop where
  k : W'.K = W.K
  i : ∀ (n : Nat) a, W.ι[n]? = some a → W'.ι[n]? = some a
  h : ∀ a o, W.H a = some o → ¬ W.B a → W'.H a = some o ∧ ¬ W'.B a
theorem Le.refl (W : Wd) : Le W W := ⟨rfl, fun _ _ h => h, fun _ _ h k => ⟨h, k⟩⟩
theorem Le.trans {A B C : Wd} (x : Le A B) (y : Le B C) : Le A C :=
  ⟨y.k.trans x.k, fun n a h => y.i n a (x.i n a h), fun a o h k => let ⟨h1, k1⟩ := x.h a o h k; y.h a o h1 k1⟩
theorem Le.rd {W W' : Wd} (x : Le W W') {a : Addr} {u : HO} (h : Rd W.H a u) (k : ¬ W.B a) : Rd W'.H a u ∧ ¬ W'.B a := by
  rcases h with h | ⟨o, h⟩
  · exact ⟨.inl (x.h a _ h k).1, (x.h a _ h k).2⟩
  · exact ⟨.inr ⟨o, (x.h a _ h k).1⟩, (x.h a _ h k).2⟩
mutual
theorem Rl.mono {W W' : Wd} (q : Le W W') : ∀ {v : Pv} {x : V}, Rl W v x → Rl W' v x
  | .non, _, h => by unfold Rl at h ⊢; exact h
  | .bl _, _, h => by unfold Rl at h ⊢; exact h
  | .int _, _, h => by unfold Rl at h ⊢; exact h
  | .str _, _, h => by unfold Rl at h ⊢; exact h
  | .loc _, _, h => by
    unfold Rl at h ⊢
    obtain ⟨a, h1, h2⟩ := h
    exact ⟨a, q.i _ _ h1, h2⟩
  | .tup l, _, h => by
    unfold Rl at h ⊢
    obtain ⟨a, vs, e, h1, h2⟩ := h
    refine ⟨a, vs, e, ?_, Rls.mono q h2⟩
    exact q.h _ _ h1.1 h1.2
  | .lst l, _, h => by
    unfold Rl at h ⊢
    obtain ⟨a, vs, e, h1, h2⟩ := h
    refine ⟨a, vs, e, ?_, Rls.mono q h2⟩
    exact q.h _ _ h1.1 h1.2
  | .scr l, _, h => by
    unfold Rl at h ⊢
    obtain ⟨a, e, h1⟩ := h
    refine ⟨a, e, ?_⟩
    rcases h1 with ⟨o, h1, k⟩ | h1
    · exact .inl ⟨o, q.h _ _ h1 k⟩
    · exact .inr (by rw [q.k]; exact h1)
theorem Rls.mono {W W' : Wd} (q : Le W W') : ∀ {l : List Pv} {xs : List V}, Rls W l xs → Rls W' l xs
  | [], _, h => by unfold Rls at h ⊢; exact h
  | v :: l, _, h => by
    unfold Rls at h ⊢
    obtain ⟨x, r, e, h1, h2⟩ := h
    exact ⟨x, r, e, Rl.mono q h1, Rls.mono q h2⟩
end

theorem Rls.nil {W : Wd} : Rls W [] [] := by unfold Rls; rfl
theorem Rls.cons {W : Wd} {v : Pv} {x : V} {l : List Pv} {xs : List V} (h : Rl W v x) (k : Rls W l xs) : Rls W (v :: l) (x :: xs) := by unfold Rls; exact ⟨x, xs, rfl, h, k⟩
theorem Rls.length {W : Wd} : ∀ {l : List Pv} {xs : List V}, Rls W l xs → l.length = xs.length
  | [], _, h => by unfold Rls at h; subst h; rfl
  | v :: l, _, h => by
    unfold Rls at h
    obtain ⟨x, r, rfl, _, h2⟩ := h
    rw [List.length_cons, List.length_cons, Rls.length h2]
theorem Rls.get {W : Wd} : ∀ {l : List Pv} {xs : List V} {i : Nat} {v : Pv}, Rls W l xs → l[i]? = some v → ∃ x, xs[i]? = some x ∧ Rl W v x
  | [], _, i, v, _, e => by simp at e
  | u :: l, _, 0, v, h, e => by
    unfold Rls at h
    obtain ⟨x, r, rfl, h1, _⟩ := h
    simp at e; subst e
    exact ⟨x, rfl, h1⟩
  | u :: l, _, i + 1, v, h, e => by
    unfold Rls at h
    obtain ⟨x, r, rfl, _, h2⟩ := h
    obtain ⟨y, h3, h4⟩ := Rls.get (i := i) (v := v) h2 (by simpa using e)
    exact ⟨y, by simpa using h3, h4⟩
theorem Rls.append {W : Wd} : ∀ {l m : List Pv} {xs ys : List V}, Rls W l xs → Rls W m ys → Rls W (l ++ m) (xs ++ ys)
  | [], _, _, _, h, k => by unfold Rls at h; subst h; exact k
  | v :: l, _, _, _, h, k => by
    unfold Rls at h
    obtain ⟨x, r, rfl, h1, h2⟩ := h
    exact .cons h1 (Rls.append h2 k)
theorem Rls.set {W : Wd} {v : Pv} {x : V} (q : Rl W v x) : ∀ {l : List Pv} {xs : List V} (i : Nat), Rls W l xs → Rls W (l.set i v) (xs.set i x)
  | [], _, _, h => by unfold Rls at h; subst h; exact Rls.nil
  | u :: l, _, 0, h => by
    unfold Rls at h
    obtain ⟨y, r, rfl, _, h2⟩ := h
    exact .cons q h2
  | u :: l, _, i + 1, h => by
    unfold Rls at h
    obtain ⟨y, r, rfl, h1, h2⟩ := h
    exact .cons h1 (Rls.set q i h2)
theorem Rls.take {W : Wd} : ∀ {l : List Pv} {xs : List V} (n : Nat), Rls W l xs → Rls W (l.take n) (xs.take n)
  | _, _, 0, _ => Rls.nil
  | [], _, _ + 1, h => by unfold Rls at h; subst h; exact Rls.nil
  | u :: l, _, n + 1, h => by
    unfold Rls at h
    obtain ⟨y, r, rfl, h1, h2⟩ := h
    exact .cons h1 (Rls.take n h2)
theorem Rls.drop {W : Wd} : ∀ {l : List Pv} {xs : List V} (n : Nat), Rls W l xs → Rls W (l.drop n) (xs.drop n)
  | _, _, 0, h => h
  | [], _, _ + 1, h => by unfold Rls at h; subst h; exact Rls.nil
  | u :: l, _, n + 1, h => by
    unfold Rls at h
    obtain ⟨y, r, rfl, h1, h2⟩ := h
    exact Rls.drop n h2
theorem Rls.reverse {W : Wd} : ∀ {l : List Pv} {xs : List V}, Rls W l xs → Rls W l.reverse xs.reverse
  | [], _, h => by unfold Rls at h; subst h; exact Rls.nil
  | u :: l, _, h => by
    unfold Rls at h
    obtain ⟨y, r, rfl, h1, h2⟩ := h
    rw [List.reverse_cons, List.reverse_cons]
    exact .append (Rls.reverse h2) (.cons h1 .nil)
theorem Rls.inv_cons {W : Wd} {v : Pv} {l : List Pv} {xs : List V} (h : Rls W (v :: l) xs) : ∃ x r, xs = x :: r ∧ Rl W v x ∧ Rls W l r := by unfold Rls at h; exact h
theorem Rls.inv_nil {W : Wd} {xs : List V} (h : Rls W [] xs) : xs = [] := by unfold Rls at h; exact h

/-! ### the state -/
def own (ρ : List SV) (σ : L2.St) (i : Nat) (a : Addr) : Prop := (∃ l, ρ[i]? = some (.ml l)) ∧ σ[i]? = some (some (.ref a))
/-- no tuple -/
def NT (o : HO) : Prop := ∀ vs, o ≠ .tup vs
/-- what the frame may change -/
def Mx (ι : List Addr) (ρ : List SV) (σ : L2.St) (a : Addr) : Prop := a ∈ ι ∨ ∃ i, own ρ σ i a
abbrev wd (K : PySem.W.Frag) (G : Addr → Prop) (ι : List Addr) (ρ : List SV) (σ : L2.St) (H : Hp) : Wd := ⟨K, H, ι, fun a => G a ∨ Mx ι ρ σ a⟩
def SlotOk (W : Wd) : SV → Option V → Prop
  | .none, _ => True
  | .val v, some x => Rl W v x
  | .ml l, some x => ∃ a vs, x = .ref a ∧ W.H a = some (.lst vs) ∧ Rls W l vs
  | _, none => False
def KRel (W : Wd) : List (Key × Pv) → List (Key × V) → Prop := Paired fun p q => p.1 = q.1 ∧ Rl W p.2 q.2
def TRel (W : Wd) : List (List Key × Pv) → List (List Key × V) → Prop := Paired fun p q => p.1 = q.1 ∧ Rl W p.2 q.2
def MOk (W : Wd) (a : Addr) : MO → Prop
  | .dk kvs => ∃ vs, W.H a = some (.dK vs) ∧ KRel W kvs vs
  | .ls l => ∃ vs, W.H a = some (.lst vs) ∧ Rls W l vs
  | .dt kvs => ∃ vs, W.H a = some (.dT vs) ∧ TRel W kvs vs
  | .fk kvs => ∃ o vs, W.H a = some (.frz o (.dK vs)) ∧ KRel W kvs vs
structure RS (K : PySem.W.Frag) (G : Addr → Prop) (ι : List Addr) (μ : List MO) (ρ : List SV) (σ : L2.St) (H : Hp) : Prop where
  len : ρ.length = σ.length
  sl : ∀ (i : Nat) s, ρ[i]? = some s → SlotOk (wd K G ι ρ σ H) s (σ[i]?).join
  inj : ∀ (i j : Nat) a, own ρ σ i a → own ρ σ j a → i = j
  ni : ∀ (i : Nat) a, own ρ σ i a → a ∉ ι ∧ ¬ G a
  g : ∀ a, G a → (∃ o, H a = some o ∧ NT o) ∧ a ∉ ι
  nd : ι.Nodup
  lm : ι.length = μ.length
  st : ∀ (n : Nat) o, μ[n]? = some o → ∃ a, ι[n]? = some a ∧ MOk (wd K G ι ρ σ H) a o

/-- from H to H': what the frame does not own is kept; what it owns later is its own or new -/
structure Step (ι : List Addr) (M : Addr → Prop) (H : Hp) (ι' : List Addr) (M' : Addr → Prop) (H' : Hp) : Prop where
  pre : ∀ (n : Nat) a, ι[n]? = some a → ι'[n]? = some a
  keep : ∀ a o, H a = some o → ¬ M a → H' a = some o
  new : ∀ a, M' a → M a ∨ H a = none
  frz : ∀ a o u, H a = some (.frz o u) → H' a = some (.frz o u)
theorem Step.refl {ι : List Addr} {M : Addr → Prop} {H : Hp} : Step ι M H ι M H := ⟨fun _ _ h => h, fun _ _ h _ => h, fun _ h => .inl h, fun _ _ _ h => h⟩
theorem Step.trans {ι ι1 ι2 : List Addr} {M M1 M2 : Addr → Prop} {H H1 H2 : Hp} (x : Step ι M H ι1 M1 H1) (y : Step ι1 M1 H1 ι2 M2 H2) : Step ι M H ι2 M2 H2 where
  pre := fun n a h => y.pre n a (x.pre n a h)
  frz := fun a o u h => y.frz a o u (x.frz a o u h)
  keep := fun a o h k => y.keep a o (x.keep a o h k) fun z => by
    rcases x.new a z with z | z
    · exact k z
    · rw [h] at z; cases z
  new := fun a z => by
    rcases y.new a z with z | z
    · exact x.new a z
    · by_cases k : M a
      · exact .inl k
      · right
        cases e : H a with
        | none => rfl
        | some o => rw [x.keep a o e k] at z; cases z
theorem Step.same {ι : List Addr} {M M' : Addr → Prop} {H H' : Hp} (s : Same H H') (hM : ∀ a, M' a → M a) : Step ι M H ι M' H' := ⟨fun _ _ h => h, fun a o h _ => s a o h, fun a h => .inl (hM a h), fun a o u h => s a _ h⟩
theorem Step.le {K : PySem.W.Frag} {G : Addr → Prop} {ι ι' : List Addr} {ρ ρ' : List SV} {σ σ' : L2.St} {H H' : Hp} (x : Step ι (Mx ι ρ σ) H ι' (Mx ι' ρ' σ') H') : Le (wd K G ι ρ σ H) (wd K G ι' ρ' σ' H') where
  k := rfl
  i := x.pre
  h := fun a o h k => by
    have k1 : ¬ G a := fun z => k (.inl z)
    have k2 : ¬ Mx ι ρ σ a := fun z => k (.inr z)
    refine ⟨x.keep a o h k2, fun z => ?_⟩
    rcases z with z | z
    · exact k1 z
    · rcases x.new a z with z | z
      · exact k2 z
      · cases (show some o = none from (show H a = some o from h).symm.trans z)

section
variable {K : PySem.W.Frag} {G : Addr → Prop} {ι : List Addr} {μ : List MO} {ρ : List SV} {σ : L2.St} {H H' : Hp}
theorem RS.own_lst (r : RS K G ι μ ρ σ H) {i : Nat} {a : Addr} (h : own ρ σ i a) : ∃ l vs, ρ[i]? = some (.ml l) ∧ H a = some (.lst vs) ∧ Rls (wd K G ι ρ σ H) l vs := by
  obtain ⟨⟨l, h1⟩, h2⟩ := h
  have q := r.sl i _ h1
  rw [h2] at q
  obtain ⟨b, vs, e, q1, q2⟩ := q
  cases e
  exact ⟨l, vs, h1, q1, q2⟩
theorem RS.tracked (r : RS K G ι μ ρ σ H) {a : Addr} (h : (wd K G ι ρ σ H).B a) : ∃ o, H a = some o := by
  rcases h with h | h | ⟨i, h⟩
  · exact (r.g a h).1.imp fun o z => z.1
  · obtain ⟨n, e⟩ := List.mem_iff_getElem?.mp h
    have hn : n < μ.length := by rw [← r.lm]; exact (List.getElem?_eq_some_iff.mp e).1
    obtain ⟨b, e2, q⟩ := r.st n _ (List.getElem?_eq_getElem hn)
    rw [e] at e2; cases e2
    revert q
    cases μ[n] with
    | dk kvs => intro q; obtain ⟨vs, q, _⟩ := q; exact ⟨_, q⟩
    | ls l => intro q; obtain ⟨vs, q, _⟩ := q; exact ⟨_, q⟩
    | dt l => intro q; obtain ⟨vs, q, _⟩ := q; exact ⟨_, q⟩
    | fk l => intro q; obtain ⟨o, vs, q, _⟩ := q; exact ⟨_, q⟩
  · obtain ⟨l, vs, _, q, _⟩ := r.own_lst h
    exact ⟨_, q⟩
theorem SlotOk.mono {W W' : Wd} (q : Le W W') {s : SV} {o : Option V} (hs : ∀ l x a, s = .ml l → o = some x → x = .ref a → W'.H a = W.H a) (h : SlotOk W s o) : SlotOk W' s o := by
  cases s with
  | none => trivial
  | val v => cases o with
    | none => exact h
    | some x => exact Rl.mono q h
  | ml l => cases o with
    | none => exact h
    | some x =>
      obtain ⟨a, vs, e, h1, h2⟩ := h
      exact ⟨a, vs, e, by rw [hs l x a rfl rfl e]; exact h1, Rls.mono q h2⟩
theorem KRel.mono {W W' : Wd} (q : Le W W') {kvs : List (Key × Pv)} {vs : List (Key × V)} (h : KRel W kvs vs) : KRel W' kvs vs := Paired.mapP h fun _ _ z => ⟨z.1, z.2.mono q⟩
theorem TRel.mono {W W' : Wd} (q : Le W W') {kvs : List (List Key × Pv)} {vs : List (List Key × V)} (h : TRel W kvs vs) : TRel W' kvs vs := Paired.mapP h fun _ _ z => ⟨z.1, z.2.mono q⟩
theorem MOk.mono {W W' : Wd} (q : Le W W') {a : Addr} {o : MO} (e : W'.H a = W.H a) (h : MOk W a o) : MOk W' a o := by
  cases o with
  | dk kvs => obtain ⟨vs, h1, h2⟩ := h; exact ⟨vs, by rw [e]; exact h1, h2.mono q⟩
  | ls l => obtain ⟨vs, h1, h2⟩ := h; exact ⟨vs, by rw [e]; exact h1, h2.mono q⟩
  | dt l => obtain ⟨vs, h1, h2⟩ := h; exact ⟨vs, by rw [e]; exact h1, h2.mono q⟩
  | fk l => obtain ⟨u, vs, h1, h2⟩ := h; exact ⟨u, vs, by rw [e]; exact h1, h2.mono q⟩
/-- more is tracked -/
theorem RS.same (r : RS K G ι μ ρ σ H) (s : Same H H') : RS K G ι μ ρ σ H' := by
  have le : Le (wd K G ι ρ σ H) (wd K G ι ρ σ H') := (Step.same s fun _ h => h).le
  refine ⟨r.len, fun i t e => ?_, r.inj, r.ni, fun a h => ?_, r.nd, r.lm, fun n o e => ?_⟩
  · refine SlotOk.mono le (fun l x a e1 e2 e3 => ?_) (r.sl i t e)
    subst e1 e3
    have ho : own ρ σ i a := ⟨⟨l, e⟩, by
      cases q : σ[i]? with
      | none => rw [q] at e2; cases e2
      | some u => rw [q] at e2; exact congrArg some e2⟩
    obtain ⟨l', vs, _, q, _⟩ := r.own_lst ho
    show H' a = H a
    rw [q, s a _ q]
  · obtain ⟨⟨o, h1, nt⟩, h2⟩ := r.g a h
    exact ⟨⟨o, s a o h1, nt⟩, h2⟩
  · obtain ⟨a, h1, h2⟩ := r.st n o e
    refine ⟨a, h1, MOk.mono le ?_ h2⟩
    obtain ⟨o', q⟩ := r.tracked (a := a) (.inr (.inl (List.mem_of_getElem? h1)))
    show H' a = H a
    rw [q, s a _ q]
/-- fewer addresses are forbidden from outside -/
theorem RS.less (r : RS K G ι μ ρ σ H) {G' : Addr → Prop} (s : ∀ a, G' a → G a) : RS K G' ι μ ρ σ H := by
  have le : Le (wd K G ι ρ σ H) (wd K G' ι ρ σ H) := ⟨rfl, fun _ _ h => h, fun a o h k => ⟨h, fun z => k (z.imp (s a) id)⟩⟩
  exact ⟨r.len, fun i t e => SlotOk.mono le (fun _ _ _ _ _ _ => rfl) (r.sl i t e), r.inj, fun i a h => ⟨(r.ni i a h).1, fun z => (r.ni i a h).2 (s a z)⟩, fun a h => r.g a (s a h), r.nd, r.lm, fun n o e => by
    obtain ⟨a, h1, h2⟩ := r.st n o e
    exact ⟨a, h1, MOk.mono le rfl h2⟩⟩
/-- an object is laid at a new place, which no value holds -/
theorem RS.alloc (r : RS K G ι μ ρ σ H) {p : Addr} {u : HO} (hp : H p = none) (hu : NT u := by intro _ z; cases z) : RS K (fun a => G a ∨ a = p) ι μ ρ σ (upd H p u) := by
  have np : ∀ a, (wd K G ι ρ σ H).B a → a ≠ p := fun a h e => by
    obtain ⟨o, q⟩ := r.tracked h
    rw [e, hp] at q; cases q
  have le : Le (wd K G ι ρ σ H) (wd K (fun a => G a ∨ a = p) ι ρ σ (upd H p u)) := ⟨rfl, fun _ _ h => h, fun a o h k => by
    have na : a ≠ p := ne_of_none h hp
    exact ⟨by show upd H p u a = _; rw [upd_ne na]; exact h, fun z => by
      rcases z with (z | z) | z
      · exact k (.inl z)
      · exact na z
      · exact k (.inr z)⟩⟩
  refine ⟨r.len, fun i t e => ?_, r.inj, fun i a h => ⟨(r.ni i a h).1, fun z => ?_⟩, fun a h => ?_, r.nd, r.lm, fun n o e => ?_⟩
  · refine SlotOk.mono le (fun l x a e1 e2 e3 => ?_) (r.sl i t e)
    subst e1 e3
    have ho : own ρ σ i a := ⟨⟨l, e⟩, by
      cases q : σ[i]? with
      | none => rw [q] at e2; cases e2
      | some u => rw [q] at e2; exact congrArg some e2⟩
    exact upd_ne (np a (.inr (.inr ⟨i, ho⟩)))
  · rcases z with z | z
    · exact (r.ni i a h).2 z
    · exact np a (.inr (.inr ⟨i, h⟩)) z
  · rcases h with h | h
    · obtain ⟨⟨o, h1, nt⟩, h2⟩ := r.g a h
      exact ⟨⟨o, (by rw [upd_ne (ne_of_none h1 hp)]; exact h1), nt⟩, h2⟩
    · subst h
      exact ⟨⟨u, upd_same, hu⟩, fun z => np a (.inr (.inl z)) rfl⟩
  · obtain ⟨a, h1, h2⟩ := r.st n o e
    exact ⟨a, h1, MOk.mono le (upd_ne (np a (.inr (.inl (List.mem_of_getElem? h1))))) h2⟩
theorem same_upd {H : Hp} {p : Addr} {o : HO} (h : H p = none) : Same H (upd H p o) := fun b x e => by
  rw [upd_ne (ne_of_none e h)]; exact e
theorem RS.slot (r : RS K G ι μ ρ σ H) {i : Nat} {v : Pv} (e : ρ[i]? = some (.val v)) : ∃ x, σ[i]? = some (some x) ∧ Rl (wd K G ι ρ σ H) v x := by
  have q := r.sl i _ e
  cases e2 : σ[i]? with
  | none => rw [e2] at q; exact q.elim
  | some o =>
    rw [e2] at q
    cases o with
    | none => exact q.elim
    | some x => exact ⟨x, rfl, q⟩
theorem RS.slotM (r : RS K G ι μ ρ σ H) {i : Nat} {l : List Pv} (e : ρ[i]? = some (.ml l)) : ∃ a vs, σ[i]? = some (some (.ref a)) ∧ own ρ σ i a ∧ H a = some (.lst vs) ∧ Rls (wd K G ι ρ σ H) l vs := by
  have q := r.sl i _ e
  cases e2 : σ[i]? with
  | none => rw [e2] at q; exact q.elim
  | some o =>
    rw [e2] at q
    cases o with
    | none => exact q.elim
    | some x =>
      obtain ⟨a, vs, e3, h1, h2⟩ := q
      subst e3
      exact ⟨a, vs, rfl, ⟨⟨l, e⟩, e2⟩, h1, h2⟩
end
end Q
/-! L1: effects, judgements, the first rules. -/
namespace Q
open PySem PySem.Spec PyProof.Rows L2

class Eff (m : Type → Type) [Monad m] where
  run : {α : Type} → m α → List MO → Option (α × List MO)
  lift : {α : Type} → Option α → m α
  run_pure : ∀ {α : Type} (a : α) μ, run (pure a : m α) μ = some (a, μ)
  run_bind : ∀ {α β : Type} (x : m α) (f : α → m β) μ, run (x >>= f) μ = (run x μ).bind fun p => run (f p.1) p.2
  run_lift : ∀ {α : Type} (x : Option α) μ, run (lift x : m α) μ = x.map fun a => (a, μ)
instance : Eff Option where
  run x μ := x.map fun a => (a, μ)
  lift x := x
  run_pure _ _ := rfl
  run_bind x f μ := by cases x <;> rfl
  run_lift _ _ := rfl
abbrev M := StateT (List MO) Option
instance : Eff M where
  run x μ := x μ
  lift x := fun μ => x.map fun a => (a, μ)
  run_pure _ _ := rfl
  run_bind x f μ := by
    show (StateT.bind x f) μ = _
    unfold StateT.bind
    cases x μ <;> rfl
  run_lift _ _ := rfl

section
variable {m : Type → Type} [Monad m] [Eff m] {α β : Type}
theorem inv_bind {x : m α} {f : α → m β} {μ : List MO} {p : β × List MO} (h : Eff.run (x >>= f) μ = some p) : ∃ a μ1, Eff.run x μ = some (a, μ1) ∧ Eff.run (f a) μ1 = some p := by
  rw [Eff.run_bind] at h
  cases e : Eff.run x μ with
  | none => rw [e] at h; cases h
  | some q => rw [e] at h; exact ⟨q.1, q.2, rfl, h⟩
theorem inv_lift {x : Option α} {v : α} {μ μ' : List MO} (h : Eff.run (Eff.lift x : m α) μ = some (v, μ')) : x = some v ∧ μ' = μ := by
  rw [Eff.run_lift] at h
  cases x with
  | none => cases h
  | some a => cases h; exact ⟨rfl, rfl⟩
theorem inv_pure {a v : α} {μ μ' : List MO} (h : Eff.run (pure a : m α) μ = some (v, μ')) : v = a ∧ μ' = μ := by
  rw [Eff.run_pure] at h; cases h; exact ⟨rfl, rfl⟩
end

/-! ### judgements -/
abbrev RelT (α : Type) := Hp → (Addr → Prop) → List Addr → List MO → L2.St → Hp → α → V → Prop
def tG (K : PySem.W.Frag) (ρ : List SV) {m : Type → Type} [Monad m] [Eff m] {α : Type} (R : RelT α) (c : m α) : TE := fun σ H Q =>
  ∃ G ι μ v μ', RS K G ι μ ρ σ H ∧ Eff.run c μ = some (v, μ') ∧ ∀ x H' ι', Step ι (Mx ι ρ σ) H ι' (Mx ι' ρ σ) H' → R H G ι' μ' σ H' v x → Q x H'
def RV (K : PySem.W.Frag) (ρ : List SV) : RelT Pv := fun _ G ι μ σ H v x => RS K G ι μ ρ σ H ∧ Rl (wd K G ι ρ σ H) v x
/-- a value, or a list that a slot of the frame holds -/
def Rk (W : Wd) (ρ : List SV) (σ : L2.St) (v : Pv) (x : V) : Prop := Rl W v x ∨ ∃ (i : Nat) (l : List Pv), v = .lst l ∧ ρ[i]? = some (.ml l) ∧ σ[i]? = some (some x)
def RK (K : PySem.W.Frag) (ρ : List SV) : RelT Pv := fun _ G ι μ σ H v x => RS K G ι μ ρ σ H ∧ Rk (wd K G ι ρ σ H) ρ σ v x
/-- a new list -/
def RN (K : PySem.W.Frag) (ρ : List SV) : RelT (List Pv) := fun H0 G ι μ σ H l x =>
  ∃ a vs, x = .ref a ∧ H0 a = none ∧ ¬ G a ∧ H a = some (.lst vs) ∧ RS K (fun b => G b ∨ b = a) ι μ ρ σ H ∧ Rls (wd K (fun b => G b ∨ b = a) ι ρ σ H) l vs

section
variable (X : Cx) (ρ : List SV) (e : Expr) {m : Type → Type} [Monad m] [Eff m]
def Ev (c : m Pv) : Prop := PE X e (tG X.K ρ (RV X.K ρ) c)
def Ek (c : m Pv) : Prop := PE X e (tG X.K ρ (RK X.K ρ) c)
def En (c : m (List Pv)) : Prop := PE X e (tG X.K ρ (RN X.K ρ) c)
/-- a test -/
def tGt (K : PySem.W.Frag) (ρ : List SV) (c : m Bool) : TT := fun σ H Q =>
  ∃ G ι μ b μ', RS K G ι μ ρ σ H ∧ Eff.run c μ = some (b, μ') ∧ ∀ H' ι', Step ι (Mx ι ρ σ) H ι' (Mx ι' ρ σ) H' → RS K G ι' μ' ρ σ H' → Q b H'
def Et (c : m Bool) : Prop := PT X e (tGt X.K ρ c)
def Ew (c : m Bool) : Prop := PW X e (tGt X.K ρ c)
/-- arguments -/
def tGa (K : PySem.W.Frag) (ρ : List SV) (R : RelT (List Pv × List V)) (c : m (List Pv)) : TA := fun σ H Q =>
  ∃ G ι μ v μ', RS K G ι μ ρ σ H ∧ Eff.run c μ = some (v, μ') ∧ ∀ xs H' ι', Step ι (Mx ι ρ σ) H ι' (Mx ι' ρ σ) H' → RS K G ι' μ' ρ σ H' → R H G ι' μ' σ H' (v, xs) .non → Q xs H'
def RLs (K : PySem.W.Frag) (ρ : List SV) : RelT (List Pv × List V) := fun _ G ι μ σ H p _ => Rls (wd K G ι ρ σ H) p.1 p.2
def Ea (es : List Expr) (c : m (List Pv)) : Prop := PA X es (tGa X.K ρ (RLs X.K ρ) c)
end

theorem PE.imp {X : Cx} {e : Expr} {t t' : TE} (h : PE X e t) (k : ∀ σ H Q, t' σ H Q → t σ H Q) : PE X e t' := ⟨fun pins s σ H Q I q => h.run pins s σ H Q I (k σ H Q q)⟩
theorem PT.imp {X : Cx} {e : Expr} {t t' : TT} (h : PT X e t) (k : ∀ σ H Q, t' σ H Q → t σ H Q) : PT X e t' := ⟨fun pins s σ H Q I q => h.run pins s σ H Q I (k σ H Q q)⟩
theorem PW.imp {X : Cx} {e : Expr} {t t' : TT} (h : PW X e t) (k : ∀ σ H Q, t' σ H Q → t σ H Q) : PW X e t' := ⟨fun w pins s σ H Q I q => h.run w pins s σ H Q I (k σ H Q q)⟩
theorem PA.imp {X : Cx} {e : List Expr} {t t' : TA} (h : PA X e t) (k : ∀ σ H Q, t' σ H Q → t σ H Q) : PA X e t' := ⟨fun p pins s σ H Q I q => h.run p pins s σ H Q I (k σ H Q q)⟩
theorem PS.imp {X : Cx} {e : Stmt} {t t' : TS} (h : PS X e t) (k : ∀ D σ H, t' D σ H → t D σ H) : PS X e t' := ⟨fun pins s σ H D I q => h.run pins s σ H D I (k D σ H q)⟩
theorem PSs.imp {X : Cx} {e : List Stmt} {t t' : TS} (h : PSs X e t) (k : ∀ D σ H, t' D σ H → t D σ H) : PSs X e t' := ⟨fun pins s σ H D I q => h.run pins s σ H D I (k D σ H q)⟩
theorem OpR.imp {X : Cx} {f : Value → Value → Sem Value} {r r' : R2} (h : OpR X f r) (k : ∀ x y H Q, r' x y H Q → r x y H Q) : OpR X f r' := fun pins s σ H x y v u Q I rx ry q => h pins s σ H x y v u Q I rx ry (k x y H Q q)

/-- what is true of an end as seen from a later heap is true from an earlier one -/
class Back (K : PySem.W.Frag) (ρ : List SV) {α : Type} (R : RelT α) : Prop where
  back : ∀ {G ι ι' μ μ' σ H H1 H' v x ιa μa}, RS K G ιa μa ρ σ H → RS K G ι μ ρ σ H1 → Step ιa (Mx ιa ρ σ) H ι (Mx ι ρ σ) H1 → R H1 G ι' μ' σ H' v x → R H G ι' μ' σ H' v x
instance {K : PySem.W.Frag} {ρ : List SV} : Back K ρ (RV K ρ) := ⟨fun _ _ _ h => h⟩
instance {K : PySem.W.Frag} {ρ : List SV} : Back K ρ (RK K ρ) := ⟨fun _ _ _ h => h⟩
theorem fresh_back {K : PySem.W.Frag} {ρ : List SV} {G : Addr → Prop} {ι ιa : List Addr} {μ μa : List MO} {σ : L2.St} {H H1 : Hp} (ra : RS K G ιa μa ρ σ H) (r : RS K G ι μ ρ σ H1) (s : Step ιa (Mx ιa ρ σ) H ι (Mx ι ρ σ) H1) {a : Addr} (h : H1 a = none) : H a = none := by
  cases e : H a with
  | none => rfl
  | some o =>
    by_cases k : Mx ιa ρ σ a
    · have k' : Mx ι ρ σ a := k.imp (fun z => by
        obtain ⟨n, e⟩ := List.mem_iff_getElem?.mp z
        exact List.mem_of_getElem? (s.pre n a e)) id
      obtain ⟨o', e'⟩ := r.tracked (a := a) (.inr k')
      rw [h] at e'; cases e'
    · rw [s.keep a o e k] at h; cases h
instance {K : PySem.W.Frag} {ρ : List SV} : Back K ρ (RN K ρ) := ⟨fun ra r s ⟨a, vs, e, n, h⟩ => ⟨a, vs, e, fresh_back ra r s n, h⟩⟩
section
variable {K : PySem.W.Frag} {ρ : List SV} {m : Type → Type} [Monad m] [Eff m] {α β : Type}
/-- a weaker end -/
theorem tG.weak {R R' : RelT α} {c : m α} {σ : L2.St} {H : Hp} {Q : VK} (h : tG K ρ R' c σ H Q) (k : ∀ H0 G ι μ σ H v x, R H0 G ι μ σ H v x → R' H0 G ι μ σ H v x) : tG K ρ R c σ H Q := by
  obtain ⟨G, ι, μ, v, μ', r, hr, q⟩ := h
  exact ⟨G, ι, μ, v, μ', r, hr, fun x H' ι' st z => q x H' ι' st (k _ _ _ _ _ _ _ _ z)⟩
end

section
variable {X : Cx} {ρ : List SV} {m : Type → Type} [Monad m] [Eff m] {e a b : Expr} {pos : Pos}
theorem Ev.ek {c : m Pv} (h : Ev X ρ e c) : Ek X ρ e c := PE.imp h fun σ H Q q => tG.weak q fun _ G ι μ σ H v x z => ⟨z.1, .inl z.2⟩
theorem Le.less {K : PySem.W.Frag} {G G' : Addr → Prop} {ι : List Addr} {σ : L2.St} {H : Hp} (s : ∀ a, G' a → G a) : Le (wd K G ι ρ σ H) (wd K G' ι ρ σ H) :=
  ⟨rfl, fun _ _ h => h, fun a o h k => ⟨h, fun z => k (Or.imp (s a) (fun q => q) z)⟩⟩
theorem RN.val {K : PySem.W.Frag} {G : Addr → Prop} {ι : List Addr} {μ : List MO} {σ : L2.St} {H : Hp} {H0 : Hp} {l : List Pv} {x : V} (z : RN K ρ H0 G ι μ σ H l x) : RV K ρ H0 G ι μ σ H (.lst l) x := by
  obtain ⟨a, vs, rfl, _, ng, ha, rs, hl⟩ := z
  have rs' := rs.less (G' := G) fun _ z => .inl z
  refine ⟨rs', ?_⟩
  unfold Rl
  refine ⟨a, vs, rfl, ⟨ha, fun z => ?_⟩, Rls.mono (Le.less fun _ z => Or.inl z) hl⟩
  rcases z with z | z | ⟨i, z⟩
  · exact ng z
  · exact (rs.g a (.inr rfl)).2 z
  · exact (rs.ni i a z).2 (.inr rfl)
theorem En.ev {c : m (List Pv)} (h : En X ρ e c) : Ev X ρ e (c >>= fun l => pure (.lst l)) := PE.imp h fun σ H Q q => by
  obtain ⟨G, ι, μ, v, μ', r, hr, q⟩ := q
  obtain ⟨l, μ1, h1, h2⟩ := inv_bind hr
  obtain ⟨rfl, rfl⟩ := inv_pure h2
  exact ⟨G, ι, μ, l, _, r, h1, fun x H' ι' st z => q x H' ι' st (RN.val z)⟩

/-! ### names and constants -/
theorem ev_var {i : Nat} {x : Str} {v : Pv} (h : ρ[i]? = some (.val v)) (hN : X.N[i]? = some x := by rfl) (hv : Vis X.env.scope x := by first | exact Or.inl rfl | exact Or.inr (Or.inl rfl) | exact Or.inr (Or.inr rfl))
    (hd : (x == ("__debug__" : Str)) = false := by decide) (hcd : (x == ("__classdict__" : Str)) = false := by decide) : Ev X ρ (.Name x pos) (pure v : m Pv) :=
  PE.imp (pe_var hN hv hd hcd) fun σ H Q q => by
    obtain ⟨G, ι, μ, w, μ', r, hr, q⟩ := q
    obtain ⟨rfl, rfl⟩ := inv_pure hr
    obtain ⟨x, e, z⟩ := r.slot h
    exact ⟨x, e, q x H ι .refl ⟨r, z⟩⟩

theorem ek_var {i : Nat} {x : Str} {l : List Pv} (h : ρ[i]? = some (.ml l)) (hN : X.N[i]? = some x := by rfl) (hv : Vis X.env.scope x := by first | exact Or.inl rfl | exact Or.inr (Or.inl rfl) | exact Or.inr (Or.inr rfl))
    (hd : (x == ("__debug__" : Str)) = false := by decide) (hcd : (x == ("__classdict__" : Str)) = false := by decide) : Ek X ρ (.Name x pos) (pure (.lst l) : m Pv) :=
  PE.imp (pe_var hN hv hd hcd) fun σ H Q q => by
    obtain ⟨G, ι, μ, w, μ', r, hr, q⟩ := q
    obtain ⟨rfl, rfl⟩ := inv_pure hr
    obtain ⟨a, vs, e, _⟩ := r.slotM h
    exact ⟨.ref a, e, q _ H ι .refl ⟨r, .inr ⟨i, l, rfl, h, e⟩⟩⟩
theorem ev_const {v : Pv} {x : V} (h : PE X e (tC x)) (hv : ∀ W, Rl W v x) : Ev X ρ e (pure v : m Pv) :=
  PE.imp h fun σ H Q q => by
    obtain ⟨G, ι, μ, w, μ', r, hr, q⟩ := q
    obtain ⟨rfl, rfl⟩ := inv_pure hr
    exact q _ H ι .refl ⟨r, hv _⟩
theorem Rl.int {W : Wd} {i : Int} : Rl W (.int i) (.int i) := by unfold Rl; rfl
theorem Rl.bl {W : Wd} {i : Bool} : Rl W (.bl i) (.bl i) := by unfold Rl; rfl
theorem Rl.non {W : Wd} : Rl W .non .non := by unfold Rl; rfl
theorem Rl.str {W : Wd} {i : Str} : Rl W (.str i) (.str i) := by unfold Rl; rfl
theorem ev_int {i j} : Ev X ρ (.Constant (.int i) j pos) (pure (.int i) : m Pv) := ev_const pe_int fun _ => .int
theorem ev_bl {i j} : Ev X ρ (.Constant (.bool i) j pos) (pure (.bl i) : m Pv) := ev_const pe_bl fun _ => .bl
theorem ev_non {j} : Ev X ρ (.Constant .none j pos) (pure .non : m Pv) := ev_const pe_non fun _ => .non
theorem ev_str {i j} : Ev X ρ (.Constant (.str i) j pos) (pure (.str i) : m Pv) := ev_const pe_str fun _ => .str
end

/-! ### what a value stands at -/
section
variable {K : PySem.W.Frag} {G : Addr → Prop} {ι : List Addr} {μ : List MO} {ρ : List SV} {σ : L2.St} {H H' : Hp} {x : V} {l : List Pv}
theorem Rl.intE {W : Wd} {i : Int} (h : Rl W (.int i) x) : x = .int i := by unfold Rl at h; exact h
theorem Rl.blE {W : Wd} {i : Bool} (h : Rl W (.bl i) x) : x = .bl i := by unfold Rl at h; exact h
theorem Rl.nonE {W : Wd} (h : Rl W .non x) : x = .non := by unfold Rl at h; exact h
theorem Rl.strE {W : Wd} {i : Str} (h : Rl W (.str i) x) : x = .str i := by unfold Rl at h; exact h
theorem Rl.tupE {W : Wd} (h : Rl W (.tup l) x) : ∃ a vs, x = .ref a ∧ SqT W.K W.H a vs ∧ Rls W l vs := by
  unfold Rl at h
  obtain ⟨a, vs, e, h1, h2⟩ := h
  exact ⟨a, vs, e, SqT.of h1.1, h2⟩
theorem Rl.tupH {W : Wd} (h : Rl W (.tup l) x) : ∃ a vs, x = .ref a ∧ W.H a = some (.tup vs) ∧ Rls W l vs := by
  unfold Rl at h
  obtain ⟨a, vs, e, h1, h2⟩ := h
  exact ⟨a, vs, e, h1.1, h2⟩
theorem Rl.lstE {W : Wd} (h : Rl W (.lst l) x) : ∃ a vs, x = .ref a ∧ W.H a = some (.lst vs) ∧ Rls W l vs := by
  unfold Rl at h
  obtain ⟨a, vs, e, h1, h2⟩ := h
  exact ⟨a, vs, e, h1.1, h2⟩
theorem Rl.scrE {W : Wd} {ns : List Int} (h : Rl W (.scr ns) x) : ∃ a, x = .ref a ∧ SqL W.K W.H a (ns.map V.int) := by
  unfold Rl at h
  obtain ⟨a, e, h1⟩ := h
  exact ⟨a, e, h1.elim (fun ⟨o, z, _⟩ => .inl (.inr ⟨o, z⟩)) fun z => .inr z⟩
theorem Rk.rl {W : Wd} {v : Pv} (h : Rk W ρ σ v x) (hv : ∀ l, v ≠ .lst l) : Rl W v x := by
  rcases h with h | ⟨i, l, e, _⟩
  · exact h
  · exact (hv l e).elim
theorem Rk.intE {W : Wd} {i : Int} (h : Rk W ρ σ (.int i) x) : x = .int i := (h.rl fun _ z => nomatch z).intE
theorem Rk.blE {W : Wd} {i : Bool} (h : Rk W ρ σ (.bl i) x) : x = .bl i := (h.rl fun _ z => nomatch z).blE
theorem Rk.nonE {W : Wd} (h : Rk W ρ σ .non x) : x = .non := (h.rl fun _ z => nomatch z).nonE
theorem Rk.strE {W : Wd} {i : Str} (h : Rk W ρ σ (.str i) x) : x = .str i := (h.rl fun _ z => nomatch z).strE
theorem Rk.tupE {W : Wd} (h : Rk W ρ σ (.tup l) x) : ∃ a vs, x = .ref a ∧ SqT W.K W.H a vs ∧ Rls W l vs := (h.rl fun _ z => nomatch z).tupE
theorem Rk.scrE {W : Wd} {ns : List Int} (h : Rk W ρ σ (.scr ns) x) : ∃ a, x = .ref a ∧ SqL W.K W.H a (ns.map V.int) := (h.rl fun _ z => nomatch z).scrE
theorem Rk.lstE (r : RS K G ι μ ρ σ H) (h : Rk (wd K G ι ρ σ H) ρ σ (.lst l) x) : ∃ a vs, x = .ref a ∧ H a = some (.lst vs) ∧ Rls (wd K G ι ρ σ H) l vs := by
  rcases h with h | ⟨i, l', e, h1, h2⟩
  · exact h.lstE
  · cases e
    obtain ⟨a, vs, e, _, h3, h4⟩ := r.slotM h1
    rw [h2] at e; cases e
    exact ⟨a, vs, rfl, h3, h4⟩
theorem Rl.mono' {v : Pv} (h : Rl (wd K G ι ρ σ H) v x) (s : Same H H') : Rl (wd K G ι ρ σ H') v x := h.mono (Step.same s fun _ h => h).le
theorem Rk.mono {W W' : Wd} {v : Pv} (q : Le W W') (h : Rk W ρ σ v x) : Rk W' ρ σ v x := h.imp (Rl.mono q) id
/-- a new tuple -/
theorem RS.newTup (r : RS K G ι μ ρ σ H) {p : Addr} {vs : List V} (hp : H p = none) (h : Rls (wd K G ι ρ σ H) l vs) : Rl (wd K G ι ρ σ (upd H p (.tup vs))) (.tup l) (.ref p) := by
  unfold Rl
  refine ⟨p, vs, rfl, ⟨upd_same, fun z => ?_⟩, h.mono (Step.same (same_upd hp) fun _ h => h).le⟩
  obtain ⟨o, q⟩ := r.tracked (a := p) z
  rw [hp] at q; cases q
theorem Le.alloc {p : Addr} {u : HO} (hp : H p = none) : Le (wd K G ι ρ σ H) (wd K (fun b => G b ∨ b = p) ι ρ σ (upd H p u)) :=
  ⟨rfl, fun _ _ h => h, fun a o h k => by
    have na : a ≠ p := ne_of_none h hp
    refine ⟨by show upd H p _ a = _; rw [upd_ne na]; exact h, fun z => k ?_⟩
    rcases z with (z | z) | z
    · exact .inl z
    · exact (na z).elim
    · exact .inr z⟩
theorem RS.newLst (r : RS K G ι μ ρ σ H) {p : Addr} {vs : List V} (hp : H p = none) (h : Rls (wd K G ι ρ σ H) l vs) : RN K ρ H G ι μ σ (upd H p (.lst vs)) l (.ref p) := by
  refine ⟨p, vs, rfl, hp, fun z => ?_, upd_same, r.alloc hp, h.mono (Le.alloc hp)⟩
  obtain ⟨o, q⟩ := r.tracked (a := p) (.inl z)
  rw [hp] at q; cases q
theorem RS.newLstV (r : RS K G ι μ ρ σ H) {p : Addr} {vs : List V} (hp : H p = none) (h : Rls (wd K G ι ρ σ H) l vs) : Rl (wd K G ι ρ σ (upd H p (.lst vs))) (.lst l) (.ref p) := (RN.val (r.newLst hp h)).2
end

/-! ### operators -/
def b2 {m : Type → Type} [Monad m] [Eff m] {α : Type} (g : Pv → Pv → Option α) (x y : m Pv) : m α := x >>= fun a => y >>= fun b => Eff.lift (g a b)
def b1 {m : Type → Type} [Monad m] [Eff m] {α : Type} (g : Pv → Option α) (x : m Pv) : m α := x >>= fun a => Eff.lift (g a)
/-- two values and an operator: its value is an old one, or a new object's -/
def rB (K : PySem.W.Frag) (g : Pv → Pv → Option Pv) : R2 := fun x y H Q => ∃ G ι μ ρ σ vx vy v, RS K G ι μ ρ σ H ∧ Rk (wd K G ι ρ σ H) ρ σ vx x ∧ Rk (wd K G ι ρ σ H) ρ σ vy y ∧ g vx vy = some v ∧
  ∀ z H', Same H H' → Rl (wd K G ι ρ σ H') v z → Q z H'
def rBn (K : PySem.W.Frag) (g : Pv → Pv → Option (List Pv)) : R2 := fun x y H Q => ∃ G ι μ ρ σ vx vy v, RS K G ι μ ρ σ H ∧ Rk (wd K G ι ρ σ H) ρ σ vx x ∧ Rk (wd K G ι ρ σ H) ρ σ vy y ∧ g vx vy = some v ∧
  ∀ z H', Same H H' → RN K ρ H G ι μ σ H' v z → Q z H'
section
variable {X : Cx} {ρ : List SV} {m : Type → Type} [Monad m] [Eff m] {e a b : Expr} {pos : Pos} {op : Operator} {cop : CmpOp} {ca cb : m Pv}
theorem tG_b2 {α : Type} {R : RelT α} [Back X.K ρ R] {g : Pv → Pv → Option α} {σ : L2.St} {H : Hp} {Q : VK} {r : R2} (q : tG X.K ρ R (b2 g ca cb) σ H Q)
    (k : ∀ G ι μ H x y vx vy v Q', RS X.K G ι μ ρ σ H → Rk (wd X.K G ι ρ σ H) ρ σ vx x → Rk (wd X.K G ι ρ σ H) ρ σ vy y → g vx vy = some v → (∀ z H', Same H H' → R H G ι μ σ H' v z → Q' z H') → r x y H Q') :
    tOp r (tG X.K ρ (RK X.K ρ) ca) (tG X.K ρ (RK X.K ρ) cb) σ H Q := by
  obtain ⟨G, ι, μ, v, μ', rs, hr, q⟩ := q
  obtain ⟨va, μ1, h1, h2⟩ := inv_bind hr
  obtain ⟨vb, μ2, h3, h4⟩ := inv_bind h2
  obtain ⟨h5, rfl⟩ := inv_lift h4
  refine ⟨G, ι, μ, va, μ1, rs, h1, fun x H1 ι1 st1 z1 => ⟨G, ι1, μ1, vb, _, z1.1, h3, fun y H2 ι2 st2 z2 => ?_⟩⟩
  exact k G ι2 _ H2 x y va vb v Q z2.1 (z1.2.mono st2.le) z2.2 h5 fun z H' s hz => q z H' ι2 (st1.trans (st2.trans (Step.same s fun _ h => h))) (Back.back rs z2.1 (st1.trans st2) hz)
theorem ev_bin {g : Pv → Pv → Option Pv} (ho : OpR X (binaryOp op) (rB X.K g)) (ha : Ek X ρ a ca) (hb : Ek X ρ b cb) : Ev X ρ (.BinOp a op b pos) (b2 g ca cb) :=
  PE.imp (pe_op ho ha hb) fun σ H Q q => tG_b2 q fun G ι μ H x y vx vy v Q' rs rx ry hg h => ⟨G, ι, μ, ρ, σ, vx, vy, v, rs, rx, ry, hg, fun z H' s hz => h z H' s ⟨rs.same s, hz⟩⟩
theorem en_bin {g : Pv → Pv → Option (List Pv)} (ho : OpR X (binaryOp op) (rBn X.K g)) (ha : Ek X ρ a ca) (hb : Ek X ρ b cb) : En X ρ (.BinOp a op b pos) (b2 g ca cb) :=
  PE.imp (pe_op ho ha hb) fun σ H Q q => tG_b2 q fun G ι μ H x y vx vy v Q' rs rx ry hg h => ⟨G, ι, μ, ρ, σ, vx, vy, v, rs, rx, ry, hg, h⟩
theorem ev_cmp {g : Pv → Pv → Option Pv} (ho : OpR X (compareOp cop) (rB X.K g)) (ha : Ek X ρ a ca) (hb : Ek X ρ b cb) (hm : behindInMarks cop b = false := by rfl) : Ev X ρ (.Compare a [cop] [b] pos) (b2 g ca cb) :=
  PE.imp (pe_cmpR ho ha hb hm) fun σ H Q q => tG_b2 q fun G ι μ H x y vx vy v Q' rs rx ry hg h => ⟨G, ι, μ, ρ, σ, vx, vy, v, rs, rx, ry, hg, fun z H' s hz => h z H' s ⟨rs.same s, hz⟩⟩
def asB : Pv → Option Bool
  | .bl b => some b
  | _ => none
theorem et_of {c : m Pv} (h : Ev X ρ e c) (he : ∀ whole, isTrue e X.env whole = (do let v ← whole; standAt e.pos; holding [v] (truthy v)) := by intro _; rfl) : Et X ρ e (b1 asB c) :=
  PT.imp (pt_val h he) fun σ H Q q => by
    obtain ⟨G, ι, μ, v, μ', rs, hr, q⟩ := q
    obtain ⟨va, μ1, h1, h2⟩ := inv_bind hr
    obtain ⟨h5, rfl⟩ := inv_lift h2
    refine ⟨G, ι, μ, va, _, rs, h1, fun x H1 ι1 st1 z1 => ?_⟩
    cases va <;> simp only [asB, Option.some.injEq, reduceCtorEq] at h5
    subst h5
    exact ⟨_, z1.2.blE, q H1 ι1 st1 z1.1⟩
theorem et_cmp {g : Pv → Pv → Option Pv} (ho : OpR X (compareOp cop) (rB X.K g)) (ha : Ek X ρ a ca) (hb : Ek X ρ b cb) (hm : behindInMarks cop b = false := by rfl) : Et X ρ (.Compare a [cop] [b] pos) (b1 asB (b2 g ca cb)) :=
  PT.imp (pt_cmpR ho ha hb hm) fun σ H Q q => by
    obtain ⟨G, ι, μ, v, μ', rs, hr, q⟩ := q
    obtain ⟨va, μ1, h1, h2⟩ := inv_bind hr
    obtain ⟨h5, rfl⟩ := inv_lift h2
    refine tG_b2 (R := RV X.K ρ) ⟨G, ι, μ, va, _, rs, h1, fun x H1 ι1 st1 z1 => ?_⟩ fun G ι μ H x y vx vy v Q' rs rx ry hg h => ⟨G, ι, μ, ρ, σ, vx, vy, v, rs, rx, ry, hg, fun z H' s hz => h z H' s ⟨rs.same s, hz⟩⟩
    cases va <;> simp only [asB, Option.some.injEq, reduceCtorEq] at h5
    subst h5
    exact ⟨_, z1.2.blE, q H1 ι1 st1 z1.1⟩

/-! ### tests -/
theorem et_not {c : m Bool} (h : Et X ρ e c) : Et X ρ (.UnaryOp .Not e pos) (c >>= fun b => pure (!b)) :=
  PT.imp (pt_not h) fun σ H Q q => by
    obtain ⟨G, ι, μ, v, μ', rs, hr, q⟩ := q
    obtain ⟨va, μ1, h1, h2⟩ := inv_bind hr
    obtain ⟨rfl, rfl⟩ := inv_pure h2
    exact ⟨G, ι, μ, va, _, rs, h1, q⟩
def tAndM (x y : m Bool) : m Bool := x >>= fun b => if b = true then y else pure false
def tOrM (x y : m Bool) : m Bool := x >>= fun b => if b = true then pure true else y
theorem tGt_ite {c d : m Bool} {σ : L2.St} {H : Hp} {Q : Bool → Hp → Prop} {k : Bool → m Bool} (q : tGt X.K ρ (c >>= k) σ H Q) :
    tGt X.K ρ c σ H fun b H1 => tGt X.K ρ (k b) σ H1 Q := by
  obtain ⟨G, ι, μ, v, μ', rs, hr, q⟩ := q
  obtain ⟨va, μ1, h1, h2⟩ := inv_bind hr
  exact ⟨G, ι, μ, va, μ1, rs, h1, fun H1 ι1 st1 z1 => ⟨G, ι1, μ1, v, μ', z1, h2, fun H2 ι2 st2 z2 => q H2 ι2 (st1.trans st2) z2⟩⟩
theorem tGt_pure {b : Bool} {σ : L2.St} {H : Hp} {Q : Bool → Hp → Prop} (q : tGt X.K ρ (pure b : m Bool) σ H Q) : Q b H := by
  obtain ⟨G, ι, μ, v, μ', rs, hr, q⟩ := q
  obtain ⟨rfl, rfl⟩ := inv_pure hr
  exact q H ι .refl rs
variable {rest : List Expr}
theorem ew_and1 {c : m Bool} (h : Et X ρ a c) : Ew X ρ (.BoolOp .And [a] pos) c := pw_and1 h
theorem ew_or1 {c : m Bool} (h : Et X ρ a c) : Ew X ρ (.BoolOp .Or [a] pos) c := pw_or1 h
theorem PT_mono {e : Expr} {c : m Bool} {σ : L2.St} {H : Hp} {Q Q' : Bool → Hp → Prop} (h : tGt X.K ρ c σ H Q) (k : ∀ b H, Q b H → Q' b H) : tGt X.K ρ c σ H Q' := by
  obtain ⟨G, ι, μ, v, μ', rs, hr, q⟩ := h
  exact ⟨G, ι, μ, v, μ', rs, hr, fun H' ι' st z => k _ _ (q H' ι' st z)⟩
theorem ew_and {c d : m Bool} (h : Et X ρ a c) (k : Ew X ρ (.BoolOp .And (b :: rest) pos) d) : Ew X ρ (.BoolOp .And (a :: b :: rest) pos) (tAndM c d) :=
  PW.imp (pw_and h k) fun σ H Q q => PT_mono (e := a) (tGt_ite (d := d) q) fun b H1 q => by
    cases b
    · exact tGt_pure (m := m) (ρ := ρ) (X := X) q
    · exact q
theorem ew_or {c d : m Bool} (h : Et X ρ a c) (k : Ew X ρ (.BoolOp .Or (b :: rest) pos) d) : Ew X ρ (.BoolOp .Or (a :: b :: rest) pos) (tOrM c d) :=
  PW.imp (pw_or h k) fun σ H Q q => PT_mono (e := a) (tGt_ite (d := d) q) fun b H1 q => by
    cases b
    · exact q
    · exact tGt_pure (m := m) (ρ := ρ) (X := X) q
theorem Ew.et {c : m Bool} (h : Ew X ρ e c) : Et X ρ e c := h.pt
/-- a if t else b -/
def iteM {α : Type} (c : m Bool) (x y : m α) : m α := c >>= fun b => if b = true then x else y
theorem tG_ite {α : Type} {R : RelT α} [Back X.K ρ R] {c : m Bool} {k : Bool → m α} {σ : L2.St} {H : Hp} {Q : VK} (q : tG X.K ρ R (c >>= k) σ H Q) : tGt X.K ρ c σ H fun b H1 => tG X.K ρ R (k b) σ H1 Q := by
  obtain ⟨G, ι, μ, v, μ', rs, hr, q⟩ := q
  obtain ⟨va, μ1, h1, h2⟩ := inv_bind hr
  exact ⟨G, ι, μ, va, μ1, rs, h1, fun H1 ι1 st1 z1 => ⟨G, ι1, μ1, v, μ', z1, h2, fun x H2 ι2 st2 z2 => q x H2 ι2 (st1.trans st2) (Back.back rs z1 st1 z2)⟩⟩
theorem pe_iteG {α : Type} {R : RelT α} [Back X.K ρ R] {c : m Bool} {x y : m α} {t : Expr} (hc : Et X ρ t c) (ha : PE X a (tG X.K ρ R x)) (hb : PE X b (tG X.K ρ R y)) : PE X (.IfExp t a b pos) (tG X.K ρ R (iteM c x y)) :=
  PE.imp (pe_ifExp hc ha hb) fun σ H Q q => PT_mono (e := a) (tG_ite q) fun b H1 q => by
    cases b
    · exact q
    · exact q
theorem ev_ite {c : m Bool} {x y : m Pv} {t : Expr} (hc : Et X ρ t c) (ha : Ev X ρ a x) (hb : Ev X ρ b y) : Ev X ρ (.IfExp t a b pos) (iteM c x y) := pe_iteG hc ha hb
theorem en_ite {c : m Bool} {x y : m (List Pv)} {t : Expr} (hc : Et X ρ t c) (ha : En X ρ a x) (hb : En X ρ b y) : En X ρ (.IfExp t a b pos) (iteM c x y) := pe_iteG hc ha hb
end
end Q
/-! L3: the operators by values. -/
namespace Q
open PySem PySem.Spec PyProof.Rows L2

def LIM : Nat := 1000000
theorem lim_le {n : Nat} (h : n ≤ LIM) : n ≤ sizeLine := by rw [sizeLine_eq]; unfold LIM at h; omega

/-! ### equality -/
mutual
def toD : Pv → PyData
  | .non => .none
  | .bl b => .bool b
  | .int i => .int i
  | .str s => .str s
  | .tup l => .tuple (toDs l)
  | .lst l => .list (toDs l)
  | .loc _ => .none
  | .scr _ => .none
def toDs : List Pv → List PyData
  | [] => []
  | v :: l => toD v :: toDs l
end
/-- data without places of the store, at most n deep -/
def okN : Nat → Pv → Bool
  | _, .non => true
  | _, .bl _ => true
  | _, .int _ => true
  | _, .str s => PyData.strOk s
  | _, .loc _ => false
  | _, .scr _ => false
  | 0, .tup _ => false
  | 0, .lst _ => false
  | n + 1, .tup l => l.all (okN n)
  | n + 1, .lst l => l.all (okN n)
def okE (v : Pv) : Bool := okN 60 v
def peq (a b : Pv) : Bool := PyData.eqv (toD a) (toD b)
theorem dep_all {n : Nat} : ∀ {l : List Pv}, (∀ v ∈ l, (toD v).canLay0 = true ∧ (toD v).depth ≤ n) → PyData.canLayAll0 (toDs l) = true ∧ PyData.depthAll (toDs l) ≤ n
  | [], _ => by unfold toDs; exact ⟨rfl, Nat.zero_le _⟩
  | v :: l, h => by
    unfold toDs PyData.canLayAll0 PyData.depthAll
    obtain ⟨h1, h2⟩ := h v List.mem_cons_self
    obtain ⟨h3, h4⟩ := dep_all fun u hu => h u (List.mem_cons_of_mem _ hu)
    exact ⟨by rw [h1, h3]; rfl, Nat.max_le.mpr ⟨h2, h4⟩⟩
theorem okN_dep : ∀ (n : Nat) (v : Pv), okN n v = true → (toD v).canLay0 = true ∧ (toD v).depth ≤ n
  | _, .non, _ => by unfold toD; exact ⟨rfl, Nat.zero_le _⟩
  | _, .bl _, _ => by unfold toD; exact ⟨rfl, Nat.zero_le _⟩
  | _, .int _, _ => by unfold toD; exact ⟨rfl, Nat.zero_le _⟩
  | n, .str s, h => by
    unfold toD
    refine ⟨?_, Nat.zero_le _⟩
    unfold PyData.canLay0
    cases n <;> simpa [okN] using h
  | n, .loc _, h => by cases n <;> simp [okN] at h
  | n, .scr _, h => by cases n <;> simp [okN] at h
  | 0, .tup _, h => by simp [okN] at h
  | 0, .lst _, h => by simp [okN] at h
  | n + 1, .tup l, h => by
    unfold okN at h
    obtain ⟨h1, h2⟩ := dep_all (n := n) (l := l) fun v hv => okN_dep n v (List.all_eq_true.mp h v hv)
    unfold toD PyData.canLay0 PyData.depth
    exact ⟨h1, Nat.succ_le_succ h2⟩
  | n + 1, .lst l, h => by
    unfold okN at h
    obtain ⟨h1, h2⟩ := dep_all (n := n) (l := l) fun v hv => okN_dep n v (List.all_eq_true.mp h v hv)
    unfold toD PyData.canLay0 PyData.depth
    exact ⟨h1, Nat.succ_le_succ h2⟩
theorem okE_shaped {v : Pv} (h : okE v = true) : SeqAt.shaped (toD v) = true := by
  obtain ⟨h1, h2⟩ := okN_dep 60 v h
  unfold SeqAt.shaped
  rw [h1, Bool.true_and]
  exact decide_eq_true (by omega)
section
variable {W : Wd}
theorem dps_of : ∀ {l : List Pv} {vs : List V}, (∀ v ∈ l, ∀ x, Rl W v x → Dp W.K W.H x (toD v)) → Rls W l vs → DpAll W.K W.H vs (toDs l)
  | [], _, _, h => by unfold Rls at h; subst h; unfold toDs; exact .nil
  | v :: l, _, k, h => by
    obtain ⟨x, r, rfl, h1, h2⟩ := h.inv_cons
    unfold toDs
    exact .cons (k v List.mem_cons_self x h1) (dps_of (fun u hu => k u (List.mem_cons_of_mem _ hu)) h2)
theorem dp_of : ∀ (n : Nat) (v : Pv) (x : V), okN n v = true → Rl W v x → Dp W.K W.H x (toD v)
  | _, .non, _, _, r => by rw [r.nonE]; unfold toD; exact .non
  | _, .bl b, _, _, r => by rw [r.blE]; unfold toD; exact .bl b
  | _, .int i, _, _, r => by rw [r.intE]; unfold toD; exact .int i
  | _, .str s, _, _, r => by rw [r.strE]; unfold toD; exact .str s
  | n, .loc _, _, h, _ => by cases n <;> simp [okN] at h
  | n, .scr _, _, h, _ => by cases n <;> simp [okN] at h
  | 0, .tup _, _, h, _ => by simp [okN] at h
  | 0, .lst _, _, h, _ => by simp [okN] at h
  | n + 1, .tup l, _, h, r => by
    unfold okN at h
    obtain ⟨a, vs, rfl, h1, h2⟩ := r.tupE
    unfold toD
    exact .tup h1 (dps_of (fun v hv x hx => dp_of n v x (List.all_eq_true.mp h v hv) hx) h2)
  | n + 1, .lst l, _, h, r => by
    unfold okN at h
    obtain ⟨a, vs, rfl, h1, h2⟩ := r.lstE
    unfold toD
    exact .lst (.of h1) (dps_of (fun v hv x hx => dp_of n v x (List.all_eq_true.mp h v hv) hx) h2)
end
section
variable {K : PySem.W.Frag} {G : Addr → Prop} {ι : List Addr} {μ : List MO} {ρ : List SV} {σ : L2.St} {H H' : Hp} {x : V}
theorem Rk.dp {v : Pv} (r : RS K G ι μ ρ σ H) (h : okE v = true) (k : Rk (wd K G ι ρ σ H) ρ σ v x) : Dp K H x (toD v) := by
  by_cases e : ∃ l, v = .lst l
  · obtain ⟨l, rfl⟩ := e
    obtain ⟨a, vs, rfl, h1, h2⟩ := k.lstE r
    unfold toD
    exact .lst (.of h1) (dps_of (fun v hv x hx => dp_of 59 v x (List.all_eq_true.mp (show (l.all (okN 59)) = true from h) v hv) hx) h2)
  · exact dp_of 60 v x h (k.rl fun l z => e ⟨l, z⟩)
end

/-! ### operators -/
def mulOk (i j : Int) : Bool := decide (i.natAbs < 2 ^ 64) || decide (j.natAbs < 2 ^ 64) || decide (i.natAbs.log2 + j.natAbs.log2 < 1000000)
def pAdd : Pv → Pv → Option Pv
  | .int i, .int j => some (.int (i + j))
  | .tup a, .tup b => if a.length + b.length ≤ LIM then some (.tup (a ++ b)) else none
  | .lst a, .lst b => if a.length + b.length ≤ LIM then some (.lst (a ++ b)) else none
  | _, _ => none
def pCat : Pv → Pv → Option (List Pv)
  | .lst a, .lst b => if a.length + b.length ≤ LIM then some (a ++ b) else none
  | _, _ => none
def pSub : Pv → Pv → Option Pv
  | .int i, .int j => some (.int (i - j))
  | _, _ => none
def pMul : Pv → Pv → Option Pv
  | .int i, .int j => if mulOk i j then some (.int (i * j)) else none
  | _, _ => none
/-- a list many times -/
def pRep : Pv → Pv → Option (List Pv)
  | .lst a, .int k => if k ≤ 1000000 ∧ -1000000 ≤ k ∧ a.length * k.toNat ≤ LIM then some (List.replicate k.toNat a).flatten else none
  | _, _ => none
def pDiv : Pv → Pv → Option Pv
  | .int i, .int j => if 0 < j ∧ j.natAbs.log2 < 9000 then some (.int (i / j)) else if j ≠ 0 ∧ j.natAbs.log2 < 9000 then some (.int (i.fdiv j)) else none
  | _, _ => none
def pMod : Pv → Pv → Option Pv
  | .int i, .int j => if 0 < j then some (.int (i % j)) else if j ≠ 0 then some (.int (i.fmod j)) else none
  | _, _ => none
def pEq (a b : Pv) : Option Pv := if okE a && okE b then some (.bl (peq a b)) else none
def pNe (a b : Pv) : Option Pv := if okE a && okE b then some (.bl (!peq a b)) else none
def pCmp (f : Int → Int → Bool) : Pv → Pv → Option Pv
  | .int i, .int j => some (.bl (f i j))
  | _, _ => none
def pIn (a : Pv) : Pv → Option Pv
  | .tup l => if okE a && okE (.tup l) then some (.bl (l.any fun z => peq z a)) else none
  | .lst l => if okE a && okE (.lst l) then some (.bl (l.any fun z => peq z a)) else none
  | _ => none
def pNotIn (a : Pv) (b : Pv) : Option Pv := match pIn a b with
  | some (.bl k) => some (.bl (!k))
  | _ => none
def pNeg : Pv → Option Pv
  | .int i => some (.int (-i))
  | _ => none

section
variable {X : Cx}
theorem Same.upd {H : Hp} {p : Addr} {o : HO} (h : H p = none) : Same H (upd H p o) := same_upd h
/-- ints alone -/
theorem okb_int {op : Value → Value → Sem Value} {C : Int → Int → Prop} {g : Int → Int → V} {f : Pv → Pv → Option Pv} (h : OpR X op (rI C g))
    (hf : ∀ x y v, f x y = some v → ∃ i j, x = .int i ∧ y = .int j ∧ C i j ∧ ∀ W, Rl W v (g i j)) : OpR X op (rB X.K f) :=
  OpR.imp h fun x y H Q q => by
    obtain ⟨G, ι, μ, ρ, σ, vx, vy, v, rs, rx, ry, e, k⟩ := q
    obtain ⟨i, j, rfl, rfl, c, r⟩ := hf _ _ _ e
    exact ⟨i, j, rx.intE, ry.intE, c, k _ H (Same.refl H) (r _)⟩
theorem okb_int0 {op : Value → Value → Sem Value} {g : Int → Int → V} {f : Pv → Pv → Option Pv} (h : OpR X op (rI0 g))
    (hf : ∀ x y v, f x y = some v → ∃ i j, x = .int i ∧ y = .int j ∧ ∀ W, Rl W v (g i j)) : OpR X op (rB X.K f) :=
  OpR.imp h fun x y H Q q => by
    obtain ⟨G, ι, μ, ρ, σ, vx, vy, v, rs, rx, ry, e, k⟩ := q
    obtain ⟨i, j, rfl, rfl, r⟩ := hf _ _ _ e
    exact ⟨i, j, rx.intE, ry.intE, k _ H (Same.refl H) (r _)⟩
theorem ob_sub : OpR X (binaryOp .Sub) (rB X.K pSub) := okb_int0 op_sub fun x y v e => by
  unfold pSub at e
  split at e
  · cases e; exact ⟨_, _, rfl, rfl, fun _ => .int⟩
  · cases e
theorem mulOk_ok {i j : Int} (h : mulOk i j = true) : CMul i j ∨ CMulW i j := by
  unfold mulOk at h
  simp only [Bool.or_eq_true, decide_eq_true_eq] at h
  rcases h with (h | h) | h
  · exact .inl (.inl ⟨by omega, by omega⟩)
  · exact .inl (.inr ⟨by omega, by omega⟩)
  · exact .inr h
theorem ob_mul : OpR X (binaryOp .Mult) (rB X.K pMul) := OpR.imp (op_mul.or op_mulW) fun x y H Q q => by
  obtain ⟨G, ι, μ, ρ, σ, vx, vy, v, rs, rx, ry, e, k⟩ := q
  unfold pMul at e
  split at e
  · split at e
    · rename_i i j hm
      cases e
      rcases mulOk_ok hm with c | c
      · exact .inl ⟨_, _, rx.intE, ry.intE, c, k _ H (Same.refl H) .int⟩
      · exact .inr ⟨_, _, rx.intE, ry.intE, c, k _ H (Same.refl H) .int⟩
    · cases e
  · cases e
theorem op_fdivX : OpR X (binaryOp .FloorDiv) (rI (fun _ j => j ≠ 0 ∧ j.natAbs.log2 < 9000) fun i j => .int (i.fdiv j)) := opI fun i j _ _ _ _ _ hc q => floordiv_int hc.1 q (.inl (PyProof.noPylong_of_log2 hc.2))
theorem ob_div : OpR X (binaryOp .FloorDiv) (rB X.K pDiv) := OpR.imp (op_fdivW.or op_fdivX) fun x y H Q q => by
  obtain ⟨G, ι, μ, ρ, σ, vx, vy, v, rs, rx, ry, e, k⟩ := q
  unfold pDiv at e
  split at e
  · split at e
    · rename_i i j hm
      cases e
      exact .inl ⟨_, _, rx.intE, ry.intE, hm, k _ H (Same.refl H) .int⟩
    · split at e
      · rename_i i j _ hm
        cases e
        exact .inr ⟨_, _, rx.intE, ry.intE, hm, k _ H (Same.refl H) .int⟩
      · cases e
  · cases e
theorem ob_mod : OpR X (binaryOp .Mod) (rB X.K pMod) := OpR.imp (op_mod.or op_modN) fun x y H Q q => by
  obtain ⟨G, ι, μ, ρ, σ, vx, vy, v, rs, rx, ry, e, k⟩ := q
  unfold pMod at e
  split at e
  · split at e
    · rename_i i j hm
      cases e
      exact .inl ⟨_, _, rx.intE, ry.intE, hm, k _ H (Same.refl H) .int⟩
    · split at e
      · rename_i i j _ hm
        cases e
        exact .inr ⟨_, _, rx.intE, ry.intE, hm, k _ H (Same.refl H) .int⟩
      · cases e
  · cases e
theorem nil_of_len {W : Wd} {l : List Pv} {vs : List V} (h : Rls W l vs) : vs = [] ↔ l = [] := by
  cases l with
  | nil => rw [h.inv_nil]; simp
  | cons v l => obtain ⟨x, r, rfl, _⟩ := h.inv_cons; simp
theorem ob_add : OpR X (binaryOp .Add) (rB X.K pAdd) := OpR.imp (op_add.or (op_catA.or op_cat)) fun x y H Q q => by
  obtain ⟨G, ι, μ, ρ, σ, vx, vy, v, rs, rx, ry, e, k⟩ := q
  unfold pAdd at e
  split at e
  · cases e
    exact .inl ⟨_, _, rx.intE, ry.intE, k _ H (Same.refl H) .int⟩
  · split at e
    · rename_i l m hz
      cases e
      have rx0 := rx.rl (fun _ z => nomatch z)
      have ry0 := ry.rl (fun _ z => nomatch z)
      obtain ⟨a, xs, rfl, hx, tx⟩ := rx.tupE
      obtain ⟨b, ys, rfl, hy, ty⟩ := ry.tupE
      refine .inr (.inl ⟨a, b, xs, ys, rfl, rfl, hx, hy, lim_le (by rw [← tx.length, ← ty.length]; exact hz), fun e1 => ?_, fun e1 e2 => ?_, fun _ _ p hp => ?_⟩)
      · have e3 := (nil_of_len tx).mp e1
        subst e3
        exact k _ H (Same.refl H) ry0
      · have e3 := (nil_of_len ty).mp e2
        subst e3
        rw [List.append_nil] at k
        exact k _ H (Same.refl H) rx0
      · exact k _ _ (same_upd hp) (rs.newTup hp (tx.append ty))
    · cases e
  · split at e
    · rename_i l m hz
      cases e
      obtain ⟨a, xs, rfl, hx, tx⟩ := rx.lstE rs
      obtain ⟨b, ys, rfl, hy, ty⟩ := ry.lstE rs
      exact .inr (.inr ⟨a, b, xs, ys, rfl, rfl, hx, hy, lim_le (by rw [← tx.length, ← ty.length]; exact hz), fun p hp => k _ _ (same_upd hp) (rs.newLstV hp (tx.append ty))⟩)
    · cases e
  · cases e
theorem ob_cat : OpR X (binaryOp .Add) (rBn X.K pCat) := OpR.imp op_cat fun x y H Q q => by
  obtain ⟨G, ι, μ, ρ, σ, vx, vy, v, rs, rx, ry, e, k⟩ := q
  unfold pCat at e
  split at e
  · split at e
    · rename_i l m hz
      cases e
      obtain ⟨a, xs, rfl, hx, tx⟩ := rx.lstE rs
      obtain ⟨b, ys, rfl, hy, ty⟩ := ry.lstE rs
      exact ⟨a, b, xs, ys, rfl, rfl, hx, hy, lim_le (by rw [← tx.length, ← ty.length]; exact hz), fun p hp => k _ _ (same_upd hp) (rs.newLst hp (tx.append ty))⟩
    · cases e
  · cases e
theorem Rls.rep {W : Wd} {l : List Pv} {xs : List V} (h : Rls W l xs) : ∀ k : Nat, Rls W (List.replicate k l).flatten (List.replicate k xs).flatten
  | 0 => Rls.nil
  | k + 1 => by rw [List.replicate_succ, List.replicate_succ, List.flatten_cons, List.flatten_cons]; exact h.append (Rls.rep h k)
theorem ob_rep : OpR X (binaryOp .Mult) (rBn X.K pRep) := OpR.imp op_rep fun x y H Q q => by
  obtain ⟨G, ι, μ, ρ, σ, vx, vy, v, rs, rx, ry, e, k⟩ := q
  unfold pRep at e
  split at e
  · split at e
    · rename_i l m hz
      cases e
      obtain ⟨a, xs, rfl, hx, tx⟩ := rx.lstE rs
      refine ⟨a, _, xs, rfl, ry.intE, hx, by omega, by omega, lim_le (by rw [← tx.length]; exact hz.2.2), fun p hp => k _ _ (same_upd hp) (rs.newLst hp (tx.rep _))⟩
    · cases e
  · cases e
theorem oc_int {c : CmpOp} {f : Int → Int → Bool} (h : OpR X (compareOp c) (rI0 fun i j => .bl (f i j))) : OpR X (compareOp c) (rB X.K (pCmp f)) := okb_int0 h fun x y v e => by
  unfold pCmp at e
  split at e
  · cases e; exact ⟨_, _, rfl, rfl, fun _ => .bl⟩
  · cases e
def fLt (i j : Int) : Bool := decide (i < j)
def fLe (i j : Int) : Bool := decide (i ≤ j)
def fGt (i j : Int) : Bool := decide (j < i)
def fGe (i j : Int) : Bool := decide (j ≤ i)
theorem oc_lt : OpR X (compareOp .Lt) (rB X.K (pCmp fLt)) := oc_int op_lt
theorem oc_le : OpR X (compareOp .LtE) (rB X.K (pCmp fLe)) := oc_int op_le
theorem oc_gt : OpR X (compareOp .Gt) (rB X.K (pCmp fGt)) := oc_int op_gt
theorem oc_ge : OpR X (compareOp .GtE) (rB X.K (pCmp fGe)) := oc_int op_ge
theorem oc_eq (hu : X.A.units + 64 < cLine) : OpR X (compareOp .Eq) (rB X.K pEq) := OpR.imp (op_eqD hu) fun x y H Q q => by
  obtain ⟨G, ι, μ, ρ, σ, vx, vy, v, rs, rx, ry, e, k⟩ := q
  unfold pEq at e
  split at e
  · rename_i hb
    rw [Bool.and_eq_true] at hb
    cases e
    exact ⟨_, _, rx.dp rs hb.1, ry.dp rs hb.2, okE_shaped hb.1, okE_shaped hb.2, k _ H (Same.refl H) .bl⟩
  · cases e
theorem oc_ne (hu : X.A.units + 64 < cLine) : OpR X (compareOp .NotEq) (rB X.K pNe) := OpR.imp (op_neD hu) fun x y H Q q => by
  obtain ⟨G, ι, μ, ρ, σ, vx, vy, v, rs, rx, ry, e, k⟩ := q
  unfold pNe at e
  split at e
  · rename_i hb
    rw [Bool.and_eq_true] at hb
    cases e
    exact ⟨_, _, rx.dp rs hb.1, ry.dp rs hb.2, okE_shaped hb.1, okE_shaped hb.2, k _ H (Same.refl H) .bl⟩
  · cases e
theorem Rk.non_iff {K : PySem.W.Frag} {G : Addr → Prop} {ι : List Addr} {μ : List MO} {ρ : List SV} {σ : L2.St} {H : Hp} {v : Pv} {x : V} (rs : RS K G ι μ ρ σ H) (h : Rk (wd K G ι ρ σ H) ρ σ v x) : decide (x = .non) = decide (v = .non) := by
  cases v with
  | non => rw [h.nonE]; rfl
  | bl b => rw [h.blE]; rfl
  | int b => rw [h.intE]; rfl
  | str b => rw [h.strE]; rfl
  | tup b => obtain ⟨a, vs, rfl, _⟩ := h.tupE; rfl
  | lst b => obtain ⟨a, vs, rfl, _⟩ := h.lstE rs; rfl
  | scr b => obtain ⟨a, rfl, _⟩ := h.scrE; rfl
  | loc n =>
    have h := h.rl (fun _ z => nomatch z)
    unfold Rl at h
    obtain ⟨a, _, rfl⟩ := h
    rfl
def pIsN (a b : Pv) : Option Pv := if b = .non then some (.bl (decide (a = .non))) else none
def pNotN (a b : Pv) : Option Pv := if b = .non then some (.bl (!decide (a = .non))) else none
def pIs : Pv → Pv → Option Pv
  | a, .non => some (.bl (decide (a = .non)))
  | .bl a, .bl b => some (.bl (decide (a = b)))
  | _, _ => none
theorem oc_isN : OpR X (compareOp .Is) (rB X.K pIsN) := OpR.imp op_isN fun x y H Q q => by
  obtain ⟨G, ι, μ, ρ, σ, vx, vy, v, rs, rx, ry, e, k⟩ := q
  unfold pIsN at e
  split at e
  · rename_i hb
    subst hb
    cases e
    refine ⟨ry.nonE, ?_⟩
    rw [rx.non_iff rs]
    exact k _ H (Same.refl H) .bl
  · cases e
theorem oc_notN : OpR X (compareOp .IsNot) (rB X.K pNotN) := OpR.imp op_notN fun x y H Q q => by
  obtain ⟨G, ι, μ, ρ, σ, vx, vy, v, rs, rx, ry, e, k⟩ := q
  unfold pNotN at e
  split at e
  · rename_i hb
    subst hb
    cases e
    refine ⟨ry.nonE, ?_⟩
    rw [rx.non_iff rs]
    exact k _ H (Same.refl H) .bl
  · cases e
/-! in -/
def rInT (K : PySem.W.Frag) (neg : Bool) : R2 := fun x y H Q => ∃ d ds, Dp K H x d ∧ Dp K H y (.tuple ds) ∧ SeqAt.shaped d = true ∧ SeqAt.shaped (.tuple ds) = true ∧ Q (.bl (if neg then !(ds.any fun z => PyData.eqv z d) else ds.any fun z => PyData.eqv z d)) H
theorem op_inT (hu : X.A.units + 65 < cLine) : OpR X (compareOp .In) (rInT X.K false) := by
  intro pins s σ H x y v u Q I rx ry h
  obtain ⟨d, ds, hd, he, sd, se, q⟩ := h
  obtain ⟨as, r1⟩ := Dp.reads I d x v hd rx
  obtain ⟨bs, r2⟩ := Dp.reads I (.tuple ds) y u he ry
  exact SeqAt.in_tuple_reads r2 r1 (SeqAt.canLay_of_shaped se) (SeqAt.canLay_of_shaped sd) (room_in_shaped sd hu) ⟨.bl _, H, I, rfl, q⟩
theorem op_notInT (hu : X.A.units + 65 < cLine) : OpR X (compareOp .NotIn) (rInT X.K true) := by
  intro pins s σ H x y v u Q I rx ry h
  obtain ⟨d, ds, hd, he, sd, se, q⟩ := h
  obtain ⟨as, r1⟩ := Dp.reads I d x v hd rx
  obtain ⟨bs, r2⟩ := Dp.reads I (.tuple ds) y u he ry
  exact SeqAt.notIn_tuple_reads r2 r1 (SeqAt.canLay_of_shaped se) (SeqAt.canLay_of_shaped sd) (room_in_shaped sd hu) ⟨.bl _, H, I, rfl, q⟩
theorem any_toDs (f : PyData → Bool) : ∀ l : List Pv, (toDs l).any f = l.any fun z => f (toD z)
  | [] => by unfold toDs; rfl
  | v :: l => by unfold toDs; rw [List.any_cons, List.any_cons, any_toDs f l]
theorem toD_tup (l : List Pv) : toD (.tup l) = .tuple (toDs l) := by rw [toD]
theorem toD_lst (l : List Pv) : toD (.lst l) = .list (toDs l) := by rw [toD]
theorem oc_in (hu : X.A.units + 65 < cLine) : OpR X (compareOp .In) (rB X.K pIn) := OpR.imp ((op_inT hu).or (op_inD hu)) fun x y H Q q => by
  obtain ⟨G, ι, μ, ρ, σ, vx, vy, v, rs, rx, ry, e, k⟩ := q
  unfold pIn at e
  split at e
  · split at e
    · rename_i hb
      rw [Bool.and_eq_true] at hb
      cases e
      refine .inl ⟨toD vx, toDs _, rx.dp rs hb.1, toD_tup _ ▸ ry.dp rs hb.2, okE_shaped hb.1, toD_tup _ ▸ okE_shaped hb.2, ?_⟩
      rw [any_toDs]
      exact k _ H (Same.refl H) .bl
    · cases e
  · split at e
    · rename_i hb
      rw [Bool.and_eq_true] at hb
      cases e
      refine .inr ⟨toD vx, toDs _, rx.dp rs hb.1, toD_lst _ ▸ ry.dp rs hb.2, okE_shaped hb.1, toD_lst _ ▸ okE_shaped hb.2, ?_⟩
      rw [any_toDs]
      exact k _ H (Same.refl H) .bl
    · cases e
  · cases e
theorem oc_notIn (hu : X.A.units + 65 < cLine) : OpR X (compareOp .NotIn) (rB X.K pNotIn) := OpR.imp ((op_notInT hu).or (op_notInD hu)) fun x y H Q q => by
  obtain ⟨G, ι, μ, ρ, σ, vx, vy, v, rs, rx, ry, e, k⟩ := q
  unfold pNotIn at e
  split at e
  · rename_i b hb
    cases e
    unfold pIn at hb
    split at hb
    · split at hb
      · rename_i hb'
        rw [Bool.and_eq_true] at hb'
        cases hb
        refine .inl ⟨toD vx, toDs _, rx.dp rs hb'.1, toD_tup _ ▸ ry.dp rs hb'.2, okE_shaped hb'.1, toD_tup _ ▸ okE_shaped hb'.2, ?_⟩
        rw [any_toDs]
        exact k _ H (Same.refl H) .bl
      · cases hb
    · split at hb
      · rename_i hb'
        rw [Bool.and_eq_true] at hb'
        cases hb
        refine .inr ⟨toD vx, toDs _, rx.dp rs hb'.1, toD_lst _ ▸ ry.dp rs hb'.2, okE_shaped hb'.1, toD_lst _ ▸ okE_shaped hb'.2, ?_⟩
        rw [any_toDs]
        exact k _ H (Same.refl H) .bl
      · cases hb
    · cases hb
  · cases e
end

/-! ### unary operators -/
section
variable {X : Cx} {ρ : List SV} {m : Type → Type} [Monad m] [Eff m] {e : Expr} {pos : Pos}
theorem ev_neg {c : m Pv} (h : Ek X ρ e c) : Ev X ρ (.UnaryOp .USub e pos) (b1 pNeg c) :=
  PE.imp (pe_un un_neg h) fun σ H Q q => by
    obtain ⟨G, ι, μ, v, μ', rs, hr, q⟩ := q
    obtain ⟨va, μ1, h1, h2⟩ := inv_bind hr
    obtain ⟨h5, rfl⟩ := inv_lift h2
    refine ⟨G, ι, μ, va, _, rs, h1, fun x H1 ι1 st1 z1 => ?_⟩
    unfold pNeg at h5
    split at h5
    · cases h5
      exact ⟨_, z1.2.intE, q _ H1 ι1 st1 ⟨z1.1, .int⟩⟩
    · cases h5
end
end Q
/-! L4: items, slices, displays, calls. -/
namespace Q
open PySem PySem.Spec PyProof.Rows L2

def pIx : Pv → Pv → Option Pv
  | .tup l, .int i => atI l i
  | .lst l, .int i => atI l i
  | .scr l, .int i => (atI l i).map .int
  | _, _ => none
def cutP (xs : List Pv) (lo hi : Option Int) : List Pv := (xs.drop (HT.sIx xs.length 0 lo)).take (HT.sIx xs.length xs.length hi - HT.sIx xs.length 0 lo)
theorem Rls.cut {W : Wd} {l : List Pv} {vs : List V} (h : Rls W l vs) (lo hi : Option Int) : Rls W (cutP l lo hi) (cutV vs lo hi) := by
  unfold cutP cutV
  rw [h.length]
  exact (h.drop _).take _
theorem Rls.atI {W : Wd} {l : List Pv} {vs : List V} {i : Int} {v : Pv} (h : Rls W l vs) (e : atI l i = some v) : ∃ x, atI vs i = some x ∧ Rl W v x := by
  unfold L2.atI at e ⊢
  rw [← h.length]
  cases q : ixN l.length i with
  | none => rw [q] at e; cases e
  | some j =>
    rw [q] at e
    exact h.get e

theorem IxR.imp {X : Cx} {r r' : R2} (h : IxR X r) (k : ∀ x y H Q, r' x y H Q → r x y H Q) : IxR X r' := fun a b pins s σ H x y v u Q I rx ry q e => h a b pins s σ H x y v u Q I rx ry (k _ _ _ _ q) e
theorem SlR.imp {X : Cx} {r r' : V → Option Int → Option Int → Hp → VK → Prop} (h : SlR X r) (k : ∀ x lo hi H Q, r' x lo hi H Q → r x lo hi H Q) : SlR X r' :=
  fun pins s σ H x v vl vu lo hi sl Q I rx hs pl pu q => h pins s σ H x v vl vu lo hi sl Q I rx hs pl pu (k _ _ _ _ _ q)
section
variable {X : Cx} {ρ : List SV} {m : Type → Type} [Monad m] [Eff m] {a b : Expr} {pos : Pos} {ca cb : m Pv}
theorem ob_ix : IxR X (rB X.K pIx) := IxR.imp ((ix_list).or ix_tup) fun x y H Q q => by
  obtain ⟨G, ι, μ, ρ, σ, vx, vy, v, rs, rx, ry, e, k⟩ := q
  unfold pIx at e
  split at e
  · obtain ⟨p, vs, rfl, h1, h2⟩ := rx.tupE
    obtain ⟨z, e1, r⟩ := h2.atI e
    exact .inr ⟨p, vs, _, z, rfl, ry.intE, h1, e1, k _ H (Same.refl H) r⟩
  · obtain ⟨p, vs, rfl, h1, h2⟩ := rx.lstE rs
    obtain ⟨z, e1, r⟩ := h2.atI e
    exact .inl ⟨p, vs, _, z, rfl, ry.intE, .of h1, e1, k _ H (Same.refl H) r⟩
  · obtain ⟨p, rfl, h1⟩ := rx.scrE
    rename_i l i
    cases e1 : L2.atI l i with
    | none => rw [e1] at e; cases e
    | some n =>
      rw [e1] at e
      cases e
      refine .inl ⟨p, _, _, .int n, rfl, ry.intE, h1, ?_, k _ H (Same.refl H) .int⟩
      unfold L2.atI at e1 ⊢
      rw [List.length_map]
      cases q : ixN l.length i with
      | none => rw [q] at e1; cases e1
      | some j =>
        rw [q] at e1
        show (l.map V.int)[j]? = some (V.int n)
        rw [List.getElem?_map, show l[j]? = some n from e1]
        rfl
  · cases e
theorem ev_ix (ha : Ek X ρ a ca) (hb : Ek X ρ b cb) (hs : PlainIx b := by exact fun _ _ => rfl) : Ev X ρ (.Subscript a b pos) (b2 pIx ca cb) :=
  PE.imp (pe_ix ob_ix ha hb hs) fun σ H Q q => tG_b2 q fun G ι μ H x y vx vy v Q' rs rx ry hg h => ⟨G, ι, μ, ρ, σ, vx, vy, v, rs, rx, ry, hg, fun z H' s hz => h z H' s ⟨rs.same s, hz⟩⟩

/-! ### slices: the bounds are values, or left out -/
def asI : Pv → Option (Option Int)
  | .int i => some (some i)
  | _ => none
def tGo (K : PySem.W.Frag) (ρ : List SV) (c : m (Option Int)) : TO := fun σ H Q =>
  ∃ G ι μ v μ', RS K G ι μ ρ σ H ∧ Eff.run c μ = some (v, μ') ∧ ∀ H' ι', Step ι (Mx ι ρ σ) H ι' (Mx ι' ρ σ) H' → RS K G ι' μ' ρ σ H' → Q v H'
def Eo (X : Cx) (ρ : List SV) (e : Option Expr) (c : m (Option Int)) : Prop := PO X e (tGo X.K ρ c)
theorem PO.imp {X : Cx} {e : Option Expr} {t t' : TO} (h : PO X e t) (k : ∀ σ H Q, t' σ H Q → t σ H Q) : PO X e t' := ⟨fun pins s σ H Q I q => h.run pins s σ H Q I (k σ H Q q)⟩
theorem eo_none : Eo X ρ none (pure none : m (Option Int)) := PO.imp po_none fun σ H Q q => by
  obtain ⟨G, ι, μ, v, μ', rs, hr, q⟩ := q
  obtain ⟨rfl, rfl⟩ := inv_pure hr
  exact q H ι .refl rs
theorem eo_some (h : Ek X ρ a ca) : Eo X ρ (some a) (b1 asI ca) := PO.imp (po_some h) fun σ H Q q => by
  obtain ⟨G, ι, μ, v, μ', rs, hr, q⟩ := q
  obtain ⟨va, μ1, h1, h2⟩ := inv_bind hr
  obtain ⟨h5, rfl⟩ := inv_lift h2
  refine ⟨G, ι, μ, va, _, rs, h1, fun x H1 ι1 st1 z1 => ?_⟩
  unfold asI at h5
  split at h5
  · cases h5
    exact ⟨_, z1.2.intE, q H1 ι1 st1 z1.1⟩
  · cases h5
def b3 {α : Type} (g : Pv → Option Int → Option Int → Option α) (x : m Pv) (lo hi : m (Option Int)) : m α := x >>= fun a => lo >>= fun l => hi >>= fun h => Eff.lift (g a l h)
def pSl : Pv → Option Int → Option Int → Option Pv
  | .tup l, lo, hi => some (.tup (cutP l lo hi))
  | .lst l, lo, hi => some (.lst (cutP l lo hi))
  | _, _, _ => none
def pSlN : Pv → Option Int → Option Int → Option (List Pv)
  | .lst l, lo, hi => some (cutP l lo hi)
  | _, _, _ => none
def rS (K : PySem.W.Frag) {α : Type} (g : Pv → Option Int → Option Int → Option α) (R : (List SV) → RelT α) : V → Option Int → Option Int → Hp → VK → Prop := fun x lo hi H Q => ∃ G ι μ ρ σ vx v, RS K G ι μ ρ σ H ∧ Rk (wd K G ι ρ σ H) ρ σ vx x ∧ g vx lo hi = some v ∧
  ∀ z H', Same H H' → R ρ H G ι μ σ H' v z → Q z H'
theorem cut_whole {l : List Pv} {vs : List V} {lo hi : Option Int} (h : l.length = vs.length) (w : HT.sIx vs.length 0 lo = 0 ∧ HT.sIx vs.length vs.length hi = vs.length) : cutP l lo hi = l := by
  unfold cutP
  rw [h, w.1, w.2, ← h]
  simp
theorem sl_any : SlR X (rS X.K pSl (fun ρ => RV X.K ρ)) := SlR.imp (sl_tupA.or sl_list) fun x lo hi H Q q => by
  obtain ⟨G, ι, μ, ρ, σ, vx, v, rs, rx, e, k⟩ := q
  unfold pSl at e
  split at e
  · cases e
    have rx0 := rx.rl (fun _ z => nomatch z)
    obtain ⟨p, vs, rfl, h1, h2⟩ := rx.tupE
    refine .inl ⟨p, vs, rfl, h1, fun w => ?_, fun _ p hp => k _ _ (same_upd hp) ⟨rs.same (same_upd hp), rs.newTup hp (h2.cut _ _)⟩⟩
    rw [cut_whole h2.length w] at k
    exact k _ H (Same.refl H) ⟨rs, rx0⟩
  · cases e
    obtain ⟨p, vs, rfl, h1, h2⟩ := rx.lstE rs
    exact .inr ⟨p, vs, rfl, .of h1, fun p hp => k _ _ (same_upd hp) ⟨rs.same (same_upd hp), rs.newLstV hp (h2.cut _ _)⟩⟩
  · cases e
theorem sl_new : SlR X (rS X.K pSlN (fun ρ => RN X.K ρ)) := SlR.imp sl_list fun x lo hi H Q q => by
  obtain ⟨G, ι, μ, ρ, σ, vx, v, rs, rx, e, k⟩ := q
  unfold pSlN at e
  split at e
  · cases e
    obtain ⟨p, vs, rfl, h1, h2⟩ := rx.lstE rs
    exact ⟨p, vs, rfl, .of h1, fun p hp => k _ _ (same_upd hp) (rs.newLst hp (h2.cut _ _))⟩
  · cases e
theorem pe_slG {α : Type} {R : List SV → RelT α} [Back X.K ρ (R ρ)] {g : Pv → Option Int → Option Int → Option α} {lo hi : Option Expr} {cl ch : m (Option Int)} {p2 : Pos} (hr : SlR X (rS X.K g R)) (ha : Ek X ρ a ca) (hl : Eo X ρ lo cl) (hh : Eo X ρ hi ch) :
    PE X (.Subscript a (.Slice lo hi none p2) pos) (tG X.K ρ (R ρ) (b3 g ca cl ch)) := PE.imp (pe_slice hr ha hl hh) fun σ H Q q => by
  obtain ⟨G, ι, μ, v, μ', rs, hr, q⟩ := q
  obtain ⟨va, μ1, h1, h2⟩ := inv_bind hr
  obtain ⟨vl, μ2, h3, h4⟩ := inv_bind h2
  obtain ⟨vh, μ3, h5, h6⟩ := inv_bind h4
  obtain ⟨h7, rfl⟩ := inv_lift h6
  exact ⟨G, ι, μ, va, μ1, rs, h1, fun x H1 ι1 st1 z1 => ⟨G, ι1, μ1, vl, μ2, z1.1, h3, fun H2 ι2 st2 z2 => ⟨G, ι2, μ2, vh, _, z2, h5, fun H3 ι3 st3 z3 =>
    ⟨G, ι3, _, ρ, σ, va, v, z3, z1.2.mono (st2.trans st3).le, h7, fun z H' s hz => q z H' ι3 (st1.trans (st2.trans (st3.trans (Step.same s fun _ h => h)))) (Back.back rs z3 (st1.trans (st2.trans st3)) hz)⟩⟩⟩⟩
theorem ev_sl {lo hi : Option Expr} {cl ch : m (Option Int)} {p2 : Pos} (ha : Ek X ρ a ca) (hl : Eo X ρ lo cl) (hh : Eo X ρ hi ch) : Ev X ρ (.Subscript a (.Slice lo hi none p2) pos) (b3 pSl ca cl ch) := pe_slG sl_any ha hl hh
theorem en_sl {lo hi : Option Expr} {cl ch : m (Option Int)} {p2 : Pos} (ha : Ek X ρ a ca) (hl : Eo X ρ lo cl) (hh : Eo X ρ hi ch) : En X ρ (.Subscript a (.Slice lo hi none p2) pos) (b3 pSlN ca cl ch) := pe_slG sl_new ha hl hh

/-! ### argument lists -/
variable {es : List Expr}
theorem ea_nil : Ea X ρ [] (pure [] : m (List Pv)) := PA.imp pa_nil fun σ H Q q => by
  obtain ⟨G, ι, μ, v, μ', rs, hr, q⟩ := q
  obtain ⟨rfl, rfl⟩ := inv_pure hr
  exact q [] H ι .refl rs .nil
def consM {α : Type} (x : m α) (l : m (List α)) : m (List α) := x >>= fun a => l >>= fun r => pure (a :: r)
theorem ea_cons {cs : m (List Pv)} (ha : Ev X ρ a ca) (hs : Ea X ρ es cs) (h : starEach (a :: es) X.env = (false, eval a X.env) :: starEach es X.env := by rfl) : Ea X ρ (a :: es) (consM ca cs) := PA.imp (pa_cons ha hs h) fun σ H Q q => by
  obtain ⟨G, ι, μ, v, μ', rs, hr, q⟩ := q
  obtain ⟨va, μ1, h1, h2⟩ := inv_bind hr
  obtain ⟨vs, μ2, h3, h4⟩ := inv_bind h2
  obtain ⟨rfl, rfl⟩ := inv_pure h4
  exact ⟨G, ι, μ, va, μ1, rs, h1, fun x H1 ι1 st1 z1 => ⟨G, ι1, μ1, vs, _, z1.1, h3, fun xs H2 ι2 st2 r2 z2 => q (x :: xs) H2 ι2 (st1.trans st2) r2 (Rls.cons (z1.2.mono st2.le) z2)⟩⟩
/-- a list or tuple of written items -/
def pLim {α : Type} (f : List Pv → α) (l : List Pv) : Option α := if l.length ≤ LIM then some (f l) else none
theorem ev_tup {cs : m (List Pv)} {k : Nat} (h : Ea X ρ es cs) : Ev X ρ (.Tuple es k pos) (cs >>= fun l => Eff.lift (pLim .tup l)) := PE.imp (pe_tup h) fun σ H Q q => by
  obtain ⟨G, ι, μ, v, μ', rs, hr, q⟩ := q
  obtain ⟨l, μ1, h1, h2⟩ := inv_bind hr
  obtain ⟨h5, rfl⟩ := inv_lift h2
  unfold pLim at h5
  split at h5
  · rename_i hz
    cases h5
    exact ⟨G, ι, μ, l, _, rs, h1, fun xs H1 ι1 st1 r1 z1 => ⟨lim_le (by rw [← Rls.length z1]; exact hz), fun p hp => q _ _ ι1 (st1.trans (Step.same (same_upd hp) fun _ h => h)) ⟨r1.same (same_upd hp), r1.newTup hp z1⟩⟩⟩
  · cases h5
theorem en_lst {cs : m (List Pv)} (h : Ea X ρ es cs) : En X ρ (.List es pos) (cs >>= fun l => Eff.lift (pLim (fun x => x) l)) := PE.imp (pe_lst h) fun σ H Q q => by
  obtain ⟨G, ι, μ, v, μ', rs, hr, q⟩ := q
  obtain ⟨l, μ1, h1, h2⟩ := inv_bind hr
  obtain ⟨h5, rfl⟩ := inv_lift h2
  unfold pLim at h5
  split at h5
  · rename_i hz
    cases h5
    exact ⟨G, ι, μ, l, _, rs, h1, fun xs H1 ι1 st1 r1 z1 => ⟨lim_le (by rw [← Rls.length z1]; exact hz), fun p hp => q _ _ ι1 (st1.trans (Step.same (same_upd hp) fun _ h => h)) (Back.back rs r1 st1 (r1.newLst hp z1))⟩⟩
  · cases h5

/-! ### built-in calls: arguments may be peeked at -/
def Rks (W : Wd) (ρ : List SV) (σ : L2.St) : List Pv → List V → Prop
  | [], xs => xs = []
  | v :: l, xs => ∃ x r, xs = x :: r ∧ Rk W ρ σ v x ∧ Rks W ρ σ l r
def RKs (K : PySem.W.Frag) (ρ : List SV) : RelT (List Pv × List V) := fun _ G ι μ σ H p _ => Rks (wd K G ι ρ σ H) ρ σ p.1 p.2
theorem Rks.mono {W W' : Wd} {σ : L2.St} (q : Le W W') : ∀ {l : List Pv} {xs : List V}, Rks W ρ σ l xs → Rks W' ρ σ l xs
  | [], _, h => h
  | v :: l, _, h => by
    obtain ⟨x, r, e, h1, h2⟩ := h
    exact ⟨x, r, e, h1.mono q, Rks.mono q h2⟩
def Eka (X : Cx) (ρ : List SV) (es : List Expr) (c : m (List Pv)) : Prop := PA X es (tGa X.K ρ (RKs X.K ρ) c)
theorem eka_nil : Eka X ρ [] (pure [] : m (List Pv)) := PA.imp pa_nil fun σ H Q q => by
  obtain ⟨G, ι, μ, v, μ', rs, hr, q⟩ := q
  obtain ⟨rfl, rfl⟩ := inv_pure hr
  exact q [] H ι .refl rs rfl
theorem eka_cons {cs : m (List Pv)} (ha : Ek X ρ a ca) (hs : Eka X ρ es cs) (h : starEach (a :: es) X.env = (false, eval a X.env) :: starEach es X.env := by rfl) : Eka X ρ (a :: es) (consM ca cs) := PA.imp (pa_cons ha hs h) fun σ H Q q => by
  obtain ⟨G, ι, μ, v, μ', rs, hr, q⟩ := q
  obtain ⟨va, μ1, h1, h2⟩ := inv_bind hr
  obtain ⟨vs, μ2, h3, h4⟩ := inv_bind h2
  obtain ⟨rfl, rfl⟩ := inv_pure h4
  exact ⟨G, ι, μ, va, μ1, rs, h1, fun x H1 ι1 st1 z1 => ⟨G, ι1, μ1, vs, _, z1.1, h3, fun xs H2 ι2 st2 r2 z2 => q (x :: xs) H2 ι2 (st1.trans st2) r2 ⟨x, xs, rfl, z1.2.mono st2.le, z2⟩⟩⟩
/-- what a built-in gives -/
def rC (K : PySem.W.Frag) {α : Type} (g : List Pv → Option α) (R : (List SV) → RelT α) : List V → Hp → VK → Prop := fun xs H Q => ∃ G ι μ ρ σ vs v, RS K G ι μ ρ σ H ∧ Rks (wd K G ι ρ σ H) ρ σ vs xs ∧ g vs = some v ∧
  ∀ z H', Same H H' → R ρ H G ι μ σ H' v z → Q z H'
theorem CallR.imp {f : Value} {r r' : List V → Hp → VK → Prop} (h : CallR X f r) (k : ∀ xs H Q, r' xs H Q → r xs H Q) : CallR X f r' := fun pins s σ H xs us Q I rx q => h pins s σ H xs us Q I rx (k xs H Q q)
def bL {α : Type} (g : List Pv → Option α) (cs : m (List Pv)) : m α := cs >>= fun l => Eff.lift (g l)
theorem tCB_G {α : Type} {R : List SV → RelT α} [Back X.K ρ (R ρ)] {g : List Pv → Option α} {cs : m (List Pv)} {σ : L2.St} {H : Hp} {Q : VK} (q : tG X.K ρ (R ρ) (bL g cs) σ H Q) : tCB (rC X.K g R) (tGa X.K ρ (RKs X.K ρ) cs) σ H Q := by
  obtain ⟨G, ι, μ, v, μ', rs, hr, q⟩ := q
  obtain ⟨l, μ1, h1, h2⟩ := inv_bind hr
  obtain ⟨h5, rfl⟩ := inv_lift h2
  exact ⟨G, ι, μ, l, _, rs, h1, fun xs H1 ι1 st1 r1 z1 => ⟨G, ι1, _, ρ, σ, l, v, r1, z1, h5, fun z H' s hz => q z H' ι1 (st1.trans (Step.same s fun _ h => h)) (Back.back rs r1 st1 hz)⟩⟩
theorem pe_bltG {α : Type} {R : List SV → RelT α} [Back X.K ρ (R ρ)] {g : List Pv → Option α} {cs : m (List Pv)} {x : Str} {p : Pos} {id : String} (hc : CallR X (.builtin id) (rC X.K g R)) (hm : X.mg x = none) (hv : bootBuiltins x = some (.builtin id)) (ha : Eka X ρ (a :: es) cs) (hg : Gl X x := by rfl)
    (hn : x ≠ "__name__" := by decide) (hdb : (x == ("__debug__" : Str)) = false := by decide) (he : starEach (a :: es) X.env = (false, eval a X.env) :: starEach es X.env := by rfl) (hpl : (backTo pos (starEach es X.env)).any (·.1) = false := by rfl) :
    PE X (.Call (.Name x p) (a :: es) [] pos) (tG X.K ρ (R ρ) (bL g cs)) := PE.imp (pe_callB hc hg hm hv ha hn hdb he hpl) fun σ H Q q => tCB_G q
theorem pe_tyG {α : Type} {R : List SV → RelT α} [Back X.K ρ (R ρ)] {g : List Pv → Option α} {cs : m (List Pv)} {x : Str} {p : Pos} {T : String} (hc : CallR X (.type T) (rC X.K g R)) (hm : X.mg x = none) (hv : bootBuiltins x = some (.type T)) (ha : Eka X ρ (a :: es) cs) (hg : Gl X x := by rfl)
    (hn : x ≠ "__name__" := by decide) (hdb : (x == ("__debug__" : Str)) = false := by decide) (he : starEach (a :: es) X.env = (false, eval a X.env) :: starEach es X.env := by rfl) (hpl : (backTo pos (starEach es X.env)).any (·.1) = false := by rfl) :
    PE X (.Call (.Name x p) (a :: es) [] pos) (tG X.K ρ (R ρ) (bL g cs)) := PE.imp (pe_callTy hc hg hm hv ha hn hdb he hpl) fun σ H Q q => tCB_G q
theorem ev_blt {g : List Pv → Option Pv} {cs : m (List Pv)} {x : Str} {p : Pos} {id : String} (hc : CallR X (.builtin id) (rC X.K g fun ρ => RV X.K ρ)) (hm : X.mg x = none) (hv : bootBuiltins x = some (.builtin id)) (ha : Eka X ρ (a :: es) cs) (hg : Gl X x := by rfl)
    (hn : x ≠ "__name__" := by decide) (hdb : (x == ("__debug__" : Str)) = false := by decide) (he : starEach (a :: es) X.env = (false, eval a X.env) :: starEach es X.env := by rfl) (hpl : (backTo pos (starEach es X.env)).any (·.1) = false := by rfl) :
    Ev X ρ (.Call (.Name x p) (a :: es) [] pos) (bL g cs) := pe_bltG hc hm hv ha hg hn hdb he hpl
theorem en_blt {g : List Pv → Option (List Pv)} {cs : m (List Pv)} {x : Str} {p : Pos} {id : String} (hc : CallR X (.builtin id) (rC X.K g fun ρ => RN X.K ρ)) (hm : X.mg x = none) (hv : bootBuiltins x = some (.builtin id)) (ha : Eka X ρ (a :: es) cs) (hg : Gl X x := by rfl)
    (hn : x ≠ "__name__" := by decide) (hdb : (x == ("__debug__" : Str)) = false := by decide) (he : starEach (a :: es) X.env = (false, eval a X.env) :: starEach es X.env := by rfl) (hpl : (backTo pos (starEach es X.env)).any (·.1) = false := by rfl) :
    En X ρ (.Call (.Name x p) (a :: es) [] pos) (bL g cs) := pe_bltG hc hm hv ha hg hn hdb he hpl
theorem ev_ty {g : List Pv → Option Pv} {cs : m (List Pv)} {x : Str} {p : Pos} {id : String} (hc : CallR X (.type id) (rC X.K g fun ρ => RV X.K ρ)) (hm : X.mg x = none) (hv : bootBuiltins x = some (.type id)) (ha : Eka X ρ (a :: es) cs) (hg : Gl X x := by rfl)
    (hn : x ≠ "__name__" := by decide) (hdb : (x == ("__debug__" : Str)) = false := by decide) (he : starEach (a :: es) X.env = (false, eval a X.env) :: starEach es X.env := by rfl) (hpl : (backTo pos (starEach es X.env)).any (·.1) = false := by rfl) :
    Ev X ρ (.Call (.Name x p) (a :: es) [] pos) (bL g cs) := pe_tyG hc hm hv ha hg hn hdb he hpl
theorem en_ty {g : List Pv → Option (List Pv)} {cs : m (List Pv)} {x : Str} {p : Pos} {id : String} (hc : CallR X (.type id) (rC X.K g fun ρ => RN X.K ρ)) (hm : X.mg x = none) (hv : bootBuiltins x = some (.type id)) (ha : Eka X ρ (a :: es) cs) (hg : Gl X x := by rfl)
    (hn : x ≠ "__name__" := by decide) (hdb : (x == ("__debug__" : Str)) = false := by decide) (he : starEach (a :: es) X.env = (false, eval a X.env) :: starEach es X.env := by rfl) (hpl : (backTo pos (starEach es X.env)).any (·.1) = false := by rfl) :
    En X ρ (.Call (.Name x p) (a :: es) [] pos) (bL g cs) := pe_tyG hc hm hv ha hg hn hdb he hpl
end

/-! ### the built-ins themselves -/
theorem Rks.one {W : Wd} {ρ : List SV} {σ : L2.St} {v : Pv} {xs : List V} (h : Rks W ρ σ [v] xs) : ∃ x, xs = [x] ∧ Rk W ρ σ v x := by
  obtain ⟨x, r, rfl, h1, h2⟩ := h
  exact ⟨x, by rw [show r = [] from h2], h1⟩
theorem Rks.two {W : Wd} {ρ : List SV} {σ : L2.St} {v u : Pv} {xs : List V} (h : Rks W ρ σ [v, u] xs) : ∃ x y, xs = [x, y] ∧ Rk W ρ σ v x ∧ Rk W ρ σ u y := by
  obtain ⟨x, r, rfl, h1, h2⟩ := h
  obtain ⟨y, rfl, h3⟩ := Rks.one h2
  exact ⟨x, y, rfl, h1, h3⟩
def pLen : List Pv → Option Pv
  | [.tup l] => some (.int l.length)
  | [.lst l] => some (.int l.length)
  | [.scr l] => some (.int l.length)
  | _ => none
def pTuple : List Pv → Option Pv
  | [.tup l] => some (.tup l)
  | [.lst l] => some (.tup l)
  | _ => none
def pList : List Pv → Option (List Pv)
  | [.tup l] => some l
  | [.lst l] => some l
  | _ => none
def pAbs : List Pv → Option Pv
  | [.int i] => some (.int (if i < 0 then -i else i))
  | _ => none
def pInt : List Pv → Option Pv
  | [.int i] => some (.int i)
  | [.bl b] => some (.int (if b then 1 else 0))
  | _ => none
def intsP : List Pv → Option (List Int)
  | [] => some []
  | .int i :: r => (intsP r).map (i :: ·)
  | _ => none
theorem ints_map : ∀ {l : List Pv} {ns : List Int}, intsP l = some ns → l = ns.map .int
  | [], _, h => by cases h; rfl
  | .int i :: r, ns, h => by
    unfold intsP at h
    cases e : intsP r with
    | none => rw [e] at h; cases h
    | some ms => rw [e] at h; cases h; rw [List.map_cons, ints_map e]
  | .non :: _, _, h => by cases h
  | .bl _ :: _, _, h => by cases h
  | .str _ :: _, _, h => by cases h
  | .tup _ :: _, _, h => by cases h
  | .lst _ :: _, _, h => by cases h
  | .loc _ :: _, _, h => by cases h
  | .scr _ :: _, _, h => by cases h
theorem ints_of (ns : List Int) : intsP (ns.map .int) = some ns := by
  induction ns with
  | nil => rfl
  | cons n r ih => rw [List.map_cons]; unfold intsP; rw [ih]; rfl
theorem Rls.intsE {W : Wd} : ∀ {ns : List Int} {vs : List V}, Rls W (ns.map .int) vs → vs = ns.map V.int
  | [], _, h => h.inv_nil
  | n :: ns, _, h => by
    obtain ⟨x, r, rfl, h1, h2⟩ := Rls.inv_cons (v := .int n) h
    rw [h1.intE, List.map_cons, Rls.intsE h2]
def pSum : List Pv → Option Pv
  | [.lst l] => (intsP l).map fun ns => .int ns.sum
  | _ => none
def bls : List Pv → Option (List Bool)
  | [] => some []
  | .bl i :: r => (bls r).map (i :: ·)
  | _ => none
theorem bls_map : ∀ {l : List Pv} {ns : List Bool}, bls l = some ns → l = ns.map .bl
  | [], _, h => by cases h; rfl
  | .bl i :: r, ns, h => by
    unfold bls at h
    cases e : bls r with
    | none => rw [e] at h; cases h
    | some ms => rw [e] at h; cases h; rw [List.map_cons, bls_map e]
  | .non :: _, _, h => by cases h
  | .int _ :: _, _, h => by cases h
  | .str _ :: _, _, h => by cases h
  | .tup _ :: _, _, h => by cases h
  | .lst _ :: _, _, h => by cases h
  | .loc _ :: _, _, h => by cases h
  | .scr _ :: _, _, h => by cases h
theorem bls_of (ns : List Bool) : bls (ns.map .bl) = some ns := by
  induction ns with
  | nil => rfl
  | cons n r ih => rw [List.map_cons]; unfold bls; rw [ih]; rfl
theorem Rls.bls {W : Wd} : ∀ {ns : List Bool} {vs : List V}, Rls W (ns.map .bl) vs → vs = ns.map V.bl
  | [], _, h => h.inv_nil
  | n :: ns, _, h => by
    obtain ⟨x, r, rfl, h1, h2⟩ := Rls.inv_cons (v := .bl n) h
    rw [h1.blE, List.map_cons, Rls.bls h2]
def pAny : List Pv → Option Pv
  | [.lst l] => (bls l).map fun ns => .bl (ns.any id)
  | _ => none
def pAll : List Pv → Option Pv
  | [.lst l] => (bls l).map fun ns => .bl (ns.all id)
  | _ => none
section
variable {X : Cx}
abbrev RVx (X : Cx) : List SV → RelT Pv := fun ρ => RV X.K ρ
abbrev RNx (X : Cx) : List SV → RelT (List Pv) := fun ρ => RN X.K ρ
theorem cb_len : CallR X (.builtin "len") (rC X.K pLen (RVx X)) := CallR.imp call_len_seq fun xs H Q q => by
  obtain ⟨G, ι, μ, ρ, σ, vs, v, rs, rx, e, k⟩ := q
  unfold pLen at e
  split at e
  · cases e
    obtain ⟨x, rfl, h⟩ := rx.one
    obtain ⟨p, ys, rfl, h1, h2⟩ := h.tupE
    exact ⟨p, ys, rfl, .inr h1, k _ H (Same.refl H) ⟨rs, by rw [← h2.length]; exact .int⟩⟩
  · cases e
    obtain ⟨x, rfl, h⟩ := rx.one
    obtain ⟨p, ys, rfl, h1, h2⟩ := h.lstE rs
    exact ⟨p, ys, rfl, .inl (.of h1), k _ H (Same.refl H) ⟨rs, by rw [← h2.length]; exact .int⟩⟩
  · cases e
    obtain ⟨x, rfl, h⟩ := rx.one
    obtain ⟨p, rfl, h1⟩ := h.scrE
    exact ⟨p, _, rfl, .inl h1, k _ H (Same.refl H) ⟨rs, by rw [List.length_map]; exact .int⟩⟩
  · cases e
theorem cb_tuple : CallR X (.type "tuple") (rC X.K pTuple (RVx X)) := CallR.imp call_tuple_of fun xs H Q q => by
  obtain ⟨G, ι, μ, ρ, σ, vs, v, rs, rx, e, k⟩ := q
  unfold pTuple at e
  split at e
  · cases e
    obtain ⟨x, rfl, h⟩ := rx.one
    have h0 := h.rl (fun _ z => nomatch z)
    obtain ⟨p, ys, rfl, h1, h2⟩ := h.tupE
    exact ⟨p, ys, rfl, .inr ⟨h1, k _ H (Same.refl H) ⟨rs, h0⟩⟩⟩
  · cases e
    obtain ⟨x, rfl, h⟩ := rx.one
    obtain ⟨p, ys, rfl, h1, h2⟩ := h.lstE rs
    exact ⟨p, ys, rfl, .inl ⟨.of h1, fun l hl => k _ _ (same_upd hl) ⟨rs.same (same_upd hl), rs.newTup hl h2⟩⟩⟩
  · cases e
theorem cb_list : CallR X (.type "list") (rC X.K pList (RNx X)) := CallR.imp call_list_of fun xs H Q q => by
  obtain ⟨G, ι, μ, ρ, σ, vs, v, rs, rx, e, k⟩ := q
  unfold pList at e
  split at e
  · cases e
    obtain ⟨x, rfl, h⟩ := rx.one
    obtain ⟨p, ys, rfl, h1, h2⟩ := h.tupE
    exact ⟨p, ys, rfl, .inr h1, fun l hl => k _ _ (same_upd hl) (rs.newLst hl h2)⟩
  · cases e
    obtain ⟨x, rfl, h⟩ := rx.one
    obtain ⟨p, ys, rfl, h1, h2⟩ := h.lstE rs
    exact ⟨p, ys, rfl, .inl (.of h1), fun l hl => k _ _ (same_upd hl) (rs.newLst hl h2)⟩
  · cases e
theorem cb_abs : CallR X (.builtin "abs") (rC X.K pAbs (RVx X)) := CallR.imp call_abs fun xs H Q q => by
  obtain ⟨G, ι, μ, ρ, σ, vs, v, rs, rx, e, k⟩ := q
  unfold pAbs at e
  split at e
  · cases e
    obtain ⟨x, rfl, h⟩ := rx.one
    exact ⟨_, by rw [h.intE], k _ H (Same.refl H) ⟨rs, .int⟩⟩
  · cases e
theorem cb_int : CallR X (.type "int") (rC X.K pInt (RVx X)) := CallR.imp call_int1 fun xs H Q q => by
  obtain ⟨G, ι, μ, ρ, σ, vs, v, rs, rx, e, k⟩ := q
  unfold pInt at e
  split at e
  · cases e
    obtain ⟨x, rfl, h⟩ := rx.one
    exact .inl ⟨_, by rw [h.intE], k _ H (Same.refl H) ⟨rs, .int⟩⟩
  · cases e
    obtain ⟨x, rfl, h⟩ := rx.one
    exact .inr ⟨_, by rw [h.blE], k _ H (Same.refl H) ⟨rs, .int⟩⟩
  · cases e
theorem cb_sum (hc : X.calm = true) : CallR X (.builtin "sum") (rC X.K pSum (RVx X)) := CallR.imp (cr_sum hc) fun xs H Q q => by
  obtain ⟨G, ι, μ, ρ, σ, vs, v, rs, rx, e, k⟩ := q
  unfold pSum at e
  split at e
  · rename_i l
    cases e1 : intsP l with
    | none => rw [e1] at e; cases e
    | some ns =>
      rw [e1] at e; cases e
      obtain ⟨x, rfl, h⟩ := rx.one
      obtain ⟨p, ys, rfl, h1, h2⟩ := h.lstE rs
      rw [ints_map e1] at h2
      rw [h2.intsE] at h1
      exact ⟨p, ns, rfl, .of h1, k _ H (Same.refl H) ⟨rs, .int⟩⟩
  · cases e
theorem cb_any (hc : X.calm = true) : CallR X (.builtin "any") (rC X.K pAny (RVx X)) := CallR.imp (cr_any hc) fun xs H Q q => by
  obtain ⟨G, ι, μ, ρ, σ, vs, v, rs, rx, e, k⟩ := q
  unfold pAny at e
  split at e
  · rename_i l
    cases e1 : bls l with
    | none => rw [e1] at e; cases e
    | some ns =>
      rw [e1] at e; cases e
      obtain ⟨x, rfl, h⟩ := rx.one
      obtain ⟨p, ys, rfl, h1, h2⟩ := h.lstE rs
      rw [bls_map e1] at h2
      rw [h2.bls] at h1
      exact ⟨p, ns, rfl, .of h1, k _ H (Same.refl H) ⟨rs, .bl⟩⟩
  · cases e
theorem cb_all (hc : X.calm = true) : CallR X (.builtin "all") (rC X.K pAll (RVx X)) := CallR.imp (cr_all hc) fun xs H Q q => by
  obtain ⟨G, ι, μ, ρ, σ, vs, v, rs, rx, e, k⟩ := q
  unfold pAll at e
  split at e
  · rename_i l
    cases e1 : bls l with
    | none => rw [e1] at e; cases e
    | some ns =>
      rw [e1] at e; cases e
      obtain ⟨x, rfl, h⟩ := rx.one
      obtain ⟨p, ys, rfl, h1, h2⟩ := h.lstE rs
      rw [bls_map e1] at h2
      rw [h2.bls] at h1
      exact ⟨p, ns, rfl, .of h1, k _ H (Same.refl H) ⟨rs, .bl⟩⟩
  · cases e
def pMax2 : List Pv → Option Pv
  | [.int i, .int j] => some (.int (if j > i then j else i))
  | _ => none
def pMin2 : List Pv → Option Pv
  | [.int i, .int j] => some (.int (if j < i then j else i))
  | _ => none
theorem cb_max2 (hc : X.calm = true) : CallR X (.builtin "max") (rC X.K pMax2 (RVx X)) := CallR.imp (call_max2 hc) fun xs H Q q => by
  obtain ⟨G, ι, μ, ρ, σ, vs, v, rs, rx, e, k⟩ := q
  unfold pMax2 at e
  split at e
  · cases e
    obtain ⟨x, y, rfl, h1, h2⟩ := rx.two
    exact ⟨_, _, by rw [h1.intE, h2.intE], k _ H (Same.refl H) ⟨rs, .int⟩⟩
  · cases e
theorem cb_min2 (hc : X.calm = true) : CallR X (.builtin "min") (rC X.K pMin2 (RVx X)) := CallR.imp (call_min2 hc) fun xs H Q q => by
  obtain ⟨G, ι, μ, ρ, σ, vs, v, rs, rx, e, k⟩ := q
  unfold pMin2 at e
  split at e
  · cases e
    obtain ⟨x, y, rfl, h1, h2⟩ := rx.two
    exact ⟨_, _, by rw [h1.intE, h2.intE], k _ H (Same.refl H) ⟨rs, .int⟩⟩
  · cases e
end
end Q
/-! L5: statements, loops, defs. -/
namespace Q
open PySem PySem.Spec PyProof.Rows L2

/-- what a block comes to: the state behind it, a break, a continue, a return -/
inductive Out (S L : Type) where
  | nx (s : S) | bk (l : L) | ct (l : L) | rt (v : Pv)
inductive Fl where
  | nx (ρ : List SV) | bk (ρ : List SV) | ct (ρ : List SV) | rt (v : Pv)
def oit {S L : Type} (emb : S → List SV) (embL : L → List SV) : Out S L → Fl
  | .nx s => .nx (emb s)
  | .bk l => .bk (embL l)
  | .ct l => .ct (embL l)
  | .rt v => .rt v
/-- slots forgotten -/
inductive Sub : List SV → List SV → Prop
  | n : Sub [] []
  | k {s : SV} {a b : List SV} : Sub a b → Sub (s :: a) (s :: b)
  | d {s : SV} {a b : List SV} : Sub a b → Sub (.none :: a) (s :: b)
/-- a list of one's own is a value from now on -/
  | f {l : List Pv} {a b : List SV} : Sub a b → Sub (.val (.lst l) :: a) (.ml l :: b)
theorem Sub.refl : ∀ a : List SV, Sub a a
  | [] => .n
  | _ :: a => .k (Sub.refl a)

section
variable {K : PySem.W.Frag} {G : Addr → Prop} {ι ι' : List Addr} {μ μ' : List MO} {ρ ρ' : List SV} {σ : L2.St} {H H' : Hp}
theorem Sub.len {a b : List SV} (h : Sub a b) : a.length = b.length := by induction h <;> simp_all
theorem Sub.at {a b : List SV} (h : Sub a b) : ∀ (i : Nat) (s : SV), a[i]? = some s → ∃ t, b[i]? = some t ∧ (s = t ∨ s = .none ∨ ∃ l, s = .val (.lst l) ∧ t = .ml l) := by
  induction h with
  | n => intro i s e; simp at e
  | @k s a b _ ih =>
    intro i t e
    cases i with
    | zero => exact ⟨s, rfl, .inl (by simpa using e.symm)⟩
    | succ i => simpa using ih i t (by simpa using e)
  | @d s a b _ ih =>
    intro i t e
    cases i with
    | zero => exact ⟨s, rfl, .inr (.inl (by simpa using e.symm))⟩
    | succ i => simpa using ih i t (by simpa using e)
  | @f l a b _ ih =>
    intro i t e
    cases i with
    | zero => exact ⟨.ml l, rfl, .inr (.inr ⟨l, by simpa using e.symm, rfl⟩)⟩
    | succ i => simpa using ih i t (by simpa using e)
theorem Sub.own {a b : List SV} (h : Sub a b) {i : Nat} {p : Addr} (o : own a σ i p) : own b σ i p := by
  obtain ⟨⟨l, e⟩, e2⟩ := o
  obtain ⟨t, e3, e4⟩ := h.at i _ e
  rcases e4 with e4 | e4 | ⟨l', e4, _⟩
  · exact ⟨⟨l, by rw [e3, ← e4]⟩, e2⟩
  · cases e4
  · cases e4
theorem Sub.mx {a b : List SV} (h : Sub a b) {p : Addr} (o : Mx ι a σ p) : Mx ι b σ p := o.imp id fun ⟨i, o⟩ => ⟨i, h.own o⟩
theorem RS.sub (r : RS K G ι μ ρ σ H) (h : Sub ρ' ρ) : RS K G ι μ ρ' σ H := by
  have le : Le (wd K G ι ρ σ H) (wd K G ι ρ' σ H) := ⟨rfl, fun _ _ h => h, fun a o e k => ⟨e, fun z => k (Or.imp (fun q => q) h.mx z)⟩⟩
  refine ⟨h.len.trans r.len, fun i s e => ?_, fun i j a x y => r.inj i j a (h.own x) (h.own y), fun i a x => r.ni i a (h.own x), r.g, r.nd, r.lm, fun n o e => ?_⟩
  · obtain ⟨t, e3, e4⟩ := h.at i s e
    have q := r.sl i t e3
    rcases e4 with e4 | e4 | ⟨l, e4, e5⟩
    · subst e4
      exact SlotOk.mono le (fun _ _ _ _ _ _ => rfl) q
    · subst e4; trivial
    · subst e4 e5
      cases e6 : σ[i]? with
      | none => rw [e6] at q; exact q.elim
      | some o =>
        rw [e6] at q
        cases o with
        | none => exact q.elim
        | some x =>
          obtain ⟨a, vs, e7, h1, h2⟩ := q
          subst e7
          show Rl _ (.lst l) (.ref a)
          unfold Rl
          have ow : Q.own ρ σ i a := ⟨⟨l, e3⟩, e6⟩
          refine ⟨a, vs, rfl, ⟨h1, fun z => ?_⟩, h2.mono le⟩
          rcases z with z | z | ⟨j, z⟩
          · exact (r.ni i a ow).2 z
          · exact (r.ni i a ow).1 z
          · have ij := r.inj i j a ow (h.own z)
            subst ij
            obtain ⟨⟨l', e8⟩, _⟩ := z
            rw [e] at e8; cases e8
  · obtain ⟨a, h1, h2⟩ := r.st n o e
    exact ⟨a, h1, MOk.mono le rfl h2⟩
/-- a slot is set to a value -/
theorem own_set_val {i : Nat} {v : Pv} {x : Option V} {j : Nat} {a : Addr} (o : own (ρ.set i (.val v)) (σ.set i x) j a) : own ρ σ j a ∧ j ≠ i := by
  obtain ⟨⟨l, e⟩, e2⟩ := o
  by_cases h : i = j
  · subst h
    rw [List.getElem?_set_self' ] at e
    cases q : ρ[i]? with
    | none => rw [q] at e; cases e
    | some u => rw [q] at e; cases e
  · rw [List.getElem?_set_ne h] at e e2
    exact ⟨⟨⟨l, e⟩, e2⟩, fun z => h z.symm⟩
theorem RS.setVal (r : RS K G ι μ ρ σ H) {i : Nat} {v : Pv} {x : V} (h : Rl (wd K G ι ρ σ H) v x) : RS K G ι μ (ρ.set i (.val v)) (σ.set i (some x)) H := by
  have le : Le (wd K G ι ρ σ H) (wd K G ι (ρ.set i (.val v)) (σ.set i (some x)) H) := ⟨rfl, fun _ _ h => h, fun a o e k => ⟨e, fun z => k (Or.imp (fun q => q) (Or.imp (fun q => q) fun ⟨j, o⟩ => ⟨j, (own_set_val o).1⟩) z)⟩⟩
  refine ⟨by rw [List.length_set, List.length_set]; exact r.len, fun j s e => ?_, fun j k a p q => r.inj j k a (own_set_val p).1 (own_set_val q).1, fun j a p => r.ni j a (own_set_val p).1, r.g, r.nd, r.lm, fun n o e => ?_⟩
  · by_cases hij : i = j
    · subst hij
      have hi : i < ρ.length := by
        by_cases hi : i < ρ.length
        · exact hi
        · rw [List.getElem?_eq_none (by rw [List.length_set]; omega)] at e; cases e
      rw [List.getElem?_set_self hi] at e
      cases e
      rw [List.getElem?_set_self (by rw [← r.len]; exact hi)]
      exact h.mono le
    · rw [List.getElem?_set_ne hij] at e
      rw [List.getElem?_set_ne hij]
      exact SlotOk.mono le (fun _ _ _ _ _ _ => rfl) (r.sl j s e)
  · obtain ⟨a, h1, h2⟩ := r.st n o e
    exact ⟨a, h1, MOk.mono le rfl h2⟩
theorem Step.set {M : Addr → Prop} {i : Nat} {v : Pv} {x : Option V} (s : Step ι M H ι' (Mx ι' ρ σ) H') : Step ι M H ι' (Mx ι' (ρ.set i (.val v)) (σ.set i x)) H' :=
  ⟨s.pre, s.keep, fun a h => s.new a (Or.imp (fun q => q) (fun ⟨j, o⟩ => ⟨j, (own_set_val o).1⟩) h), s.frz⟩
theorem Step.sub {M : Addr → Prop} (s : Step ι M H ι' (Mx ι' ρ σ) H') (h : Sub ρ' ρ) : Step ι M H ι' (Mx ι' ρ' σ) H' := ⟨s.pre, s.keep, fun a z => s.new a (h.mx z), s.frz⟩
/-- a slot is set to a new list of its own -/
theorem own_set_ml {i : Nat} {l : List Pv} {b : Addr} {j : Nat} {a : Addr} (o : own (ρ.set i (.ml l)) (σ.set i (some (.ref b))) j a) : (own ρ σ j a ∧ j ≠ i) ∨ (j = i ∧ a = b) := by
  obtain ⟨⟨l', e⟩, e2⟩ := o
  by_cases h : i = j
  · subst h
    refine .inr ⟨rfl, ?_⟩
    rw [List.getElem?_set_self'] at e2
    cases q : σ[i]? with
    | none => rw [q] at e2; cases e2
    | some u => rw [q] at e2; injection e2 with e2; injection e2 with e2; injection e2 with e2; exact e2.symm
  · rw [List.getElem?_set_ne h] at e e2
    exact .inl ⟨⟨⟨l', e⟩, e2⟩, fun z => h z.symm⟩
theorem RS.setMl {i : Nat} {l : List Pv} {a : Addr} {vs : List V} (r : RS K (fun b => G b ∨ b = a) ι μ ρ σ H) (ng : ¬ G a) (ha : H a = some (.lst vs)) (h : Rls (wd K (fun b => G b ∨ b = a) ι ρ σ H) l vs) :
    RS K G ι μ (ρ.set i (.ml l)) (σ.set i (some (.ref a))) H := by
  have le : Le (wd K (fun b => G b ∨ b = a) ι ρ σ H) (wd K G ι (ρ.set i (.ml l)) (σ.set i (some (.ref a))) H) := ⟨rfl, fun _ _ h => h, fun b o e k => ⟨e, fun z => k (by
    rcases z with z | z | ⟨j, z⟩
    · exact .inl (.inl z)
    · exact .inr (.inl z)
    · rcases own_set_ml z with ⟨z, _⟩ | ⟨_, z⟩
      · exact .inr (.inr ⟨j, z⟩)
      · exact .inl (.inr z))⟩⟩
  have na : ∀ j, ¬ own ρ σ j a := fun j z => (r.ni j a z).2 (.inr rfl)
  refine ⟨by rw [List.length_set, List.length_set]; exact r.len, fun j s e => ?_, fun j k b p q => ?_, fun j b p => ?_, fun b h => r.g b (.inl h), r.nd, r.lm, fun n o e => ?_⟩
  · by_cases hij : i = j
    · subst hij
      have hi : i < ρ.length := by
        by_cases hi : i < ρ.length
        · exact hi
        · rw [List.getElem?_eq_none (by rw [List.length_set]; omega)] at e; cases e
      rw [List.getElem?_set_self hi] at e
      cases e
      rw [List.getElem?_set_self (by rw [← r.len]; exact hi)]
      exact ⟨a, vs, rfl, ha, h.mono le⟩
    · rw [List.getElem?_set_ne hij] at e
      rw [List.getElem?_set_ne hij]
      exact SlotOk.mono le (fun _ _ _ _ _ _ => rfl) (r.sl j s e)
  · rcases own_set_ml p with ⟨p1, p2⟩ | ⟨p1, p2⟩
    · rcases own_set_ml q with ⟨q1, q2⟩ | ⟨q1, q2⟩
      · exact r.inj j k b p1 q1
      · rw [q2] at p1; exact (na j p1).elim
    · rcases own_set_ml q with ⟨q1, q2⟩ | ⟨q1, q2⟩
      · rw [p2] at q1; exact (na k q1).elim
      · rw [p1, q1]
  · rcases own_set_ml p with ⟨p, pi⟩ | ⟨p, pi⟩
    · exact ⟨(r.ni j b p).1, fun z => (r.ni j b p).2 (.inl z)⟩
    · subst pi; exact ⟨(r.g b (.inr rfl)).2, ng⟩
  · obtain ⟨b, h1, h2⟩ := r.st n o e
    exact ⟨b, h1, MOk.mono le rfl h2⟩
/-- the frame is left -/
theorem RS.drop (r : RS K G ι μ ρ σ H) : RS K G ι μ [] [] H := by
  have le : Le (wd K G ι ρ σ H) (wd K G ι [] [] H) := ⟨rfl, fun _ _ h => h, fun b o e k => ⟨e, fun z => k (by
    rcases z with z | z | ⟨j, ⟨l, z⟩, _⟩
    · exact .inl z
    · exact .inr (.inl z)
    · simp at z)⟩⟩
  refine ⟨rfl, fun i s e => by simp at e, fun i j a ⟨⟨l, e⟩, _⟩ => by simp at e, fun i a ⟨⟨l, e⟩, _⟩ => by simp at e, r.g, r.nd, r.lm, fun n o e => ?_⟩
  obtain ⟨b, h1, h2⟩ := r.st n o e
  exact ⟨b, h1, MOk.mono le rfl h2⟩
theorem mx_nil {a : Addr} (h : Mx ι [] [] a) : Mx ι ρ σ a := h.imp id fun ⟨i, ⟨l, e⟩, _⟩ => by simp at e
theorem Rk.drop (r : RS K G ι μ ρ σ H) {v : Pv} {x : V} (h : Rk (wd K G ι ρ σ H) ρ σ v x) : Rl (wd K G ι [] [] H) v x := by
  have le : Le (wd K G ι ρ σ H) (wd K G ι [] [] H) := ⟨rfl, fun _ _ h => h, fun b o e k => ⟨e, fun z => k (Or.imp (fun q => q) mx_nil z)⟩⟩
  rcases h with h | ⟨i, l, rfl, h1, h2⟩
  · exact h.mono le
  · obtain ⟨a, vs, e, ow, h3, h4⟩ := r.slotM h1
    rw [h2] at e; cases e
    unfold Rl
    refine ⟨a, vs, rfl, ⟨h3, fun z => ?_⟩, h4.mono le⟩
    rcases z with z | z | ⟨j, ⟨l', z⟩, _⟩
    · exact (r.ni i a ow).2 z
    · exact (r.ni i a ow).1 z
    · simp at z
end

/-! ### statements -/
def post (K : PySem.W.Frag) (G : Addr → Prop) (ι : List Addr) (ρ : List SV) (σ : L2.St) (H : Hp) (D : Ends) (μ' : List MO) : Fl → Prop
  | .nx ρ' => ∀ σ' H' ι', Step ι (Mx ι ρ σ) H ι' (Mx ι' ρ' σ') H' → RS K G ι' μ' ρ' σ' H' → D.nx σ' H'
  | .bk ρ' => ∀ σ' H' ι', Step ι (Mx ι ρ σ) H ι' (Mx ι' ρ' σ') H' → RS K G ι' μ' ρ' σ' H' → D.bk σ' H'
  | .ct ρ' => ∀ σ' H' ι', Step ι (Mx ι ρ σ) H ι' (Mx ι' ρ' σ') H' → RS K G ι' μ' ρ' σ' H' → D.ct σ' H'
  | .rt v => ∀ x H' ι', Step ι (Mx ι ρ σ) H ι' (Mx ι' [] []) H' → RS K G ι' μ' [] [] H' → Rl (wd K G ι' [] [] H') v x → D.rt x H'
def tX (K : PySem.W.Frag) (ρ : List SV) {m : Type → Type} [Monad m] [Eff m] {O : Type} (c : m O) (itp : O → Fl) : TS := fun D σ H =>
  ∃ G ι μ o μ', RS K G ι μ ρ σ H ∧ Eff.run c μ = some (o, μ') ∧ post K G ι ρ σ H D μ' (itp o)
section
variable (X : Cx) (ρ : List SV) {m : Type → Type} [Monad m] [Eff m] {O : Type}
def Es (st : Stmt) (c : m O) (itp : O → Fl) : Prop := PS X st (tX X.K ρ c itp)
def Ex (st : List Stmt) (c : m O) (itp : O → Fl) : Prop := PSs X st (tX X.K ρ c itp)
end
section
variable {K : PySem.W.Frag} {G : Addr → Prop} {ι ι1 : List Addr} {ρ ρ1 : List SV} {σ σ1 : L2.St} {H H1 : Hp} {D : Ends} {μ' : List MO}
theorem post.back {fl : Fl} (st : Step ι (Mx ι ρ σ) H ι1 (Mx ι1 ρ1 σ1) H1) (h : post K G ι ρ σ H D μ' fl) : post K G ι1 ρ1 σ1 H1 D μ' fl := by
  cases fl with
  | nx ρ' => exact fun σ' H' ι' st2 r => h σ' H' ι' (st.trans st2) r
  | bk ρ' => exact fun σ' H' ι' st2 r => h σ' H' ι' (st.trans st2) r
  | ct ρ' => exact fun σ' H' ι' st2 r => h σ' H' ι' (st.trans st2) r
  | rt v => exact fun σ' H' ι' st2 r z => h σ' H' ι' (st.trans st2) r z
end
section
variable {X : Cx} {ρ : List SV} {m : Type → Type} [Monad m] [Eff m] {O O1 S S1 L : Type} {st : Stmt} {rest : List Stmt} {itp : O → Fl}
theorem PSs.ex {α : Type} {sts : List Stmt} {t : α → TS} (h : ∀ a, PSs X sts (t a)) : PSs X sts fun D σ H => ∃ a, t a D σ H := ⟨fun pins s σ H D I ⟨a, q⟩ => (h a).run pins s σ H D I q⟩
/-- a statement that falls through, then the rest -/
theorem x_seq {c1 : m O1} {f : O1 → List SV} {k : O1 → m O} (h1 : Es X ρ st c1 fun o => .nx (f o)) (h2 : ∀ o, Ex X (f o) rest (k o) itp) : Ex X ρ (st :: rest) (c1 >>= k) itp :=
  PSs.imp (pss_cons h1 (PSs.ex h2)) fun D σ H q => by
    obtain ⟨G, ι, μ, o, μ', rs, hr, q⟩ := q
    obtain ⟨o1, μ1, h1, h2⟩ := inv_bind hr
    exact ⟨G, ι, μ, o1, μ1, rs, h1, fun σ1 H1 ι1 st1 rs1 => ⟨o1, G, ι1, μ1, o, μ', rs1, h2, q.back st1⟩⟩
def Out.andThen (o : Out S1 L) (k : S1 → m (Out S L)) : m (Out S L) := match o with
  | .nx s => k s
  | .bk l => pure (.bk l)
  | .ct l => pure (.ct l)
  | .rt v => pure (.rt v)
/-- a statement of any end, then the rest -/
theorem x_seqO {c1 : m (Out S1 L)} {e1 : S1 → List SV} {e : S → List SV} {eL : L → List SV} {k : S1 → m (Out S L)} (h1 : Es X ρ st c1 (oit e1 eL)) (h2 : ∀ s, Ex X (e1 s) rest (k s) (oit e eL)) :
    Ex X ρ (st :: rest) (c1 >>= fun o => o.andThen k) (oit e eL) :=
  PSs.imp (pss_cons h1 (PSs.ex h2)) fun D σ H q => by
    obtain ⟨G, ι, μ, o, μ', rs, hr, q⟩ := q
    obtain ⟨o1, μ1, h1, h2⟩ := inv_bind hr
    refine ⟨G, ι, μ, o1, μ1, rs, h1, ?_⟩
    cases o1 with
    | nx s => exact fun σ1 H1 ι1 st1 rs1 => ⟨s, G, ι1, μ1, o, μ', rs1, h2, q.back st1⟩
    | bk l => obtain ⟨rfl, rfl⟩ := inv_pure h2; exact q
    | ct l => obtain ⟨rfl, rfl⟩ := inv_pure h2; exact q
    | rt v => obtain ⟨rfl, rfl⟩ := inv_pure h2; exact q
theorem x_nil {s : S} {e : S → List SV} {eL : L → List SV} (h : Sub (e s) ρ) : Ex X ρ [] (pure (.nx s) : m (Out S L)) (oit e eL) := PSs.imp pss_nil fun D σ H q => by
  obtain ⟨G, ι, μ, o, μ', rs, hr, q⟩ := q
  obtain ⟨rfl, rfl⟩ := inv_pure hr
  exact q σ H ι (Step.refl.sub h) (rs.sub h)
theorem x_end {s : S} {e : S → List SV} (h : Sub (e s) ρ) : Ex X ρ [] (pure s : m S) (fun s => .nx (e s)) := PSs.imp pss_nil fun D σ H q => by
  obtain ⟨G, ι, μ, o, μ', rs, hr, q⟩ := q
  obtain ⟨rfl, rfl⟩ := inv_pure hr
  exact q σ H ι (Step.refl.sub h) (rs.sub h)
/-- forget, freeze -/
theorem x_sub {ρ' : List SV} {sts : List Stmt} {c : m O} (h : Sub ρ' ρ) (k : Ex X ρ' sts c itp) : Ex X ρ sts c itp := PSs.imp k fun D σ H q => by
  obtain ⟨G, ι, μ, o, μ', rs, hr, q⟩ := q
  exact ⟨G, ι, μ, o, μ', rs.sub h, hr, q.back (Step.refl.sub h)⟩
theorem PSs_stop {st : Stmt} {t : TS} (h : PS X st t) (k : ∀ D D' σ H, D'.rt = D.rt → D'.bk = D.bk → D'.ct = D.ct → t D σ H → t D' σ H) : PSs X (st :: rest) t :=
  PSs.imp (pss_cons h (pss_never (X := X) (sts := rest))) fun D σ H q => k D _ σ H rfl rfl rfl q
theorem x_ret {e : Expr} {c : m Pv} {em : S → List SV} {eL : L → List SV} {pos : Pos} (h : Ek X ρ e c) : Ex X ρ (.Return (some e) pos :: rest) (c >>= fun v => pure (.rt v) : m (Out S L)) (oit em eL) :=
  PSs.imp (PSs_stop (rest := rest) (ps_ret h) fun D D' σ H e1 _ _ q => by unfold tRet at q ⊢; rw [e1]; exact q) fun D σ H q => by
    obtain ⟨G, ι, μ, o, μ', rs, hr, q⟩ := q
    obtain ⟨v, μ1, h1, h2⟩ := inv_bind hr
    obtain ⟨rfl, rfl⟩ := inv_pure h2
    exact ⟨G, ι, μ, v, _, rs, h1, fun x H' ι' st z => q x H' ι' ⟨st.pre, st.keep, fun a h => st.new a (mx_nil h), st.frz⟩ z.1.drop (z.2.drop z.1)⟩
theorem x_retN {em : S → List SV} {eL : L → List SV} {pos : Pos} : Ex X ρ (.Return none pos :: rest) (pure (.rt .non) : m (Out S L)) (oit em eL) :=
  PSs.imp (PSs_stop (rest := rest) ps_retN fun D D' σ H e1 _ _ q => by unfold tRetN at q ⊢; rw [e1]; exact q) fun D σ H q => by
    obtain ⟨G, ι, μ, o, μ', rs, hr, q⟩ := q
    obtain ⟨rfl, rfl⟩ := inv_pure hr
    exact q _ H ι ⟨fun _ _ h => h, fun _ _ h _ => h, fun a h => .inl (mx_nil h), fun _ _ _ h => h⟩ rs.drop .non
theorem x_brk {l : L} {em : S → List SV} {eL : L → List SV} {pos : Pos} (h : Sub (eL l) ρ) : Ex X ρ (.Break pos :: rest) (pure (.bk l) : m (Out S L)) (oit em eL) :=
  PSs.imp (PSs_stop (rest := rest) ps_break fun D D' σ H _ e2 _ q => by unfold tBreak at q ⊢; rw [e2]; exact q) fun D σ H q => by
    obtain ⟨G, ι, μ, o, μ', rs, hr, q⟩ := q
    obtain ⟨rfl, rfl⟩ := inv_pure hr
    exact q σ H ι (Step.refl.sub h) (rs.sub h)
theorem x_cont {l : L} {em : S → List SV} {eL : L → List SV} {pos : Pos} (h : Sub (eL l) ρ) : Ex X ρ (.Continue pos :: rest) (pure (.ct l) : m (Out S L)) (oit em eL) :=
  PSs.imp (PSs_stop (rest := rest) ps_continue fun D D' σ H _ _ e3 q => by unfold tCont at q ⊢; rw [e3]; exact q) fun D σ H q => by
    obtain ⟨G, ι, μ, o, μ', rs, hr, q⟩ := q
    obtain ⟨rfl, rfl⟩ := inv_pure hr
    exact q σ H ι (Step.refl.sub h) (rs.sub h)
theorem tGt_tX {c : m Bool} {k : Bool → m O} {D : Ends} {σ : L2.St} {H : Hp} (q : tX X.K ρ (c >>= k) itp D σ H) : tGt X.K ρ c σ H fun b H1 => tX X.K ρ (k b) itp D σ H1 := by
  obtain ⟨G, ι, μ, o, μ', rs, hr, q⟩ := q
  obtain ⟨b, μ1, h1, h2⟩ := inv_bind hr
  exact ⟨G, ι, μ, b, μ1, rs, h1, fun H1 ι1 st1 z1 => ⟨G, ι1, μ1, o, μ', z1, h2, q.back st1⟩⟩
theorem es_if {t : Expr} {A B : List Stmt} {c : m Bool} {x y : m O} {pos : Pos} (hc : Et X ρ t c) (ha : Ex X ρ A x itp) (hb : Ex X ρ B y itp) : Es X ρ (.If t A B pos) (iteM c x y) itp :=
  PS.imp (ps_if hc ha hb) fun D σ H q => PT_mono (e := t) (tGt_tX q) fun b H1 q => by
    cases b
    · exact q
    · exact q

/-! ### assignments -/
variable {e : Expr} {pos pos' : Pos}
theorem es_set {i : Nat} {x : Str} {c : m Pv} (h : Ev X ρ e c) (hN : X.N.Nodup) (hi : X.N[i]? = some x := by rfl) (hx : Loc X.env.scope x := by first | exact Or.inl rfl | exact Or.inr rfl) (hs : swapsWith e (some (.Name x pos')) pos.line X.env = pure false := by rfl)
    (hf : X.fn x = true ∨ X.env.scope.names.lookup x = some .local := by first | exact .inl rfl | exact .inr rfl | assumption) : Es X ρ (.Assign [.Name x pos'] e pos) c fun v => .nx (ρ.set i (.val v)) :=
  PS.imp (ps_set hN hi hx h hs hf) fun D σ H q => by
    obtain ⟨G, ι, μ, o, μ', rs, hr, q⟩ := q
    exact ⟨G, ι, μ, o, μ', rs, hr, fun x H' ι' st z => q _ H' ι' st.set (z.1.setVal z.2)⟩
theorem own_set_step {ι ι' : List Addr} {M : Addr → Prop} {σ : L2.St} {H H' : Hp} {i : Nat} {l : List Pv} {a : Addr} (s : Step ι M H ι' (Mx ι' ρ σ) H') (na : M a ∨ H a = none) : Step ι M H ι' (Mx ι' (ρ.set i (.ml l)) (σ.set i (some (.ref a)))) H' :=
  ⟨s.pre, s.keep, fun b h => by
    rcases h with h | ⟨j, h⟩
    · exact s.new b (.inl h)
    · rcases own_set_ml h with ⟨h, _⟩ | ⟨_, h⟩
      · exact s.new b (.inr ⟨j, h⟩)
      · rw [h]; exact na, s.frz⟩
end
end Q
/-! L6: targets, what is walked, for, while. -/
namespace Q
open PySem PySem.Spec PyProof.Rows L2

section
variable {X : Cx} {ρ : List SV} {m : Type → Type} [Monad m] [Eff m] {O O1 S S1 L : Type} {e : Expr} {pos pos' : Pos}
theorem es_setM {i : Nat} {x : Str} {c : m (List Pv)} (h : En X ρ e c) (hN : X.N.Nodup) (hi : X.N[i]? = some x := by rfl) (hx : Loc X.env.scope x := by first | exact Or.inl rfl | exact Or.inr rfl) (hs : swapsWith e (some (.Name x pos')) pos.line X.env = pure false := by rfl)
    (hf : X.fn x = true ∨ X.env.scope.names.lookup x = some .local := by first | exact .inl rfl | exact .inr rfl | assumption) : Es X ρ (.Assign [.Name x pos'] e pos) c fun l => .nx (ρ.set i (.ml l)) :=
  PS.imp (ps_set hN hi hx h hs hf) fun D σ H q => by
    obtain ⟨G, ι, μ, o, μ', rs, hr, q⟩ := q
    refine ⟨G, ι, μ, o, μ', rs, hr, fun x H' ι' st z => ?_⟩
    obtain ⟨a, vs, rfl, n0, ng, ha, rs', hl⟩ := z
    exact q _ H' ι' (own_set_step st (.inr n0)) (rs'.setMl ng ha hl)
theorem es_expr {c : m Pv} (h : Ev X ρ e c) (hs : swapsWith e none pos.line X.env = pure false := by rfl) : Es X ρ (.Expr e pos) c fun _ => .nx ρ :=
  PS.imp (ps_expr h hs) fun D σ H q => by
    obtain ⟨G, ι, μ, o, μ', rs, hr, q⟩ := q
    exact ⟨G, ι, μ, o, μ', rs, hr, fun x H' ι' st z => q _ H' ι' st z.1⟩
end

/-! ### targets -/
/-- un takes the value apart, up stores its parts -/
structure Tg (X : Cx) (tg : Expr) (g : TG) (is : List Nat) {A : Type} (un : Pv → Option A) (up : List SV → A → List SV) : Prop where
  pg : PG X tg g
  ok : ∀ G ι μ ρ σ H x v a Q, RS X.K G ι μ ρ σ H → Rl (wd X.K G ι ρ σ H) v x → un v = some a →
    (∀ σ', RS X.K G ι μ (up ρ a) σ' H → (∀ b, Mx ι (up ρ a) σ' b → Mx ι ρ σ b) → (∀ j, j ∉ is → σ'[j]? = σ[j]?) → Q σ' H) → g x σ H Q
theorem tg_name {X : Cx} {i : Nat} {x : Str} {pos : Pos} (hN : X.N.Nodup) (hi : X.N[i]? = some x := by rfl) (hx : Loc X.env.scope x := by first | exact Or.inl rfl | exact Or.inr rfl)
    (hf : X.fn x = true ∨ X.env.scope.names.lookup x = some .local := by first | exact .inl rfl | exact .inr rfl | assumption) : Tg X (.Name x pos) (gName i) [i] some (fun ρ a => ρ.set i (.val a)) :=
  ⟨pg_name hN hi hx hf, fun G ι μ ρ σ H x v a Q rs r e k => by
    cases e
    exact k _ (rs.setVal r) (fun b h => Or.imp (fun q => q) (fun ⟨j, o⟩ => ⟨j, (own_set_val o).1⟩) h) fun j hj => List.getElem?_set_ne (fun z => hj (by simp [z]))⟩
def parts : Pv → Option (List Pv)
  | .tup l => some l
  | .lst l => some l
  | _ => none
def un2t (v : Pv) : Option (Pv × Pv) := match parts v with
  | some [a, b] => some (a, b)
  | _ => none
def un3 (v : Pv) : Option (Pv × Pv × Pv) := match parts v with
  | some [a, b, c] => some (a, b, c)
  | _ => none
def un4 (v : Pv) : Option (Pv × Pv × Pv × Pv) := match parts v with
  | some [a, b, c, d] => some (a, b, c, d)
  | _ => none
def gOr (g g' : TG) : TG := fun v σ H Q => g v σ H Q ∨ g' v σ H Q
theorem PG.or {X : Cx} {tg : Expr} {g g' : TG} (h : PG X tg g) (h' : PG X tg g') : PG X tg (gOr g g') := ⟨fun pins s σ H v u Q I r q => by
  rcases q with q | q
  · exact h.run pins s σ H v u Q I r q
  · exact h'.run pins s σ H v u Q I r q⟩
def gUn (K : PySem.W.Frag) (n : Nat) (t : TGs) : TG := gOr (gTup K n t) (gUnl K n t)
theorem pg_un {X : Cx} {es : List Expr} {k : Nat} {t : TGs} {n : Nat} {pos : Pos} (hc : X.calm = true) (h : PGs X es t)
    (hn : (assignEach es X.env).length = n := by rfl) (hst : (assignEach es X.env).findIdx? (·.1) = none := by rfl) : PG X (.Tuple es k pos) (gUn X.K n t) := PG.or (pg_tup hc h hn hst) (pg_unl hc h hn hst)
theorem gUn_of {K : PySem.W.Frag} {G : Addr → Prop} {ι : List Addr} {ρ : List SV} {σ σ0 : L2.St} {H : Hp} {v : Pv} {l : List Pv} {x : V} {n : Nat} {t : TGs} {Q : L2.St → Hp → Prop} (r : Rl (wd K G ι ρ σ H) v x) (e : parts v = some l) (hn : l.length = n)
    (h : ∀ vs, Rls (wd K G ι ρ σ H) l vs → t vs σ0 H Q) : gUn K n t x σ0 H Q := by
  unfold parts at e
  split at e
  · cases e
    obtain ⟨p, vs, rfl, h1, h2⟩ := r.tupE
    exact .inl ⟨p, vs, rfl, h1, by rw [← h2.length]; exact hn, h vs h2⟩
  · cases e
    obtain ⟨p, vs, rfl, h1, h2⟩ := r.lstE
    exact .inr ⟨p, vs, rfl, .of h1, by rw [← h2.length]; exact hn, h vs h2⟩
  · cases e
section
variable {X : Cx} {i j k l : Nat} {x y z w : Str} {p1 p2 p3 p4 pos : Pos} {kk : Nat}
theorem mx_set {ι : List Addr} {ρ : List SV} {σ : L2.St} {i : Nat} {v : Pv} {x : Option V} {b : Addr} (h : Mx ι (ρ.set i (.val v)) (σ.set i x) b) : Mx ι ρ σ b := Or.imp (fun q => q) (fun ⟨j, o⟩ => ⟨j, (own_set_val o).1⟩) h
theorem le_set {K : PySem.W.Frag} {G : Addr → Prop} {ι : List Addr} {ρ : List SV} {σ : L2.St} {H : Hp} {i : Nat} {v : Pv} {x : Option V} : Le (wd K G ι ρ σ H) (wd K G ι (ρ.set i (.val v)) (σ.set i x) H) := ⟨rfl, fun _ _ h => h, fun a o e k => ⟨e, fun z => k (Or.imp (fun q => q) mx_set z)⟩⟩
theorem tg_2 (hc : X.calm = true) (hN : X.N.Nodup) (hi : X.N[i]? = some x := by rfl) (hj : X.N[j]? = some y := by rfl)
    (hx : Loc X.env.scope x := by first | exact Or.inl rfl | exact Or.inr rfl) (hf : X.fn x = true ∨ X.env.scope.names.lookup x = some .local := by first | exact .inl rfl | exact .inr rfl | assumption)
    (hy : Loc X.env.scope y := by first | exact Or.inl rfl | exact Or.inr rfl) (hg : X.fn y = true ∨ X.env.scope.names.lookup y = some .local := by first | exact .inl rfl | exact .inr rfl | assumption) :
    Tg X (.Tuple [.Name x p1, .Name y p2] kk pos) (gUn X.K 2 (gCons (gName i) (gCons (gName j) gNil))) [i, j] un2t (fun ρ a => (ρ.set i (.val a.1)).set j (.val a.2)) :=
  ⟨pg_un (n := 2) hc (pgs_cons (pg_name (i := i) hN hi hx hf) (pgs_cons (pg_name (i := j) hN hj hy hg) pgs_nil)), fun G ι μ ρ σ H x v a Q rs r e k => by
    unfold un2t at e
    split at e
    · cases e
      refine gUn_of r (by assumption) rfl fun vs h2 => ?_
      obtain ⟨x1, r1, rfl, q1, h2⟩ := h2.inv_cons
      obtain ⟨x2, r2, rfl, q2, h2⟩ := h2.inv_cons
      cases h2.inv_nil
      refine ⟨x1, [x2], rfl, x2, [], rfl, rfl, ?_⟩
      exact k _ ((rs.setVal q1).setVal (q2.mono le_set)) (fun b h => mx_set (mx_set h)) fun n hn => by
        simp only [List.mem_cons, List.not_mem_nil, or_false, not_or] at hn
        rw [List.getElem?_set_ne (fun z => hn.2 z.symm), List.getElem?_set_ne (fun z => hn.1 z.symm)]
    · cases e⟩
theorem tg_3 (hc : X.calm = true) (hN : X.N.Nodup) (hi : X.N[i]? = some x := by rfl) (hj : X.N[j]? = some y := by rfl) (hk : X.N[k]? = some z := by rfl)
    (hx : Loc X.env.scope x := by first | exact Or.inl rfl | exact Or.inr rfl) (hf : X.fn x = true ∨ X.env.scope.names.lookup x = some .local := by first | exact .inl rfl | exact .inr rfl | assumption)
    (hy : Loc X.env.scope y := by first | exact Or.inl rfl | exact Or.inr rfl) (hg : X.fn y = true ∨ X.env.scope.names.lookup y = some .local := by first | exact .inl rfl | exact .inr rfl | assumption)
    (hz : Loc X.env.scope z := by first | exact Or.inl rfl | exact Or.inr rfl) (hh : X.fn z = true ∨ X.env.scope.names.lookup z = some .local := by first | exact .inl rfl | exact .inr rfl | assumption) :
    Tg X (.Tuple [.Name x p1, .Name y p2, .Name z p3] kk pos) (gUn X.K 3 (gCons (gName i) (gCons (gName j) (gCons (gName k) gNil)))) [i, j, k] un3 (fun ρ a => ((ρ.set i (.val a.1)).set j (.val a.2.1)).set k (.val a.2.2)) :=
  ⟨pg_un (n := 3) hc (pgs_cons (pg_name (i := i) hN hi hx hf) (pgs_cons (pg_name (i := j) hN hj hy hg) (pgs_cons (pg_name (i := k) hN hk hz hh) pgs_nil))), fun G ι μ ρ σ H x v a Q rs r e k => by
    unfold un3 at e
    split at e
    · cases e
      refine gUn_of r (by assumption) rfl fun vs h2 => ?_
      obtain ⟨x1, r1, rfl, q1, h2⟩ := h2.inv_cons
      obtain ⟨x2, r2, rfl, q2, h2⟩ := h2.inv_cons
      obtain ⟨x3, r3, rfl, q3, h2⟩ := h2.inv_cons
      cases h2.inv_nil
      refine ⟨x1, [x2, x3], rfl, x2, [x3], rfl, x3, [], rfl, rfl, ?_⟩
      exact k _ (((rs.setVal q1).setVal (q2.mono le_set)).setVal ((q3.mono le_set).mono le_set)) (fun b h => mx_set (mx_set (mx_set h))) fun n hn => by
        simp only [List.mem_cons, List.not_mem_nil, or_false, not_or] at hn
        rw [List.getElem?_set_ne (fun z => hn.2.2 z.symm), List.getElem?_set_ne (fun z => hn.2.1 z.symm), List.getElem?_set_ne (fun z => hn.1 z.symm)]
    · cases e⟩
theorem tg_4 (hc : X.calm = true) (hN : X.N.Nodup) (hi : X.N[i]? = some x := by rfl) (hj : X.N[j]? = some y := by rfl) (hk : X.N[k]? = some z := by rfl) (hl : X.N[l]? = some w := by rfl)
    (hx : Loc X.env.scope x := by first | exact Or.inl rfl | exact Or.inr rfl) (hf : X.fn x = true ∨ X.env.scope.names.lookup x = some .local := by first | exact .inl rfl | exact .inr rfl | assumption)
    (hy : Loc X.env.scope y := by first | exact Or.inl rfl | exact Or.inr rfl) (hg : X.fn y = true ∨ X.env.scope.names.lookup y = some .local := by first | exact .inl rfl | exact .inr rfl | assumption)
    (hz : Loc X.env.scope z := by first | exact Or.inl rfl | exact Or.inr rfl) (hh : X.fn z = true ∨ X.env.scope.names.lookup z = some .local := by first | exact .inl rfl | exact .inr rfl | assumption)
    (hw : Loc X.env.scope w := by first | exact Or.inl rfl | exact Or.inr rfl) (hhw : X.fn w = true ∨ X.env.scope.names.lookup w = some .local := by first | exact .inl rfl | exact .inr rfl | assumption) :
    Tg X (.Tuple [.Name x p1, .Name y p2, .Name z p3, .Name w p4] kk pos) (gUn X.K 4 (gCons (gName i) (gCons (gName j) (gCons (gName k) (gCons (gName l) gNil))))) [i, j, k, l] un4 (fun ρ a => (((ρ.set i (.val a.1)).set j (.val a.2.1)).set k (.val a.2.2.1)).set l (.val a.2.2.2)) :=
  ⟨pg_un (n := 4) hc (pgs_cons (pg_name (i := i) hN hi hx hf) (pgs_cons (pg_name (i := j) hN hj hy hg) (pgs_cons (pg_name (i := k) hN hk hz hh) (pgs_cons (pg_name (i := l) hN hl hw hhw) pgs_nil)))), fun G ι μ ρ σ H x v a Q rs r e k => by
    unfold un4 at e
    split at e
    · cases e
      refine gUn_of r (by assumption) rfl fun vs h2 => ?_
      obtain ⟨x1, r1, rfl, q1, h2⟩ := h2.inv_cons
      obtain ⟨x2, r2, rfl, q2, h2⟩ := h2.inv_cons
      obtain ⟨x3, r3, rfl, q3, h2⟩ := h2.inv_cons
      obtain ⟨x4, r4, rfl, q4, h2⟩ := h2.inv_cons
      cases h2.inv_nil
      refine ⟨x1, [x2, x3, x4], rfl, x2, [x3, x4], rfl, x3, [x4], rfl, x4, [], rfl, rfl, ?_⟩
      exact k _ ((((rs.setVal q1).setVal (q2.mono le_set)).setVal ((q3.mono le_set).mono le_set)).setVal (((q4.mono le_set).mono le_set).mono le_set)) (fun b h => mx_set (mx_set (mx_set (mx_set h)))) fun n hn => by
        simp only [List.mem_cons, List.not_mem_nil, or_false, not_or] at hn
        rw [List.getElem?_set_ne (fun z => hn.2.2.2 z.symm), List.getElem?_set_ne (fun z => hn.2.2.1 z.symm), List.getElem?_set_ne (fun z => hn.2.1 z.symm), List.getElem?_set_ne (fun z => hn.1 z.symm)]
    · cases e⟩
end
section
variable {X : Cx} {ρ : List SV} {m : Type → Type} [Monad m] [Eff m] {e tg : Expr} {pos : Pos} {A : Type} {un : Pv → Option A} {up : List SV → A → List SV} {g : TG} {is : List Nat}
/-- target = value, the value taken apart -/
theorem es_un {c : m Pv} (ht : Tg X tg g is un up) (h : Ev X ρ e c) (hs : swapsWithSole [tg] e pos.line X.env = pure false := by rfl) (hw : swappedStores [tg] e X.env = pure none := by rfl)
    (h1 : (assignEach [tg] X.env).map (·.2) = [assign tg X.env] := by rfl) : Es X ρ (.Assign [tg] e pos) (b1 un c) fun a => .nx (up ρ a) := by
  have hg := ht.pg
  have hk := ht.ok
  exact PS.imp (ps_asg h hg hs hw h1) fun D σ H q => by
    obtain ⟨G, ι, μ, o, μ', rs, hr, q⟩ := q
    obtain ⟨v, μ1, h1, h2⟩ := inv_bind hr
    obtain ⟨h5, rfl⟩ := inv_lift h2
    exact ⟨G, ι, μ, v, _, rs, h1, fun x H' ι' st z => hk G ι' _ ρ σ H' x v o _ z.1 z.2 h5 fun σ' rs' hm _ => q σ' H' ι' ⟨st.pre, st.keep, fun a h => st.new a (hm a h), st.frz⟩ rs'⟩
end

/-! ### what is walked -/
def JOk (J : It) (l : List Pv) (W0 : Wd) : Prop := ∀ W, Le W0 W → (∀ a, W.B a → ∃ o, W.H a = some o) →
  (∀ i, l.length ≤ i → J.stop i W.H) ∧ ∀ (i : Nat) v, l[i]? = some v → J.go i W.H ∧ ∀ x H', J.yld i W.H x H' → Same W.H H' ∧ Rl { W with H := H' } v x
def tEi (K : PySem.W.Frag) (ρ : List SV) {m : Type → Type} [Monad m] [Eff m] (c : m (List Pv)) : TI := fun σ H R =>
  ∃ G ι μ l μ', RS K G ι μ ρ σ H ∧ Eff.run c μ = some (l, μ') ∧ ∀ J H' ι', Step ι (Mx ι ρ σ) H ι' (Mx ι' ρ σ) H' → RS K G ι' μ' ρ σ H' → JOk J l (wd K G ι' ρ σ H') → R J H'
def Ei (X : Cx) (ρ : List SV) {m : Type → Type} [Monad m] [Eff m] (tg iter : Expr) (c : m (List Pv)) : Prop := PI X tg iter (tEi X.K ρ c)
theorem PI.imp {X : Cx} {tg it : Expr} {t t' : TI} (h : PI X tg it t) (k : ∀ σ H Q, t' σ H Q → t σ H Q) : PI X tg it t' := ⟨fun pins s σ H Q I q => h.run pins s σ H Q I (k σ H Q q)⟩
def iSeq (K : PySem.W.Frag) (tl : TE) : TI := fun σ H R => tl σ H fun x H1 => ∃ a, x = .ref a ∧ (((∃ xs, SqL K H1 a xs) ∧ R (Itl K a) H1) ∨ ((∃ xs, SqT K H1 a xs) ∧ R (Itt K a) H1))
theorem pi_seq {X : Cx} {tg : Expr} {l : Expr} {tl : TE} (hl : PE X l tl) : PI X tg l (iSeq X.K tl) := by
  refine ⟨fun pins s σ H R I h => ?_⟩
  refine thn (hl.run pins s σ H _ I h) fun v s1 ⟨x, H1, I1, r1, q1⟩ => ?_
  obtain ⟨a, e, q1⟩ := q1
  subst e
  cases r1
  rcases q1 with ⟨⟨xs, hq⟩, q⟩ | ⟨⟨xs, hq⟩, q⟩
  · obtain ⟨its, rv, p, hz⟩ := I1.list hq
    refine wpAny_pyIter_list p.isList ?_
    refine ⟨s1.heap.objs.size, [s1.heap.objs.size], _, _, H1, rfl, I1.kept (t' := s1.toks) fun b o e => Heap.get?_push_of_some _ e, turn_list a _, ⟨_, Heap.get?_push_size _ rfl, rfl, rfl⟩, fun b hb => ?_, q⟩
    have e : b = s1.heap.objs.size := by simpa using hb
    subst e
    exact I1.fpOk (Nat.le_refl _) (I1.hok.fresh (Nat.le_refl _))
  · obtain ⟨its, rv, p, hz⟩ := I1.tuple hq
    refine wpAny_pyIter_tuple (show s1.heap.IsTuple a its.toArray from p) ?_
    refine ⟨s1.heap.objs.size, [s1.heap.objs.size], _, _, H1, rfl, I1.kept (t' := s1.toks) fun b o e => Heap.get?_push_of_some _ e, turn_tuple a _, ⟨_, Heap.get?_push_size _ rfl, rfl, rfl⟩, fun b hb => ?_, q⟩
    have e : b = s1.heap.objs.size := by simpa using hb
    subst e
    exact I1.fpOk (Nat.le_refl _) (I1.hok.fresh (Nat.le_refl _))
def items : Pv → Option (List Pv)
  | .tup l => some l
  | .lst l => some l
  | .scr l => some (l.map .int)
  | _ => none
section
variable {X : Cx} {ρ : List SV} {m : Type → Type} [Monad m] [Eff m] {e tg a b : Expr} {es : List Expr} {pos p : Pos}
theorem ei_val {c : m Pv} (h : Ev X ρ e c) : Ei X ρ tg e (b1 items c) := PI.imp (pi_seq h) fun σ H R q => by
  obtain ⟨G, ι, μ, l, μ', rs, hr, q⟩ := q
  obtain ⟨v, μ1, h1, h2⟩ := inv_bind hr
  obtain ⟨h5, rfl⟩ := inv_lift h2
  refine ⟨G, ι, μ, v, _, rs, h1, fun x H1 ι1 st1 z1 => ?_⟩
  unfold items at h5
  split at h5
  · cases h5
    have r0 := z1.2
    obtain ⟨a, vs, rfl, k1, k2⟩ := z1.2.tupE
    refine ⟨a, rfl, .inr ⟨⟨vs, k1⟩, q _ H1 ι1 st1 z1.1 fun W hW ht => ?_⟩⟩
    have r1 := r0.mono hW
    obtain ⟨a', vs', e, k1', k2'⟩ := r1.tupE
    cases e
    rw [hW.k] at k1'
    refine ⟨fun i hi => ⟨vs', k1', by rw [← k2'.length]; exact hi⟩, fun i v hv => ?_⟩
    obtain ⟨x, hx, rx⟩ := k2'.get hv
    refine ⟨⟨vs', x, k1', hx⟩, fun y H' hy => ?_⟩
    obtain ⟨rfl, hy⟩ := hy
    have := hy vs' k1'
    rw [hx] at this; cases this
    exact ⟨Same.refl _, rx⟩
  · cases h5
    have r0 := z1.2
    obtain ⟨a, vs, rfl, k1, k2⟩ := z1.2.lstE
    refine ⟨a, rfl, .inl ⟨⟨vs, .of k1⟩, q _ H1 ι1 st1 z1.1 fun W hW ht => ?_⟩⟩
    have r1 := r0.mono hW
    obtain ⟨a', vs', e, k1', k2'⟩ := r1.lstE
    cases e
    refine ⟨fun i hi => ⟨vs', .of k1', by rw [← k2'.length]; exact hi⟩, fun i v hv => ?_⟩
    obtain ⟨x, hx, rx⟩ := k2'.get hv
    refine ⟨⟨vs', x, .of k1', hx⟩, fun y H' hy => ?_⟩
    obtain ⟨rfl, hy⟩ := hy
    have := hy vs' (.of k1')
    rw [hx] at this; cases this
    exact ⟨Same.refl _, rx⟩
  · cases h5
    have r0 := z1.2
    obtain ⟨a, rfl, k1⟩ := z1.2.scrE
    refine ⟨a, rfl, .inl ⟨⟨_, k1⟩, q _ H1 ι1 st1 z1.1 fun W hW ht => ?_⟩⟩
    have r1 := r0.mono hW
    obtain ⟨a', e, k1'⟩ := r1.scrE
    cases e
    rw [hW.k] at k1'
    refine ⟨fun i hi => ⟨_, k1', by rw [List.length_map] at hi ⊢; exact hi⟩, fun i v hv => ?_⟩
    rw [List.getElem?_map] at hv
    rename_i ns
    cases e3 : ns[i]? with
    | none => rw [e3] at hv; cases hv
    | some n =>
      rw [e3] at hv; cases hv
      have hn : (ns.map V.int)[i]? = some (.int n) := by rw [List.getElem?_map, e3]; rfl
      refine ⟨⟨_, _, k1', hn⟩, fun y H' hy => ?_⟩
      obtain ⟨rfl, hy⟩ := hy
      have := hy _ k1'
      rw [hn] at this; cases this
      exact ⟨Same.refl _, .int⟩
  · cases h5
def rangeP (lo hi : Int) : List Pv := (List.range (hi - lo).toNat).map fun k => .int (lo + ((k : Nat) : Int))
theorem jok_range {lo hi : Int} {W0 : Wd} : JOk (Itr lo (hi - lo).toNat) (rangeP lo hi) W0 := fun W hW ht => by
  unfold rangeP
  refine ⟨fun i hi => by rw [List.length_map, List.length_range] at hi; exact hi, fun i v hv => ?_⟩
  rw [List.getElem?_map] at hv
  cases e : (List.range (hi - lo).toNat)[i]? with
  | none => rw [e] at hv; cases hv
  | some k =>
    rw [e] at hv; cases hv
    obtain ⟨h1, h2⟩ := List.getElem?_eq_some_iff.mp e
    rw [List.getElem_range] at h2
    subst h2
    rw [List.length_range] at h1
    refine ⟨h1, fun x H' hy => ?_⟩
    obtain ⟨rfl, rfl⟩ := hy
    exact ⟨Same.refl _, .int⟩
def inR (j : Int) : Bool := Nat.ble j.natAbs 1000000000
theorem inR_iff {j : Int} : inR j = true ↔ -1000000000 ≤ j ∧ j ≤ 1000000000 := by
  unfold inR
  rw [Nat.ble_eq]
  omega
def pRange1 : List Pv → Option (List Pv)
  | [.int j] => if inR j = true then some (rangeP 0 j) else none
  | _ => none
def pRange2 : List Pv → Option (List Pv)
  | [.int i, .int j] => if inR i = true ∧ inR j = true then some (rangeP i j) else none
  | _ => none
theorem ei_range1 {cs : m (List Pv)} (hm : X.mg "range" = none) (ha : Ea X ρ [a] cs) (hg : Gl X "range" := by rfl) (hs : starEach [a] X.env = [(false, eval a X.env)] := by rfl) : Ei X ρ tg (.Call (.Name "range" p) [a] [] pos) (bL pRange1 cs) :=
  PI.imp (pi_range1 hg hm ha hs) fun σ H R q => by
    obtain ⟨G, ι, μ, l, μ', rs, hr, q⟩ := q
    obtain ⟨vs, μ1, h1, h2⟩ := inv_bind hr
    obtain ⟨h5, rfl⟩ := inv_lift h2
    refine ⟨G, ι, μ, vs, _, rs, h1, fun xs H1 ι1 st1 r1 z1 => ?_⟩
    have z1 : Rls _ vs xs := z1
    unfold pRange1 at h5
    split at h5
    · split at h5
      · rename_i hj
        have hj := inR_iff.mp hj
        cases h5
        obtain ⟨x, r, rfl, k1, k2⟩ := z1.inv_cons
        cases k2.inv_nil
        refine ⟨_, by rw [k1.intE], by omega, by omega, ?_⟩
        exact q _ H1 ι1 st1 r1 (by simpa using jok_range (lo := 0) (W0 := wd X.K G ι1 ρ σ H1))
      · cases h5
    · cases h5
theorem ei_range2 {cs : m (List Pv)} (hm : X.mg "range" = none) (ha : Ea X ρ [a, b] cs) (hg : Gl X "range" := by rfl) (hs : starEach [a, b] X.env = [(false, eval a X.env), (false, eval b X.env)] := by rfl)
    (hs2 : starEach [b] X.env = [(false, eval b X.env)] := by rfl) : Ei X ρ tg (.Call (.Name "range" p) [a, b] [] pos) (bL pRange2 cs) :=
  PI.imp (pi_range2 hg hm ha hs hs2) fun σ H R q => by
    obtain ⟨G, ι, μ, l, μ', rs, hr, q⟩ := q
    obtain ⟨vs, μ1, h1, h2⟩ := inv_bind hr
    obtain ⟨h5, rfl⟩ := inv_lift h2
    refine ⟨G, ι, μ, vs, _, rs, h1, fun xs H1 ι1 st1 r1 z1 => ?_⟩
    have z1 : Rls _ vs xs := z1
    unfold pRange2 at h5
    split at h5
    · split at h5
      · rename_i hj
        have hi := inR_iff.mp hj.1
        have hj := inR_iff.mp hj.2
        cases h5
        obtain ⟨x, r, rfl, k1, k2⟩ := z1.inv_cons
        obtain ⟨x2, r, rfl, k3, k4⟩ := k2.inv_cons
        cases k4.inv_nil
        refine ⟨_, _, by rw [k1.intE, k3.intE], ⟨by omega, by omega, by omega, by omega⟩, ?_⟩
        exact q _ H1 ι1 st1 r1 jok_range
      · cases h5
    · cases h5

/-! ### for -/
variable {g : TG} {is : List Nat} {A S L O : Type} {un : Pv → Option A} {up : List SV → A → List SV} {body : List Stmt}
theorem Le.tracked {K : PySem.W.Frag} {G : Addr → Prop} {ι : List Addr} {μ : List MO} {σ : L2.St} {H : Hp} (r : RS K G ι μ ρ σ H) : ∀ a, (wd K G ι ρ σ H).B a → ∃ o, (wd K G ι ρ σ H).H a = some o := fun a h => r.tracked h
def forO (un : Pv → Option A) (cb : S → A → m (Out S S)) : S → List Pv → m (Out S L)
  | s, [] => pure (.nx s)
  | s, x :: r => Eff.lift (un x) >>= fun a => cb s a >>= fun o => match o with
    | .nx s' => forO un cb s' r
    | .ct s' => forO un cb s' r
    | .bk s' => pure (.nx s')
    | .rt v => pure (.rt v)
def forS (un : Pv → Option A) (cb : S → A → m S) : S → List Pv → m S
  | s, [] => pure s
  | s, x :: r => Eff.lift (un x) >>= fun a => cb s a >>= fun s' => forS un cb s' r
theorem es_forO {ci : m (List Pv)} {cb : S → A → m (Out S S)} {emb : S → List SV} {eL : L → List SV} {s0 : S} (hp : PassesOwn (model X.prog X.w) X.A X.env X.xe) (hc : X.calm = true) (hi : Ei X ρ tg e ci) (ht : Tg X tg g is un up) (h0 : Sub (emb s0) ρ)
    (hb : ∀ s a, Ex X (up (emb s) a) body (cb s a) (oit emb emb)) (hs : ∀ x, foldedSetIterable e X.env x = pure x := by intro _; rfl) :
    Es X ρ (.For tg e body [] pos) (ci >>= fun l => forO un cb s0 l : m (Out S L)) (oit emb eL) := by
  have hg := ht.pg
  have hk := ht.ok
  refine PS.imp (ps_for hp hc hi hg (PSs.ex fun s => PSs.ex fun a => hb s a) hs) fun D σ H q => ?_
  obtain ⟨G, ι, μ, o, μ', rs, hr, q⟩ := q
  obtain ⟨l, μ1, h1, h2⟩ := inv_bind hr
  refine ⟨G, ι, μ, l, μ1, rs, h1, fun J H1 ι1 st1 rs1 jk => ?_⟩
  have q1 := q.back st1
  have rs0 := rs1.sub h0
  have st0 : Step ι1 (Mx ι1 ρ σ) H1 ι1 (Mx ι1 (emb s0) σ) H1 := Step.refl.sub h0
  have q1 : post X.K G ι1 (emb s0) σ H1 D μ' (oit emb eL o) := q1.back st0
  -- the invariant: what is left to do comes to the end that was told
  refine ⟨fun i k σ' H' => k = l.length - i ∧ i ≤ l.length ∧ ∃ s μ2 ι2, Step ι1 (Mx ι1 (emb s0) σ) H1 ι2 (Mx ι2 (emb s) σ') H' ∧ Le (wd X.K G ι1 ρ σ H1) (wd X.K G ι2 (emb s) σ' H') ∧ RS X.K G ι2 μ2 (emb s) σ' H' ∧ Eff.run (forO un cb s (l.drop i) : m (Out S L)) μ2 = some (o, μ'),
    ⟨l.length, by simp, Nat.zero_le _, s0, μ1, ι1, Step.refl, st0.le, rs0, by simpa using h2⟩, ?_⟩
  rintro i k σ' H' ⟨rfl, hi, s, μ2, ι2, st2, le2, rs2, hrun⟩
  obtain ⟨j1, j2⟩ := jk _ le2 (Le.tracked rs2)
  by_cases hlt : i < l.length
  · obtain ⟨go, yl⟩ := j2 i l[i] (List.getElem?_eq_getElem hlt)
    rw [List.drop_eq_getElem_cons hlt] at hrun
    unfold forO at hrun
    obtain ⟨a, μ3, k1, k2⟩ := inv_bind hrun
    obtain ⟨hun, rfl⟩ := inv_lift k1
    obtain ⟨ob, μ4, k3, k4⟩ := inv_bind k2
    have rest : ∀ s' μ4 σ3 H3 ι3, Eff.run (forO un cb s' (l.drop (i + 1)) : m (Out S L)) μ4 = some (o, μ') → Step ι2 (Mx ι2 (emb s) σ') H' ι3 (Mx ι3 (emb s') σ3) H3 → RS X.K G ι3 μ4 (emb s') σ3 H3 →
        ∃ m', m' < l.length - i ∧ (m' = l.length - (i + 1) ∧ i + 1 ≤ l.length ∧ ∃ s μ2 ι2, Step ι1 (Mx ι1 (emb s0) σ) H1 ι2 (Mx ι2 (emb s) σ3) H3 ∧ Le (wd X.K G ι1 ρ σ H1) (wd X.K G ι2 (emb s) σ3 H3) ∧ RS X.K G ι2 μ2 (emb s) σ3 H3 ∧ Eff.run (forO un cb s (l.drop (i + 1)) : m (Out S L)) μ2 = some (o, μ')) :=
      fun s' μ4 σ3 H3 ι3 hr st3 rs3 => ⟨l.length - (i + 1), by omega, rfl, hlt, s', μ4, ι3, st2.trans st3, le2.trans st3.le, rs3, hr⟩
    refine .inr ⟨go, fun σ3 H3 => ∃ s' μ5 ι3, Eff.run (forO un cb s' (l.drop (i + 1)) : m (Out S L)) μ5 = some (o, μ') ∧ Step ι2 (Mx ι2 (emb s) σ') H' ι3 (Mx ι3 (emb s') σ3) H3 ∧ RS X.K G ι3 μ5 (emb s') σ3 H3,
      fun σ3 H3 ⟨s', μ5, ι3, e1, e2, e3⟩ => rest s' μ5 σ3 H3 ι3 e1 e2 e3, fun x H3 hy => ?_⟩
    obtain ⟨sm, rx⟩ := yl x H3 hy
    have rs3 := rs2.same sm
    refine hk G ι2 _ (emb s) σ' H3 x _ a _ rs3 rx hun fun σ4 rs4 hm _ => ?_
    have st4 : Step ι2 (Mx ι2 (emb s) σ') H' ι2 (Mx ι2 (up (emb s) a) σ4) H3 := ⟨fun _ _ h => h, fun b ob h _ => sm b ob h, fun b h => .inl (hm b h), fun b o u h => sm b _ h⟩
    refine ⟨s, a, G, ι2, _, ob, μ4, rs4, k3, ?_⟩
    cases ob with
    | nx s' => exact fun σ5 H5 ι5 st5 rs5 => ⟨s', μ4, ι5, k4, st4.trans st5, rs5⟩
    | ct s' => exact fun σ5 H5 ι5 st5 rs5 => ⟨s', μ4, ι5, k4, st4.trans st5, rs5⟩
    | bk s' =>
      obtain ⟨rfl, rfl⟩ := inv_pure k4
      exact fun σ5 H5 ι5 st5 rs5 => q1 σ5 H5 ι5 (st2.trans (st4.trans st5)) rs5
    | rt v =>
      obtain ⟨rfl, rfl⟩ := inv_pure k4
      exact fun y H5 ι5 st5 rs5 ry => q1 y H5 ι5 (st2.trans (st4.trans st5)) rs5 ry
  · refine .inl ⟨j1 i (by omega), ?_⟩
    rw [List.drop_eq_nil_of_le (by omega)] at hrun
    unfold forO at hrun
    obtain ⟨rfl, rfl⟩ := inv_pure hrun
    exact q1 σ' H' ι2 st2 rs2
theorem PSs.outS {sts : List Stmt} {ρ : List SV} {c : m S} {emb : S → List SV} {em2 : S → List SV} {eL : L → List SV} (h : Ex X ρ sts c fun s => .nx (emb s)) : Ex X ρ sts (c >>= fun s => pure (.nx s) : m (Out S L)) (oit emb eL) :=
  PSs.imp h fun D σ H q => by
    obtain ⟨G, ι, μ, o, μ', rs, hr, q⟩ := q
    obtain ⟨s, μ1, h1, h2⟩ := inv_bind hr
    obtain ⟨rfl, rfl⟩ := inv_pure h2
    exact ⟨G, ι, μ, s, _, rs, h1, q⟩
theorem forS_O {cb : S → A → m S} : ∀ (l : List Pv) (s : S) (μ : List MO) (o : S) (μ' : List MO), Eff.run (forS un cb s l) μ = some (o, μ') → Eff.run (forO un (fun s a => cb s a >>= fun s => pure (.nx s)) s l : m (Out S L)) μ = some (.nx o, μ')
  | [], s, μ, o, μ', h => by
    unfold forS at h
    unfold forO
    obtain ⟨rfl, rfl⟩ := inv_pure h
    exact Eff.run_pure _ _
  | x :: r, s, μ, o, μ', h => by
    unfold forS at h
    obtain ⟨a, μ1, k1, k2⟩ := inv_bind h
    obtain ⟨s', μ2, k3, k4⟩ := inv_bind k2
    have ih := forS_O r s' μ2 o μ' k4
    unfold forO
    rw [Eff.run_bind, k1, Option.bind_some, Eff.run_bind, Eff.run_bind, k3, Option.bind_some, Eff.run_pure, Option.bind_some]
    exact ih
theorem es_forS {ci : m (List Pv)} {cb : S → A → m S} {emb : S → List SV} {s0 : S} (hp : PassesOwn (model X.prog X.w) X.A X.env X.xe) (hc : X.calm = true) (hi : Ei X ρ tg e ci) (ht : Tg X tg g is un up) (h0 : Sub (emb s0) ρ)
    (hb : ∀ s a, Ex X (up (emb s) a) body (cb s a) fun s => .nx (emb s)) (hs : ∀ x, foldedSetIterable e X.env x = pure x := by intro _; rfl) :
    Es X ρ (.For tg e body [] pos) (ci >>= fun l => forS un cb s0 l) fun s => .nx (emb s) :=
  PS.imp (es_forO (L := Empty) (eL := fun _ => []) hp hc hi ht h0 (fun s a => PSs.outS (em2 := emb) (hb s a)) hs) fun D σ H q => by
    obtain ⟨G, ι, μ, o, μ', rs, hr, q⟩ := q
    obtain ⟨l, μ1, h1, h2⟩ := inv_bind hr
    refine ⟨G, ι, μ, .nx o, μ', rs, ?_, q⟩
    rw [Eff.run_bind, h1]
    exact forS_O l s0 μ1 o μ' h2

/-! ### while -/
def whO (cc : S → m Bool) (cb : S → m (Out S S)) : Nat → S → m (Out S L)
  | 0, _ => Eff.lift none
  | n + 1, s => cc s >>= fun b => if b = true then cb s >>= fun o => match o with
      | .nx s' => whO cc cb n s'
      | .ct s' => whO cc cb n s'
      | .bk s' => pure (.nx s')
      | .rt v => pure (.rt v)
    else pure (.nx s)
def whS (cc : S → m Bool) (cb : S → m S) : Nat → S → m S
  | 0, _ => Eff.lift none
  | n + 1, s => cc s >>= fun b => if b = true then cb s >>= fun s' => whS cc cb n s' else pure s
theorem es_whO {t : Expr} {cc : S → m Bool} {cb : S → m (Out S S)} {emb : S → List SV} {eL : L → List SV} {s0 : S} (n : Nat) (hp : PassesOwn (model X.prog X.w) X.A X.env X.xe) (h0 : Sub (emb s0) ρ)
    (hc : ∀ s, Et X (emb s) t (cc s)) (hb : ∀ s, Ex X (emb s) body (cb s) (oit emb emb)) : Es X ρ (.While t body [] pos) (whO cc cb n s0 : m (Out S L)) (oit emb eL) := by
  have ex : PT X t fun σ H Q => ∃ s, tGt X.K (emb s) (cc s) σ H Q := ⟨fun pins s σ H Q I ⟨a, q⟩ => (hc a).run pins s σ H Q I q⟩
  refine PS.imp (ps_while hp ex (PSs.ex fun s => hb s)) fun D σ H q => ?_
  obtain ⟨G, ι, μ, o, μ', rs, hr, q⟩ := q
  have st0 : Step ι (Mx ι ρ σ) H ι (Mx ι (emb s0) σ) H := Step.refl.sub h0
  have q1 : post X.K G ι (emb s0) σ H D μ' (oit emb eL o) := q.back st0
  refine ⟨fun k σ' H' => ∃ s μ2 ι2, Step ι (Mx ι (emb s0) σ) H ι2 (Mx ι2 (emb s) σ') H' ∧ RS X.K G ι2 μ2 (emb s) σ' H' ∧ Eff.run (whO cc cb k s : m (Out S L)) μ2 = some (o, μ'),
    ⟨n, s0, μ, ι, Step.refl, rs.sub h0, hr⟩, ?_⟩
  rintro k σ' H' ⟨s, μ2, ι2, st2, rs2, hrun⟩
  cases k with
  | zero =>
    unfold whO at hrun
    obtain ⟨e, _⟩ := inv_lift hrun
    cases e
  | succ k =>
    unfold whO at hrun
    obtain ⟨b, μ3, k1, k2⟩ := inv_bind hrun
    refine ⟨s, G, ι2, μ2, b, μ3, rs2, k1, fun H3 ι3 st3 rs3 => ?_⟩
    cases b with
    | true =>
      rw [if_pos rfl] at k2 ⊢
      obtain ⟨ob, μ4, k3, k4⟩ := inv_bind k2
      refine ⟨fun σ4 H4 => ∃ s' μ5 ι4, Step ι (Mx ι (emb s0) σ) H ι4 (Mx ι4 (emb s') σ4) H4 ∧ RS X.K G ι4 μ5 (emb s') σ4 H4 ∧ Eff.run (whO cc cb k s' : m (Out S L)) μ5 = some (o, μ'), fun σ4 H4 h => ⟨k, Nat.lt_succ_self _, h⟩, s, G, ι3, μ3, ob, μ4, rs3, k3, ?_⟩
      cases ob with
      | nx s' => exact fun σ5 H5 ι5 st5 rs5 => ⟨s', μ4, ι5, st2.trans (st3.trans st5), rs5, k4⟩
      | ct s' => exact fun σ5 H5 ι5 st5 rs5 => ⟨s', μ4, ι5, st2.trans (st3.trans st5), rs5, k4⟩
      | bk s' =>
        obtain ⟨rfl, rfl⟩ := inv_pure k4
        exact fun σ5 H5 ι5 st5 rs5 => q1 σ5 H5 ι5 (st2.trans (st3.trans st5)) rs5
      | rt v =>
        obtain ⟨rfl, rfl⟩ := inv_pure k4
        exact fun y H5 ι5 st5 rs5 ry => q1 y H5 ι5 (st2.trans (st3.trans st5)) rs5 ry
    | false =>
      rw [if_neg Bool.false_ne_true] at k2 ⊢
      obtain ⟨rfl, rfl⟩ := inv_pure k2
      exact q1 σ' H3 ι3 (st2.trans st3) rs3
theorem whS_O {cc : S → m Bool} {cb : S → m S} : ∀ (n : Nat) (s : S) (μ : List MO) (o : S) (μ' : List MO), Eff.run (whS cc cb n s) μ = some (o, μ') → Eff.run (whO cc (fun s => cb s >>= fun s => pure (.nx s)) n s : m (Out S L)) μ = some (.nx o, μ')
  | 0, s, μ, o, μ', h => by
    unfold whS at h
    obtain ⟨e, _⟩ := inv_lift h
    cases e
  | n + 1, s, μ, o, μ', h => by
    unfold whS at h
    obtain ⟨b, μ1, k1, k2⟩ := inv_bind h
    unfold whO
    rw [Eff.run_bind, k1, Option.bind_some]
    cases b with
    | true =>
      rw [if_pos rfl] at k2 ⊢
      obtain ⟨s', μ2, k3, k4⟩ := inv_bind k2
      have ih := whS_O n s' μ2 o μ' k4
      rw [Eff.run_bind, Eff.run_bind, k3, Option.bind_some, Eff.run_pure, Option.bind_some]
      exact ih
    | false =>
      rw [if_neg Bool.false_ne_true] at k2 ⊢
      obtain ⟨rfl, rfl⟩ := inv_pure k2
      exact Eff.run_pure _ _
theorem es_whS {t : Expr} {cc : S → m Bool} {cb : S → m S} {emb : S → List SV} {s0 : S} (n : Nat) (hp : PassesOwn (model X.prog X.w) X.A X.env X.xe) (h0 : Sub (emb s0) ρ)
    (hc : ∀ s, Et X (emb s) t (cc s)) (hb : ∀ s, Ex X (emb s) body (cb s) fun s => .nx (emb s)) : Es X ρ (.While t body [] pos) (whS cc cb n s0) fun s => .nx (emb s) :=
  PS.imp (es_whO (L := Empty) (eL := fun _ => []) n hp h0 hc (fun s => PSs.outS (em2 := emb) (hb s))) fun D σ H q => by
    obtain ⟨G, ι, μ, o, μ', rs, hr, q⟩ := q
    exact ⟨G, ι, μ, .nx o, μ', rs, whS_O n s0 μ o μ' hr, q⟩
end
end Q
/-! L7: comprehensions, defs. -/
namespace Q
open PySem PySem.Spec PyProof.Rows L2

/-! ### comprehensions -/
def wipeR (ρ : List SV) : List Nat → List SV
  | [] => ρ
  | v :: vs => (wipeR ρ vs).set v .none
theorem wipeR_at {ρ : List SV} {i : Nat} {s : SV} : ∀ {vs : List Nat}, (wipeR ρ vs)[i]? = some s → s = .none ∨ (ρ[i]? = some s ∧ i ∉ vs)
  | [], h => .inr ⟨h, by simp⟩
  | v :: vs, h => by
    unfold wipeR at h
    by_cases hi : v = i
    · subst hi
      rw [List.getElem?_set_self'] at h
      cases q : (wipeR ρ vs)[v]? with
      | none => rw [q] at h; cases h
      | some u => rw [q] at h; cases h; exact .inl rfl
    · rw [List.getElem?_set_ne hi] at h
      rcases wipeR_at h with h | ⟨h1, h2⟩
      · exact .inl h
      · exact .inr ⟨h1, by simp only [List.mem_cons, not_or]; exact ⟨fun e => hi e.symm, h2⟩⟩
theorem wipeR_length (ρ : List SV) : ∀ vs : List Nat, (wipeR ρ vs).length = ρ.length
  | [] => rfl
  | v :: vs => by unfold wipeR; rw [List.length_set, wipeR_length ρ vs]
theorem wipeR_out {ρ : List SV} {i : Nat} : ∀ {vs : List Nat}, i ∉ vs → (wipeR ρ vs)[i]? = ρ[i]?
  | [], _ => rfl
  | v :: vs, h => by
    simp only [List.mem_cons, not_or] at h
    unfold wipeR
    rw [List.getElem?_set_ne (fun e => h.1 e.symm)]
    exact wipeR_out h.2
/-- no slot among these holds a list of one's own -/
def noMl (ρ : List SV) (vs : List Nat) : Prop := ∀ v ∈ vs, ∀ l, ρ[v]? ≠ some (.ml l)
section
variable {K : PySem.W.Frag} {G : Addr → Prop} {ι ι' : List Addr} {μ μ' : List MO} {ρ : List SV} {σ : L2.St} {H H' : Hp} {vs : List Nat}
theorem wipe_own (hv : noMl ρ vs) {i : Nat} {a : Addr} : own (wipeR ρ vs) (wipe σ vs) i a ↔ own ρ σ i a := by
  constructor
  · rintro ⟨⟨l, e⟩, e2⟩
    rcases wipeR_at e with e | ⟨e, h⟩
    · cases e
    · rw [wipe_out h] at e2
      exact ⟨⟨l, e⟩, e2⟩
  · rintro ⟨⟨l, e⟩, e2⟩
    have h : i ∉ vs := fun h => hv i h l e
    exact ⟨⟨l, by rw [wipeR_out h]; exact e⟩, by rw [wipe_out h]; exact e2⟩
theorem wipe_mx (hv : noMl ρ vs) {a : Addr} : Mx ι (wipeR ρ vs) (wipe σ vs) a ↔ Mx ι ρ σ a :=
  ⟨fun h => h.imp id fun ⟨i, h⟩ => ⟨i, (wipe_own hv).mp h⟩, fun h => h.imp id fun ⟨i, h⟩ => ⟨i, (wipe_own hv).mpr h⟩⟩
theorem wipe_le (hv : noMl ρ vs) : Le (wd K G ι ρ σ H) (wd K G ι (wipeR ρ vs) (wipe σ vs) H) := ⟨rfl, fun _ _ h => h, fun a o h k => ⟨h, fun z => k (Or.imp (fun q => q) (wipe_mx hv).mp z)⟩⟩
theorem wipe_le' (hv : noMl ρ vs) : Le (wd K G ι (wipeR ρ vs) (wipe σ vs) H) (wd K G ι ρ σ H) := ⟨rfl, fun _ _ h => h, fun a o h k => ⟨h, fun z => k (Or.imp (fun q => q) (wipe_mx hv).mpr z)⟩⟩
theorem RS.wiped (hv : noMl ρ vs) (r : RS K G ι μ ρ σ H) : RS K G ι μ (wipeR ρ vs) (wipe σ vs) H := by
  refine ⟨by rw [wipeR_length, wipe_length]; exact r.len, fun i s e => ?_, fun i j a x y => r.inj i j a ((wipe_own hv).mp x) ((wipe_own hv).mp y), fun i a x => r.ni i a ((wipe_own hv).mp x), r.g, r.nd, r.lm, fun n o e => ?_⟩
  · rcases wipeR_at e with e | ⟨e, h⟩
    · subst e; trivial
    · rw [wipe_out h]
      exact SlotOk.mono (wipe_le hv) (fun _ _ _ _ _ _ => rfl) (r.sl i s e)
  · obtain ⟨b, h1, h2⟩ := r.st n o e
    exact ⟨b, h1, MOk.mono (wipe_le hv) rfl h2⟩
/-- behind the block: the slots that were forgotten are as they were -/
theorem RS.unwipe (hv : noMl ρ vs) (r0 : RS K G ι μ ρ σ H) (st : Step ι (Mx ι ρ σ) H ι' (Mx ι' ρ σ) H') (r : RS K G ι' μ' (wipeR ρ vs) (wipe σ vs) H') : RS K G ι' μ' ρ σ H' := by
  refine ⟨r0.len, fun i s e => ?_, r0.inj, fun i a x => r.ni i a ((wipe_own hv).mpr x), r.g, r.nd, r.lm, fun n o e => ?_⟩
  · by_cases h : i ∈ vs
    · have q := r0.sl i s e
      cases s with
      | none => trivial
      | val v => exact SlotOk.mono st.le (fun _ _ _ z _ _ => nomatch z) q
      | ml l => exact (hv i h l e).elim
    · have q := r.sl i s (by rw [wipeR_out h]; exact e)
      rw [wipe_out h] at q
      exact SlotOk.mono (wipe_le' hv) (fun _ _ _ _ _ _ => rfl) q
  · obtain ⟨b, h1, h2⟩ := r.st n o e
    exact ⟨b, h1, MOk.mono (wipe_le' hv) rfl h2⟩
/-- a forbidden list is changed -/
theorem RS.updG (r : RS K G ι μ ρ σ H) {p : Addr} {xs ys : List V} (hg : G p) (e : H p = some (.lst xs)) : RS K G ι μ ρ σ (upd H p (.lst ys)) ∧ Le (wd K G ι ρ σ H) (wd K G ι ρ σ (upd H p (.lst ys))) := by
  have np : ∀ a, Mx ι ρ σ a → a ≠ p := fun a h z => by
    subst z
    rcases h with h | ⟨i, h⟩
    · exact (r.g a hg).2 h
    · exact (r.ni i a h).2 hg
  have le : Le (wd K G ι ρ σ H) (wd K G ι ρ σ (upd H p (.lst ys))) := ⟨rfl, fun _ _ h => h, fun a o h k => by
    have na : a ≠ p := fun z => k (.inl (z ▸ hg))
    exact ⟨by show upd H p _ a = _; rw [upd_ne na]; exact h, k⟩⟩
  refine ⟨⟨r.len, fun i t q => ?_, r.inj, r.ni, fun a h => ?_, r.nd, r.lm, fun n o q => ?_⟩, le⟩
  · refine SlotOk.mono le (fun l x a e1 e2 e3 => ?_) (r.sl i t q)
    subst e1 e3
    have ho : own ρ σ i a := ⟨⟨l, q⟩, by
      cases q : σ[i]? with
      | none => rw [q] at e2; cases e2
      | some u => rw [q] at e2; exact congrArg some e2⟩
    exact upd_ne (np a (.inr ⟨i, ho⟩))
  · obtain ⟨⟨o, h1, nt⟩, h2⟩ := r.g a h
    refine ⟨?_, h2⟩
    by_cases z : a = p
    · exact ⟨_, (by rw [z]; exact upd_same), fun _ w => by cases w⟩
    · exact ⟨o, (by rw [upd_ne z]; exact h1), nt⟩
  · obtain ⟨a, h1, h2⟩ := r.st n o q
    exact ⟨a, h1, MOk.mono le (upd_ne (np a (.inl (List.mem_of_getElem? h1)))) h2⟩
end
section
variable {m : Type → Type} [Monad m] [Eff m] {A : Type}
def lcM (un : Pv → Option A) (ct : A → m Bool) (ce : A → m Pv) : List Pv → m (List Pv)
  | [] => pure []
  | x :: r => Eff.lift (un x) >>= fun a => ct a >>= fun b => if b = true then ce a >>= fun y => lcM un ct ce r >>= fun ys => pure (y :: ys) else lcM un ct ce r
def lcN (un : Pv → Option A) (ce : A → m Pv) : List Pv → m (List Pv)
  | [] => pure []
  | x :: r => Eff.lift (un x) >>= fun a => ce a >>= fun y => lcN un ce r >>= fun ys => pure (y :: ys)
theorem lcN_M {un : Pv → Option A} {ce : A → m Pv} : ∀ {l : List Pv} {μ : List MO} {o : List Pv} {μ' : List MO}, Eff.run (lcN un ce l) μ = some (o, μ') → Eff.run (lcM un (fun _ => pure true) ce l) μ = some (o, μ')
  | [], μ, o, μ', h => h
  | x :: r, μ, o, μ', h => by
    unfold lcN at h
    obtain ⟨a, μ1, k1, k2⟩ := inv_bind h
    obtain ⟨y, μ2, k3, k4⟩ := inv_bind k2
    obtain ⟨ys, μ3, k5, k6⟩ := inv_bind k4
    unfold lcM
    rw [Eff.run_bind, k1, Option.bind_some, Eff.run_bind, Eff.run_pure, Option.bind_some, if_pos rfl, Eff.run_bind, k3, Option.bind_some, Eff.run_bind, lcN_M k5, Option.bind_some]
    exact k6
end
def limL (l : List Pv) : Option (List Pv) := if l.length ≤ LIM then some l else none
section
variable {X : Cx} {ρ : List SV} {m : Type → Type} [Monad m] [Eff m] {elt tg iter : Expr} {ifs : List Expr} {scope : Scope} {own : List (Str × Nat)} {pos pos' : Pos} {A : Type} {un : Pv → Option A} {up : List SV → A → List SV}
def Ets (X : Cx) (ρ : List SV) {m : Type → Type} [Monad m] [Eff m] (es : List Expr) (c : m Bool) : Prop := PTs X es (tGt X.K ρ c)
theorem PTs.imp {X : Cx} {e : List Expr} {t t' : TT} (h : PTs X e t) (k : ∀ σ H Q, t' σ H Q → t σ H Q) : PTs X e t' := ⟨fun pins s σ H Q I q => h.run pins s σ H Q I (k σ H Q q)⟩
theorem ets_nil : Ets X ρ [] (pure true : m Bool) := PTs.imp pts_nil fun σ H Q q => by
  obtain ⟨G, ι, μ, v, μ', rs, hr, q⟩ := q
  obtain ⟨rfl, rfl⟩ := inv_pure hr
  exact q H ι .refl rs
theorem ets_one {c : Expr} {cc : m Bool} (h : Et X ρ c cc) : Ets X ρ [c] cc := pts_one h
/-- the context of a comprehension's block -/
abbrev blkX (X : Cx) (scope : Scope) (s : Shared) (H : Hp) (C : Addr) (cl : List (Str × Addr)) (fp : List Addr) : Cx := X.blk s H scope (compEnvC scope cl C X.env) fp
theorem wipe_get {σ : L2.St} {i : Nat} : ∀ {vs : List Nat}, i ∈ vs → (wipe σ vs)[i]? = if i < σ.length then some none else none
  | [], h => by simp at h
  | v :: vs, h => by
    unfold wipe
    by_cases e : v = i
    · subst e
      rw [List.getElem?_set_self', ]
      by_cases hi : v < σ.length
      · rw [if_pos hi, List.getElem?_eq_getElem (by rw [wipe_length]; exact hi)]; rfl
      · rw [if_neg hi, List.getElem?_eq_none (by rw [wipe_length]; omega)]; rfl
    · rw [List.getElem?_set_ne e]
      rcases List.mem_cons.mp h with h | h
      · exact (e h.symm).elim
      · exact wipe_get h
theorem wipe_eq {σ σ' : L2.St} {vs : List Nat} (hl : σ'.length = σ.length) (h : ∀ j, j ∉ vs → σ'[j]? = σ[j]?) : wipe σ' vs = wipe σ vs := by
  refine List.ext_getElem? fun i => ?_
  by_cases hi : i ∈ vs
  · rw [wipe_get hi, wipe_get hi, hl]
  · rw [wipe_out hi, wipe_out hi, h i hi]
theorem wipe_wipe (σ : L2.St) (vs : List Nat) : wipe (wipe σ vs) vs = wipe σ vs := wipe_eq (wipe_length σ vs) fun j hj => wipe_out hj
theorem limL_inv {l0 l : List Pv} (h : limL l0 = some l) : l0 = l ∧ l.length ≤ LIM := by
  unfold limL at h
  split at h
  · cases h; exact ⟨rfl, by assumption⟩
  · cases h
theorem tLc_of {ci : m (List Pv)} {ct : A → m Bool} {ce : A → m Pv} {g : TG} {is vs : List Nat} (hv : noMl ρ vs)
    (hk : ∀ G ι μ ρ σ H x v a Q, RS X.K G ι μ ρ σ H → Rl (wd X.K G ι ρ σ H) v x → un v = some a → (∀ σ', RS X.K G ι μ (up ρ a) σ' H → (∀ b, Mx ι (up ρ a) σ' b → Mx ι ρ σ b) → (∀ j, j ∉ is → σ'[j]? = σ[j]?) → Q σ' H) → g x σ H Q)
    (his : ∀ j ∈ is, j ∈ vs) (hw : ∀ a, wipeR (up (wipeR ρ vs) a) vs = wipeR ρ vs) (hn : ∀ a, noMl (up (wipeR ρ vs) a) vs) {σ : L2.St} {H : Hp} {Q : VK} (q : tG X.K ρ (RN X.K ρ) (ci >>= fun l => Eff.lift (limL l) >>= fun l => lcM un ct ce l) σ H Q) :
    tLc (tEi X.K ρ ci) g (fun σ H Q => ∃ a, tGt X.K (up (wipeR ρ vs) a) (ct a) σ H Q) (fun σ H Q => ∃ a, tG X.K (up (wipeR ρ vs) a) (RV X.K (up (wipeR ρ vs) a)) (ce a) σ H Q) vs σ H Q := by
  obtain ⟨G, ι, μ, o, μ', rs, hr, q⟩ := q
  obtain ⟨l0, μ1, h1, h2⟩ := inv_bind hr
  obtain ⟨l, μ1', h3, h4⟩ := inv_bind h2
  obtain ⟨hlm, rfl⟩ := inv_lift h3
  obtain ⟨rfl, hz⟩ := limL_inv hlm
  refine ⟨G, ι, μ, l0, _, rs, h1, fun J H1 ι1 st1 rs1 jk D hD => ?_⟩
  have rsD := rs1.alloc (u := .lst []) hD
  have stD : Step ι1 (Mx ι1 ρ σ) H1 ι1 (Mx ι1 ρ σ) (upd H1 D (.lst [])) := Step.same (same_upd hD) fun _ h => h
  refine ⟨fun i k H' => k = l0.length - i ∧ i ≤ l0.length ∧ ∃ acc accV ys μ2 ι2, H' D = some (.lst accV) ∧ Step ι1 (Mx ι1 ρ σ) H1 ι2 (Mx ι2 ρ σ) H' ∧ RS X.K (fun b => G b ∨ b = D) ι2 μ2 ρ σ H' ∧ Le (wd X.K (fun b => G b ∨ b = D) ι1 ρ σ (upd H1 D (.lst []))) (wd X.K (fun b => G b ∨ b = D) ι2 ρ σ H') ∧
      Rls (wd X.K (fun b => G b ∨ b = D) ι2 ρ σ H') acc accV ∧ acc.length ≤ i ∧ Eff.run (lcM un ct ce (l0.drop i)) μ2 = some (ys, μ') ∧ o = acc ++ ys,
    ⟨l0.length, by simp, Nat.zero_le _, [], [], o, _, ι1, upd_same, stD, rsD, Le.refl _, Rls.nil, Nat.zero_le _, by simpa using h4, rfl⟩, ?_⟩
  rintro i k H' ⟨rfl, hi, acc, accV, ys, μ2, ι2, eD, st2, rs2, le2, ra, hacc, hrun, ho⟩
  have lej : Le (wd X.K G ι1 ρ σ H1) (wd X.K (fun b => G b ∨ b = D) ι2 ρ σ H') := (Le.alloc hD).trans le2
  obtain ⟨j1, j2⟩ := jk _ lej (Le.tracked rs2)
  by_cases hlt : i < l0.length
  · obtain ⟨go, yl⟩ := j2 i l0[i] (List.getElem?_eq_getElem hlt)
    rw [List.drop_eq_getElem_cons hlt] at hrun
    unfold lcM at hrun
    obtain ⟨a, μ3, k1, k2⟩ := inv_bind hrun
    obtain ⟨hun, rfl⟩ := inv_lift k1
    obtain ⟨b, μ4, k3, k4⟩ := inv_bind k2
    refine .inr ⟨go, fun H3 => ∃ acc accV ys μ5 ι3, H3 D = some (.lst accV) ∧ Step ι1 (Mx ι1 ρ σ) H1 ι3 (Mx ι3 ρ σ) H3 ∧ RS X.K (fun b => G b ∨ b = D) ι3 μ5 ρ σ H3 ∧ Le (wd X.K (fun b => G b ∨ b = D) ι1 ρ σ (upd H1 D (.lst []))) (wd X.K (fun b => G b ∨ b = D) ι3 ρ σ H3) ∧
      Rls (wd X.K (fun b => G b ∨ b = D) ι3 ρ σ H3) acc accV ∧ acc.length ≤ i + 1 ∧ Eff.run (lcM un ct ce (l0.drop (i + 1))) μ5 = some (ys, μ') ∧ o = acc ++ ys, fun H3 h => ⟨l0.length - (i + 1), by omega, rfl, hlt, h⟩, fun x H3 hy => ?_⟩
    obtain ⟨sm, rx⟩ := yl x H3 hy
    have rs3 := rs2.same sm
    refine hk _ ι2 _ (wipeR ρ vs) (wipe σ vs) H3 x _ a _ (rs3.wiped hv) (rx.mono (wipe_le hv)) hun fun σ4 rs4 hm hσ => ?_
    have hl4 : σ4.length = (wipe σ vs).length := by
      rw [← rs4.len, wipe_length, ← rs.len]
      have := congrArg List.length (hw a)
      rw [wipeR_length, wipeR_length] at this
      exact this
    have hwp : wipe σ4 vs = wipe σ vs := by rw [wipe_eq hl4 fun j hj => hσ j fun z => hj (his j z), wipe_wipe]
    refine ⟨hwp, ?_⟩
    -- the block's state, seen as the def's
    have back : ∀ {ι5 μ5 H5}, Step ι2 (Mx ι2 (up (wipeR ρ vs) a) σ4) H3 ι5 (Mx ι5 (up (wipeR ρ vs) a) σ4) H5 → RS X.K (fun b => G b ∨ b = D) ι5 μ5 (up (wipeR ρ vs) a) σ4 H5 →
        Step ι2 (Mx ι2 ρ σ) H' ι5 (Mx ι5 ρ σ) H5 ∧ RS X.K (fun b => G b ∨ b = D) ι5 μ5 ρ σ H5 ∧ Le (wd X.K (fun b => G b ∨ b = D) ι5 (up (wipeR ρ vs) a) σ4 H5) (wd X.K (fun b => G b ∨ b = D) ι5 ρ σ H5) := fun {ι5 μ5 H5} st rs5 => by
      have mx1 : ∀ ι b, Mx ι ρ σ b ↔ Mx ι (up (wipeR ρ vs) a) σ4 b := fun ι b => by
        rw [← wipe_mx (ρ := up (wipeR ρ vs) a) (hn a), hw a, hwp, wipe_mx hv]
      have s1 : Step ι2 (Mx ι2 ρ σ) H' ι5 (Mx ι5 ρ σ) H5 := by
        refine ⟨st.pre, fun b ob h k => st.keep b ob (sm b ob h) fun z => k ((mx1 _ _).mpr z), fun b h => ?_, fun b o u h => st.frz b o u (sm b _ h)⟩
        rcases st.new b ((mx1 _ _).mp h) with z | z
        · exact .inl ((mx1 _ _).mpr z)
        · right
          cases e : H' b with
          | none => rfl
          | some ob => rw [sm b ob e] at z; cases z
      have r1 := RS.wiped (hn a) rs5
      rw [hw a, hwp] at r1
      exact ⟨s1, RS.unwipe hv rs2 s1 r1, ⟨rfl, fun _ _ h => h, fun b o h k => ⟨h, fun z => k (Or.imp (fun q => q) (mx1 _ _).mp z)⟩⟩⟩
    have keepD : ∀ {ι5 H5}, Step ι2 (Mx ι2 ρ σ) H' ι5 (Mx ι5 ρ σ) H5 → H5 D = some (.lst accV) := fun {ι5 H5} st => st.keep D _ eD fun z => by
      rcases z with z | ⟨j, z⟩
      · exact (rs2.g D (.inr rfl)).2 z
      · exact (rs2.ni j D z).2 (.inr rfl)
    refine ⟨a, _, ι2, _, b, μ4, rs4, k3, fun H5 ι5 st5 rs5 => ?_⟩
    obtain ⟨s5, r5, l5⟩ := back st5 rs5
    cases b with
    | false =>
      rw [if_neg Bool.false_ne_true] at k4 ⊢
      exact ⟨acc, accV, ys, μ4, ι5, keepD s5, st2.trans s5, r5, le2.trans s5.le, ra.mono s5.le, by omega, k4, ho⟩
    | true =>
      rw [if_pos rfl] at k4 ⊢
      obtain ⟨y, μ6, k5, k6⟩ := inv_bind k4
      obtain ⟨ys', μ7, k7, k8⟩ := inv_bind k6
      obtain ⟨rfl, rfl⟩ := inv_pure k8
      refine ⟨a, _, ι5, _, y, μ6, rs5, k5, fun yV H6 ι6 st6 z6 => ?_⟩
      obtain ⟨s6, r6, l6⟩ := back (st5.trans st6) z6.1
      have ra6 := ra.mono (s6.le (K := X.K) (G := fun b => G b ∨ b = D))
      obtain ⟨r7, l7⟩ := r6.updG (p := D) (ys := accV ++ [yV]) (.inr rfl) (keepD s6)
      refine ⟨accV, keepD s6, ?_, acc ++ [y], accV ++ [yV], ys', μ6, ι6, upd_same, ?_, r7, (le2.trans s6.le).trans l7, (ra6.append (.cons (z6.2.mono l6) .nil)).mono l7, by rw [List.length_append]; simp; omega, k7, by rw [ho]; simp⟩
      · rw [← ra.length]
        have := lim_le hz
        omega
      · have s7 := st2.trans s6
        refine ⟨s7.pre, fun b ob h k => ?_, s7.new, fun b o u h => by rw [upd_ne (ne_of_none h hD)]; exact s7.frz b o u h⟩
        have nb : b ≠ D := ne_of_none h hD
        rw [upd_ne nb]
        exact s7.keep b ob h k
  · refine .inl ⟨j1 i (by omega), ?_⟩
    rw [List.drop_eq_nil_of_le (by omega)] at hrun
    unfold lcM at hrun
    obtain ⟨rfl, rfl⟩ := inv_pure hrun
    rw [List.append_nil] at ho
    subst ho
    have h0 : H D = none := fresh_back rs rs1 st1 hD
    refine q (.ref D) H' ι2 (st1.trans st2) ⟨D, accV, rfl, h0, fun z => ?_, eD, rs2, ra⟩
    obtain ⟨ob, e, _⟩ := (rs.g D z).1
    rw [h0] at e; cases e

theorem PE.ex {e : Expr} {α : Type} {t : α → TE} (h : ∀ a, PE X e (t a)) : PE X e fun σ H Q => ∃ a, t a σ H Q := ⟨fun pins s σ H Q I ⟨a, q⟩ => (h a).run pins s σ H Q I q⟩
theorem PTs.ex {e : List Expr} {α : Type} {t : α → TT} (h : ∀ a, PTs X e (t a)) : PTs X e fun σ H Q => ∃ a, t a σ H Q := ⟨fun pins s σ H Q I ⟨a, q⟩ => (h a).run pins s σ H Q I q⟩
theorem PE_exv {X : Cx} {e : Expr} {f : A → List SV} {ce : A → m Pv} (h : ∀ a, Ev X (f a) e (ce a)) : PE X e fun σ H Q => ∃ a, tG X.K (f a) (RV X.K (f a)) (ce a) σ H Q := PE.ex h
theorem PTs_exv {X : Cx} {e : List Expr} {f : A → List SV} {ce : A → m Bool} (h : ∀ a, Ets X (f a) e (ce a)) : PTs X e fun σ H Q => ∃ a, tGt X.K (f a) (ce a) σ H Q := PTs.ex h
def lcW (ci : m (List Pv)) (un : Pv → Option A) (ct : A → m Bool) (ce : A → m Pv) : m (List Pv) := ci >>= fun l => Eff.lift (limL l) >>= fun l => lcM un ct ce l
def lcV (ci : m (List Pv)) (un : Pv → Option A) (ce : A → m Pv) : m (List Pv) := ci >>= fun l => Eff.lift (limL l) >>= fun l => lcN un ce l
theorem en_lcW {ci : m (List Pv)} {ct : A → m Bool} {ce : A → m Pv} {g : TG} {is : List Nat} (hc : X.calm = true) (hN : X.N.Nodup) (hi : Ei X ρ tg iter ci) (ok : BlkOk X.N X.env.scope scope own)
    (hg : ∀ s H C cl fp, Tg (blkX X scope s H C cl fp) tg g is un up) (ht : ∀ s H C cl fp a, Ets (blkX X scope s H C cl fp) (up (wipeR ρ (own.map (·.2))) a) ifs (ct a)) (he : ∀ s H C cl fp a, Ev (blkX X scope s H C cl fp) (up (wipeR ρ (own.map (·.2))) a) elt (ce a))
    (hv : noMl ρ (own.map (·.2))) (his : ∀ j ∈ is, j ∈ own.map (·.2)) (hw : ∀ a, wipeR (up (wipeR ρ (own.map (·.2))) a) (own.map (·.2)) = wipeR ρ (own.map (·.2))) (hn : ∀ a, noMl (up (wipeR ρ (own.map (·.2))) a) (own.map (·.2)))
    (hs : ∀ x, foldedSetIterable iter X.env x = pure x := by intro _; rfl) : En X ρ (.ListComp elt [⟨tg, iter, ifs, 0⟩] scope pos) (lcW ci un ct ce) := by
  refine PE.imp (pe_lc (g := g) (tt := fun σ H Q => ∃ a, tGt X.K (up (wipeR ρ (own.map fun p => p.2)) a) (ct a) σ H Q) (te := fun σ H Q => ∃ a, tG X.K (up (wipeR ρ (own.map fun p => p.2)) a) (RV X.K (up (wipeR ρ (own.map fun p => p.2)) a)) (ce a) σ H Q) hc hN hi ok (fun s H C cl fp => (hg s H C cl fp).pg) (fun s H C cl fp => PTs_exv (ht s H C cl fp)) (fun s H C cl fp => PE_exv (he s H C cl fp)) hs) fun σ H Q q => ?_
  by_cases hA : ∃ (sh : Shared), True
  · obtain ⟨sh, _⟩ := hA
    exact tLc_of hv (hg sh (fun _ => none) 0 [] []).ok his hw hn q
  · exact (hA ⟨X.s_0, trivial⟩).elim
theorem lcV_W {ci : m (List Pv)} {ce : A → m Pv} {μ : List MO} {p : List Pv × List MO} (h : Eff.run (lcV ci un ce) μ = some p) : Eff.run (lcW ci un (fun _ => pure true) ce) μ = some p := by
  obtain ⟨o, μ'⟩ := p
  unfold lcV at h
  obtain ⟨l0, μ1, h1, h2⟩ := inv_bind h
  obtain ⟨l, μ2, h3, h4⟩ := inv_bind h2
  unfold lcW
  rw [Eff.run_bind, h1, Option.bind_some, Eff.run_bind, h3, Option.bind_some]
  exact lcN_M h4
theorem tG.run {K : PySem.W.Frag} {R : RelT (List Pv)} {c c' : m (List Pv)} (h : ∀ μ p, Eff.run c μ = some p → Eff.run c' μ = some p) {σ : L2.St} {H : Hp} {Q : VK} (q : tG K ρ R c σ H Q) : tG K ρ R c' σ H Q := by
  obtain ⟨G, ι, μ, v, μ', rs, hr, q⟩ := q
  exact ⟨G, ι, μ, v, μ', rs, h _ _ hr, q⟩
theorem en_lcV {ci : m (List Pv)} {ce : A → m Pv} {g : TG} {is : List Nat} (hc : X.calm = true) (hN : X.N.Nodup) (hi : Ei X ρ tg iter ci) (ok : BlkOk X.N X.env.scope scope own)
    (hg : ∀ s H C cl fp, Tg (blkX X scope s H C cl fp) tg g is un up) (he : ∀ s H C cl fp a, Ev (blkX X scope s H C cl fp) (up (wipeR ρ (own.map (·.2))) a) elt (ce a))
    (hv : noMl ρ (own.map (·.2))) (his : ∀ j ∈ is, j ∈ own.map (·.2)) (hw : ∀ a, wipeR (up (wipeR ρ (own.map (·.2))) a) (own.map (·.2)) = wipeR ρ (own.map (·.2))) (hn : ∀ a, noMl (up (wipeR ρ (own.map (·.2))) a) (own.map (·.2)))
    (hs : ∀ x, foldedSetIterable iter X.env x = pure x := by intro _; rfl) : En X ρ (.ListComp elt [⟨tg, iter, [], 0⟩] scope pos) (lcV ci un ce) :=
  PE.imp (en_lcW (ct := fun _ => pure true) hc hN hi ok hg (fun _ _ _ _ _ _ => ets_nil) he hv his hw hn hs) fun σ H Q q => tG.run (fun _ _ h => lcV_W h) q
/-- name = [..], the name a local: the slot holds the list as its own, or as a value -/
theorem es_lcW {i : Nat} {y : Str} {py spos : Pos} {ci : m (List Pv)} {ct : A → m Bool} {ce : A → m Pv} {g : TG} {is : List Nat} (hc : X.calm = true) (hN : X.N.Nodup) (hi : Ei X ρ tg iter ci) (ok : BlkOk X.N X.env.scope scope own)
    (hg : ∀ s H C cl fp, Tg (blkX X scope s H C cl fp) tg g is un up) (ht : ∀ s H C cl fp a, Ets (blkX X scope s H C cl fp) (up (wipeR ρ (own.map (·.2))) a) ifs (ct a)) (he : ∀ s H C cl fp a, Ev (blkX X scope s H C cl fp) (up (wipeR ρ (own.map (·.2))) a) elt (ce a))
    (hv : noMl ρ (own.map (·.2))) (his : ∀ j ∈ is, j ∈ own.map (·.2)) (hw : ∀ a, wipeR (up (wipeR ρ (own.map (·.2))) a) (own.map (·.2)) = wipeR ρ (own.map (·.2))) (hn : ∀ a, noMl (up (wipeR ρ (own.map (·.2))) a) (own.map (·.2)))
    (hsw : swapsWith (.ListComp elt [⟨tg, iter, ifs, 0⟩] scope pos) (some (.Name y py)) spos.line X.env = pure true) (hyi : X.N[i]? = some y := by rfl) (hyl : X.env.scope.names.lookup y = some .local := by rfl)
    (hs : ∀ x, foldedSetIterable iter X.env x = pure x := by intro _; rfl) : Es X ρ (.Assign [.Name y py] (.ListComp elt [⟨tg, iter, ifs, 0⟩] scope pos) spos) (lcW ci un ct ce) fun l => .nx (ρ.set i (.ml l)) := by
  refine PS.imp (ps_setLc (g := g) (tt := fun σ H Q => ∃ a, tGt X.K (up (wipeR ρ (own.map fun p => p.2)) a) (ct a) σ H Q) (te := fun σ H Q => ∃ a, tG X.K (up (wipeR ρ (own.map fun p => p.2)) a) (RV X.K (up (wipeR ρ (own.map fun p => p.2)) a)) (ce a) σ H Q) hc hN hyi hyl hsw hi ok (fun s H C cl fp => (hg s H C cl fp).pg) (fun s H C cl fp => PTs_exv (ht s H C cl fp)) (fun s H C cl fp => PE_exv (he s H C cl fp)) hs) fun D σ H q => ?_
  obtain ⟨G, ι, μ, o, μ', rs, hr, q⟩ := q
  refine tLc_of hv (hg X.s_0 (fun _ => none) 0 [] []).ok his hw hn ⟨G, ι, μ, o, μ', rs, hr, fun x H' ι' st z => ?_⟩
  obtain ⟨a, vs, rfl, n0, ng, ha, rs', hl⟩ := z
  exact q _ H' ι' (own_set_step st (.inr n0)) (rs'.setMl ng ha hl)
theorem es_lcV {i : Nat} {y : Str} {py spos : Pos} {ci : m (List Pv)} {ce : A → m Pv} {g : TG} {is : List Nat} (hc : X.calm = true) (hN : X.N.Nodup) (hi : Ei X ρ tg iter ci) (ok : BlkOk X.N X.env.scope scope own)
    (hg : ∀ s H C cl fp, Tg (blkX X scope s H C cl fp) tg g is un up) (he : ∀ s H C cl fp a, Ev (blkX X scope s H C cl fp) (up (wipeR ρ (own.map (·.2))) a) elt (ce a))
    (hv : noMl ρ (own.map (·.2))) (his : ∀ j ∈ is, j ∈ own.map (·.2)) (hw : ∀ a, wipeR (up (wipeR ρ (own.map (·.2))) a) (own.map (·.2)) = wipeR ρ (own.map (·.2))) (hn : ∀ a, noMl (up (wipeR ρ (own.map (·.2))) a) (own.map (·.2)))
    (hsw : swapsWith (.ListComp elt [⟨tg, iter, [], 0⟩] scope pos) (some (.Name y py)) spos.line X.env = pure true) (hyi : X.N[i]? = some y := by rfl) (hyl : X.env.scope.names.lookup y = some .local := by rfl)
    (hs : ∀ x, foldedSetIterable iter X.env x = pure x := by intro _; rfl) : Es X ρ (.Assign [.Name y py] (.ListComp elt [⟨tg, iter, [], 0⟩] scope pos) spos) (lcV ci un ce) fun l => .nx (ρ.set i (.ml l)) :=
  PS.imp (es_lcW (ct := fun _ => pure true) hc hN hi ok hg (fun _ _ _ _ _ _ => ets_nil) he hv his hw hn hsw hyi hyl hs) fun D σ H q => by
    obtain ⟨G, ι, μ, o, μ', rs, hr, q⟩ := q
    exact ⟨G, ι, μ, o, μ', rs, lcV_W hr, q⟩
end

/-! ### defs -/
/-- the promise of a def that does what f tells -/
def spF (K : PySem.W.Frag) {m : Type → Type} [Monad m] [Eff m] (n : Nat) (f : List Pv → m Pv) : Sp := fun vs H Q _ => ∃ G ι μ args v μ', args.length = n ∧ RS K G ι μ [] [] H ∧ Rls (wd K G ι [] [] H) args vs ∧ Eff.run (f args) μ = some (v, μ') ∧
  ∀ x H' ι', Step ι (Mx ι [] []) H ι' (Mx ι' [] []) H' → RS K G ι' μ' [] [] H' → Rl (wd K G ι' [] [] H') v x → Q x H'
section
variable {K : PySem.W.Frag} {G : Addr → Prop} {ι ι' : List Addr} {μ μ' : List MO} {ρ : List SV} {σ : L2.St} {H H' : Hp}
theorem no_own {i : Nat} {a : Addr} : ¬ own [] [] i a := fun ⟨⟨l, e⟩, _⟩ => by simp at e
/-- the callee sees the caller's lists as forbidden -/
def Gc (G : Addr → Prop) (ρ : List SV) (σ : L2.St) (a : Addr) : Prop := G a ∨ ∃ i, own ρ σ i a
theorem gc_B {a : Addr} : (wd K (Gc G ρ σ) ι [] [] H).B a ↔ (wd K G ι ρ σ H).B a := by
  constructor
  · rintro ((h | h) | (h | ⟨i, h⟩))
    · exact .inl h
    · exact .inr (.inr h)
    · exact .inr (.inl h)
    · exact (no_own h).elim
  · rintro (h | h | h)
    · exact .inl (.inl h)
    · exact .inr (.inl h)
    · exact .inl (.inr h)
theorem gc_le : Le (wd K G ι ρ σ H) (wd K (Gc G ρ σ) ι [] [] H) := ⟨rfl, fun _ _ h => h, fun a o h k => ⟨h, fun z => k ((gc_B (H := H)).mp z)⟩⟩
theorem gc_le' : Le (wd K (Gc G ρ σ) ι [] [] H) (wd K G ι ρ σ H) := ⟨rfl, fun _ _ h => h, fun a o h k => ⟨h, fun z => k ((gc_B (H := H)).mpr z)⟩⟩
theorem RS.callee (r : RS K G ι μ ρ σ H) : RS K (Gc G ρ σ) ι μ [] [] H := by
  refine ⟨rfl, fun i s e => by simp at e, fun i j a x => (no_own x).elim, fun i a x => (no_own x).elim, fun a h => ?_, r.nd, r.lm, fun n o e => ?_⟩
  · rcases h with h | ⟨i, h⟩
    · exact r.g a h
    · obtain ⟨l, vs, _, q, _⟩ := r.own_lst h
      exact ⟨⟨_, q, fun _ w => by cases w⟩, (r.ni i a h).1⟩
  · obtain ⟨b, h1, h2⟩ := r.st n o e
    exact ⟨b, h1, MOk.mono gc_le rfl h2⟩
theorem RS.caller (r : RS K G ι μ ρ σ H) (s : Step ι (Mx ι [] []) H ι' (Mx ι' [] []) H') (r' : RS K (Gc G ρ σ) ι' μ' [] [] H') : RS K G ι' μ' ρ σ H' ∧ Step ι (Mx ι ρ σ) H ι' (Mx ι' ρ σ) H' := by
  have hi : ∀ a, Mx ι [] [] a ↔ a ∈ ι := fun a => ⟨fun h => h.elim id fun ⟨i, h⟩ => (no_own h).elim, .inl⟩
  have s1 : Step ι (Mx ι ρ σ) H ι' (Mx ι' ρ σ) H' := ⟨s.pre, fun a o h k => s.keep a o h fun z => k (mx_nil z), fun a h => by
    rcases h with h | h
    · exact (s.new a (.inl h)).imp mx_nil id
    · exact .inl (.inr h), s.frz⟩
  refine ⟨⟨r.len, fun i t e => ?_, r.inj, fun i a h => ⟨(r'.g a (.inr ⟨i, h⟩)).2, (r.ni i a h).2⟩, fun a h => r'.g a (.inl h), r'.nd, r'.lm, fun n o e => ?_⟩, s1⟩
  · refine SlotOk.mono s1.le (fun l x a e1 e2 e3 => ?_) (r.sl i t e)
    subst e1 e3
    have ho : own ρ σ i a := ⟨⟨l, e⟩, by
      cases q : σ[i]? with
      | none => rw [q] at e2; cases e2
      | some u => rw [q] at e2; exact congrArg some e2⟩
    obtain ⟨l', vs, _, q, _⟩ := r.own_lst ho
    show H' a = H a
    rw [q]
    exact s.keep a _ q fun z => (r.ni i a ho).1 ((hi a).mp z)
  · obtain ⟨b, h1, h2⟩ := r'.st n o e
    exact ⟨b, h1, MOk.mono gc_le' rfl h2⟩
/-- the callee's frame at its start -/
def ρ0 (N : List Str) (args : List Pv) : List SV := args.map .val ++ List.replicate (N.length - args.length) .none
theorem RS.begun {N : List Str} {args : List Pv} {vs : List V} (r : RS K G ι μ [] [] H) (h : Rls (wd K G ι [] [] H) args vs) : RS K G ι μ (ρ0 N args) (L2.start N vs) H := by
  have na : ∀ i a, ¬ own (ρ0 N args) (L2.start N vs) i a := fun i a ⟨⟨l, e⟩, _⟩ => by
    unfold ρ0 at e
    by_cases hi : i < args.length
    · rw [List.getElem?_append_left (by simpa using hi), List.getElem?_map] at e
      cases q : args[i]? with
      | none => rw [q] at e; cases e
      | some u => rw [q] at e; cases e
    · rw [List.getElem?_append_right (by simpa using hi), List.getElem?_replicate] at e
      split at e <;> cases e
  have le : Le (wd K G ι [] [] H) (wd K G ι (ρ0 N args) (L2.start N vs) H) := ⟨rfl, fun _ _ h => h, fun a o h k => ⟨h, fun z => k (Or.imp (fun q => q) (Or.imp (fun q => q) fun ⟨i, z⟩ => (na i a z).elim) z)⟩⟩
  have hl := h.length
  refine ⟨?_, fun i s e => ?_, fun i j a x => (na _ _ x).elim, fun i a x => (na _ _ x).elim, r.g, r.nd, r.lm, fun n o e => ?_⟩
  · unfold ρ0 L2.start
    simp only [List.length_append, List.length_map, List.length_replicate]
    omega
  · unfold ρ0 at e
    by_cases hi : i < args.length
    · rw [List.getElem?_append_left (by simpa using hi), List.getElem?_map] at e
      cases q : args[i]? with
      | none => rw [q] at e; cases e
      | some u =>
        rw [q] at e; cases e
        obtain ⟨x, e2, rx⟩ := h.get q
        have e3 : (L2.start N vs)[i]? = some (some x) := by
          unfold L2.start
          rw [List.getElem?_append_left (by rw [List.length_map]; omega), List.getElem?_map, e2]; rfl
        rw [e3]
        exact rx.mono le
    · rw [List.getElem?_append_right (by simpa using hi), List.getElem?_replicate] at e
      split at e
      · cases e; trivial
      · cases e
  · obtain ⟨b, h1, h2⟩ := r.st n o e
    exact ⟨b, h1, MOk.mono le rfl h2⟩
end
def fin {m : Type → Type} [Monad m] [Eff m] (o : Out Unit Empty) : m Pv := match o with
  | .nx _ => pure .non
  | .rt v => pure v
  | .bk l => l.elim
  | .ct l => l.elim
section
variable {P : Program} {w : World} {K : PySem.W.Frag} {mg : Str → Option Value} {base : Heap} {m : Type → Type} [Monad m] [Eff m]
/-- THE RULE for a def: its body does what f tells at each list of arguments -/
theorem ok_def {em : Unit → List SV} {x qual : Str} {st : Stmt} {f : Addr} {fd : FuncData} {N ps : List Str} {k : Nat} {g : List Pv → m Pv} (F : Fun K x qual st f fd) (S : FnScope N ps (defScope st))
    (hb : ∀ (cdv : Value) (A : Around) (outer : List Env) (s : Shared) (H : Hp) (args : List Pv) (E : XK), args.length = ps.length → Room k (A.deeper (envOfC qual (defScope st) s.heap.objs.size f cdv)) →
      ∃ c : m (Out Unit Empty), (∀ μ p, Eff.run (g args) μ = some p → Eff.run (c >>= fin) μ = some p) ∧ Ex (cxOf CX0 P w K mg base N qual (defScope st) f cdv A outer s H E).nox (ρ0 N args) (defBody st) c (oit em fun l => l.elim)) :
    FnOk P w K mg base CX0 (k + 1) f fd ps (spF K ps.length g) := by
  refine F.ok S (fun vs H Q E h => ?_) (fun cdv A outer s H vs Q E hr h => ?_)
  · obtain ⟨G, ι, μ, args, v, μ', hl, rs, ra, _⟩ := h
    rw [← ra.length]; exact hl
  · obtain ⟨G, ι, μ, args, v, μ', hl, rs, ra, hrun, q⟩ := h
    obtain ⟨c, hc, hx⟩ := hb cdv A outer s H args E hl hr
    obtain ⟨o, μ1, h1, h2⟩ := inv_bind (hc _ _ hrun)
    have rs0 := rs.begun (N := N) ra
    have no : ∀ i a, ¬ own (ρ0 N args) (L2.start N vs) i a := fun i a ho => by
      obtain ⟨⟨l, e⟩, _⟩ := ho
      unfold ρ0 at e
      by_cases hi : i < args.length
      · rw [List.getElem?_append_left (by simpa using hi), List.getElem?_map] at e
        cases q : args[i]? with
        | none => rw [q] at e; cases e
        | some u => rw [q] at e; cases e
      · rw [List.getElem?_append_right (by simpa using hi), List.getElem?_replicate] at e
        split at e <;> cases e
    have s0 : ∀ {ι' H'}, Step ι (Mx ι (ρ0 N args) (L2.start N vs)) H ι' (Mx ι' [] []) H' → Step ι (Mx ι [] []) H ι' (Mx ι' [] []) H' := fun {ι' H'} s => ⟨s.pre, fun a o h k => s.keep a o h fun z => k (z.imp id fun ⟨i, z⟩ => (no i a z).elim), fun a h => (s.new a h).imp (fun z => z.imp id fun ⟨i, z⟩ => (no i a z).elim) id, s.frz⟩
    refine ⟨_, hx, G, ι, μ, o, μ1, rs0, h1, ?_⟩
    cases o with
    | nx u =>
      obtain ⟨rfl, rfl⟩ := inv_pure h2
      exact fun σ' H' ι' st r => q .non H' ι' (s0 ⟨st.pre, st.keep, fun a h => st.new a (mx_nil h), st.frz⟩) r.drop .non
    | rt v =>
      obtain ⟨rfl, rfl⟩ := inv_pure h2
      exact fun x H' ι' st r rx => q x H' ι' (s0 st) r rx
    | bk l => exact l.elim
    | ct l => exact l.elim
end
section
variable {X : Cx} {ρ : List SV} {m : Type → Type} [Monad m] [Eff m] {a : Expr} {es : List Expr} {pos p : Pos} {k n : Nat} {f : Addr} {fd : FuncData} {ps : List Str} {x : Str}
/-- a call of a def -/
theorem ev_call {g : List Pv → m Pv} {cs : m (List Pv)} (F : FnOk X.prog X.w X.K X.mg X.base CX0 k f fd ps (spF X.K n g)) (hr : Room k X.A) (hm : X.mg x = some (.ref f)) (hk : PySem.W.keepIn X.K (.ref f) = true) (hb : Binds X.K fd ps [])
    (ha : Ea X ρ (a :: es) cs) (hl : (a :: es).length = n) (hg : Gl X x := by rfl) (hdb : (x == ("__debug__" : Str)) = false := by decide) (he : starEach (a :: es) X.env = (false, eval a X.env) :: starEach es X.env := by rfl) (hpl : (backTo pos (starEach es X.env)).any (·.1) = false := by rfl)
    (hlen : ∀ μ p, Eff.run cs μ = some p → p.1.length = n) : Ev X ρ (.Call (.Name x p) (a :: es) [] pos) (cs >>= g) :=
  PE.imp (pe_call (dvs := []) (E := E0) F hr hg hm hk hb .nil pass0 ha hdb he hpl) fun σ H Q q => by
    obtain ⟨G, ι, μ, v, μ', rs, hrun, q⟩ := q
    obtain ⟨args, μ1, h1, h2⟩ := inv_bind hrun
    refine ⟨G, ι, μ, args, μ1, rs, h1, fun xs H1 ι1 st1 r1 z1 => ?_⟩
    show spF X.K n g (xs ++ []) H1 Q _
    rw [List.append_nil]
    have z1 : Rls (wd X.K G ι1 ρ σ H1) args xs := z1
    refine ⟨Gc G ρ σ, ι1, μ1, args, v, μ', hlen _ _ h1, r1.callee, z1.mono gc_le, h2, fun y H2 ι2 st2 r2 z2 => ?_⟩
    obtain ⟨r3, st3⟩ := r1.caller st2 r2
    exact q y H2 ι2 (st1.trans st3) ⟨r3, z2.mono gc_le'⟩
end
theorem len_nil {m : Type → Type} [Monad m] [Eff m] : ∀ μ p, Eff.run (pure [] : m (List Pv)) μ = some p → p.1.length = 0 := fun μ p h => by
  obtain ⟨l, μ'⟩ := p
  obtain ⟨rfl, _⟩ := inv_pure h; rfl
theorem len_cons {m : Type → Type} [Monad m] [Eff m] {c : m Pv} {cs : m (List Pv)} {n : Nat} (h : ∀ μ p, Eff.run cs μ = some p → p.1.length = n) : ∀ μ p, Eff.run (consM c cs) μ = some p → p.1.length = n + 1 := fun μ p q => by
  obtain ⟨l, μ'⟩ := p
  obtain ⟨x, μ1, h1, h2⟩ := inv_bind q
  obtain ⟨r, μ2, h3, h4⟩ := inv_bind h2
  obtain ⟨rfl, _⟩ := inv_pure h4
  have := h _ _ h3
  simp only [List.length_cons]
  exact congrArg (· + 1) this
end Q
/-! L8: lists of one's own changed, dicts of the store, isinstance. -/
namespace Q
open PySem PySem.Spec PyProof.Rows L2

section
variable {K : PySem.W.Frag} {G : Addr → Prop} {ι ι' : List Addr} {μ μ' : List MO} {ρ : List SV} {σ : L2.St} {H H' : Hp}
theorem own_upd {i : Nat} {l l' : List Pv} (h : ρ[i]? = some (.ml l)) {j : Nat} {a : Addr} : own (ρ.set i (.ml l')) σ j a ↔ own ρ σ j a := by
  have hi : i < ρ.length := (List.getElem?_eq_some_iff.mp h).1
  constructor
  · rintro ⟨⟨m, e⟩, e2⟩
    by_cases z : i = j
    · subst z; exact ⟨⟨l, h⟩, e2⟩
    · rw [List.getElem?_set_ne z] at e; exact ⟨⟨m, e⟩, e2⟩
  · rintro ⟨⟨m, e⟩, e2⟩
    by_cases z : i = j
    · subst z; exact ⟨⟨l', by rw [List.getElem?_set_self hi]⟩, e2⟩
    · exact ⟨⟨m, by rw [List.getElem?_set_ne z]; exact e⟩, e2⟩
theorem mx_upd {i : Nat} {l l' : List Pv} (h : ρ[i]? = some (.ml l)) {a : Addr} : Mx ι (ρ.set i (.ml l')) σ a ↔ Mx ι ρ σ a :=
  ⟨fun z => z.imp id fun ⟨j, z⟩ => ⟨j, (own_upd h).mp z⟩, fun z => z.imp id fun ⟨j, z⟩ => ⟨j, (own_upd h).mpr z⟩⟩
/-- a list of one's own is changed -/
theorem RS.updMl (r : RS K G ι μ ρ σ H) {i : Nat} {l l' : List Pv} {a : Addr} {vs' : List V} (h : ρ[i]? = some (.ml l)) (e : σ[i]? = some (some (.ref a))) (hl : Rls (wd K G ι ρ σ H) l' vs') :
    RS K G ι μ (ρ.set i (.ml l')) σ (upd H a (.lst vs')) := by
  have ow : own ρ σ i a := ⟨⟨l, h⟩, e⟩
  have hi : i < ρ.length := (List.getElem?_eq_some_iff.mp h).1
  have le : Le (wd K G ι ρ σ H) (wd K G ι (ρ.set i (.ml l')) σ (upd H a (.lst vs'))) := ⟨rfl, fun _ _ h => h, fun b o q k => by
    have nb : b ≠ a := fun z => k (.inr (.inr ⟨i, z ▸ ow⟩))
    exact ⟨by show upd H a _ b = _; rw [upd_ne nb]; exact q, fun z => k (Or.imp (fun q => q) (mx_upd h).mp z)⟩⟩
  refine ⟨by rw [List.length_set]; exact r.len, fun j s q => ?_, fun j k b x y => r.inj j k b ((own_upd h).mp x) ((own_upd h).mp y), fun j b x => r.ni j b ((own_upd h).mp x), fun b q => ?_, r.nd, r.lm, fun n o q => ?_⟩
  · by_cases z : i = j
    · subst z
      rw [List.getElem?_set_self hi] at q
      cases q
      rw [e]
      exact ⟨a, vs', rfl, upd_same, hl.mono le⟩
    · rw [List.getElem?_set_ne z] at q
      refine SlotOk.mono le (fun m x b e1 e2 e3 => ?_) (r.sl j s q)
      subst e1 e3
      have oj : own ρ σ j b := ⟨⟨m, q⟩, by
        cases w : σ[j]? with
        | none => rw [w] at e2; cases e2
        | some u => rw [w] at e2; exact congrArg some e2⟩
      exact upd_ne fun y => z (r.inj i j a ow (y ▸ oj))
  · obtain ⟨⟨o, q1, nt⟩, q2⟩ := r.g b q
    have nb : b ≠ a := fun z => (r.ni i a ow).2 (z ▸ q)
    exact ⟨⟨o, (by rw [upd_ne nb]; exact q1), nt⟩, q2⟩
  · obtain ⟨b, q1, q2⟩ := r.st n o q
    have nb : b ≠ a := fun z => (r.ni i a ow).1 (z ▸ List.mem_of_getElem? q1)
    exact ⟨b, q1, MOk.mono le (upd_ne nb) q2⟩
theorem Step.updMl {ι0 : List Addr} {M : Addr → Prop} {H0 : Hp} (s : Step ι0 M H0 ι (Mx ι ρ σ) H) {i : Nat} {l l' : List Pv} {a : Addr} {o : HO} (h : ρ[i]? = some (.ml l)) (e : σ[i]? = some (some (.ref a))) (hf : ∀ o u, H a ≠ some (.frz o u)) : Step ι0 M H0 ι (Mx ι (ρ.set i (.ml l')) σ) (upd H a o) :=
  ⟨s.pre, fun b u q k => by
    have nb : b ≠ a := fun z => by
      rcases s.new a (.inr ⟨i, ⟨l, h⟩, e⟩) with y | y
      · exact k (z ▸ y)
      · rw [z, y] at q; cases q
    rw [upd_ne nb]; exact s.keep b u q k, fun b z => s.new b ((mx_upd h).mp z), fun b o' u q => by
    have nb : b ≠ a := fun z => hf o' u (z ▸ s.frz b o' u q)
    rw [upd_ne nb]; exact s.frz b o' u q⟩
theorem nfL {H : Hp} {a : Addr} {vs : List V} (h : H a = some (.lst vs)) : ∀ o u, H a ≠ some (.frz o u) := fun _ _ z => by rw [h] at z; cases z
theorem nfK {H : Hp} {a : Addr} {vs : List (Key × V)} (h : H a = some (.dK vs)) : ∀ o u, H a ≠ some (.frz o u) := fun _ _ z => by rw [h] at z; cases z
theorem nfT {H : Hp} {a : Addr} {vs : List (List Key × V)} (h : H a = some (.dT vs)) : ∀ o u, H a ≠ some (.frz o u) := fun _ _ z => by rw [h] at z; cases z
end

section
variable {X : Cx} {ρ : List SV} {m : Type → Type} [Monad m] [Eff m] {e e1 e2 : Expr} {pos pos' p1 p2 : Pos} {i : Nat} {x : Str} {l : List Pv}
theorem pe_mlv {l : List Pv} (h : ρ[i]? = some (.ml l)) (hN : X.N[i]? = some x := by rfl) (hv : Vis X.env.scope x := by first | exact Or.inl rfl | exact Or.inr (Or.inl rfl) | exact Or.inr (Or.inr rfl))
    (hd : (x == ("__debug__" : Str)) = false := by decide) (hcd : (x == ("__classdict__" : Str)) = false := by decide) : PE X (.Name x pos) (tVar i) := pe_var hN hv hd hcd
def capP (l : List Pv) (v : Pv) : Option (List Pv) := if l.length < LIM then some (l ++ [v]) else none
/-- x.append(e); the call's rule: pe_bm .. mt_append (pv i) (pa_cons .. pa_nil) -/
theorem es_append {c : m Pv} (h : ρ[i]? = some (.ml l)) (hp : PE X e (tBM X.K "list" rAppend (tVar i) (tCons (tG X.K ρ (RV X.K ρ) c) tNil))) (hs : swapsWith e none pos.line X.env = pure false := by rfl) :
    Es X ρ (.Expr e pos) (b1 (capP l) c) fun l' => .nx (ρ.set i (.ml l')) :=
  PS.imp (ps_expr hp hs) fun D σ H q => by
    obtain ⟨G, ι, μ, o, μ', rs, hr, q⟩ := q
    obtain ⟨v, μ1, h1, h2⟩ := inv_bind hr
    obtain ⟨h5, rfl⟩ := inv_lift h2
    unfold capP at h5
    split at h5
    · rename_i hz
      cases h5
      obtain ⟨a, vs, eσ, ow, ha, hl⟩ := rs.slotM h
      refine ⟨.ref a, eσ, .inl ⟨rfl, _, .of ha⟩, G, ι, μ, v, _, rs, h1, fun y H1 ι1 st1 z1 => ?_⟩
      obtain ⟨a', vs', eσ', ow', ha', hl'⟩ := z1.1.slotM h
      rw [eσ] at eσ'; cases eσ'
      refine ⟨a, vs', y, rfl, rfl, ha', ?_, q σ _ ι1 (st1.updMl h eσ (nfL ha')) (z1.1.updMl h eσ (hl'.append (.cons z1.2 .nil)))⟩
      rw [← hl'.length]
      have : LIM ≤ sizeLine := lim_le (Nat.le_refl _)
      omega
    · cases h5
theorem Rls.dropLast {W : Wd} {l : List Pv} {vs : List V} (h : Rls W l vs) : Rls W l.dropLast vs.dropLast := by
  rw [List.dropLast_eq_take, List.dropLast_eq_take, h.length]; exact h.take _
/-- x.pop(), its value dropped -/
def popP (l : List Pv) : Option (List Pv) := if l = [] then none else some l.dropLast
theorem es_pop (h : ρ[i]? = some (.ml l)) (hp : PE X e (tBM0 X.K "list" rPop (tVar i))) (hs : swapsWith e none pos.line X.env = pure false := by rfl) :
    Es X ρ (.Expr e pos) (Eff.lift (popP l) : m (List Pv)) fun l' => .nx (ρ.set i (.ml l')) :=
  PS.imp (ps_expr hp hs) fun D σ H q => by
    obtain ⟨G, ι, μ, o, μ', rs, hr, q⟩ := q
    obtain ⟨h5, rfl⟩ := inv_lift hr
    unfold popP at h5
    split at h5
    · cases h5
    · rename_i hz
      cases h5
      obtain ⟨a, vs, eσ, ow, ha, hl⟩ := rs.slotM h
      have hn : vs.length ≠ 0 := fun z => hz (List.eq_nil_of_length_eq_zero (by rw [hl.length, z]))
      have hy : vs[vs.length - 1]? = some vs[vs.length - 1] := List.getElem?_eq_getElem (by omega)
      exact ⟨.ref a, eσ, .inl ⟨rfl, _, .of ha⟩, a, vs, _, rfl, rfl, ha, hy, q σ _ ι (Step.refl.updMl h eσ (nfL ha)) (rs.updMl h eσ hl.dropLast)⟩
/-- x[e1] = e2; the rule: ps_asg .. (pg_sub (pv i) .. set_list) -/
def setP (l : List Pv) (k v : Pv) : Option (List Pv) := match k with
  | .int k => (ixN l.length k).map fun j => l.set j v
  | _ => none
theorem es_setIx {st : Stmt} {cv ci : m Pv} (h : ρ[i]? = some (.ml l)) (hp : PS X st (tAsg (tG X.K ρ (RV X.K ρ) cv) (gSub (tVar i) (tG X.K ρ (RK X.K ρ) ci) rSetL))) :
    Es X ρ st (cv >>= fun v => ci >>= fun k => Eff.lift (setP l k v)) fun l' => .nx (ρ.set i (.ml l')) :=
  PS.imp hp fun D σ H q => by
    obtain ⟨G, ι, μ, o, μ', rs, hr, q⟩ := q
    obtain ⟨v, μ1, h1, h2⟩ := inv_bind hr
    obtain ⟨k, μ2, h3, h4⟩ := inv_bind h2
    obtain ⟨h5, rfl⟩ := inv_lift h4
    unfold setP at h5
    split at h5
    · rename_i k
      cases e6 : ixN l.length k with
      | none => rw [e6] at h5; cases h5
      | some j =>
        rw [e6] at h5
        cases h5
        refine ⟨G, ι, μ, v, μ1, rs, h1, fun y H1 ι1 st1 z1 => ?_⟩
        obtain ⟨a, vs, eσ, ow, ha, hl⟩ := z1.1.slotM h
        refine ⟨.ref a, eσ, G, ι1, μ1, _, _, z1.1, h3, fun z H2 ι2 st2 z2 => ?_⟩
        obtain ⟨a', vs', eσ', ow', ha', hl'⟩ := z2.1.slotM h
        rw [eσ] at eσ'; cases eσ'
        refine ⟨a, vs', k, j, rfl, z2.2.intE, ha', by rw [← hl'.length]; exact e6, q σ _ ι2 ((st1.trans st2).updMl h eσ (nfL ha')) (z2.1.updMl h eσ (Rls.set (z1.2.mono st2.le) j hl'))⟩
    · cases h5
/-- a list's item, by values -/
def rGetL : V → V → Hp → VK → Prop := fun o i H Q => ∃ p xs k v, o = .ref p ∧ i = .int k ∧ H p = some (.lst xs) ∧ atI xs k = some v ∧ Q v H
/-- x[e1] += e2; the rule: ps_augS (pv i) .. get_list .. ip_add set_list -/
def augP (f : Int → Int → Int) (l : List Pv) (k v : Pv) : Option (List Pv) := match k, v with
  | .int k, .int v => (ixN l.length k).bind fun j => match l[j]? with
    | some (.int u) => some (l.set j (.int (f u v)))
    | _ => none
  | _, _ => none
theorem es_augIx {st : Stmt} {f : Int → Int → Int} {cv ci : m Pv} (h : ρ[i]? = some (.ml l)) (hp : PS X st (tAugS (tVar i) (tG X.K ρ (RK X.K ρ) ci) (tG X.K ρ (RK X.K ρ) cv) rGetL (ipI f) rSetL)) :
    Es X ρ st (ci >>= fun k => cv >>= fun v => Eff.lift (augP f l k v)) fun l' => .nx (ρ.set i (.ml l')) :=
  PS.imp hp fun D σ H q => by
    obtain ⟨G, ι, μ, o, μ', rs, hr, q⟩ := q
    obtain ⟨k, μ1, h1, h2⟩ := inv_bind hr
    obtain ⟨v, μ2, h3, h4⟩ := inv_bind h2
    obtain ⟨h5, rfl⟩ := inv_lift h4
    unfold augP at h5
    split at h5
    · rename_i k v
      cases e6 : ixN l.length k with
      | none => rw [e6] at h5; cases h5
      | some j =>
        rw [e6, Option.bind_some] at h5
        split at h5
        · rename_i u hu
          cases h5
          obtain ⟨a, vs, eσ, ow, ha, hl⟩ := rs.slotM h
          refine ⟨.ref a, eσ, G, ι, μ, _, μ1, rs, h1, fun y H1 ι1 st1 z1 => ?_⟩
          obtain ⟨a', vs', eσ', ow', ha', hl'⟩ := z1.1.slotM h
          rw [eσ] at eσ'; cases eσ'
          obtain ⟨xu, hx, rx⟩ := hl'.get hu
          refine ⟨a, vs', k, xu, rfl, z1.2.intE, ha', ?_, G, ι1, μ1, _, _, z1.1, h3, fun z H2 ι2 st2 z2 => ?_⟩
          · unfold L2.atI
            rw [← hl'.length, e6]
            exact hx
          · obtain ⟨a', vs2, eσ', ow', ha2, hl2⟩ := z2.1.slotM h
            rw [eσ] at eσ'; cases eσ'
            refine ⟨u, v, rx.intE, z2.2.intE, a, vs2, k, j, rfl, z1.2.intE, ha2, by rw [← hl2.length]; exact e6, q σ _ ι2 ((st1.trans st2).updMl h eσ (nfL ha2)) (z2.1.updMl h eσ (Rls.set .int j hl2))⟩
        · cases h5
    · cases h5
end
end Q
/-! L9: dicts of the store, isinstance, get of a list's item. -/
namespace Q
open PySem PySem.Spec PyProof.Rows L2

theorem get_list {X : Cx} : PGet X rGetL := by
  intro pins s σ H x y v u Q I rx ry h
  obtain ⟨p, xs, i, z, rfl, rfl, hq, he, q⟩ := h
  cases rx
  obtain ⟨t, rfl⟩ := ry
  obtain ⟨its, r, pl, hz⟩ := I.list (.of hq)
  obtain ⟨j, h1, h2, h3, h4, h5⟩ := atI_get he
  obtain ⟨w, ew, rw'⟩ := r.get h2
  have hl := r.length
  have hn := line63
  have fin : EP X pins σ Q w s := ⟨z, H, I, rw', q⟩
  by_cases h0 : 0 ≤ i
  · have hj : i.toNat = j := by
      rw [seqIndex_of h0 h5] at h1
      exact Option.some.inj h1
    exact wpAny_getItem_list pl.isList h0 (by omega) (by rw [hj]; simpa using ew) fin
  · have hj : (i + (its.toArray.size : Int)).toNat = j := by
      rw [seqIndex_neg (by omega) h4] at h1
      rw [List.size_toArray, ← hl]
      exact Option.some.inj h1
    exact wpAny_getItem_list_neg pl.isList (by omega) (by rw [List.size_toArray] <;> omega) (by omega) (by rw [hj]; simpa using ew) fin

/-! ### isinstance -/
def tyN : Pv → Option String
  | .non => some "NoneType"
  | .bl _ => some "bool"
  | .int _ => some "int"
  | .str _ => some "str"
  | .tup _ => some "tuple"
  | .lst _ => some "list"
  | _ => none
/-- isinstance(v, T), T a built-in class by its name -/
def pIsi (n : String) (v : Pv) : Option Pv := (tyN v).map fun t => .bl (t == n || (t == "bool" && n == "int"))
section
variable {X : Cx} {ρ : List SV} {m : Type → Type} [Monad m] [Eff m] {e : Expr} {pos p p2 : Pos}
theorem Rk.ty {K : PySem.W.Frag} {G : Addr → Prop} {ι : List Addr} {μ : List MO} {σ : L2.St} {H : Hp} {v : Pv} {x : V} {t : String} (r : RS K G ι μ ρ σ H) (h : Rk (wd K G ι ρ σ H) ρ σ v x) (e : tyN v = some t) : TyX K H x (.type t) := by
  cases v with
  | non => cases e; rw [h.nonE]; exact .base .non
  | bl b => cases e; rw [h.blE]; exact .base (.bl b)
  | int b => cases e; rw [h.intE]; exact .base (.int b)
  | str b => cases e; rw [h.strE]; exact .base (.str b)
  | tup l =>
    cases e
    obtain ⟨a, vs, rfl, h1, _⟩ := h.tupE
    rcases h1 with (h1 | ⟨o, h1⟩) | ⟨o, its, n, h1, h2, _⟩
    · exact .base (.tup h1)
    · exact .fTuple h1
    · exact .kTuple h1 h2
  | lst l =>
    cases e
    obtain ⟨a, vs, rfl, h1, _⟩ := h.lstE r
    exact .base (.lst h1)
  | scr _ => cases e
  | loc _ => cases e
theorem ev_isi {c : m Pv} {T : Str} {n : String} (h : Ek X ρ e c) (hm : X.mg "isinstance" = none) (hT : X.mg T = none) (hv : bootBuiltins T = some (.type n)) (hk : ∀ t, t ∈ ["NoneType", "bool", "int", "str", "tuple", "list"] → PySem.W.kitOne X.K (.type t) (.type n) = some (t == n || (t == "bool" && n == "int")))
    (hb : bootBuiltins "isinstance" = some (.builtin "isinstance")) (hg : Gl X "isinstance" := by rfl) (hgT : Gl X T := by rfl) (hn : T ≠ "__name__" := by decide) (hd : (T == ("__debug__" : Str)) = false := by decide)
    (he : starEach [e, .Name T p2] X.env = (false, eval e X.env) :: starEach [.Name T p2] X.env := by rfl) (he2 : starEach [.Name T p2] X.env = (false, eval (.Name T p2) X.env) :: starEach [] X.env := by rfl)
    (hpl : (backTo pos (starEach [.Name T p2] X.env)).any (·.1) = false := by rfl) : Ev X ρ (.Call (.Name "isinstance" p) [e, .Name T p2] [] pos) (b1 (pIsi n) c) :=
  PE.imp (pe_callB call_isi hg hm hb (pa_cons h (pa_cons (pe_bltn (v := .ty n) hgT hT hv rfl hn hd) pa_nil he2) he) (by decide) (by decide) he hpl) fun σ H Q q => by
    obtain ⟨G, ι, μ, o, μ', rs, hr, q⟩ := q
    obtain ⟨v, μ1, h1, h2⟩ := inv_bind hr
    obtain ⟨h5, rfl⟩ := inv_lift h2
    refine ⟨G, ι, μ, v, _, rs, h1, fun x H1 ι1 st1 z1 => ?_⟩
    unfold pIsi at h5
    cases e6 : tyN v with
    | none => rw [e6] at h5; cases h5
    | some t =>
      rw [e6] at h5
      cases h5
      refine ⟨x, .ty n, .type t, .type n, _, rfl, .ty n, z1.2.ty z1.1 e6, hk t ?_, q _ H1 ι1 st1 ⟨z1.1, .bl⟩⟩
      cases v <;> simp [tyN] at e6 <;> subst e6 <;> simp
end

/-! ### dicts of the store -/
def toKey : Pv → Option Key
  | .int i => some (.inl i)
  | .str s => some (.inr s)
  | _ => none
def valP (kvs : List (Key × Pv)) (k : Key) : Option Pv := (kvs.find? fun kv => decide (kv.1 = k)).map (·.2)
def putP (kvs : List (Key × Pv)) (k : Key) (v : Pv) : List (Key × Pv) :=
  if (kvs.any fun kv => decide (kv.1 = k)) = true then kvs.map (fun kv => if kv.1 = k then (kv.1, v) else kv) else kvs ++ [(k, v)]
section
variable {W : Wd}
theorem KRel.val {k : Key} : ∀ {kvs : List (Key × Pv)} {vs : List (Key × V)}, KRel W kvs vs → ∀ v, valP kvs k = some v → ∃ x, valV vs k = some x ∧ Rl W v x
  | _, _, .nil, v, h => by simp [valP] at h
  | p :: kvs, q :: vs, .cons r t, v, h => by
    by_cases e : p.1 = k
    · have : valP (p :: kvs) k = some p.2 := by simp [valP, List.find?_cons, e]
      rw [this] at h; cases h
      exact ⟨q.2, valV_pos (r.1 ▸ e), r.2⟩
    · have : valP (p :: kvs) k = valP kvs k := by simp [valP, List.find?_cons, e]
      rw [this] at h
      obtain ⟨x, h1, h2⟩ := KRel.val t v h
      exact ⟨x, by rw [valV_neg (r.1 ▸ e)]; exact h1, h2⟩
theorem KRel.any {k : Key} : ∀ {kvs : List (Key × Pv)} {vs : List (Key × V)}, KRel W kvs vs → (kvs.any fun kv => decide (kv.1 = k)) = vs.any fun kv => decide (kv.1 = k)
  | _, _, .nil => rfl
  | p :: kvs, q :: vs, .cons r t => by rw [List.any_cons, List.any_cons, KRel.any t, r.1]
theorem KRel.app : ∀ {a c : List (Key × Pv)} {b d : List (Key × V)}, KRel W a b → KRel W c d → KRel W (a ++ c) (b ++ d)
  | _, _, _, _, .nil, h => h
  | _, _, _, _, .cons r t, h => .cons r (KRel.app t h)
theorem KRel.mapP {k : Key} {v : Pv} {x : V} (hx : Rl W v x) : ∀ {kvs : List (Key × Pv)} {vs : List (Key × V)}, KRel W kvs vs → KRel W (kvs.map fun kv => if kv.1 = k then (kv.1, v) else kv) (vs.map fun kv => if kv.1 = k then (kv.1, x) else kv)
  | _, _, .nil => .nil
  | p :: kvs, q :: vs, .cons r t => by
    refine .cons ?_ (KRel.mapP hx t)
    show (if p.1 = k then (p.1, v) else p).1 = (if q.1 = k then (q.1, x) else q).1 ∧ Rl W (if p.1 = k then (p.1, v) else p).2 (if q.1 = k then (q.1, x) else q).2
    by_cases e : p.1 = k
    · rw [if_pos e, if_pos (r.1 ▸ e)]; exact ⟨r.1, hx⟩
    · rw [if_neg e, if_neg (r.1 ▸ e)]; exact r
theorem KRel.put {k : Key} {v : Pv} {x : V} (hx : Rl W v x) {kvs : List (Key × Pv)} {vs : List (Key × V)} (h : KRel W kvs vs) : KRel W (putP kvs k v) (putK vs k x) := by
  unfold putP putK
  rw [h.any]
  split
  · exact KRel.mapP hx h
  · exact h.app (.cons ⟨rfl, hx⟩ .nil)
theorem KRel.len {kvs : List (Key × Pv)} {vs : List (Key × V)} (h : KRel W kvs vs) : kvs.length = vs.length := Paired.length h
theorem toKey_kV {v : Pv} {k : Key} {x : V} (h : toKey v = some k) (r : Rl W v x) : x = kV k := by
  cases v <;> simp [toKey] at h
  · subst h; rw [r.intE]; rfl
  · subst h; rw [r.strE]; rfl
end
/-- the dict at a place -/
def dkAt (μ : List MO) : Pv → Option (Nat × List (Key × Pv))
  | .loc n => match μ[n]? with
    | some (.dk kvs) => some (n, kvs)
    | _ => none
  | _ => none
def dGetM (d k : Pv) : M Pv := fun μ => (dkAt μ d).bind fun p => (toKey k).bind fun k => (valP p.2 k).map fun v => (v, μ)
def dPutM (d k v : Pv) : M Unit := fun μ => (dkAt μ d).bind fun p => (toKey k).bind fun k => if p.2.length < LIM then some ((), μ.set p.1 (.dk (putP p.2 k v))) else none
section
variable {K : PySem.W.Frag} {G : Addr → Prop} {ι : List Addr} {μ : List MO} {ρ : List SV} {σ : L2.St} {H : Hp}
theorem dkAt_inv {d : Pv} {n : Nat} {kvs : List (Key × Pv)} (h : dkAt μ d = some (n, kvs)) : d = .loc n ∧ μ[n]? = some (.dk kvs) := by
  unfold dkAt at h
  split at h
  · split at h
    · cases h; exact ⟨rfl, by assumption⟩
    · cases h
  · cases h
theorem RS.dk (r : RS K G ι μ ρ σ H) {d : Pv} {n : Nat} {kvs : List (Key × Pv)} {x : V} (h : dkAt μ d = some (n, kvs)) (rx : Rl (wd K G ι ρ σ H) d x) : ∃ a vs, x = .ref a ∧ ι[n]? = some a ∧ H a = some (.dK vs) ∧ KRel (wd K G ι ρ σ H) kvs vs := by
  obtain ⟨rfl, e⟩ := dkAt_inv h
  obtain ⟨a, h1, vs, h2, h3⟩ := r.st n _ e
  unfold Rl at rx
  obtain ⟨b, h4, rfl⟩ := rx
  have h4 : ι[n]? = some b := h4
  rw [h1] at h4; cases h4
  exact ⟨a, vs, rfl, h1, h2, h3⟩
/-- an object of the store is changed -/
theorem RS.updS (r : RS K G ι μ ρ σ H) {n : Nat} {a : Addr} {o : HO} {mo : MO} (h : ι[n]? = some a) (hm : ∀ W, Le (wd K G ι ρ σ H) W → W.H a = some o → MOk W a mo) : RS K G ι (μ.set n mo) ρ σ (upd H a o) := by
  have hi : n < μ.length := by rw [← r.lm]; exact (List.getElem?_eq_some_iff.mp h).1
  have le : Le (wd K G ι ρ σ H) (wd K G ι ρ σ (upd H a o)) := ⟨rfl, fun _ _ h => h, fun b u q k => by
    have nb : b ≠ a := fun z => k (.inr (.inl (z ▸ List.mem_of_getElem? h)))
    exact ⟨by show upd H a _ b = _; rw [upd_ne nb]; exact q, k⟩⟩
  refine ⟨r.len, fun j s q => ?_, r.inj, r.ni, fun b q => ?_, r.nd, by rw [List.length_set]; exact r.lm, fun j u q => ?_⟩
  · refine SlotOk.mono le (fun m x b e1 e2 e3 => ?_) (r.sl j s q)
    subst e1 e3
    have oj : own ρ σ j b := ⟨⟨m, q⟩, by
      cases w : σ[j]? with
      | none => rw [w] at e2; cases e2
      | some u => rw [w] at e2; exact congrArg some e2⟩
    exact upd_ne fun y => (r.ni j b oj).1 (y ▸ List.mem_of_getElem? h)
  · obtain ⟨⟨u, q1, nt⟩, q2⟩ := r.g b q
    have nb : b ≠ a := fun z => q2 (by rw [z]; exact List.mem_of_getElem? h)
    exact ⟨⟨u, (by rw [upd_ne nb]; exact q1), nt⟩, q2⟩
  · by_cases z : n = j
    · subst z
      rw [List.getElem?_set_self hi] at q
      cases q
      exact ⟨a, h, hm _ le upd_same⟩
    · rw [List.getElem?_set_ne z] at q
      obtain ⟨b, q1, q2⟩ := r.st j u q
      have nb : b ≠ a := fun y => by
        subst y
        exact z (nd_ix r.nd h q1)
      exact ⟨b, q1, MOk.mono le (upd_ne nb) q2⟩
theorem Step.updS {ι0 : List Addr} {M : Addr → Prop} {H0 : Hp} (s : Step ι0 M H0 ι (Mx ι ρ σ) H) {n : Nat} {a : Addr} {o : HO} (h : ι[n]? = some a) (hf : ∀ o u, H a ≠ some (.frz o u)) : Step ι0 M H0 ι (Mx ι ρ σ) (upd H a o) :=
  ⟨s.pre, fun b u q k => by
    have nb : b ≠ a := fun z => by
      rcases s.new a (.inl (List.mem_of_getElem? h)) with y | y
      · exact k (z ▸ y)
      · rw [z, y] at q; cases q
    rw [upd_ne nb]; exact s.keep b u q k, s.new, fun b o' u q => by
    have nb : b ≠ a := fun z => hf o' u (z ▸ s.frz b o' u q)
    rw [upd_ne nb]; exact s.frz b o' u q⟩
/-- an object is laid into the store -/
theorem RS.newS (r : RS K G ι μ ρ σ H) {p : Addr} {o : HO} {mo : MO} (hp : H p = none) (hm : ∀ W, Le (wd K G ι ρ σ H) W → W.H p = some o → MOk W p mo) :
    RS K G (ι ++ [p]) (μ ++ [mo]) ρ σ (upd H p o) := by
  have np : ∀ a, (wd K G ι ρ σ H).B a → a ≠ p := fun a h e => by
    obtain ⟨o, q⟩ := r.tracked h
    rw [e, hp] at q; cases q
  have le : Le (wd K G ι ρ σ H) (wd K G (ι ++ [p]) ρ σ (upd H p o)) := ⟨rfl, fun n a h => by
    show (ι ++ [p])[n]? = some a
    rw [List.getElem?_append_left (List.getElem?_eq_some_iff.mp h).1]; exact h, fun a u h k => by
    have na : a ≠ p := ne_of_none h hp
    refine ⟨by show upd H p o a = _; rw [upd_ne na]; exact h, fun z => k ?_⟩
    rcases z with z | z | z
    · exact .inl z
    · rcases List.mem_append.mp z with z | z
      · exact .inr (.inl z)
      · exact (na (by simpa using z)).elim
    · exact .inr (.inr z)⟩
  refine ⟨r.len, fun j s q => ?_, r.inj, fun i a h => ⟨fun z => ?_, (r.ni i a h).2⟩, fun b q => ?_, ?_, by simp [r.lm], fun j u q => ?_⟩
  · refine SlotOk.mono le (fun m x b e1 e2 e3 => ?_) (r.sl j s q)
    subst e1 e3
    have oj : own ρ σ j b := ⟨⟨m, q⟩, by
      cases w : σ[j]? with
      | none => rw [w] at e2; cases e2
      | some u => rw [w] at e2; exact congrArg some e2⟩
    exact upd_ne (np b (.inr (.inr ⟨j, oj⟩)))
  · rcases List.mem_append.mp z with z | z
    · exact (r.ni i a h).1 z
    · exact np a (.inr (.inr ⟨i, h⟩)) (by simpa using z)
  · obtain ⟨⟨u, q1, nt⟩, q2⟩ := r.g b q
    refine ⟨⟨u, (by rw [upd_ne (np b (.inl q))]; exact q1), nt⟩, fun z => ?_⟩
    rcases List.mem_append.mp z with z | z
    · exact q2 z
    · exact np b (.inl q) (by simpa using z)
  · refine List.nodup_append.mpr ⟨r.nd, by simp, fun a h b hb e => ?_⟩
    exact np a (.inr (.inl h)) (by rw [e]; simpa using hb)
  · by_cases hj : j < μ.length
    · rw [List.getElem?_append_left hj] at q
      obtain ⟨b, q1, q2⟩ := r.st j u q
      exact ⟨b, by rw [List.getElem?_append_left (List.getElem?_eq_some_iff.mp q1).1]; exact q1, MOk.mono le (upd_ne (np b (.inr (.inl (List.mem_of_getElem? q1))))) q2⟩
    · rw [List.getElem?_append_right (by omega)] at q
      have : j = μ.length := by
        have := (List.getElem?_eq_some_iff.mp q).1
        simp at this; omega
      subst this
      simp at q
      subst q
      exact ⟨p, by rw [List.getElem?_append_right (by rw [r.lm]; exact Nat.le_refl _), r.lm]; simp, hm _ le upd_same⟩
end
section
variable {K : PySem.W.Frag} {G : Addr → Prop} {ι : List Addr} {μ : List MO} {ρ : List SV} {σ : L2.St} {H : Hp}
/-- a forbidden object becomes the store's -/
theorem RS.adopt {p : Addr} {o : HO} {mo : MO} (r : RS K (fun b => G b ∨ b = p) ι μ ρ σ H) (ng : ¬ G p) (hm : ∀ W, Le (wd K (fun b => G b ∨ b = p) ι ρ σ H) W → W.H p = some o → MOk W p mo) :
    RS K G (ι ++ [p]) (μ ++ [mo]) ρ σ (upd H p o) := by
  have le : Le (wd K (fun b => G b ∨ b = p) ι ρ σ H) (wd K G (ι ++ [p]) ρ σ (upd H p o)) := ⟨rfl, fun n a h => by
    show (ι ++ [p])[n]? = some a
    rw [List.getElem?_append_left (List.getElem?_eq_some_iff.mp h).1]; exact h, fun a u h k => by
    have na : a ≠ p := fun z => k (.inl (.inr z))
    refine ⟨by show upd H p o a = _; rw [upd_ne na]; exact h, fun z => k ?_⟩
    rcases z with z | z | z
    · exact .inl (.inl z)
    · rcases List.mem_append.mp z with z | z
      · exact .inr (.inl z)
      · exact (na (by simpa using z)).elim
    · exact .inr (.inr z)⟩
  have nι : p ∉ ι := (r.g p (.inr rfl)).2
  have no : ∀ j a, own ρ σ j a → a ≠ p := fun j a h z => (r.ni j a h).2 (.inr z)
  refine ⟨r.len, fun j s q => ?_, r.inj, fun i a h => ⟨fun z => ?_, fun z => (r.ni i a h).2 (.inl z)⟩, fun b q => ?_, ?_, by simp [r.lm], fun j u q => ?_⟩
  · refine SlotOk.mono le (fun m x b e1 e2 e3 => ?_) (r.sl j s q)
    subst e1 e3
    have oj : own ρ σ j b := ⟨⟨m, q⟩, by
      cases w : σ[j]? with
      | none => rw [w] at e2; cases e2
      | some u => rw [w] at e2; exact congrArg some e2⟩
    exact upd_ne (no j b oj)
  · rcases List.mem_append.mp z with z | z
    · exact (r.ni i a h).1 z
    · exact no i a h (by simpa using z)
  · obtain ⟨⟨u, q1, nt⟩, q2⟩ := r.g b (.inl q)
    have nb : b ≠ p := fun z => ng (z ▸ q)
    refine ⟨⟨u, (by rw [upd_ne nb]; exact q1), nt⟩, fun z => ?_⟩
    rcases List.mem_append.mp z with z | z
    · exact q2 z
    · exact nb (by simpa using z)
  · refine List.nodup_append.mpr ⟨r.nd, by simp, fun a h b hb e => ?_⟩
    exact nι (by rw [show p = a by rw [e]; exact (by simpa using hb : b = p).symm]; exact h)
  · by_cases hj : j < μ.length
    · rw [List.getElem?_append_left hj] at q
      obtain ⟨b, q1, q2⟩ := r.st j u q
      have nb : b ≠ p := fun z => nι (z ▸ List.mem_of_getElem? q1)
      exact ⟨b, by rw [List.getElem?_append_left (List.getElem?_eq_some_iff.mp q1).1]; exact q1, MOk.mono le (upd_ne nb) q2⟩
    · rw [List.getElem?_append_right (by omega)] at q
      have : j = μ.length := by
        have := (List.getElem?_eq_some_iff.mp q).1
        simp at this; omega
      subst this
      simp at q
      subst q
      exact ⟨p, by rw [List.getElem?_append_right (by rw [r.lm]; exact Nat.le_refl _), r.lm]; simp, hm _ le upd_same⟩
end
section
variable {X : Cx} {ρ : List SV} {e o i : Expr} {pos : Pos}
/-- d[k] -/
theorem ev_dget {cd ci : M Pv} (hu : X.A.units + 1 < cLine) (hd : Ev X ρ o cd) (hi : Ev X ρ i ci) (hs : NoSl i := by exact fun _ _ => rfl) : Ev X ρ (.Subscript o i pos) (cd >>= fun d => ci >>= fun k => dGetM d k) :=
  PE.imp (pe_dget hu hd hi hs) fun σ H Q q => by
    obtain ⟨G, ι, μ, v, μ', rs, hr, q⟩ := q
    obtain ⟨d, μ1, h1, h2⟩ := inv_bind hr
    obtain ⟨k, μ2, h3, h4⟩ := inv_bind h2
    have h4 : dGetM d k μ2 = some (v, μ') := h4
    unfold dGetM at h4
    cases e1 : dkAt μ2 d with
    | none => rw [e1] at h4; cases h4
    | some p =>
      obtain ⟨n, kvs⟩ := p
      rw [e1, Option.bind_some] at h4
      cases e2 : toKey k with
      | none => rw [e2] at h4; cases h4
      | some kk =>
        rw [e2, Option.bind_some] at h4
        cases e3 : valP kvs kk with
        | none => rw [e3] at h4; cases h4
        | some w =>
          rw [e3] at h4
          cases h4
          refine ⟨G, ι, μ, d, μ1, rs, h1, fun x H1 ι1 st1 z1 => ⟨G, ι1, μ1, k, _, z1.1, h3, fun y H2 ι2 st2 z2 => ?_⟩⟩
          obtain ⟨a, vs, rfl, ha, hH, kr⟩ := z2.1.dk e1 (z1.2.mono st2.le)
          obtain ⟨xv, g1, g2⟩ := kr.val _ e3
          refine ⟨a, xv, rfl, ?_, q xv H2 ι2 (st1.trans st2) ⟨z2.1, g2⟩⟩
          rw [toKey_kV e2 z2.2, ← g1]
          exact DGet.k hH
/-- d[k] += e (ints); the rule: ps_daug hu .. .. .. in_add -/
def dAugM (f : Int → Int → Int) (d k : Pv) (cv : M Pv) : M Unit := dGetM d k >>= fun u => cv >>= fun v => match u, v with
  | .int u, .int v => dPutM d k (.int (f u v))
  | _, _ => Eff.lift none
theorem es_daug {st : Stmt} {f : Int → Int → Int} {cd ci cv : M Pv} (hp : PS X st (sDAug (tG X.K ρ (RV X.K ρ) cd) (tG X.K ρ (RV X.K ρ) ci) (tG X.K ρ (RV X.K ρ) cv) (fun x y H Q => ∃ i j, x = .int i ∧ y = .int j ∧ Q (.int (f i j)) H))) :
    Es X ρ st (cd >>= fun d => ci >>= fun k => dAugM f d k cv) fun _ => .nx ρ :=
  PS.imp hp fun D σ H q => by
    obtain ⟨G, ι, μ, v, μ', rs, hr, q⟩ := q
    obtain ⟨d, μ1, h1, h2⟩ := inv_bind hr
    obtain ⟨k, μ2, h3, h4⟩ := inv_bind h2
    unfold dAugM at h4
    obtain ⟨u, μ3, h5, h6⟩ := inv_bind h4
    obtain ⟨w, μ4, h7, h8⟩ := inv_bind h6
    have h5 : dGetM d k μ2 = some (u, μ3) := h5
    unfold dGetM at h5
    cases e1 : dkAt μ2 d with
    | none => rw [e1] at h5; cases h5
    | some p =>
      obtain ⟨n, kvs⟩ := p
      rw [e1, Option.bind_some] at h5
      cases e2 : toKey k with
      | none => rw [e2] at h5; cases h5
      | some kk =>
        rw [e2, Option.bind_some] at h5
        cases e3 : valP kvs kk with
        | none => rw [e3] at h5; cases h5
        | some w' =>
          rw [e3] at h5
          cases h5
          split at h8
          · rename_i u v
            have h8 : dPutM d k (.int (f u v)) μ4 = some ((), μ') := h8
            unfold dPutM at h8
            cases e4 : dkAt μ4 d with
            | none => rw [e4] at h8; cases h8
            | some p =>
              obtain ⟨n', kvs'⟩ := p
              rw [e4, Option.bind_some, e2, Option.bind_some] at h8
              split at h8
              · rename_i hz
                have hz : kvs'.length < LIM := hz
                cases h8
                refine ⟨G, ι, μ, d, μ1, rs, h1, fun x H1 ι1 st1 z1 => ⟨G, ι1, μ1, k, _, z1.1, h3, fun y H2 ι2 st2 z2 => ?_⟩⟩
                obtain ⟨a, vs, rfl, ha, hH, kr⟩ := z2.1.dk e1 (z1.2.mono st2.le)
                obtain ⟨xv, g1, g2⟩ := kr.val _ e3
                have ek := toKey_kV e2 z2.2
                refine ⟨a, xv, rfl, by rw [ek, ← g1]; exact DGet.k hH, G, ι2, _, .int v, μ4, z2.1, h7, fun z H3 ι3 st3 z3 => ?_⟩
                obtain ⟨a', vs', ea, ha', hH', kr'⟩ := z3.1.dk e4 ((z1.2.mono st2.le).mono st3.le)
                cases ea
                refine ⟨u, v, g2.intE, z3.2.intE, upd H3 a (.dK (putK vs' kk (.int (f u v)))), ?_, ?_⟩
                · rw [ek]
                  exact DPut.k hH' (by rw [← kr'.len]; have : LIM ≤ sizeLine := lim_le (Nat.le_refl _); omega)
                · exact q σ _ ι3 ((st1.trans (st2.trans st3)).updS ha' (nfK hH')) (z3.1.updS ha' fun W hW hH => ⟨_, hH, KRel.put .int (kr'.mono hW)⟩)
              · cases h8
          · obtain ⟨e, _⟩ := inv_lift (m := M) h8
            cases e
/-- {'a': e1, 'b': e2} with text keys -/
def dNewM2 (k1 k2 : Str) (c1 c2 : M Pv) : M Pv := c1 >>= fun a => c2 >>= fun b => fun μ => if k1 = k2 then none else some (.loc μ.length, μ ++ [.dk [(.inr k1, a), (.inr k2, b)]])
theorem ev_disp2 {k1 k2 : Str} {e1 e2 : Expr} {c1 c2 : M Pv} {i1 i2 : Nat} {p1 p2 : Pos} (h1 : Ev X ρ e1 c1) (h2 : Ev X ρ e2 c2) : Ev X ρ (.Dict [some (.Constant (.str k1) i1 p1), some (.Constant (.str k2) i2 p2)] [e1, e2] pos) (dNewM2 k1 k2 c1 c2) :=
  PE.imp (pe_disp (pps_cons pe_str h1 (pps_cons pe_str h2 pps_nil)) (by rfl) (by rfl) (fun z => by cases z) (by simp)) fun σ H Q q => by
    obtain ⟨G, ι, μ, v, μ', rs, hr, q⟩ := q
    unfold dNewM2 at hr
    obtain ⟨a, μ1, r1, hr⟩ := inv_bind hr
    obtain ⟨b, μ2, r2, hr⟩ := inv_bind hr
    have hr : (if k1 = k2 then none else some (Pv.loc μ2.length, μ2 ++ [MO.dk [(.inr k1, a), (.inr k2, b)]])) = some (v, μ') := hr
    split at hr
    · cases hr
    · rename_i hk
      cases hr
      intro p hp
      have rsD := rs.alloc (u := .dK []) hp
      have keep : ∀ {ι1 H1}, Step ι (Mx ι ρ σ) (upd H p (.dK [])) ι1 (Mx ι1 ρ σ) H1 → H1 p = some (.dK []) := fun {ι1 H1} st => st.keep p _ upd_same fun z => by
        rcases z with z | ⟨j, z⟩
        · exact (rsD.g p (.inr rfl)).2 z
        · exact (rsD.ni j p z).2 (.inr rfl)
      show tPairs _ σ (upd H p (.dK [])) _
      show tG X.K ρ (RV X.K ρ) c1 σ (upd H p (.dK [])) fun y H2 => tG X.K ρ (RV X.K ρ) c2 σ H2 fun y2 H4 => _
      refine ⟨_, ι, μ, a, μ1, rsD, r1, fun y H1 ι1 st1 z1 => ⟨_, ι1, μ1, b, μ2, z1.1, r2, fun y2 H2 ι2 st2 z2 => ?_⟩⟩
      have st := st1.trans st2
      have hD := keep st
      refine ⟨hD, [(.inr k1, y), (.inr k2, y2)], rfl, by simp, ?_⟩
      have em : mergeK [] [((Sum.inr k1 : Key), y), (Sum.inr k2, y2)] = [((Sum.inr k1 : Key), y), (Sum.inr k2, y2)] := by
        have hk' : ¬ ((Sum.inr k1 : Key) = Sum.inr k2) := fun z => hk (Sum.inr.inj z)
        simp [mergeK, putK, hk']
      rw [em]
      have ng : ¬ G p := fun z => by
        obtain ⟨ob, e, _⟩ := (rs.g p z).1
        rw [hp] at e; cases e
      have st' : Step ι (Mx ι ρ σ) H (ι2 ++ [p]) (Mx (ι2 ++ [p]) ρ σ) (upd H2 p (.dK [((Sum.inr k1 : Key), y), (Sum.inr k2, y2)])) := by
        refine ⟨fun n a h => ?_, fun b ob h k => ?_, fun b h => ?_, fun b o u h => by rw [upd_ne (ne_of_none h hp)]; exact st.frz b o u (by rw [upd_ne (ne_of_none h hp)]; exact h)⟩
        · rw [List.getElem?_append_left (List.getElem?_eq_some_iff.mp (st.pre n a h)).1]; exact st.pre n a h
        · have nb : b ≠ p := ne_of_none h hp
          rw [upd_ne nb]
          exact st.keep b ob (by rw [upd_ne nb]; exact h) k
        · have h' : Mx ι2 ρ σ b ∨ b = p := by
            rcases h with h | h
            · rcases List.mem_append.mp h with h | h
              · exact .inl (.inl h)
              · exact .inr (by simpa using h)
            · exact .inl (.inr h)
          rcases h' with h' | h'
          · rcases st.new b h' with z | z
            · exact .inl z
            · right
              cases e : H b with
              | none => rfl
              | some ob => rw [upd_ne (ne_of_none e hp)] at z; rw [e] at z; cases z
          · rw [h']; exact .inr hp
      refine q (.ref p) _ (ι2 ++ [p]) st' ⟨RS.adopt z2.1 ng fun W hW hH => ⟨_, hH, .cons ⟨rfl, (z1.2.mono st2.le).mono hW⟩ (.cons ⟨rfl, z2.2.mono hW⟩ .nil)⟩, ?_⟩
      unfold Rl
      exact ⟨p, by show (ι2 ++ [p])[μ2.length]? = some p; rw [← z2.1.lm]; simp, rfl⟩
end
end Q
/-! LA: what the printed walks ask besides. -/
namespace Q
open PySem PySem.Spec PyProof.Rows L2

def noMlB (ρ : List SV) (vs : List Nat) : Bool := vs.all fun v => match ρ[v]? with
  | some (.ml _) => false
  | _ => true
theorem noMl_of {ρ : List SV} {vs : List Nat} (h : noMlB ρ vs = true) : noMl ρ vs := fun v hv l e => by
  have := List.all_eq_true.mp h v hv
  rw [e] at this
  cases this
theorem hu1 {k : Nat} {A : Around} (h : Room k A) : A.units + 1 < cLine := by have := h.un; omega
theorem hu65 {k : Nat} {A : Around} (h : Room k A) : A.units + 65 < cLine := by have := h.un; omega
theorem ok_none {P : Program} {w : World} {K : PySem.W.Frag} {mg : Str → Option Value} {base : Heap} {m : Type → Type} [Monad m] [Eff m] {k n : Nat} {f : Addr} {fd : FuncData} {ps : List Str} :
    FnOk P w K mg base CX0 k f fd ps (spF K n (fun _ => (Eff.lift none : m Pv))) := by
  refine ⟨fun vs H Q E h => ?_, fun A outer s H args us vs Q E _ _ _ _ h => ?_⟩
  all_goals
    obtain ⟨_, _, _, _, _, _, _, _, _, h, _⟩ := h
    obtain ⟨e, _⟩ := inv_lift h
    cases e
theorem ok_lift {P : Program} {w : World} {K : PySem.W.Frag} {mg : Str → Option Value} {base : Heap} {m : Type → Type} [Monad m] [Eff m] {k n : Nat} {f : Addr} {fd : FuncData} {ps : List Str} {g : List Pv → Option Pv}
    (h : FnOk P w K mg base CX0 k f fd ps (spF K n g)) : FnOk P w K mg base CX0 k f fd ps (spF K n (fun a => (Eff.lift (g a) : m Pv))) :=
  h.imp fun vs H Q E q => by
    obtain ⟨G, ι, μ, args, v, μ', hl, rs, ra, hr, q⟩ := q
    rw [Eff.run_lift] at hr
    exact ⟨G, ι, μ, args, v, μ', hl, rs, ra, hr, q⟩
theorem spF_law {K : PySem.W.Frag} {H : Hp} {a : Addr} {ns : List Int} {g : List Pv → M Pv} (hO : Only H) (hS : SqL K H a (ns.map V.int)) (h : ∃ μ, Eff.run (g [.scr ns]) [] = some (.bl true, μ)) :
    spF K 1 g [.ref a] H (fun v _ => v = .bl true) fun _ _ _ => False := by
  obtain ⟨μ, h⟩ := h
  have B : ∀ b, ¬ (wd K (fun _ => False) [] [] [] H).B b := fun b z => by
    rcases z with z | z | ⟨i, z⟩
    · exact z
    · cases z
    · exact no_own z
  refine ⟨fun _ => False, [], [], [.scr ns], .bl true, μ, rfl, ⟨rfl, fun i s e => by simp at e, fun i j a x => (no_own x).elim, fun i a x => (no_own x).elim, fun a h => h.elim, List.nodup_nil, rfl, fun n o e => by simp at e⟩, .cons ?_ .nil, h, fun x H' ι' _ _ r => r.blE⟩
  unfold Rl
  refine ⟨a, rfl, ?_⟩
  rcases hS with (h | ⟨o, h⟩) | h
  · rcases hO a with z | ⟨o, xs, z⟩
    · have h' : H a = some (.lst (ns.map V.int)) := h
      rw [z] at h'; cases h'
    · have h' : H a = some (.lst (ns.map V.int)) := h
      rw [z] at h'; cases h'
  · exact .inl ⟨o, h, B a⟩
  · exact .inr h

/-! ### values read from a slot that a loop or branch may have left unset -/
def svGet : SV → Option Pv
  | .val v => some v
  | _ => none
section
variable {X : Cx} {ρ : List SV} {m : Type → Type} [Monad m] [Eff m] {e a b c : Expr} {pos : Pos}
theorem ev_sv {i : Nat} {x : Str} {sv : SV} (h : ρ[i]? = some sv) (hN : X.N[i]? = some x := by rfl) (hv : Vis X.env.scope x := by first | exact Or.inl rfl | exact Or.inr (Or.inl rfl) | exact Or.inr (Or.inr rfl))
    (hd : (x == ("__debug__" : Str)) = false := by decide) (hcd : (x == ("__classdict__" : Str)) = false := by decide) : Ev X ρ (.Name x pos) (Eff.lift (svGet sv) : m Pv) :=
  PE.imp (pe_var hN hv hd hcd) fun σ H Q q => by
    obtain ⟨G, ι, μ, w, μ', r, hr, q⟩ := q
    obtain ⟨h5, rfl⟩ := inv_lift hr
    unfold svGet at h5
    split at h5
    · cases h5
      obtain ⟨x, e, z⟩ := r.slot h
      exact ⟨x, e, q x H ι .refl ⟨r, z⟩⟩
    · cases h5

/-! ### bools as values -/
def notV (x : m Bool) : m Pv := x >>= fun b => pure (.bl (!b))
def andV (x : m Pv) (y : m Pv) : m Pv := b1 asB x >>= fun b => if b = true then y else pure (.bl false)
def orV (x : m Pv) (y : m Pv) : m Pv := b1 asB x >>= fun b => if b = true then pure (.bl true) else y
theorem tG_pure {v : Pv} {σ : L2.St} {H : Hp} {Q : VK} (q : tG X.K ρ (RV X.K ρ) (pure v : m Pv) σ H Q) : ∃ G ι μ, RS X.K G ι μ ρ σ H ∧ ∀ x, Rl (wd X.K G ι ρ σ H) v x → Q x H := by
  obtain ⟨G, ι, μ, w, μ', r, hr, q⟩ := q
  obtain ⟨rfl, rfl⟩ := inv_pure hr
  exact ⟨G, ι, _, r, fun x h => q x H ι .refl ⟨r, h⟩⟩
theorem tG_asB {c : m Pv} {k : Bool → m Pv} {σ : L2.St} {H : Hp} {Q : VK} (q : tG X.K ρ (RV X.K ρ) (b1 asB c >>= k) σ H Q) :
    tG X.K ρ (RV X.K ρ) c σ H fun x H1 => ∃ b, x = .bl b ∧ tG X.K ρ (RV X.K ρ) (k b) σ H1 Q := by
  obtain ⟨G, ι, μ, v, μ', rs, hr, q⟩ := q
  obtain ⟨b, μ1, h1, h2⟩ := inv_bind hr
  obtain ⟨u, μ2, h3, h4⟩ := inv_bind h1
  obtain ⟨h5, rfl⟩ := inv_lift h4
  refine ⟨G, ι, μ, u, _, rs, h3, fun x H1 ι1 st1 z1 => ?_⟩
  cases u <;> simp only [asB, Option.some.injEq, reduceCtorEq] at h5
  subst h5
  exact ⟨_, z1.2.blE, G, ι1, _, v, μ', z1.1, h2, fun x H2 ι2 st2 z2 => q x H2 ι2 (st1.trans st2) z2⟩
variable {rest : List Expr}
theorem ev_b1 {c : m Pv} (h : Ev X ρ a c) {op : BoolOp} : Ev X ρ (.BoolOp op [a] pos) c := pe_one h
theorem ev_and {c d : m Pv} (h : Ev X ρ a c) (k : Ev X ρ (.BoolOp .And (b :: rest) pos) d) : Ev X ρ (.BoolOp .And (a :: b :: rest) pos) (andV c d) :=
  PE.imp (pe_and h k) fun σ H Q q => by
    obtain ⟨G, ι, μ, v, μ', rs, hr, q⟩ := tG_asB q
    refine ⟨G, ι, μ, v, μ', rs, hr, fun x H1 ι1 st1 z1 => ?_⟩
    obtain ⟨b, e, q⟩ := q x H1 ι1 st1 z1
    refine ⟨b, e, ?_⟩
    cases b
    · rw [if_neg Bool.false_ne_true] at q ⊢
      obtain ⟨G, ι, μ, r, q⟩ := tG_pure (m := m) q
      exact q _ .bl
    · exact q
theorem ev_or {c d : m Pv} (h : Ev X ρ a c) (k : Ev X ρ (.BoolOp .Or (b :: rest) pos) d) : Ev X ρ (.BoolOp .Or (a :: b :: rest) pos) (orV c d) :=
  PE.imp (pe_or h k) fun σ H Q q => by
    obtain ⟨G, ι, μ, v, μ', rs, hr, q⟩ := tG_asB q
    refine ⟨G, ι, μ, v, μ', rs, hr, fun x H1 ι1 st1 z1 => ?_⟩
    obtain ⟨b, e, q⟩ := q x H1 ι1 st1 z1
    refine ⟨b, e, ?_⟩
    cases b
    · exact q
    · rw [if_pos rfl] at q ⊢
      obtain ⟨G, ι, μ, r, q⟩ := tG_pure (m := m) q
      exact q _ .bl
def notB (x : m Pv) : m Pv := b1 asB x >>= fun b => pure (.bl (!b))
theorem ev_notB {c : m Pv} (h : Ev X ρ e c) : Ev X ρ (.UnaryOp .Not e pos) (notB c) :=
  PE.imp (pe_not h) fun σ H Q q => by
    obtain ⟨G, ι, μ, v, μ', rs, hr, q⟩ := tG_asB q
    refine ⟨G, ι, μ, v, μ', rs, hr, fun x H1 ι1 st1 z1 => ?_⟩
    obtain ⟨b, e, q⟩ := q x H1 ι1 st1 z1
    refine ⟨b, e, ?_⟩
    obtain ⟨G, ι, μ, r, q⟩ := tG_pure (m := m) q
    exact q _ .bl

/-! ### chains, truth -/
def b3c (g1 g2 : Pv → Pv → Option Pv) (x y z : m Pv) : m Pv := x >>= fun a => y >>= fun b => Eff.lift ((g1 a b).bind asB) >>= fun k => if k = true then z >>= fun c => Eff.lift (g2 b c) else pure (.bl false)
theorem asB_inv {o : Option Pv} {k : Bool} (h : o.bind asB = some k) : o = some (.bl k) := by
  cases o with
  | none => cases h
  | some v => cases v <;> simp [asB] at h; rw [h]
theorem chain_rd {g1 g2 : Pv → Pv → Option Pv} {ca cb cc : m Pv} {σ : L2.St} {H : Hp} {Q : VK} (q : tG X.K ρ (RV X.K ρ) (b3c g1 g2 ca cb cc) σ H Q) :
    tChain (rB X.K g1) (rB X.K g2) (tG X.K ρ (RK X.K ρ) ca) (tG X.K ρ (RK X.K ρ) cb) (tG X.K ρ (RK X.K ρ) cc) σ H Q := by
  obtain ⟨G, ι, μ, v, μ', rs, hr, q⟩ := q
  obtain ⟨va, μ1, h1, hr⟩ := inv_bind hr
  obtain ⟨vb, μ2, h2, hr⟩ := inv_bind hr
  obtain ⟨k, μ3, h3, hr⟩ := inv_bind hr
  obtain ⟨hk, rfl⟩ := inv_lift h3
  refine ⟨G, ι, μ, va, μ1, rs, h1, fun x H1 ι1 st1 z1 => ⟨G, ι1, μ1, vb, _, z1.1, h2, fun y H2 ι2 st2 z2 => ⟨G, ι2, _, ρ, σ, va, vb, .bl k, z2.1, z1.2.mono st2.le, z2.2, asB_inv hk, fun z H3 sm hz => ⟨k, hz.blE, ?_⟩⟩⟩⟩
  have rs3 := z2.1.same sm
  have st3 := st1.trans (st2.trans (Step.same sm fun _ h => h))
  cases k with
  | false =>
    rw [if_neg Bool.false_ne_true] at hr ⊢
    obtain ⟨rfl, rfl⟩ := inv_pure hr
    exact q _ H3 ι2 st3 ⟨rs3, .bl⟩
  | true =>
    rw [if_pos rfl] at hr ⊢
    obtain ⟨vc, μ4, h4, hr⟩ := inv_bind hr
    obtain ⟨h5, rfl⟩ := inv_lift hr
    exact ⟨G, ι2, _, vc, _, rs3, h4, fun w H4 ι4 st4 z4 => ⟨G, ι4, _, ρ, σ, vb, vc, v, z4.1, z2.2.mono ((Step.same sm fun _ h => h : Step ι2 (Mx ι2 ρ σ) H2 ι2 (Mx ι2 ρ σ) H3).trans st4).le, z4.2, h5, fun u H5 s5 hu => q u H5 ι4 (st3.trans (st4.trans (Step.same s5 fun _ h => h))) ⟨z4.1.same s5, hu⟩⟩⟩
variable {op op' : CmpOp} {g1 g2 : Pv → Pv → Option Pv} {ca cb cc : m Pv}
theorem ev_chain (ho : OpR X (compareOp op) (rB X.K g1)) (ho' : OpR X (compareOp op') (rB X.K g2)) (ha : Ek X ρ a ca) (hb : Ek X ρ b cb) (hc : Ek X ρ c cc) (hm : lastMarks [op, op'] [b, c] = false := by with_unfolding_all rfl) :
    Ev X ρ (.Compare a [op, op'] [b, c] pos) (b3c g1 g2 ca cb cc) := PE.imp (pe_chain ho ho' ha hb hc hm) fun σ H Q q => chain_rd q
theorem et_chain (ho : OpR X (compareOp op) (rB X.K g1)) (ho' : OpR X (compareOp op') (rB X.K g2)) (ha : Ek X ρ a ca) (hb : Ek X ρ b cb) (hc : Ek X ρ c cc) (hm : lastMarks [op, op'] [b, c] = false := by with_unfolding_all rfl) :
    Et X ρ (.Compare a [op, op'] [b, c] pos) (b1 asB (b3c g1 g2 ca cb cc)) := PT.imp (pt_chain ho ho' ha hb hc hm) fun σ H Q q => by
  refine chain_rd ?_
  obtain ⟨G, ι, μ, v, μ', rs, hr, q⟩ := q
  obtain ⟨u, μ2, h3, h4⟩ := inv_bind hr
  obtain ⟨h5, rfl⟩ := inv_lift h4
  refine ⟨G, ι, μ, u, _, rs, h3, fun x H1 ι1 st1 z1 => ?_⟩
  cases u <;> simp only [asB, Option.some.injEq, reduceCtorEq] at h5
  subst h5
  exact ⟨_, z1.2.blE, q H1 ι1 st1 z1.1⟩
/-- a value's truth -/
def pTru : Pv → Option Bool
  | .non => some false
  | .bl b => some b
  | .int i => some (i != 0)
  | .tup l => some (!l.isEmpty)
  | .lst l => some (!l.isEmpty)
  | _ => none
theorem emp_of {W : Wd} {l : List Pv} {vs : List V} (h : Rls W l vs) : (!l.isEmpty) = !vs.isEmpty := by
  cases l with
  | nil => rw [h.inv_nil]; rfl
  | cons v l => obtain ⟨x, r, rfl, _⟩ := h.inv_cons; rfl
theorem et_tru {c : m Pv} (h : Ek X ρ e c) (he : ∀ whole, isTrue e X.env whole = (do let v ← whole; standAt e.pos; holding [v] (truthy v)) := by intro _; rfl) : Et X ρ e (b1 pTru c) :=
  PT.imp (pt_truth h he) fun σ H Q q => by
    obtain ⟨G, ι, μ, v, μ', rs, hr, q⟩ := q
    obtain ⟨u, μ2, h3, h4⟩ := inv_bind hr
    obtain ⟨h5, rfl⟩ := inv_lift h4
    refine ⟨G, ι, μ, u, _, rs, h3, fun x H1 ι1 st1 z1 => ⟨v, ?_, q H1 ι1 st1 z1.1⟩⟩
    unfold pTru at h5
    split at h5
    · cases h5; rw [z1.2.nonE]; rfl
    · cases h5; rw [z1.2.blE]; rfl
    · cases h5; rw [z1.2.intE]; rfl
    · cases h5
      obtain ⟨a, vs, rfl, k1, k2⟩ := z1.2.tupE
      exact .inr (.inl ⟨vs, k1, emp_of k2⟩)
    · cases h5
      obtain ⟨a, vs, rfl, k1, k2⟩ := z1.2.lstE z1.1
      exact .inl ⟨vs, .of k1, emp_of k2⟩
    · cases h5
end

/-! ### more operators -/
def pPow : Pv → Pv → Option Pv
  | .int i, .int j => if 0 ≤ j ∧ j ≤ 1000000 ∧ i.natAbs < 2 ^ 64 then some (.int (i ^ j.toNat)) else none
  | _, _ => none
def pShl : Pv → Pv → Option Pv
  | .int i, .int j => if 0 ≤ j ∧ j ≤ 1000000 ∧ i.natAbs < 2 ^ 64 then some (.int (i * 2 ^ j.toNat)) else none
  | _, _ => none
def pShr : Pv → Pv → Option Pv
  | .int i, .int j => if 0 ≤ j then some (.int (i / 2 ^ j.toNat)) else none
  | _, _ => none
def pAnd : Pv → Pv → Option Pv
  | .int i, .int j => some (.int (Builtin.bitAnd i j))
  | _, _ => none
def pOr : Pv → Pv → Option Pv
  | .int i, .int j => some (.int (Builtin.bitOr i j))
  | _, _ => none
def pXor : Pv → Pv → Option Pv
  | .int i, .int j => some (.int (Builtin.bitXor i j))
  | _, _ => none
def pAddI : Pv → Pv → Option Pv
  | .int i, .int j => some (.int (i + j))
  | _, _ => none
section
variable {X : Cx}
theorem ob_pow : OpR X (binaryOp .Pow) (rB X.K pPow) := okb_int op_pow fun x y v e => by
  unfold pPow at e
  split at e
  · split at e
    · cases e; exact ⟨_, _, rfl, rfl, by assumption, fun _ => .int⟩
    · cases e
  · cases e
theorem ob_shl : OpR X (binaryOp .LShift) (rB X.K pShl) := okb_int op_shl fun x y v e => by
  unfold pShl at e
  split at e
  · split at e
    · cases e; exact ⟨_, _, rfl, rfl, by assumption, fun _ => .int⟩
    · cases e
  · cases e
theorem ob_shr : OpR X (binaryOp .RShift) (rB X.K pShr) := okb_int op_shr fun x y v e => by
  unfold pShr at e
  split at e
  · split at e
    · cases e; exact ⟨_, _, rfl, rfl, by assumption, fun _ => .int⟩
    · cases e
  · cases e
theorem ob_and : OpR X (binaryOp .BitAnd) (rB X.K pAnd) := okb_int0 op_and fun x y v e => by
  unfold pAnd at e
  split at e
  · cases e; exact ⟨_, _, rfl, rfl, fun _ => .int⟩
  · cases e
theorem ob_or : OpR X (binaryOp .BitOr) (rB X.K pOr) := okb_int0 op_or fun x y v e => by
  unfold pOr at e
  split at e
  · cases e; exact ⟨_, _, rfl, rfl, fun _ => .int⟩
  · cases e
theorem ob_xor : OpR X (binaryOp .BitXor) (rB X.K pXor) := okb_int0 op_xor fun x y v e => by
  unfold pXor at e
  split at e
  · cases e; exact ⟨_, _, rfl, rfl, fun _ => .int⟩
  · cases e
/-- x op= e, ints -/
theorem oi_add : OpR X (inplaceOp .Add) (rB X.K pAddI) := okb_int0 iop_add fun x y v e => by
  unfold pAddI at e
  split at e
  · cases e; exact ⟨_, _, rfl, rfl, fun _ => .int⟩
  · cases e
theorem oi_sub : OpR X (inplaceOp .Sub) (rB X.K pSub) := okb_int0 iop_sub fun x y v e => by
  unfold pSub at e
  split at e
  · cases e; exact ⟨_, _, rfl, rfl, fun _ => .int⟩
  · cases e
theorem oi_or : OpR X (inplaceOp .BitOr) (rB X.K pOr) := okb_int0 iop_or fun x y v e => by
  unfold pOr at e
  split at e
  · cases e; exact ⟨_, _, rfl, rfl, fun _ => .int⟩
  · cases e
end
section
variable {X : Cx} {ρ : List SV} {m : Type → Type} [Monad m] [Eff m] {e a b : Expr} {pos pos' : Pos} {op : Operator}
theorem es_aug {i : Nat} {x : Str} {v : Pv} {g : Pv → Pv → Option Pv} {c : m Pv} (ho : OpR X (inplaceOp op) (rB X.K g)) (h : ρ[i]? = some (.val v)) (hc : Ev X ρ e c) (hN : X.N.Nodup) (hi : X.N[i]? = some x := by rfl) (hx : Loc X.env.scope x := by first | exact Or.inl rfl | exact Or.inr rfl)
    (hf : X.fn x = true ∨ X.env.scope.names.lookup x = some .local := by first | exact .inl rfl | exact .inr rfl | assumption) :
    Es X ρ (.AugAssign (.Name x pos') op e pos) (c >>= fun y => Eff.lift (g v y)) fun v' => .nx (ρ.set i (.val v')) :=
  PS.imp (ps_aug (ti := rB X.K g) hN hi hx hc ho hf) fun D σ H q => by
    obtain ⟨G, ι, μ, o, μ', rs, hr, q⟩ := q
    obtain ⟨y, μ1, h1, h2⟩ := inv_bind hr
    obtain ⟨h5, rfl⟩ := inv_lift h2
    obtain ⟨x, eσ, rx⟩ := rs.slot h
    refine ⟨x, eσ, G, ι, μ, y, _, rs, h1, fun yv H1 ι1 st1 z1 => ?_⟩
    refine ⟨G, ι1, _, ρ, σ, v, y, o, z1.1, .inl (rx.mono st1.le), .inl z1.2, h5, fun z H2 s hz => ?_⟩
    have st2 := st1.trans (Step.same s fun _ h => h)
    exact q _ H2 ι1 st2.set ((z1.1.same s).setVal hz)
/-- a, b = e1, e2: two local names, stored from the right -/
def parM (x y : m Pv) : m (Pv × Pv) := x >>= fun a => y >>= fun b => pure (a, b)
theorem es_par {i j : Nat} {x y : Str} {ca cb : m Pv} {px py pt pt2 : Pos} {kt k2 : Nat} (ha : Ea X ρ [a, b] (consM ca (consM cb (pure [])))) (hc : X.calm = true) (hN : X.N.Nodup) (hi : X.N[i]? = some x := by rfl) (hj : X.N[j]? = some y := by rfl) (hij : i ≠ j := by decide)
    (hx : X.env.scope.names.lookup x = some .local := by rfl) (hy : X.env.scope.names.lookup y = some .local := by rfl)
    (hw : swappedStores [.Tuple [.Name x px, .Name y py] kt pt] (.Tuple [a, b] k2 pt2) X.env = pure (some [x, y]) := by rfl)
    (hs : swapsWithSole [.Tuple [.Name x px, .Name y py] kt pt] (.Tuple [a, b] k2 pt2) pos.line X.env = pure false := by rfl) :
    Es X ρ (.Assign [.Tuple [.Name x px, .Name y py] kt pt] (.Tuple [a, b] k2 pt2) pos) (parM ca cb) fun p => .nx ((ρ.set i (.val p.1)).set j (.val p.2)) :=
  PS.imp (ps_par hc hN hi hj hij hx hy ha hw hs) fun D σ H q => by
    obtain ⟨G, ι, μ, o, μ', rs, hr, q⟩ := q
    obtain ⟨va, μ1, h1, h2⟩ := inv_bind hr
    obtain ⟨vb, μ2, h3, h4⟩ := inv_bind h2
    obtain ⟨rfl, hμ⟩ := inv_pure h4
    subst hμ
    refine ⟨G, ι, μ, [va, vb], μ', rs, ?_, fun xs H1 ι1 st1 r1 z1 => ?_⟩
    · unfold consM
      rw [Eff.run_bind, h1, Option.bind_some, Eff.run_bind, Eff.run_bind, h3, Option.bind_some, Eff.run_bind, Eff.run_pure, Option.bind_some, Eff.run_pure, Option.bind_some, Eff.run_pure]
    · have z1 : Rls (wd X.K G ι1 ρ σ H1) [va, vb] xs := z1
      obtain ⟨x1, r, rfl, k1, z1⟩ := z1.inv_cons
      obtain ⟨x2, r, rfl, k2, z1⟩ := z1.inv_cons
      cases z1.inv_nil
      exact ⟨x1, x2, rfl, q _ H1 ι1 st1.set.set ((r1.setVal k1).setVal (k2.mono le_set))⟩
end
section
variable {X : Cx} {ρ : List SV} {m : Type → Type} [Monad m] [Eff m] {S L : Type} {st : Stmt}
/-- an end that only falls through -/
def outS (o : Out S Empty) : m S := match o with
  | .nx s => pure s
  | .rt _ => Eff.lift none
  | .bk l => l.elim
  | .ct l => l.elim
theorem es_outS {c : m (Out S Empty)} {emb : S → List SV} {eL : Empty → List SV} (h : Es X ρ st c (oit emb eL)) : Es X ρ st (c >>= outS) fun s => .nx (emb s) :=
  PS.imp h fun D σ H q => by
    obtain ⟨G, ι, μ, o, μ', rs, hr, q⟩ := q
    obtain ⟨u, μ1, h1, h2⟩ := inv_bind hr
    refine ⟨G, ι, μ, u, μ1, rs, h1, ?_⟩
    cases u with
    | nx s =>
      obtain ⟨rfl, hm⟩ := inv_pure h2
      subst hm
      exact q
    | rt v => obtain ⟨e, _⟩ := inv_lift h2; cases e
    | bk l => exact l.elim
    | ct l => exact l.elim
end
/-! ### isinstance's tables -/
section
variable {K : PySem.W.Frag}
theorem isi_tuple : ∀ t, t ∈ ["NoneType", "bool", "int", "str", "tuple", "list"] → PySem.W.kitOne K (.type t) (.type "tuple") = some (t == "tuple" || (t == "bool" && "tuple" == "int")) := by
  intro t h
  simp only [List.mem_cons, List.not_mem_nil, or_false] at h
  rcases h with rfl | rfl | rfl | rfl | rfl | rfl <;> exact kit_ty (by decide +kernel)
theorem isi_list : ∀ t, t ∈ ["NoneType", "bool", "int", "str", "tuple", "list"] → PySem.W.kitOne K (.type t) (.type "list") = some (t == "list" || (t == "bool" && "list" == "int")) := by
  intro t h
  simp only [List.mem_cons, List.not_mem_nil, or_false] at h
  rcases h with rfl | rfl | rfl | rfl | rfl | rfl <;> exact kit_ty (by decide +kernel)
theorem isi_bool : ∀ t, t ∈ ["NoneType", "bool", "int", "str", "tuple", "list"] → PySem.W.kitOne K (.type t) (.type "bool") = some (t == "bool" || (t == "bool" && "bool" == "int")) := by
  intro t h
  simp only [List.mem_cons, List.not_mem_nil, or_false] at h
  rcases h with rfl | rfl | rfl | rfl | rfl | rfl <;> exact kit_ty (by decide +kernel)
theorem isi_int : ∀ t, t ∈ ["NoneType", "bool", "int", "str", "tuple", "list"] → PySem.W.kitOne K (.type t) (.type "int") = some (t == "int" || (t == "bool" && "int" == "int")) := by
  intro t h
  simp only [List.mem_cons, List.not_mem_nil, or_false] at h
  rcases h with rfl | rfl | rfl | rfl | rfl | rfl <;> exact kit_ty (by decide +kernel)
theorem isi_str : ∀ t, t ∈ ["NoneType", "bool", "int", "str", "tuple", "list"] → PySem.W.kitOne K (.type t) (.type "str") = some (t == "str" || (t == "bool" && "str" == "int")) := by
  intro t h
  simp only [List.mem_cons, List.not_mem_nil, or_false] at h
  rcases h with rfl | rfl | rfl | rfl | rfl | rfl <;> exact kit_ty (by decide +kernel)
end
end Q
/-! LB: more that is walked; lists of ranges. -/
namespace Q
open PySem PySem.Spec PyProof.Rows L2

section
variable {X : Cx} {ρ : List SV} {m : Type → Type} [Monad m] [Eff m] {e tg a b c : Expr} {es : List Expr} {pos p p2 tpos : Pos} {kk : Nat}
def pRevd : Pv → Option (List Pv)
  | .tup l => some l.reverse
  | .lst l => some l.reverse
  | _ => none
theorem rev_at {α : Type} {l : List α} {i : Nat} {v : α} (h : l.reverse[i]? = some v) : i < l.length ∧ l[l.length - 1 - i]? = some v := by
  have hi : i < l.length := by
    have := (List.getElem?_eq_some_iff.mp h).1
    simpa using this
  refine ⟨hi, ?_⟩
  rw [List.getElem?_reverse hi] at h
  exact h
theorem ei_rev {cc : m Pv} (hm : X.mg "reversed" = none) (h : Ev X ρ e cc) (hg : Gl X "reversed" := by rfl) (hs : starEach [e] X.env = (false, eval e X.env) :: starEach [] X.env := by rfl) : Ei X ρ tg (.Call (.Name "reversed" p) [e] [] pos) (b1 pRevd cc) :=
  PI.imp (RT.pi_revA hg hm h hs) fun σ H R q => by
    obtain ⟨G, ι, μ, l, μ', rs, hr, q⟩ := q
    obtain ⟨v, μ1, h1, h2⟩ := inv_bind hr
    obtain ⟨h5, rfl⟩ := inv_lift h2
    refine ⟨G, ι, μ, v, _, rs, h1, fun x H1 ι1 st1 z1 => ?_⟩
    unfold pRevd at h5
    split at h5
    · cases h5
      have r0 := z1.2
      obtain ⟨a, vs, rfl, k1, k2⟩ := z1.2.tupE
      refine ⟨a, vs, rfl, .inr ⟨k1, q _ H1 ι1 st1 z1.1 fun W hW ht => ?_⟩⟩
      have r1 := r0.mono hW
      obtain ⟨a', vs', e, k1', k2'⟩ := r1.tupE
      cases e
      rw [hW.k] at k1'
      have hl : vs'.length = vs.length := by rw [← k2.length, ← k2'.length]
      refine ⟨fun i hi => ?_, fun i v hv => ?_⟩
      · rw [List.length_reverse, k2.length] at hi; exact hi
      · obtain ⟨hi, hv⟩ := rev_at hv
        obtain ⟨x, hx, rx⟩ := k2'.get hv
        rw [k2.length] at hx hi
        refine ⟨⟨hi, vs', x, k1', hx⟩, fun y H' hy => ?_⟩
        obtain ⟨rfl, hy⟩ := hy
        have := hy vs' k1'
        rw [hx] at this; cases this
        exact ⟨Same.refl _, rx⟩
    · cases h5
      have r0 := z1.2
      obtain ⟨a, vs, rfl, k1, k2⟩ := z1.2.lstE
      refine ⟨a, vs, rfl, .inl ⟨.of k1, q _ H1 ι1 st1 z1.1 fun W hW ht => ?_⟩⟩
      have r1 := r0.mono hW
      obtain ⟨a', vs', e, k1', k2'⟩ := r1.lstE
      cases e
      refine ⟨fun i hi => ?_, fun i v hv => ?_⟩
      · rw [List.length_reverse, k2.length] at hi; exact hi
      · obtain ⟨hi, hv⟩ := rev_at hv
        obtain ⟨x, hx, rx⟩ := k2'.get hv
        rw [k2.length] at hx hi
        refine ⟨⟨hi, vs', x, .of k1', hx⟩, fun y H' hy => ?_⟩
        obtain ⟨rfl, hy⟩ := hy
        have := hy vs' (.of k1')
        rw [hx] at this; cases this
        exact ⟨Same.refl _, rx⟩
    · cases h5
/-- a new tuple that an iterator yields -/
theorem yld_tup {W : Wd} {T : Addr} {xs : List V} {l : List Pv} (ht : ∀ a, W.B a → ∃ o, W.H a = some o) (hT : W.H T = none) (h : Rls W l xs) : Same W.H (upd W.H T (.tup xs)) ∧ Rl { W with H := upd W.H T (.tup xs) } (.tup l) (.ref T) := by
  refine ⟨same_upd hT, ?_⟩
  unfold Rl
  have le : Le W { W with H := upd W.H T (.tup xs) } := ⟨rfl, fun _ _ h => h, fun a o h k => ⟨by show upd W.H T _ a = _; rw [upd_ne (ne_of_none h hT)]; exact h, k⟩⟩
  refine ⟨T, xs, rfl, ⟨upd_same, fun z => ?_⟩, h.mono le⟩
  obtain ⟨o, e⟩ := ht T z
  rw [hT] at e; cases e
def zipP : List Pv → List Pv → List Pv
  | x :: xs, y :: ys => .tup [x, y] :: zipP xs ys
  | _, _ => []
theorem zipP_at : ∀ {l k : List Pv} {i : Nat} {v : Pv}, (zipP l k)[i]? = some v → ∃ x y, l[i]? = some x ∧ k[i]? = some y ∧ v = .tup [x, y]
  | [], _, i, v, h => by simp [zipP] at h
  | _ :: _, [], i, v, h => by simp [zipP] at h
  | x :: l, y :: k, 0, v, h => by simp [zipP] at h; exact ⟨x, y, rfl, rfl, h.symm⟩
  | x :: l, y :: k, i + 1, v, h => by
    have h : (zipP l k)[i]? = some v := by simpa [zipP] using h
    obtain ⟨x', y', h1, h2, h3⟩ := zipP_at h
    exact ⟨x', y', by simpa using h1, by simpa using h2, h3⟩
theorem zipP_len : ∀ {l k : List Pv}, (zipP l k).length = min l.length k.length
  | [], _ => by simp [zipP]
  | _ :: _, [] => by simp [zipP]
  | x :: l, y :: k => by simp only [zipP, List.length_cons, zipP_len (l := l) (k := k)]; omega
def pZip : List Pv → Option (List Pv)
  | [.lst a, .lst b] => some (zipP a b)
  | [.tup a, .tup b] => some (zipP a b)
  | _ => none
theorem ei_zip {elts : List Expr} {cs : m (List Pv)} (hm : X.mg "zip" = none) (ha : Ea X ρ [a, b] cs) (hg : Gl X "zip" := by rfl) (hs : starEach [a, b] X.env = (false, eval a X.env) :: starEach [b] X.env := by rfl) (hpl : (backTo pos (starEach [b] X.env)).any (·.1) = false := by rfl) :
    Ei X ρ (.Tuple elts kk tpos) (.Call (.Name "zip" p) [a, b] [] pos) (bL pZip cs) :=
  PI.imp (RZ.pi_zipA hg hm ha hs hpl) fun σ H R q => by
    obtain ⟨G, ι, μ, l, μ', rs, hr, q⟩ := q
    obtain ⟨vs, μ1, h1, h2⟩ := inv_bind hr
    obtain ⟨h5, rfl⟩ := inv_lift h2
    refine ⟨G, ι, μ, vs, _, rs, h1, fun xs H1 ι1 st1 r1 z1 => ?_⟩
    have z1 : Rls (wd X.K G ι1 ρ σ H1) vs xs := z1
    unfold pZip at h5
    split at h5
    · cases h5
      obtain ⟨x1, r, rfl, q1, z1⟩ := z1.inv_cons
      obtain ⟨x2, r, rfl, q2, z1⟩ := z1.inv_cons
      cases z1.inv_nil
      obtain ⟨A, us, rfl, k1, k2⟩ := q1.lstE
      obtain ⟨B, ws, rfl, k3, k4⟩ := q2.lstE
      refine ⟨A, B, us, ws, rfl, .inl ⟨.of k1, .of k3, q _ H1 ι1 st1 r1 fun W hW ht => ?_⟩⟩
      obtain ⟨_, us', e, k1', k2'⟩ := (q1.mono hW).lstE
      cases e
      obtain ⟨_, ws', e, k3', k4'⟩ := (q2.mono hW).lstE
      cases e
      refine ⟨fun i hi => ⟨us', ws', .of k1', .of k3', by rw [← k2'.length, ← k4'.length]; rw [zipP_len] at hi; omega⟩, fun i v hv => ?_⟩
      obtain ⟨x, y, hx, hy, rfl⟩ := zipP_at hv
      obtain ⟨xv, gx, rx⟩ := k2'.get hx
      obtain ⟨yv, gy, ry⟩ := k4'.get hy
      refine ⟨⟨us', ws', xv, yv, .of k1', .of k3', gx, gy⟩, fun z H' hz => ?_⟩
      obtain ⟨T, x', y', rfl, hT, rfl, f1, f2⟩ := hz
      have e1 := f1 _ (.of k1'); rw [gx] at e1; cases e1
      have e2 := f2 _ (.of k3'); rw [gy] at e2; cases e2
      exact yld_tup ht hT (.cons rx (.cons ry .nil))
    · cases h5
      obtain ⟨x1, r, rfl, q1, z1⟩ := z1.inv_cons
      obtain ⟨x2, r, rfl, q2, z1⟩ := z1.inv_cons
      cases z1.inv_nil
      obtain ⟨A, us, rfl, k1, k2⟩ := q1.tupE
      obtain ⟨B, ws, rfl, k3, k4⟩ := q2.tupE
      refine ⟨A, B, us, ws, rfl, .inr ⟨k1, k3, q _ H1 ι1 st1 r1 fun W hW ht => ?_⟩⟩
      obtain ⟨_, us', e, k1', k2'⟩ := (q1.mono hW).tupE
      cases e
      obtain ⟨_, ws', e, k3', k4'⟩ := (q2.mono hW).tupE
      cases e
      rw [hW.k] at k1' k3'
      refine ⟨fun i hi => ⟨us', ws', k1', k3', by rw [← k2'.length, ← k4'.length]; rw [zipP_len] at hi; omega⟩, fun i v hv => ?_⟩
      obtain ⟨x, y, hx, hy, rfl⟩ := zipP_at hv
      obtain ⟨xv, gx, rx⟩ := k2'.get hx
      obtain ⟨yv, gy, ry⟩ := k4'.get hy
      refine ⟨⟨us', ws', xv, yv, k1', k3', gx, gy⟩, fun z H' hz => ?_⟩
      obtain ⟨T, x', y', rfl, hT, rfl, f1, f2⟩ := hz
      have e1 := f1 _ k1'; rw [gx] at e1; cases e1
      have e2 := f2 _ k3'; rw [gy] at e2; cases e2
      exact yld_tup ht hT (.cons rx (.cons ry .nil))
    · cases h5
def enumP (l : List Pv) : List Pv := (List.range l.length).zipWith (fun i x => .tup [.int (i : Nat), x]) l
theorem enumP_at {l : List Pv} {i : Nat} {v : Pv} (h : (enumP l)[i]? = some v) : ∃ x, l[i]? = some x ∧ v = .tup [.int (i : Nat), x] := by
  unfold enumP at h
  rw [List.getElem?_zipWith] at h
  cases e : l[i]? with
  | none => rw [e] at h; cases q : (List.range l.length)[i]? <;> rw [q] at h <;> cases h
  | some x =>
    have hi := (List.getElem?_eq_some_iff.mp e).1
    rw [e, List.getElem?_range hi] at h
    cases h
    exact ⟨x, rfl, rfl⟩
def pEnum : Pv → Option (List Pv)
  | .lst l => some (enumP l)
  | _ => none
theorem ei_enum {elts : List Expr} {cc : m Pv} (hm : X.mg "enumerate" = none) (h : Ev X ρ e cc) (hg : Gl X "enumerate" := by rfl) (hs : starEach [e] X.env = [(false, eval e X.env)] := by rfl) (hs2 : starEach [e] X.env = (false, eval e X.env) :: starEach [] X.env := by rfl) :
    Ei X ρ (.Tuple elts kk tpos) (.Call (.Name "enumerate" p) [e] [] pos) (b1 pEnum cc) :=
  PI.imp (pi_enum hg hm (ea_cons h ea_nil hs2) hs) fun σ H R q => by
    obtain ⟨G, ι, μ, l, μ', rs, hr, q⟩ := q
    obtain ⟨v, μ1, h1, h2⟩ := inv_bind hr
    obtain ⟨h5, rfl⟩ := inv_lift h2
    refine ⟨G, ι, μ, [v], μ', rs, ?_, fun xs H1 ι1 st1 r1 z1 => ?_⟩
    · unfold consM
      rw [Eff.run_bind, h1, Option.bind_some, Eff.run_bind, Eff.run_pure, Option.bind_some, Eff.run_pure]
    · have z1 : Rls (wd X.K G ι1 ρ σ H1) [v] xs := z1
      obtain ⟨x1, r, rfl, q1, z1⟩ := z1.inv_cons
      cases z1.inv_nil
      unfold pEnum at h5
      split at h5
      · cases h5
        obtain ⟨A, us, rfl, k1, k2⟩ := q1.lstE
        refine ⟨A, us, rfl, .of k1, q _ H1 ι1 st1 r1 fun W hW ht => ?_⟩
        obtain ⟨_, us', e, k1', k2'⟩ := (q1.mono hW).lstE
        cases e
        refine ⟨fun i hi => ⟨us', .of k1', ?_⟩, fun i v hv => ?_⟩
        · unfold enumP at hi
          rw [List.length_zipWith, List.length_range, Nat.min_self] at hi
          rw [← k2'.length]; exact hi
        · obtain ⟨x, hx, rfl⟩ := enumP_at hv
          obtain ⟨xv, gx, rx⟩ := k2'.get hx
          refine ⟨⟨us', xv, .of k1', gx⟩, fun z H' hz => ?_⟩
          obtain ⟨T, x', rfl, hT, rfl, f1⟩ := hz
          have e1 := f1 _ (.of k1'); rw [gx] at e1; cases e1
          exact yld_tup ht hT (.cons .int (.cons rx .nil))
      · cases h5
/-- range(i, j, -1) -/
def rangeD (i j : Int) : List Pv := (List.range (i - j).toNat).map fun k => .int (i + ((k : Nat) : Int) * (-1))
theorem jok_rangeD {i j : Int} {W0 : Wd} : JOk (Itc i (-1) (i - j).toNat) (rangeD i j) W0 := fun W hW ht => by
  unfold rangeD
  refine ⟨fun n hn => by rw [List.length_map, List.length_range] at hn; exact hn, fun n v hv => ?_⟩
  rw [List.getElem?_map] at hv
  cases e : (List.range (i - j).toNat)[n]? with
  | none => rw [e] at hv; cases hv
  | some k =>
    rw [e] at hv; cases hv
    obtain ⟨h1, h2⟩ := List.getElem?_eq_some_iff.mp e
    rw [List.getElem_range] at h2
    subst h2
    rw [List.length_range] at h1
    refine ⟨h1, fun x H' hy => ?_⟩
    obtain ⟨rfl, rfl⟩ := hy
    exact ⟨Same.refl _, .int⟩
def pRange3 : List Pv → Option (List Pv)
  | [.int i, .int j, .int (-1)] => if inR i = true ∧ inR j = true then some (rangeD i j) else none
  | _ => none
theorem ei_range3 {cs : m (List Pv)} (hm : X.mg "range" = none) (ha : Ea X ρ [a, b, c] cs) (hg : Gl X "range" := by rfl) (hs : starEach [a, b, c] X.env = (false, eval a X.env) :: starEach [b, c] X.env := by rfl)
    (hpl : (backTo pos (starEach [b, c] X.env)).any (·.1) = false := by rfl) : Ei X ρ tg (.Call (.Name "range" p) [a, b, c] [] pos) (bL pRange3 cs) :=
  PI.imp (pi_range3 hg hm ha hs hpl) fun σ H R q => by
    obtain ⟨G, ι, μ, l, μ', rs, hr, q⟩ := q
    obtain ⟨vs, μ1, h1, h2⟩ := inv_bind hr
    obtain ⟨h5, rfl⟩ := inv_lift h2
    refine ⟨G, ι, μ, vs, _, rs, h1, fun xs H1 ι1 st1 r1 z1 => ?_⟩
    have z1 : Rls (wd X.K G ι1 ρ σ H1) vs xs := z1
    unfold pRange3 at h5
    split at h5
    · split at h5
      · rename_i hij
        have hi := inR_iff.mp hij.1
        have hj := inR_iff.mp hij.2
        cases h5
        obtain ⟨x1, r, rfl, q1, z1⟩ := z1.inv_cons
        obtain ⟨x2, r, rfl, q2, z1⟩ := z1.inv_cons
        obtain ⟨x3, r, rfl, q3, z1⟩ := z1.inv_cons
        cases z1.inv_nil
        exact ⟨_, _, -1, _, by rw [q1.intE, q2.intE, q3.intE], RgC.neg (by omega) (by omega) (by omega) (by omega), q _ H1 ι1 st1 r1 jok_rangeD⟩
      · cases h5
    · cases h5
/-! ### list(range(..)), tuple(range(..)) -/
theorem rls_rg {W : Wd} (i j : Int) : Rls W (rangeP i j) (rgV i j) := by
  unfold rangeP rgV
  generalize List.range (j - i).toNat = l
  induction l with
  | nil => exact Rls.nil
  | cons n l ih => exact .cons .int ih
def inS (j : Int) : Bool := Nat.ble j.natAbs 1000000
theorem inS_iff {j : Int} : inS j = true ↔ -1000000 ≤ j ∧ j ≤ 1000000 := by
  unfold inS
  rw [Nat.ble_eq]
  omega
def pRg1 : Pv → Option (List Pv)
  | .int j => if inS j = true then some (rangeP 0 j) else none
  | _ => none
def pRg2 : Pv → Pv → Option (List Pv)
  | .int i, .int j => if inS i = true ∧ inS j = true then some (rangeP i j) else none
  | _, _ => none
def pRgT1 (v : Pv) : Option Pv := (pRg1 v).map .tup
def pRgT2 (u v : Pv) : Option Pv := (pRg2 u v).map .tup
theorem en_listRg1 {cc : m Pv} (hl : X.mg "list" = none) (hm : X.mg "range" = none) (ha : Ek X ρ a cc) (hc : X.calm = true := by rfl) (hg : Gl X "list" := by rfl) (hg2 : Gl X "range" := by rfl)
    (na : starEach [a] X.env = (false, eval a X.env) :: starEach [] X.env := by rfl) (na2 : starEach [.Call (.Name "range" p2) [a] [] tpos] X.env = (false, eval (.Call (.Name "range" p2) [a] [] tpos) X.env) :: starEach [] X.env := by rfl) :
    En X ρ (.Call (.Name "list" p) [.Call (.Name "range" p2) [a] [] tpos] [] pos) (b1 pRg1 cc) :=
  PE.imp (pe_listRg hc hg hl (prg_1 hg2 hm ha na) na2) fun σ H Q q => by
    obtain ⟨G, ι, μ, o, μ', rs, hr, q⟩ := q
    obtain ⟨v, μ1, h1, h2⟩ := inv_bind hr
    obtain ⟨h5, rfl⟩ := inv_lift h2
    refine ⟨G, ι, μ, v, _, rs, h1, fun x H1 ι1 st1 z1 => ?_⟩
    unfold pRg1 at h5
    split at h5
    · split at h5
      · rename_i hA
        simp only [inS_iff] at hA
        cases h5
        exact ⟨_, z1.2.intE, ⟨by omega, by omega, by omega, by omega, by omega⟩, fun q' hq => q _ _ ι1 (st1.trans (Step.same (same_upd hq) fun _ h => h)) (Back.back rs z1.1 st1 (z1.1.newLst hq (rls_rg _ _)))⟩
      · cases h5
    · cases h5
theorem en_listRg2 {ca cb : m Pv} (hl : X.mg "list" = none) (hm : X.mg "range" = none) (ha : Ek X ρ a ca) (hb : Ek X ρ b cb) (hc : X.calm = true := by rfl) (hg : Gl X "list" := by rfl) (hg2 : Gl X "range" := by rfl)
    (na : starEach [a, b] X.env = (false, eval a X.env) :: starEach [b] X.env := by rfl) (nb : starEach [b] X.env = (false, eval b X.env) :: starEach [] X.env := by rfl) (hp : (backTo tpos (starEach [b] X.env)).any (·.1) = false := by rfl)
    (na2 : starEach [.Call (.Name "range" p2) [a, b] [] tpos] X.env = (false, eval (.Call (.Name "range" p2) [a, b] [] tpos) X.env) :: starEach [] X.env := by rfl) :
    En X ρ (.Call (.Name "list" p) [.Call (.Name "range" p2) [a, b] [] tpos] [] pos) (b2 pRg2 ca cb) :=
  PE.imp (pe_listRg hc hg hl (prg_2 hg2 hm ha hb na nb hp) na2) fun σ H Q q => by
    obtain ⟨G, ι, μ, o, μ', rs, hr, q⟩ := q
    obtain ⟨v, μ1, h1, hr⟩ := inv_bind hr
    obtain ⟨u, μ2, h2, hr⟩ := inv_bind hr
    obtain ⟨h5, rfl⟩ := inv_lift hr
    refine ⟨G, ι, μ, v, _, rs, h1, fun x H1 ι1 st1 z1 => ⟨G, ι1, μ1, u, _, z1.1, h2, fun y H2 ι2 st2 z2 => ?_⟩⟩
    unfold pRg2 at h5
    split at h5
    · split at h5
      · rename_i hA
        simp only [inS_iff] at hA
        cases h5
        exact ⟨_, _, (z1.2.mono st2.le).intE, z2.2.intE, ⟨by omega, by omega, by omega, by omega, by omega⟩, fun q' hq => q _ _ ι2 ((st1.trans st2).trans (Step.same (same_upd hq) fun _ h => h)) (Back.back rs z2.1 (st1.trans st2) (z2.1.newLst hq (rls_rg _ _)))⟩
      · cases h5
    · cases h5
theorem ev_tupRg1 {cc : m Pv} (hl : X.mg "tuple" = none) (hm : X.mg "range" = none) (ha : Ek X ρ a cc) (hc : X.calm = true := by rfl) (hg : Gl X "tuple" := by rfl) (hg2 : Gl X "range" := by rfl)
    (na : starEach [a] X.env = (false, eval a X.env) :: starEach [] X.env := by rfl) (na2 : starEach [.Call (.Name "range" p2) [a] [] tpos] X.env = (false, eval (.Call (.Name "range" p2) [a] [] tpos) X.env) :: starEach [] X.env := by rfl) :
    Ev X ρ (.Call (.Name "tuple" p) [.Call (.Name "range" p2) [a] [] tpos] [] pos) (b1 pRgT1 cc) :=
  PE.imp (pe_tupRg hc hg hl (prg_1 hg2 hm ha na) na2) fun σ H Q q => by
    obtain ⟨G, ι, μ, o, μ', rs, hr, q⟩ := q
    obtain ⟨v, μ1, h1, h2⟩ := inv_bind hr
    obtain ⟨h5, rfl⟩ := inv_lift h2
    refine ⟨G, ι, μ, v, _, rs, h1, fun x H1 ι1 st1 z1 => ?_⟩
    have h5 : (pRg1 v).map .tup = some o := h5
    cases e6 : pRg1 v with
    | none => rw [e6] at h5; cases h5
    | some l =>
      rw [e6] at h5; cases h5
      unfold pRg1 at e6
      split at e6
      · split at e6
        · rename_i hA
          simp only [inS_iff] at hA
          cases e6
          exact ⟨_, z1.2.intE, ⟨by omega, by omega, by omega, by omega, by omega⟩, fun q' hq => q _ _ ι1 (st1.trans (Step.same (same_upd hq) fun _ h => h)) ⟨z1.1.same (same_upd hq), z1.1.newTup hq (rls_rg _ _)⟩⟩
        · cases e6
      · cases e6
theorem ev_tupRg2 {ca cb : m Pv} (hl : X.mg "tuple" = none) (hm : X.mg "range" = none) (ha : Ek X ρ a ca) (hb : Ek X ρ b cb) (hc : X.calm = true := by rfl) (hg : Gl X "tuple" := by rfl) (hg2 : Gl X "range" := by rfl)
    (na : starEach [a, b] X.env = (false, eval a X.env) :: starEach [b] X.env := by rfl) (nb : starEach [b] X.env = (false, eval b X.env) :: starEach [] X.env := by rfl) (hp : (backTo tpos (starEach [b] X.env)).any (·.1) = false := by rfl)
    (na2 : starEach [.Call (.Name "range" p2) [a, b] [] tpos] X.env = (false, eval (.Call (.Name "range" p2) [a, b] [] tpos) X.env) :: starEach [] X.env := by rfl) :
    Ev X ρ (.Call (.Name "tuple" p) [.Call (.Name "range" p2) [a, b] [] tpos] [] pos) (b2 pRgT2 ca cb) :=
  PE.imp (pe_tupRg hc hg hl (prg_2 hg2 hm ha hb na nb hp) na2) fun σ H Q q => by
    obtain ⟨G, ι, μ, o, μ', rs, hr, q⟩ := q
    obtain ⟨v, μ1, h1, hr⟩ := inv_bind hr
    obtain ⟨u, μ2, h2, hr⟩ := inv_bind hr
    obtain ⟨h5, rfl⟩ := inv_lift hr
    refine ⟨G, ι, μ, v, _, rs, h1, fun x H1 ι1 st1 z1 => ⟨G, ι1, μ1, u, _, z1.1, h2, fun y H2 ι2 st2 z2 => ?_⟩⟩
    have h5 : (pRg2 v u).map .tup = some o := h5
    cases e6 : pRg2 v u with
    | none => rw [e6] at h5; cases h5
    | some l =>
      rw [e6] at h5; cases h5
      unfold pRg2 at e6
      split at e6
      · split at e6
        · rename_i hA
          simp only [inS_iff] at hA
          cases e6
          exact ⟨_, _, (z1.2.mono st2.le).intE, z2.2.intE, ⟨by omega, by omega, by omega, by omega, by omega⟩, fun q' hq => q _ _ ι2 ((st1.trans st2).trans (Step.same (same_upd hq) fun _ h => h)) ⟨z2.1.same (same_upd hq), z2.1.newTup hq (rls_rg _ _)⟩⟩
        · cases e6
      · cases e6
end
end Q
/-! LC: the order of data; sorted, min, max. -/
namespace Q
open PySem PySem.Spec PyProof.Rows L2
open PySem.W (alike alikeAll dataLt dataLe minD maxD AlikeAll AllAlike EachIs)
/-! ### < > of data -/
def notNon : Pv → Bool
  | .non => false
  | _ => true
def ordOk (u v : Pv) : Bool := alike (toD u) (toD v) && (okE u && okE v) && notNon u
def pCmpD (f : Int → Int → Bool) (g : PyData → PyData → Bool) : Pv → Pv → Option Pv
  | .int i, .int j => some (.bl (f i j))
  | u, v => if ordOk u v then some (.bl (g (toD u) (toD v))) else none
def gLt (x y : PyData) : Bool := dataLt x y
def gGt (x y : PyData) : Bool := dataLt y x
def gLe (x y : PyData) : Bool := !dataLt y x
def gGe (x y : PyData) : Bool := !dataLt x y
theorem notNon_D {v : Pv} (h : notNon v = true) (h2 : okE v = true) : toD v ≠ .none := by
  cases v <;> simp [notNon, toD, okE, okN] at h h2 ⊢
section
variable {X : Cx} {cop : CmpOp} {f : Int → Int → Bool} {g : PyData → PyData → Bool}
theorem oc_of (hu : X.A.units + 64 < cLine) (hi : OpR X (compareOp cop) (rB X.K (pCmp f)))
    (hd : ∀ (s : Shared) (da db : PyData) (a b : Value) (as bs : List Addr) (E Q : Value → Shared → Prop), Reads s.heap a da as → Reads s.heap b db bs → alike da db = true → da ≠ .none → X.A.units + min da.depth db.depth < cLine → Q (.bool (g da db)) s → wpAny (model X.prog X.w) X.A (compareOp cop a b) Q E s) :
    OpR X (compareOp cop) (rB X.K (pCmpD f g)) := by
  intro pins s σ H x y v u Q I rx ry h
  obtain ⟨G, ι, μ, ρ, σ', vx, vy, w, rs, r1, r2, e, k⟩ := h
  unfold pCmpD at e
  split at e
  · exact hi pins s σ H x y v u Q I rx ry ⟨G, ι, μ, ρ, σ', _, _, w, rs, r1, r2, e, k⟩
  · split at e
    · rename_i hb
      unfold ordOk at hb
      simp only [Bool.and_eq_true] at hb
      cases e
      obtain ⟨as, q1⟩ := Dp.reads I _ x v (r1.dp rs hb.1.2.1) rx
      obtain ⟨bs, q2⟩ := Dp.reads I _ y u (r2.dp rs hb.1.2.2) ry
      have d1 := (okN_dep 60 vx hb.1.2.1).2
      exact hd s _ _ v u as bs _ _ q1 q2 hb.1.1 (notNon_D hb.2 hb.1.2.1) (by omega) ⟨.bl _, H, I, rfl, k _ H (Same.refl H) .bl⟩
    · cases e
theorem oc_ltD (hu : X.A.units + 64 < cLine) : OpR X (compareOp .Lt) (rB X.K (pCmpD fLt gLt)) := oc_of hu oc_lt fun _ _ _ _ _ _ _ _ _ r1 r2 h1 h2 h3 q => PySem.W.lt_data r1 r2 h1 h2 h3 q
theorem oc_gtD (hu : X.A.units + 64 < cLine) : OpR X (compareOp .Gt) (rB X.K (pCmpD fGt gGt)) := oc_of hu oc_gt fun _ _ _ _ _ _ _ _ _ r1 r2 h1 h2 h3 q => PySem.W.gt_data r1 r2 h1 h2 h3 q
theorem oc_leD (hu : X.A.units + 64 < cLine) : OpR X (compareOp .LtE) (rB X.K (pCmpD fLe gLe)) := oc_of hu oc_le fun _ _ _ _ _ _ _ _ _ r1 r2 h1 h2 h3 q => PySem.W.le_data r1 r2 h1 h2 h3 q
theorem oc_geD (hu : X.A.units + 64 < cLine) : OpR X (compareOp .GtE) (rB X.K (pCmpD fGe gGe)) := oc_of hu oc_ge fun _ _ _ _ _ _ _ _ _ r1 r2 h1 h2 h3 q => PySem.W.ge_data r1 r2 h1 h2 h3 q
end

/-! ### sorted -/
def headed : Pv → Bool
  | .tup (_ :: _) => true
  | _ => false
def plain : Pv → Bool
  | .tup _ => false
  | .non => false
  | _ => true
def rowOk (l : List Pv) : Bool := decide (l.length ≤ LIM) && l.all okE && l.all fun u => l.all fun v => alike (toD u) (toD v)
def sortOk (l : List Pv) : Bool := rowOk l && (l.all headed || l.all plain)
def srt (b : Bool) (l : List Pv) : List Pv := l.mergeSort (dataLe b toD)
theorem rowOk_at {l : List Pv} (h : rowOk l = true) : l.length ≤ LIM ∧ (∀ u ∈ l, okE u = true) ∧ ∀ u ∈ l, ∀ v ∈ l, alike (toD u) (toD v) = true := by
  unfold rowOk at h
  simp only [Bool.and_eq_true, decide_eq_true_eq] at h
  exact ⟨h.1.1, List.all_eq_true.mp h.1.2, fun u hu v hv => List.all_eq_true.mp (List.all_eq_true.mp h.2 u hu) v hv⟩
theorem alike_rows {l : List Pv} (h : rowOk l = true) : AllAlike (l.map toD) := by
  intro d hd d' hd'
  obtain ⟨u, hu, rfl⟩ := List.mem_map.mp hd
  obtain ⟨v, hv, rfl⟩ := List.mem_map.mp hd'
  exact (rowOk_at h).2.2 u hu v hv
theorem sortable_rows {l : List Pv} (h : sortOk l = true) : PySem.W.Sortable (l.map toD) := by
  unfold sortOk at h
  rw [Bool.and_eq_true, Bool.or_eq_true] at h
  have ho := (rowOk_at h.1).2.1
  rcases h.2 with h | h
  · refine .inl fun d hd => ?_
    obtain ⟨u, hu, rfl⟩ := List.mem_map.mp hd
    have := List.all_eq_true.mp h u hu
    unfold headed at this
    split at this
    · exact ⟨_, _, by rw [toD_tup]; unfold toDs; rfl⟩
    · cases this
  · refine .inr fun d hd => ?_
    obtain ⟨u, hu, rfl⟩ := List.mem_map.mp hd
    have h1 := List.all_eq_true.mp h u hu
    have h2 := ho u hu
    cases u <;> simp [plain, toD, okE, okN] at h1 h2 ⊢
/-- the items' values -/
theorem each_of {X : Cx} {pins : List (Addr × Obj)} {σ : L2.St} {H : Hp} {s : Shared} {W : Wd} (I : Inv X pins σ H s) : ∀ {l : List Pv} {vs : List V} {us : List Value}, W.K = X.K → W.H = H → (∀ u ∈ l, okE u = true) → Rls W l vs → Vals vs us →
    EachIs (fun v u => ∃ x, RelV x v ∧ Rl W u x) us l ∧ EachIs (fun v u => ∃ as, Reads s.heap v (toD u) as) us l
  | [], vs, us, _, _, _, h, r => by
    rw [h.inv_nil] at r
    cases r
    exact ⟨.nil, .nil⟩
  | u :: l, vs, us, hK, hH, ho, h, r => by
    obtain ⟨x, xs, rfl, h1, h2⟩ := h.inv_cons
    cases r with
    | cons r1 r2 =>
      obtain ⟨k1, k2⟩ := each_of I hK hH (fun u hu => ho u (List.mem_cons_of_mem _ hu)) h2 r2
      have d := dp_of (W := W) 60 u x (ho u List.mem_cons_self) h1
      rw [hK, hH] at d
      exact ⟨.cons ⟨x, r1, h1⟩ k1, .cons (Dp.reads I _ x _ d r1) k2⟩
theorem rls_each {W : Wd} : ∀ {l : List Pv} {us : List Value}, EachIs (fun v u => ∃ x, RelV x v ∧ Rl W u x) us l → ∃ vs, Vals vs us ∧ Rls W l vs
  | _, _, .nil => ⟨[], .nil, .nil⟩
  | _, _, .cons ⟨x, h1, h2⟩ t => by
    obtain ⟨vs, k1, k2⟩ := rls_each t
    exact ⟨x :: vs, .cons h1 k1, .cons h2 k2⟩
def pSorted : List Pv → Option (List Pv)
  | [.lst l] => if sortOk l then some (srt false l) else none
  | [.tup l] => if sortOk l then some (srt false l) else none
  | _ => none
def pSortedR : List Pv → Option (List Pv)
  | [.lst l] => if sortOk l then some (srt true l) else none
  | [.tup l] => if sortOk l then some (srt true l) else none
  | _ => none
end Q
namespace Q
open PySem PySem.Spec PyProof.Rows L2 PySem.W
section
variable {prog : Program} {w : World} {A : Around} {E : Value → Shared → Prop} {s : Shared}
/-- the items of a tuple, gathered -/
theorem gather_tup {l : Addr} {vs : List Value} {R : List Value → Shared → Prop} (hl : s.heap.IsTuple l vs.toArray) (hz : vs.length ≤ sizeLine)
    (k : R vs { s with heap := (s.heap.push (seqObj "list" #[] 0)).update s.heap.objs.size (Obj.mapSeq (· ++ vs.toArray)) }) : wpAny (model prog w) A (collect (.ref l)) R E s := by
  obtain ⟨ob, hob, hcl, c, hda⟩ := id hl
  unfold collect
  refine wpAny_bind <| wpAny_runValue <| codeAny_builtin entry_proto_collect' ?_
  show wpAny (model prog w) _ (do again (.builtin "list.__iadd__" ⟨[← newList [], .ref l], []⟩)) _ _ s
  refine wpAny_bind <| wpAny_newList (wpAny_pure ⟨Code.quiet_builtin _ (by decide +kernel), codeAny_builtin entry_list_iadd' ?_⟩) (Nat.zero_le _)
  show wpAny (model prog w) _ (Builtin.List.listExtendWith (.ref s.heap.objs.size) (.ref l) (.ref s.heap.objs.size)) _ _ { s with heap := s.heap.push (seqObj "list" #[] 0) }
  unfold Builtin.List.listExtendWith
  have hob' : (s.heap.push (seqObj "list" #[] 0)).get? l = some ob := Heap.get?_push_of_some _ hob
  refine wpAny_bind <| wpAny_typeOf (T := "tuple") ⟨ob, hob', hcl⟩ ?_
  have t2 : (Value.type "tuple" == Value.type "tuple") = true := by rfl
  rw [if_pos (by rw [t2]; simp)]
  refine wpAny_bind <| listItems_at hob' hda ?_
  refine wpAny_bind <| listItems_at (xs := #[]) (n := 0) (Heap.get?_push_size _ rfl) rfl ?_
  rw [if_neg (by simp)]
  refine wpAny_bind <| listUpdate_at (xs := #[]) (n := 0) (Heap.get?_push_size _ rfl) rfl ?_ (Nat.zero_le _) (by show (#[] ++ vs.toArray).size ≤ sizeLine + 1; simp only [Array.size_append, List.size_toArray, List.length_nil]; omega)
  refine wpAny_pure ?_
  show wpAny (model prog w) A (do
      let ob ← load s.heap.objs.size
      match ob.data with
      | .seq xs _ => pure xs.toList
      | _ => unsupported "internal:collect") R E { s with heap := (s.heap.push (seqObj "list" #[] 0)).update s.heap.objs.size (Obj.mapSeq (· ++ vs.toArray)) }
  refine wpAny_bind <| wpAny_load (get?_update_seq (Heap.get?_push_size _ rfl) _) ?_
  have e : ((#[] : Array Value) ++ vs.toArray).toList = vs := by simp
  show wpAny (model prog w) A (pure ((#[] : Array Value) ++ vs.toArray).toList) R E _
  rw [e]
  exact wpAny_pure k
end
end Q
namespace Q
open PySem PySem.Spec PyProof.Rows L2 PySem.W PySem.Calls
section
variable {prog : Program} {w : World} {A : Around} {E : Value → Shared → Prop} {s : Shared}
theorem sorted_tup {l : Addr} {vs : List Value} {kw : List (Str × Value)} {R : Value → Shared → Prop} (hl : s.heap.IsTuple l vs.toArray) (hz : vs.length ≤ sizeLine) (k1 : argsOk "sorted" ⟨[.ref l], kw⟩) (k2 : ∀ x, argsOk "list.sort" ⟨[.ref x], kw⟩)
    (hb : ∀ E' : Value → Shared → Prop, wpAny (model prog w) A.in1.in1 (Builtin.«list.sort» ⟨[.ref (s.heap.objs.size + 1)], kw⟩) (fun f s' => f = .done (.ret .none) ∧ R (.ref (s.heap.objs.size + 1)) s') E' { s with heap := copyHeap s.heap vs }) :
    wpAny (model prog w) A (call (.builtin "sorted") [.ref l] kw) R E s := by
  refine call_function_entry_kw kind_sorted plain_sorted entry_sorted k1 ?_
  unfold Builtin.«sorted»
  refine wpAny_bind (m := checkCount "sorted" 1 1 _) <| wpAny_pure ?_
  refine wpAny_bind <| gather_tup hl hz ?_
  refine wpAny_bind <| wpAny_newList ?_ hz
  have e : ((s.heap.push (seqObj "list" #[] 0)).update s.heap.objs.size (Obj.mapSeq (· ++ vs.toArray))).objs.size = s.heap.objs.size + 1 := (Heap.size_update ..).trans (size_push' ..)
  show wpAny (model prog w) _ _ _ _ { s with heap := copyHeap s.heap vs }
  rw [e]
  refine wpAny_bind <| wpAny_holding <| wpAny_call_entry_kw slot_list_sort ⟨_, copyHeap_at s.heap vs, rfl⟩ entry_list_sort ?go (k2 _)
  case go =>
    show wpAny (model prog w) A.in1.in1 (Builtin.«list.sort» ⟨[Value.ref (s.heap.objs.size + 1)], kw⟩) _ _ _
    exact wpAny_mono (hb _) (fun f s' ⟨z, hq⟩ => by subst z; exact ⟨_, rfl, wpAny_pure ⟨_, rfl, hq⟩⟩) fun _ _ e => e
end
section
variable {X : Cx}
theorem sorts_at {pins : List (Addr × Obj)} {σ : L2.St} {H : Hp} {s : Shared} {W : Wd} (I : Inv X pins σ H s) {l : List Pv} {vs : List V} {us : List Value} (hu : X.A.units + 64 < cLine) (hK : W.K = X.K) (hH : W.H = H) (ho : sortOk l = true) (h : Rls W l vs) (r : Vals vs us) (b : Bool) :
    us.length = l.length ∧ SortsAt X.prog X.w X.A.in1.in1 { s with heap := sortingHeap (copyHeap s.heap us) (s.heap.objs.size + 1) us } (dataKind (sortingHeap (copyHeap s.heap us) (s.heap.objs.size + 1) us) (l.map toD)) us ∧
      ∃ out xs, sortVals (dataKind (sortingHeap (copyHeap s.heap us) (s.heap.objs.size + 1) us) (l.map toD)) b us us = out ∧ out.length = l.length ∧ Vals xs out ∧ Rls W (srt b l) xs := by
  have hr : rowOk l = true := by unfold sortOk at ho; rw [Bool.and_eq_true] at ho; exact ho.1
  obtain ⟨k1, k2⟩ := each_of I hK hH (rowOk_at hr).2.1 h r
  have k3 : EachIs (fun v u => ∃ as, Reads (sortingHeap (copyHeap s.heap us) (s.heap.objs.size + 1) us) v (toD u) as) us l := k2.mono fun _ _ ⟨as, r⟩ => ⟨as, PyProof.Rows.Reads.keeps (fun _ _ => sorting_copy_old) r⟩
  refine ⟨k1.length, SortsAt.data (s := { s with heap := sortingHeap (copyHeap s.heap us) (s.heap.objs.size + 1) us }) (each_map (R := fun v d => ∃ as, Reads (sortingHeap (copyHeap s.heap us) (s.heap.objs.size + 1) us) v d as) toD k3) (alike_rows hr) (sortable_rows ho) (fun d hd => ?_), ?_⟩
  · obtain ⟨u, hu', rfl⟩ := List.mem_map.mp hd
    have := (okN_dep 60 u ((rowOk_at hr).2.1 u hu')).2
    show X.A.units + 1 + 1 + _ < _
    omega
  · have q := sortVals_data b k1 k3 (alike_rows hr)
    obtain ⟨xs, q1, q2⟩ := rls_each q
    exact ⟨_, xs, rfl, (sortVals_length b rfl).trans k1.length, q1, q2⟩
theorem cr_sorted (hu : X.A.units + 64 < cLine) : CallR X (.builtin "sorted") (rC X.K pSorted (RNx X)) := by
  intro pins s σ H vs us Q I r h
  obtain ⟨G, ι, μ, ρ, σ', ps, v, rs, rx, e, k⟩ := h
  unfold pSorted at e
  have fine : ∀ (l : List Pv) (xs : List V) (its : List Value), sortOk l = true → Rls (wd X.K G ι ρ σ' H) l xs → Vals xs its → v = srt false l → ∀ out ys, out.length = l.length → Vals ys out → Rls (wd X.K G ι ρ σ' H) (srt false l) ys →
      EP X pins σ Q (.ref (s.heap.objs.size + 1)) { s with heap := PyProof.Rows.sortedAll s.heap its out.toArray } := by
    intro l xs its ho h1 h2 hv out ys hlen hvals hrls
    obtain ⟨ep, he'⟩ := PyProof.Rows.sortedAll_at s.heap its out.toArray
    have hr : rowOk l = true := by unfold sortOk at ho; rw [Bool.and_eq_true] at ho; exact ho.1
    have hz : ys.length ≤ sizeLine := by rw [hvals.length, hlen]; exact lim_le (rowOk_at hr).1
    have hf : H (s.heap.objs.size + 1) = none := I.hok.fresh (Nat.le_succ _)
    subst hv
    exact ⟨.ref _, upd H (s.heap.objs.size + 1) (.lst ys), I.laid (t' := s.toks) (fun _ _ => PyProof.Rows.sortedAll_old) (Nat.le_succ _) ⟨hz, out, ep, hvals, he'⟩, rfl, k _ _ (same_upd hf) (rs.newLst hf hrls)⟩
  split at e
  · rename_i l
    split at e
    · rename_i ho
      cases e
      obtain ⟨x, rfl, h⟩ := rx.one
      obtain ⟨p, ys, rfl, h1, h2⟩ := h.lstE rs
      obtain ⟨its, rv, hl, hz⟩ := I.list (.of h1)
      rw [Vals.ref1 r]
      obtain ⟨hlen, S, out, xs, eo, k1, k2, k3⟩ := sorts_at I hu rfl rfl ho h2 rv false
      refine PySem.W.sorted_vals hl.isList S (by rw [← rv.length]; exact hz) ?_
      rw [eo]
      exact fine l ys its ho h2 rv rfl out xs k1 k2 k3
    · cases e
  · rename_i l
    split at e
    · rename_i ho
      cases e
      obtain ⟨x, rfl, h⟩ := rx.one
      obtain ⟨p, ys, rfl, h1, h2⟩ := h.tupE
      obtain ⟨its, rv, hl, hz⟩ := I.tuple h1
      rw [Vals.ref1 r]
      obtain ⟨hlen, S, out, xs, eo, k1, k2, k3⟩ := sorts_at I hu rfl rfl ho h2 rv false
      refine sorted_tup hl (by rw [← rv.length]; exact hz) (PyProof.Rows.args_sorted1 _) (fun _ => PyProof.Rows.args_list_sort _) fun _ => list_sort_vals (s := { s with heap := copyHeap s.heap its }) (copyHeap_at s.heap its) S (by rw [← rv.length]; exact hz) ⟨rfl, ?_⟩
      have := fine l ys its ho h2 rv rfl out xs k1 k2 k3
      rw [← eo] at this
      exact this
    · cases e
  · cases e
end
end Q
namespace Q
open PySem PySem.Spec PyProof.Rows L2
open PySem.W (alike alikeAll dataLt dataLe minD maxD AlikeAll AllAlike EachIs)
/-! ### min, max -/
theorem toDs_map : ∀ l : List Pv, toDs l = l.map toD
  | [] => by unfold toDs; rfl
  | u :: l => by unfold toDs; rw [List.map_cons, toDs_map l]
theorem toDs_inj {n : Nat} (ih : ∀ u v, okN n u = true → okN n v = true → toD u = toD v → u = v) : ∀ {l q : List Pv}, (∀ u ∈ l, okN n u = true) → (∀ u ∈ q, okN n u = true) → toDs l = toDs q → l = q
  | [], [], _, _, _ => rfl
  | [], _ :: _, _, _, h => by simp [toDs] at h
  | _ :: _, [], _, _, h => by simp [toDs] at h
  | u :: l, v :: q, h1, h2, h => by
    simp only [toDs, List.cons.injEq] at h
    rw [ih u v (h1 u List.mem_cons_self) (h2 v List.mem_cons_self) h.1, toDs_inj ih (fun u hu => h1 u (List.mem_cons_of_mem _ hu)) (fun u hu => h2 u (List.mem_cons_of_mem _ hu)) h.2]
theorem toD_inj : ∀ (n : Nat) (u v : Pv), okN n u = true → okN n v = true → toD u = toD v → u = v := by
  intro n
  induction n with
  | zero => intro u v hu hv h; cases u <;> cases v <;> simp [toD, okN] at h hu hv ⊢ <;> exact h
  | succ n ih =>
    intro u v hu hv h
    cases u <;> cases v <;> simp only [toD, reduceCtorEq, PyData.bool.injEq, PyData.int.injEq, PyData.str.injEq, PyData.list.injEq, PyData.tuple.injEq] at h
    all_goals first
      | rfl
      | (rw [h])
      | (simp [okN] at hu; done)
      | (simp [okN] at hv; done)
      | (unfold okN at hu hv; rw [toDs_inj ih (List.all_eq_true.mp hu) (List.all_eq_true.mp hv) h])
def minP (x : Pv) (l : List Pv) : Pv := l.foldl (fun a y => if dataLt (toD y) (toD a) then y else a) x
def maxP (x : Pv) (l : List Pv) : Pv := l.foldl (fun a y => if dataLt (toD a) (toD y) then y else a) x
theorem minP_D : ∀ (l : List Pv) (x : Pv), minD (toD x) (l.map toD) = toD (minP x l) ∧ minP x l ∈ x :: l
  | [], x => ⟨rfl, List.mem_cons_self⟩
  | y :: l, x => by
    obtain ⟨h1, h2⟩ := minP_D l (if dataLt (toD y) (toD x) then y else x)
    have e : (if dataLt (toD y) (toD x) = true then toD y else toD x) = toD (if dataLt (toD y) (toD x) then y else x) := by split <;> rfl
    refine ⟨?_, ?_⟩
    · show minD (if dataLt (toD y) (toD x) = true then toD y else toD x) (l.map toD) = toD (minP (if dataLt (toD y) (toD x) then y else x) l)
      rw [e]; exact h1
    · show minP (if dataLt (toD y) (toD x) then y else x) l ∈ _
      rcases List.mem_cons.mp h2 with h | h
      · rw [h]; split
        · exact List.mem_cons_of_mem _ List.mem_cons_self
        · exact List.mem_cons_self
      · exact List.mem_cons_of_mem _ (List.mem_cons_of_mem _ h)
theorem maxP_D : ∀ (l : List Pv) (x : Pv), maxD (toD x) (l.map toD) = toD (maxP x l) ∧ maxP x l ∈ x :: l
  | [], x => ⟨rfl, List.mem_cons_self⟩
  | y :: l, x => by
    obtain ⟨h1, h2⟩ := maxP_D l (if dataLt (toD x) (toD y) then y else x)
    have e : (if dataLt (toD x) (toD y) = true then toD y else toD x) = toD (if dataLt (toD x) (toD y) then y else x) := by split <;> rfl
    refine ⟨?_, ?_⟩
    · show maxD (if dataLt (toD x) (toD y) = true then toD y else toD x) (l.map toD) = toD (maxP (if dataLt (toD x) (toD y) then y else x) l)
      rw [e]; exact h1
    · show maxP (if dataLt (toD x) (toD y) then y else x) l ∈ _
      rcases List.mem_cons.mp h2 with h | h
      · rw [h]; split
        · exact List.mem_cons_of_mem _ List.mem_cons_self
        · exact List.mem_cons_self
      · exact List.mem_cons_of_mem _ (List.mem_cons_of_mem _ h)
def bestOk (l : List Pv) : Bool := rowOk l && l.all notNon
theorem alike_best {l : List Pv} (h : bestOk l = true) : AlikeAll (l.map toD) := by
  unfold bestOk at h
  rw [Bool.and_eq_true] at h
  have hr := rowOk_at h.1
  refine ⟨fun d hd d' hd' => ?_, fun d hd => ?_⟩
  · obtain ⟨u, hu, rfl⟩ := List.mem_map.mp hd
    obtain ⟨v, hv, rfl⟩ := List.mem_map.mp hd'
    exact hr.2.2 u hu v hv
  · obtain ⟨u, hu, rfl⟩ := List.mem_map.mp hd
    exact notNon_D (List.all_eq_true.mp h.2 u hu) (hr.2.1 u hu)
def pMin : List Pv → Option Pv
  | [.lst (x :: l)] => if bestOk (x :: l) then some (minP x l) else none
  | [.tup (x :: l)] => if bestOk (x :: l) then some (minP x l) else none
  | _ => none
def pMax : List Pv → Option Pv
  | [.lst (x :: l)] => if bestOk (x :: l) then some (maxP x l) else none
  | [.tup (x :: l)] => if bestOk (x :: l) then some (maxP x l) else none
  | _ => none
section
variable {X : Cx}
theorem reads_row {pins : List (Addr × Obj)} {σ : L2.St} {H : Hp} {s : Shared} {W : Wd} (I : Inv X pins σ H s) {l : List Pv} {vs : List V} {us : List Value} (hK : W.K = X.K) (hH : W.H = H) (ho : rowOk l = true) (h : Rls W l vs) (r : Vals vs us) :
    (∃ as, ReadsAll s.heap us (l.map toD) as) ∧ PyData.depthAll (l.map toD) ≤ 60 ∧ ∀ (i : Nat) v, us[i]? = some v → ∃ u x as, l[i]? = some u ∧ RelV x v ∧ Rl W u x ∧ Reads s.heap v (toD u) as := by
  have hr := rowOk_at ho
  have d : DpAll W.K W.H vs (toDs l) := dps_of (fun u hu x hx => dp_of 60 u x (hr.2.1 u hu) hx) h
  rw [hK, hH, toDs_map] at d
  refine ⟨Dp.readsAll I _ _ _ d r, ?_, ?_⟩
  · have := (dep_all (n := 60) (l := l) fun u hu => okN_dep 60 u (hr.2.1 u hu)).2
    rw [toDs_map] at this
    exact this
  · obtain ⟨k1, k2⟩ := each_of I hK hH hr.2.1 h r
    clear d
    intro i v hv
    induction k1 generalizing i vs with
    | nil => simp at hv
    | @cons v0 u0 us l p t ih =>
      cases k2 with
      | cons q t2 =>
        cases i with
        | zero =>
          cases hv
          obtain ⟨x, p1, p2⟩ := p
          obtain ⟨as, q⟩ := q
          exact ⟨u0, x, as, rfl, p1, p2, q⟩
        | succ i =>
          obtain ⟨x, xs, rfl, h1, h2⟩ := h.inv_cons
          cases r with
          | cons r1 r2 =>
            have hrr : rowOk l = true := by
              unfold rowOk
              simp only [Bool.and_eq_true, decide_eq_true_eq]
              exact ⟨⟨by have := hr.1; rw [List.length_cons] at this; omega, List.all_eq_true.mpr fun u hu => hr.2.1 u (List.mem_cons_of_mem _ hu)⟩, List.all_eq_true.mpr fun u hu => List.all_eq_true.mpr fun v hv => hr.2.2 u (List.mem_cons_of_mem _ hu) v (List.mem_cons_of_mem _ hv)⟩
            exact ih hrr h2 r2 (rowOk_at hrr) t2 i (show us[i]? = some v from hv)
theorem best_at {pins : List (Addr × Obj)} {σ : L2.St} {H : Hp} {s : Shared} {W : Wd} (I : Inv X pins σ H s) {l : List Pv} {vs : List V} {us : List Value} (hK : W.K = X.K) (hH : W.H = H) (ho : rowOk l = true) (h : Rls W l vs) (r : Vals vs us) {i : Nat} {v : Value} {u : Pv} {h' : Heap} {bs : List Addr}
    (hv : us[i]? = some v) (hu : u ∈ l) (hr : Reads h' v (toD u) bs) (hk : ∀ b o, s.heap.get? b = some o → h'.get? b = some o) : ∃ x, RelV x v ∧ Rl W u x := by
  obtain ⟨_, _, k⟩ := reads_row I hK hH ho h r
  obtain ⟨u', x, as, e, h1, h2, h3⟩ := k i v hv
  have hu' := List.mem_of_getElem? e
  have hro := rowOk_at ho
  have e2 : toD u' = toD u := PySem.W.alike_unique _ _ v _ _ (hro.2.2 u' hu' u hu) (PyProof.Rows.Reads.keeps hk h3) hr
  rw [← toD_inj 60 u' u (hro.2.1 u' hu') (hro.2.1 u hu) e2]
  exact ⟨x, h1, h2⟩
theorem cb_min (hc : X.calm = true) (hu : X.A.units + 64 < cLine) : CallR X (.builtin "min") (rC X.K pMin (RVx X)) := by
  intro pins s σ H vs us Q I r h
  obtain ⟨G, ι, μ, ρ, σ', ps, v, rs, rx, e, k⟩ := h
  unfold pMin at e
  split at e
  · rename_i x l
    split at e
    · rename_i ho
      cases e
      have hro : rowOk (x :: l) = true := by unfold bestOk at ho; rw [Bool.and_eq_true] at ho; exact ho.1
      obtain ⟨y, rfl, h⟩ := rx.one
      obtain ⟨p, ys, rfl, h1, h2⟩ := h.lstE rs
      obtain ⟨its, rv, hl, hz⟩ := I.list (.of h1)
      rw [Vals.ref1 r]
      obtain ⟨⟨as, k1⟩, k2, _⟩ := reads_row I rfl rfl hro h2 rv
      have ha := alike_best ho
      rw [List.map_cons] at k1 k2 ha
      refine PySem.W.min_list_data (I.ok.hd hc) hl.isList (by simpa using k1) ha (by omega) fun i v h' tk bs hv hr hk => ?_
      rw [(minP_D l x).1] at hr
      obtain ⟨z, q1, q2⟩ := best_at I rfl rfl hro h2 rv (by simpa using hv) (minP_D l x).2 hr hk
      exact ⟨z, H, I.kept hk, q1, k z H (Same.refl H) ⟨rs, q2⟩⟩
    · cases e
  · rename_i x l
    split at e
    · rename_i ho
      cases e
      have hro : rowOk (x :: l) = true := by unfold bestOk at ho; rw [Bool.and_eq_true] at ho; exact ho.1
      obtain ⟨y, rfl, h⟩ := rx.one
      obtain ⟨p, ys, rfl, h1, h2⟩ := h.tupE
      obtain ⟨its, rv, hl, hz⟩ := I.tuple h1
      rw [Vals.ref1 r]
      obtain ⟨⟨as, k1⟩, k2, _⟩ := reads_row I rfl rfl hro h2 rv
      have ha := alike_best ho
      rw [List.map_cons] at k1 k2 ha
      refine PySem.W.min_tuple_data (I.ok.hd hc) hl (by simpa using k1) ha (by omega) fun i v h' tk bs hv hr hk => ?_
      rw [(minP_D l x).1] at hr
      obtain ⟨z, q1, q2⟩ := best_at I rfl rfl hro h2 rv (by simpa using hv) (minP_D l x).2 hr hk
      exact ⟨z, H, I.kept hk, q1, k z H (Same.refl H) ⟨rs, q2⟩⟩
    · cases e
  · cases e
theorem cb_max (hc : X.calm = true) (hu : X.A.units + 64 < cLine) : CallR X (.builtin "max") (rC X.K pMax (RVx X)) := by
  intro pins s σ H vs us Q I r h
  obtain ⟨G, ι, μ, ρ, σ', ps, v, rs, rx, e, k⟩ := h
  unfold pMax at e
  split at e
  · rename_i x l
    split at e
    · rename_i ho
      cases e
      have hro : rowOk (x :: l) = true := by unfold bestOk at ho; rw [Bool.and_eq_true] at ho; exact ho.1
      obtain ⟨y, rfl, h⟩ := rx.one
      obtain ⟨p, ys, rfl, h1, h2⟩ := h.lstE rs
      obtain ⟨its, rv, hl, hz⟩ := I.list (.of h1)
      rw [Vals.ref1 r]
      obtain ⟨⟨as, k1⟩, k2, _⟩ := reads_row I rfl rfl hro h2 rv
      have ha := alike_best ho
      rw [List.map_cons] at k1 k2 ha
      refine PySem.W.max_list_data (I.ok.hd hc) hl.isList (by simpa using k1) ha (by omega) fun i v h' tk bs hv hr hk => ?_
      rw [(maxP_D l x).1] at hr
      obtain ⟨z, q1, q2⟩ := best_at I rfl rfl hro h2 rv (by simpa using hv) (maxP_D l x).2 hr hk
      exact ⟨z, H, I.kept hk, q1, k z H (Same.refl H) ⟨rs, q2⟩⟩
    · cases e
  · rename_i x l
    split at e
    · rename_i ho
      cases e
      have hro : rowOk (x :: l) = true := by unfold bestOk at ho; rw [Bool.and_eq_true] at ho; exact ho.1
      obtain ⟨y, rfl, h⟩ := rx.one
      obtain ⟨p, ys, rfl, h1, h2⟩ := h.tupE
      obtain ⟨its, rv, hl, hz⟩ := I.tuple h1
      rw [Vals.ref1 r]
      obtain ⟨⟨as, k1⟩, k2, _⟩ := reads_row I rfl rfl hro h2 rv
      have ha := alike_best ho
      rw [List.map_cons] at k1 k2 ha
      refine PySem.W.max_tuple_data (I.ok.hd hc) hl (by simpa using k1) ha (by omega) fun i v h' tk bs hv hr hk => ?_
      rw [(maxP_D l x).1] at hr
      obtain ⟨z, q1, q2⟩ := best_at I rfl rfl hro h2 rv (by simpa using hv) (maxP_D l x).2 hr hk
      exact ⟨z, H, I.kept hk, q1, k z H (Same.refl H) ⟨rs, q2⟩⟩
    · cases e
  · cases e
end
end Q
/-! LD: xs[::-1], is of flags. -/
namespace Q
open PySem PySem.Spec PyProof.Rows L2 HT
section
variable {prog : Program} {w : World} {A : Around} {E : Value → Shared → Prop} {s : Shared}
theorem back_pick (xs : Array Value) : ((List.range xs.size).filterMap fun (m : Nat) => xs[(((xs.size : Int) - 1) + (m : Int) * (-1)).toNat]?).toArray = xs.toList.reverse.toArray := by
  congr 1
  have e : ∀ l : List Nat, (∀ m ∈ l, m < xs.size) → (l.filterMap fun (m : Nat) => xs[(((xs.size : Int) - 1) + (m : Int) * (-1)).toNat]?) = l.map fun m => xs.toList.reverse.getD m .none := by
    intro l
    induction l with
    | nil => intro _; rfl
    | cons m r ih =>
      intro h
      have hm := h m List.mem_cons_self
      have e1 : (((xs.size : Int) - 1) + (m : Int) * (-1)).toNat = xs.size - 1 - m := by omega
      have e2 : xs[xs.size - 1 - m]? = some xs[xs.size - 1 - m] := Array.getElem?_eq_getElem (by omega)
      rw [List.filterMap_cons, List.map_cons, ih fun m hm => h m (List.mem_cons_of_mem _ hm), e1, e2]
      congr 1
      rw [List.getD_eq_getElem?_getD, List.getElem?_reverse (by simpa using hm)]
      simp only [Array.length_toList]
      rw [Array.getElem?_toList, e2]; rfl
  rw [e _ fun m hm => List.mem_range.mp hm]
  apply List.ext_getElem
  · simp
  · intro i h1 h2
    rw [List.getElem_map, List.getElem_range, List.getD_eq_getElem?_getD, List.getElem?_eq_getElem h2]; rfl
theorem applied_back {sl : Addr} {vs : Value} {n : Nat} {R : Int × Int × Nat → Shared → Prop} (hs : s.heap.IsSliceOf sl .none .none vs) (ps : IsPart vs (some (-1)))
    (h : R ((n : Int) - 1, -1, n) s) : wpAny (model prog w) A (Builtin.Slice.sliceApplied (.ref sl) (pure (n : Int))) R E s := by
  obtain ⟨os, h1, hcs, h2⟩ := id hs
  unfold Builtin.Slice.sliceApplied Builtin.Slice.sliceFields
  refine wpAny_bind (wpAny_bind (wpAny_field h1 h2 (x := .none) rfl (wpAny_bind (wpAny_field h1 h2 (x := .none) rfl (wpAny_bind (wpAny_field h1 h2 (x := vs) rfl (wpAny_pure ?_)))))))
  refine wpAny_bind (slicePart_ ps ?_)
  show wpAny _ _ (if ((-1 : Int) == 0) = true then _ else _) _ _ s
  rw [if_neg (by decide)]
  refine wpAny_bind (slicePart_none (wpAny_bind (slicePart_none (wpAny_bind (wpAny_pure ?_)))))
  have e : Builtin.Slice.sliceAdjust none none (-1) (n : Int) = ((n : Int) - 1, -1) := rfl
  have e2 : Builtin.Slice.slicePlaces ((n : Int) - 1) (-1) (-1) = n := by
    unfold Builtin.Slice.slicePlaces
    rw [if_neg (by decide), show -(-1 : Int) = 1 from rfl, Int.ediv_one]
    split <;> omega
  show wpAny _ _ (match Builtin.Slice.sliceAdjust none none (-1) (n : Int) with | (lo, hi) => pure (lo, (-1 : Int), Builtin.Slice.slicePlaces lo hi (-1))) _ _ s
  rw [e]
  show wpAny _ _ (pure ((n : Int) - 1, (-1 : Int), Builtin.Slice.slicePlaces ((n : Int) - 1) (-1) (-1))) _ _ s
  rw [e2]
  exact wpAny_pure h
theorem getItem_tuple_back {t sl : Addr} {items : Array Value} {vs : Value} {R : Value → Shared → Prop} (ht : IsTup s.heap t items) (hs : s.heap.IsSliceOf sl .none .none vs) (ps : IsPart vs (some (-1)))
    (h : R (.ref s.heap.objs.size) { s with heap := s.heap.push { cls := .type "tuple", data := .seq items.toList.reverse.toArray } }) (hz : items.size ≤ sizeLine) : wpAny (model prog w) A (getItem (.ref t) (.ref sl)) R E s := by
  have fits : sizeOk (.seq items.toList.reverse.toArray) := by
    show items.toList.reverse.toArray.size ≤ sizeLine
    rw [List.size_toArray, List.length_reverse, Array.length_toList]; exact hz
  obtain ⟨os, h1, hcs, h2⟩ := id hs
  have hT : s.TypeIs (.ref sl) "slice" := ⟨os, h1, hcs⟩
  unfold getItem
  try with_reducible refine wpAny_holding ?_
  first | refine wpAny_bind (wpAny_pure ?_) | skip
  refine wpAny_bind <| wpAny_sequenceKey ht.typeIs (by decide) ?_
  refine wpAny_bind <| wpAny_callSpecial?_slot (name := Str.ofString "__getitem__") ht.typeIs PyProof.Rows.slot_tuple_getitem (wpAny_call_entry PyProof.Rows.slot_tuple_getitem ht.typeIs entry_tuple_getitem ?_ (args_tuple_getitem _ _))
  show wpAny _ _ (Builtin.Tuple.tupleItemsOf (.ref t) >>= _) _ _ s
  refine wpAny_bind <| tupleItemsOf_ ht ?_
  refine wpAny_bind <| wpAny_typeOf hT ?_
  rw [if_pos (by decide)]
  refine wpAny_bind <| applied_back hs ps ?_
  have no : ¬ (((((items.size : Int) - 1) == 0) && (-1 : Int) == 1 && items.size == items.size) = true) := by
    rw [show ((-1 : Int) == 1) = false from rfl, Bool.and_false, Bool.false_and]
    exact Bool.false_ne_true
  show wpAny _ _ (if ((((items.size : Int) - 1) == 0) && (-1 : Int) == 1 && items.size == items.size) = true then _ else _) _ _ s
  rw [if_neg no, back_pick]
  first
    | exact wpAny_bind (m := Builtin.Tuple.tupleExact _) (wpAny_newObj_type (wpAny_pure ⟨_, rfl, wpAny_pure h⟩) fits)
    | exact wpAny_bind (wpAny_bind (m := Builtin.Tuple.tupleExact _) (wpAny_newObj_type (wpAny_pure ⟨_, rfl, wpAny_pure h⟩) fits))
    | exact wpAny_bind (wpAny_bind (m := Builtin.Tuple.tupleExact _) (wpAny_newObj_type (wpAny_pure (wpAny_pure ⟨_, rfl, wpAny_pure h⟩)) fits))
end
end Q
namespace Q
open PySem PySem.Spec PyProof.Rows L2 HT
def tRv (K : PySem.W.Frag) (te : TE) : TE := fun σ H Q => te σ H fun x H1 => ∃ a xs, x = .ref a ∧ ((SqL K H1 a xs ∧ ∀ p, H1 p = none → Q (.ref p) (upd H1 p (.lst xs.reverse))) ∨ (SqT K H1 a xs ∧ ∀ p, H1 p = none → Q (.ref p) (upd H1 p (.tup xs.reverse))))
def pRev : Pv → Option Pv
  | .tup l => some (.tup l.reverse)
  | .lst l => some (.lst l.reverse)
  | _ => none
def pRevN : Pv → Option (List Pv)
  | .lst l => some l.reverse
  | _ => none
section
variable {X : Cx}
theorem pe_rv {e : Expr} {te : TE} {k : Nat} {p1 p2 p3 pos : Pos} (he : PE X e te) : PE X (.Subscript e (.Slice none none (some (.UnaryOp .USub (.Constant (.int 1) k p1) p2)) p3) pos) (tRv X.K te) := by
  refine ⟨fun pins s σ H Q I h => Subscript_ (thn (he.run pins s σ H _ I h) fun v s1 ⟨x, H1, I1, r1, q1⟩ => ?_)⟩
  obtain ⟨a, xs, rfl, q⟩ := q1
  cases r1
  have hst : PO X (some (.UnaryOp .USub (.Constant (.int 1) k p1) p2)) (tPart (tUn (rU fun i => .int (-i)) (tC (.int 1)))) := po_some (pe_un un_neg pe_int)
  refine wpAny_Slice (thn (po_none.run pins s1 σ H1 (fun o H2 => o = none ∧ H2 = H1) I1 ⟨rfl, rfl⟩) fun vl s2 ⟨l, H2, I2, pl, el, e2⟩ => thn (po_none.run pins s2 σ H2 (fun o H3 => o = none ∧ H3 = H2) I2 ⟨rfl, rfl⟩) fun vu s3 ⟨u, H3, I3, pu, eu, e3⟩ =>
    thn (hst.run pins s3 σ H3 (fun o H4 => o = some (-1) ∧ H4 = H3) I3 ⟨1, rfl, -1, rfl, rfl, rfl⟩) fun vs s4 ⟨o, H4, I4, ps, eo, e4⟩ => ?_)
  subst el e2 eu e3 eo e4
  have I5 : Inv X pins σ H4 { s4 with heap := s4.heap.push { cls := .type "slice", data := .fields #[vl, vu, vs] } } := I4.kept (t' := s4.toks) fun b ob q => Heap.get?_push_of_some _ q
  show wpAny (model X.prog X.w) X.A (subscriptTail e (.Slice none none (some (.UnaryOp .USub (.Constant (.int 1) k p1) p2)) p3) (.ref a) (.ref s4.heap.objs.size)) (EP X pins σ Q) X.xe { s4 with heap := s4.heap.push { cls := .type "slice", data := .fields #[vl, vu, vs] } }
  rcases q with ⟨hx, q⟩ | ⟨hx, q⟩
  · obtain ⟨its, r, ht, hz⟩ := I5.list hx
    have hlen := r.length
    refine tail_any (ops := [.ref a, .ref s4.heap.objs.size]) ht.isList.typeIs (PySem.slot_list_getitem.lookup) ?_ (by with_unfolding_all rfl)
    refine wpAny_getItem_list_slice ht.isList (Heap.IsSliceOf.new _ vl vu vs) pl pu ps (by decide) ?_ (by rw [List.size_toArray]; omega)
    rw [PySem.W.krv_pick]
    exact ⟨.ref _, _, I5.laid (t' := s4.toks) (o := .lst xs.reverse) (fun b ob q => Heap.get?_push_of_some _ q) (Nat.le_refl _) ⟨by rw [List.length_reverse]; exact hz, _, 0, r.reverse, Heap.get?_push_size _ rfl⟩, rfl, q _ (I5.hok.fresh (Nat.le_refl _))⟩
  · obtain ⟨its, r, ht, hz⟩ := I5.tuple hx
    have hlen := r.length
    cases pl
    cases pu
    refine tail_any (ops := [.ref a, .ref s4.heap.objs.size]) ht.typeIs (PyProof.Rows.slot_tuple_getitem.lookup) ?_ (by with_unfolding_all rfl)
    refine getItem_tuple_back ht (Heap.IsSliceOf.new _ .none .none vs) ps ?_ (by rw [List.size_toArray]; omega)
    exact ⟨.ref _, _, I5.laid (t' := s4.toks) (o := .tup xs.reverse) (fun b ob q => Heap.get?_push_of_some _ q) (Nat.le_refl _) ⟨by rw [List.length_reverse]; exact hz, _, r.reverse, _, Heap.get?_push_size _ rfl, rfl, 0, rfl⟩, rfl, q _ (I5.hok.fresh (Nat.le_refl _))⟩
variable {ρ : List SV} {m : Type → Type} [Monad m] [Eff m]
theorem ev_rev {e : Expr} {c : m Pv} {k : Nat} {p1 p2 p3 pos : Pos} (he : Ek X ρ e c) : Ev X ρ (.Subscript e (.Slice none none (some (.UnaryOp .USub (.Constant (.int 1) k p1) p2)) p3) pos) (b1 pRev c) := PE.imp (pe_rv he) fun σ H Q q => by
  obtain ⟨G, ι, μ, v, μ', rs, hr, q⟩ := q
  obtain ⟨va, μ1, h1, h2⟩ := inv_bind hr
  obtain ⟨h5, rfl⟩ := inv_lift h2
  refine ⟨G, ι, μ, va, _, rs, h1, fun x H1 ι1 st1 z1 => ?_⟩
  unfold pRev at h5
  split at h5
  · cases h5
    obtain ⟨a, vs, rfl, g1, g2⟩ := z1.2.tupE
    exact ⟨a, vs, rfl, .inr ⟨g1, fun p hp => q _ _ ι1 (st1.trans (Step.same (same_upd hp) fun _ h => h)) ⟨z1.1.same (same_upd hp), z1.1.newTup hp g2.reverse⟩⟩⟩
  · cases h5
    obtain ⟨a, vs, rfl, g1, g2⟩ := z1.2.lstE z1.1
    exact ⟨a, vs, rfl, .inl ⟨.of g1, fun p hp => q _ _ ι1 (st1.trans (Step.same (same_upd hp) fun _ h => h)) ⟨z1.1.same (same_upd hp), z1.1.newLstV hp g2.reverse⟩⟩⟩
  · cases h5
theorem en_rev {e : Expr} {c : m Pv} {k : Nat} {p1 p2 p3 pos : Pos} (he : Ek X ρ e c) : En X ρ (.Subscript e (.Slice none none (some (.UnaryOp .USub (.Constant (.int 1) k p1) p2)) p3) pos) (b1 pRevN c) := PE.imp (pe_rv he) fun σ H Q q => by
  obtain ⟨G, ι, μ, v, μ', rs, hr, q⟩ := q
  obtain ⟨va, μ1, h1, h2⟩ := inv_bind hr
  obtain ⟨h5, rfl⟩ := inv_lift h2
  refine ⟨G, ι, μ, va, _, rs, h1, fun x H1 ι1 st1 z1 => ?_⟩
  unfold pRevN at h5
  split at h5
  · cases h5
    obtain ⟨a, vs, rfl, g1, g2⟩ := z1.2.lstE z1.1
    exact ⟨a, vs, rfl, .inl ⟨.of g1, fun p hp => q _ _ ι1 (st1.trans (Step.same (same_upd hp) fun _ h => h)) (Back.back rs z1.1 st1 (z1.1.newLst hp g2.reverse))⟩⟩
  · cases h5
def pIsB (a b : Pv) : Option Pv := match a, b with
  | .bl a, .bl b => some (.bl (decide (a = b)))
  | _, _ => none
def pNotB (a b : Pv) : Option Pv := match a, b with
  | .bl a, .bl b => some (.bl (!decide (a = b)))
  | _, _ => none
theorem oc_isB : OpR X (compareOp .Is) (rB X.K pIsB) := OpR.imp op_isBl fun x y H Q q => by
  obtain ⟨G, ι, μ, ρ, σ, vx, vy, v, rs, rx, ry, e, k⟩ := q
  unfold pIsB at e
  split at e
  · cases e
    exact ⟨_, _, rx.blE, ry.blE, k _ H (Same.refl H) .bl⟩
  · cases e
theorem oc_notB : OpR X (compareOp .IsNot) (rB X.K pNotB) := OpR.imp op_notBl fun x y H Q q => by
  obtain ⟨G, ι, μ, ρ, σ, vx, vy, v, rs, rx, ry, e, k⟩ := q
  unfold pNotB at e
  split at e
  · cases e
    exact ⟨_, _, rx.blE, ry.blE, k _ H (Same.refl H) .bl⟩
  · cases e
end
end Q
/-! LE: a tuple many times. -/
namespace Q
open PySem PySem.Spec PyProof.Rows L2
open PySem.AutoSeq1 (wpAny_loadPart')
/-- none of it, or once: the tuple itself -/
theorem mul_same (l : Addr) (items : Array Value) (n : Nat) (dd : Option Addr) (sl : Array (Option Value)) (x : Int) (u : Tok) (c0 : (decide (x < -(2 ^ 63)) || decide (x ≥ 2 ^ 63)) = false) (c1 : (items.isEmpty || x == 1) = true) :
    Meets (Builtin.«tuple.__mul__» ⟨[.ref l, .int x u], []⟩) (fun _ R s => s.heap.get? l = some { cls := .type "tuple", dict := dd, data := .seq items n, slots := sl } ∧ R (.ok (.ret (Value.ref l))) s) :=
  .of_wp fun prog w A R s h => by
    obtain ⟨hp, g, d, tk, os⟩ := s
    obtain ⟨hl, h⟩ := h
    have f1 := AutoSeq1.idx_int
    wp_walk using wpAny_loadPart' hl
    repeat (first
      | (refine wpAny_ite_false (decide_eq_false (by rw [c0]; exact Bool.false_ne_true)) ?_; wp_walk using wpAny_loadPart' hl)
      | (refine wpAny_ite_true (decide_eq_true c1) ?_; wp_walk using wpAny_loadPart' hl))
    exact ⟨_, rfl, h⟩
end Q
namespace Q
open PySem PySem.Spec PyProof.Rows L2
open PySem.AutoSeq1 (wpAny_loadPart')
theorem mul_none (l : Addr) (items : Array Value) (n : Nat) (dd : Option Addr) (sl : Array (Option Value)) (x : Int) (u : Tok) (c0 : (decide (x < -(2 ^ 63)) || decide (x ≥ 2 ^ 63)) = false) (c1 : (items.isEmpty || x == 1) = false) (c2 : (decide (x ≤ 0) || items.isEmpty) = true) :
    Meets (Builtin.«tuple.__mul__» ⟨[.ref l, .int x u], []⟩) (fun _ R s => s.heap.get? l = some { cls := .type "tuple", dict := dd, data := .seq items n, slots := sl } ∧
      R (.ok (.ret (Value.ref s.heap.objs.size))) { s with heap := s.heap.push { cls := Value.type "tuple", data := Data.seq #[] }, toks := s.toks }) :=
  .of_wp fun prog w A R s h => by
    obtain ⟨hp, g, d, tk, os⟩ := s
    obtain ⟨hl, h⟩ := h
    have f1 := AutoSeq1.idx_int
    wp_walk using wpAny_loadPart' hl
    repeat (first
      | (refine wpAny_ite_false (decide_eq_false (by rw [c0]; exact Bool.false_ne_true)) ?_; wp_walk using wpAny_loadPart' hl)
      | (refine wpAny_ite_false (decide_eq_false (by rw [c1]; exact Bool.false_ne_true)) ?_; wp_walk using wpAny_loadPart' hl)
      | (refine wpAny_ite_true (decide_eq_true c2) ?_; wp_walk using wpAny_loadPart' hl))
    exact ⟨_, rfl, h⟩
def rMulT (K : PySem.W.Frag) : R2 := fun x y H Q => ∃ l k xs, x = .ref l ∧ y = .int k ∧ SqT K H l xs ∧ -1000 ≤ k ∧ k ≤ 1000 ∧ xs.length ≤ 1000 ∧ ((xs = [] ∨ k = 1) → Q (.ref l) H) ∧ (¬ (xs = [] ∨ k = 1) → ∀ p, H p = none → Q (.ref p) (upd H p (.tup (List.replicate k.toNat xs).flatten)))
section
variable {X : Cx}
theorem op_mulT : OpR X (binaryOp .Mult) (rMulT X.K) := by
  intro pins s σ H x y v u Q I rx ry h
  obtain ⟨l, k, xs, rfl, rfl, hT, h1, h2, hz, q1, q2⟩ := h
  by_cases hbig : 2 ≤ k ∧ xs ≠ []
  · exact op_repT pins s σ H _ _ v u Q I rx ry ⟨l, k, xs, rfl, rfl, hT, hbig.2, hbig.1, h2, hz, q2 (fun z => by rcases z with z | z; exact hbig.2 z; omega)⟩
  · cases rx
    obtain ⟨t, rfl⟩ := ry
    obtain ⟨its, r, ⟨⟨cls, dd, data, sl⟩, ho, hc, n, hd⟩, hs⟩ := I.tuple hT
    simp only at hc hd
    subst hc hd
    have hle : its.length = xs.length := r.length.symm
    have c0 : (decide (k < -(2 ^ 63)) || decide (k ≥ 2 ^ 63)) = false := by
      rw [decide_eq_false (by omega), decide_eq_false (by omega)] <;> rfl
    have hemp : its.toArray.isEmpty = decide (xs = []) := by
      cases its with
      | nil => rw [List.eq_nil_of_length_eq_zero hle.symm]; rfl
      | cons a b => cases xs with
        | nil => cases hle
        | cons c d => rfl
    by_cases hs1 : xs = [] ∨ k = 1
    · have c1 : (its.toArray.isEmpty || k == 1) = true := by
        rw [hemp, Bool.or_eq_true]
        rcases hs1 with z | z
        · exact .inl (decide_eq_true z)
        · exact .inr (beq_iff_eq.mpr z)
      exact wpAny_binaryOp_repeat_ref (T := "tuple") (U := "int") (by decide) ⟨_, ho, rfl⟩ (fun s' => typeIs_int s' k t) noFill_tuple_mul F.fills_int_mul F.slot_int_rmul repeat_tuple F.slot_int_index.lookup
        (call_meets F.slot_int_rmul (typeIs_int s k t) F.entry_int_rmul (F.args_int_rmul_2 _ _) (int_rmul_tuple k t l its.toArray n dd sl)
          ⟨ho, rfl, ⟨_, ho, rfl⟩, call_meets F.slot_tuple_mul ⟨_, ho, rfl⟩ F.entry_tuple_mul (F.args_tuple_mul_2 _ _) (mul_same l its.toArray n dd sl k t c0 c1) ⟨ho, ⟨.ref l, H, I, rfl, q1 hs1⟩⟩⟩)
    · have hne : xs ≠ [] := fun z => hs1 (.inl z)
      have c1 : (its.toArray.isEmpty || k == 1) = false := by
        rw [hemp, decide_eq_false hne, Bool.false_or]
        exact beq_eq_false_iff_ne.mpr fun z => hs1 (.inr z)
      have hk : k ≤ 0 := by
        have : ¬ 2 ≤ k := fun z => hbig ⟨z, hne⟩
        have : ¬ k = 1 := fun z => hs1 (.inr z)
        omega
      have c2 : (decide (k ≤ 0) || its.toArray.isEmpty) = true := by rw [decide_eq_true hk]; rfl
      refine wpAny_binaryOp_repeat_ref (T := "tuple") (U := "int") (by decide) ⟨_, ho, rfl⟩ (fun s' => typeIs_int s' k t) noFill_tuple_mul F.fills_int_mul F.slot_int_rmul repeat_tuple F.slot_int_index.lookup
        (call_meets F.slot_int_rmul (typeIs_int s k t) F.entry_int_rmul (F.args_int_rmul_2 _ _) (int_rmul_tuple k t l its.toArray n dd sl)
          ⟨ho, rfl, ⟨_, ho, rfl⟩, call_meets F.slot_tuple_mul ⟨_, ho, rfl⟩ F.entry_tuple_mul (F.args_tuple_mul_2 _ _) (mul_none l its.toArray n dd sl k t c0 c1 c2) ⟨ho, ?_⟩⟩)
      have e0 : (List.replicate k.toNat xs).flatten = [] := by rw [show k.toNat = 0 by omega]; rfl
      have q := q2 hs1 _ (I.hok.fresh (Nat.le_refl s.heap.objs.size))
      rw [e0] at q
      exact ⟨.ref s.heap.objs.size, _, I.laid (t' := s.toks) (o := .tup []) (fun b ob q => Heap.get?_push_of_some _ q) (Nat.le_refl _) ⟨Nat.zero_le _, [], .nil, IsTup.new _ _⟩, rfl, q⟩
def pMulA : Pv → Pv → Option Pv
  | .tup a, .int k => if -1000 ≤ k ∧ k ≤ 1000 ∧ a.length ≤ 1000 then some (.tup (List.replicate k.toNat a).flatten) else none
  | u, v => pMul u v
theorem ob_mulA : OpR X (binaryOp .Mult) (rB X.K pMulA) := by
  intro pins s σ H x y v u Q I rx ry h
  obtain ⟨G, ι, μ, ρ, σ', vx, vy, w, rs, r1, r2, e, k⟩ := h
  unfold pMulA at e
  split at e
  · rename_i a n
    split at e
    · rename_i hb
      cases e
      obtain ⟨l, vs, rfl, g1, g2⟩ := r1.tupE
      have e2 := r2.intE
      have hlen := Rls.length g2
      refine op_mulT pins s σ H _ _ v u Q I rx ry ⟨l, n, vs, rfl, e2, g1, hb.1, hb.2.1, by omega, fun hz => ?_, fun _ p hp => ?_⟩
      · refine k _ H (Same.refl H) ?_
        have e3 : (List.replicate n.toNat a).flatten = a := by
          rcases hz with z | z
          · have : a = [] := List.eq_nil_of_length_eq_zero (by rw [hlen, z]; rfl)
            subst this
            simp
          · subst z; simp
        rw [e3]
        exact r1.rl fun _ z => nomatch z
      · exact k _ _ (same_upd hp) (rs.newTup hp (g2.rep _))
    · cases e
  · exact ob_mul pins s σ H x y v u Q I rx ry ⟨G, ι, μ, ρ, σ', _, _, w, rs, r1, r2, e, k⟩
end
end Q
/-! LF: max(.., default=..), sorted(.., reverse=True). -/
namespace Q
open PySem PySem.Spec PyProof.Rows L2
open PySem.W (alike alikeAll dataLt dataLe minD maxD AlikeAll AllAlike EachIs)
/-- a built-in with one keyword -/
def rCK (K : PySem.W.Frag) {α : Type} (g : List Pv → Pv → Option α) (R : (List SV) → RelT α) : List V → List V → Hp → VK → Prop := fun xs zs H Q => ∃ G ι μ ρ σ vs z d v, zs = [z] ∧ RS K G ι μ ρ σ H ∧ Rks (wd K G ι ρ σ H) ρ σ vs xs ∧ Rl (wd K G ι ρ σ H) d z ∧ g vs d = some v ∧
  ∀ y H', Same H H' → R ρ H G ι μ σ H' v y → Q y H'
section
variable {m : Type → Type} [Monad m] [Eff m]
def bD {α : Type} (g : List Pv → Pv → Option α) (cs : m (List Pv)) (cd : m Pv) : m α := cs >>= fun l => cd >>= fun d => Eff.lift (g l d)
variable {X : Cx} {ρ : List SV} {a e : Expr} {es : List Expr} {pos kp : Pos}
theorem tCKw_G {α : Type} {R : List SV → RelT α} [Back X.K ρ (R ρ)] {g : List Pv → Pv → Option α} {cs : m (List Pv)} {cd : m Pv} {σ : L2.St} {H : Hp} {Q : VK} (q : tG X.K ρ (R ρ) (bD g cs cd) σ H Q) :
    tCKw (rCK X.K g R) (tGa X.K ρ (RKs X.K ρ) cs) (tCons (tG X.K ρ (RV X.K ρ) cd) tNil) σ H Q := by
  obtain ⟨G, ι, μ, v, μ', rs, hr, q⟩ := q
  obtain ⟨l, μ1, h1, h2⟩ := inv_bind hr
  obtain ⟨d, μ2, h3, h4⟩ := inv_bind h2
  obtain ⟨h5, rfl⟩ := inv_lift h4
  exact ⟨G, ι, μ, l, _, rs, h1, fun xs H1 ι1 st1 r1 z1 => ⟨G, ι1, μ1, d, _, r1, h3, fun z H2 ι2 st2 r2 =>
    ⟨G, ι2, _, ρ, σ, l, z, d, v, rfl, r2.1, Rks.mono st2.le z1, r2.2, h5, fun y H' s hy => q y H' ι2 ((st1.trans st2).trans (Step.same s fun _ h => h)) (Back.back rs r2.1 (st1.trans st2) hy)⟩⟩⟩
theorem pe_bltKG {α : Type} {R : List SV → RelT α} [Back X.K ρ (R ρ)] {g : List Pv → Pv → Option α} {cs : m (List Pv)} {cd : m Pv} {x : Str} {p : Pos} {id : String} {nm : Option Str} {ks : List Str} (hc : CallRK X (.builtin id) ks (rCK X.K g R)) (hm : X.mg x = none) (hv : bootBuiltins x = some (.builtin id)) (ha : Eka X ρ (a :: es) cs) (hk : Ev X ρ e cd) (hg : Gl X x := by rfl)
    (hn : x ≠ "__name__" := by decide) (hdb : (x == ("__debug__" : Str)) = false := by decide)
    (he : backTo pos (starEach (a :: es) X.env) = (false, eval a X.env) :: backTo pos (starEach es X.env) := by rfl) (hpl : (backTo pos (starEach (a :: es) X.env)).any (·.1) = false := by rfl)
    (hall : (backToKw pos (keywordEach [⟨nm, e, kp⟩] X.env)).all (·.1.isSome) = true := by rfl) (hnone : (backToKw pos (keywordEach [⟨nm, e, kp⟩] X.env)).any (·.1.isNone) = false := by rfl) (hks : (backToKw pos (keywordEach [⟨nm, e, kp⟩] X.env)).filterMap (·.1) = ks := by rfl) :
    PE X (.Call (.Name x p) (a :: es) [⟨nm, e, kp⟩] pos) (tG X.K ρ (R ρ) (bD g cs cd)) :=
  PE.imp (pe_callBK hc hg hm hv ha (pk_cons hk pk_nil) hn hdb he hpl hall hnone hks) fun σ H Q q => tCKw_G q
theorem ev_bltK {g : List Pv → Pv → Option Pv} {cs : m (List Pv)} {cd : m Pv} {x : Str} {p : Pos} {id : String} {nm : Option Str} {ks : List Str} (hc : CallRK X (.builtin id) ks (rCK X.K g (RVx X))) (hm : X.mg x = none) (hv : bootBuiltins x = some (.builtin id)) (ha : Eka X ρ (a :: es) cs) (hk : Ev X ρ e cd) (hg : Gl X x := by rfl)
    (hn : x ≠ "__name__" := by decide) (hdb : (x == ("__debug__" : Str)) = false := by decide)
    (he : backTo pos (starEach (a :: es) X.env) = (false, eval a X.env) :: backTo pos (starEach es X.env) := by rfl) (hpl : (backTo pos (starEach (a :: es) X.env)).any (·.1) = false := by rfl)
    (hall : (backToKw pos (keywordEach [⟨nm, e, kp⟩] X.env)).all (·.1.isSome) = true := by rfl) (hnone : (backToKw pos (keywordEach [⟨nm, e, kp⟩] X.env)).any (·.1.isNone) = false := by rfl) (hks : (backToKw pos (keywordEach [⟨nm, e, kp⟩] X.env)).filterMap (·.1) = ks := by rfl) :
    Ev X ρ (.Call (.Name x p) (a :: es) [⟨nm, e, kp⟩] pos) (bD g cs cd) := pe_bltKG hc hm hv ha hk hg hn hdb he hpl hall hnone hks
end
def pMaxD (l : List Pv) (d : Pv) : Option Pv := match l with
  | [.lst []] => some d
  | [.tup []] => some d
  | l => pMax l
section
variable {X : Cx}
theorem alikeAll_nil : AlikeAll [] := ⟨fun x h => (List.not_mem_nil h).elim, fun x h => (List.not_mem_nil h).elim⟩
theorem cb_maxD (hc : X.calm = true) (hu : X.A.units + 64 < cLine) : CallRK X (.builtin "max") [Str.ofString "default"] (rCK X.K pMaxD (RVx X)) := by
  intro pins s σ H vs zs us ws Q I r rz h
  obtain ⟨G, ι, μ, ρ, σ', ps, z, d, v, rfl, rs, rx, rd, e, k⟩ := h
  obtain ⟨w0, rfl, hw⟩ := vals1 rz
  unfold pMaxD at e
  split at e
  · cases e
    obtain ⟨y, rfl, h⟩ := rx.one
    obtain ⟨p, ys, rfl, h1, h2⟩ := h.lstE rs
    cases h2.inv_nil
    obtain ⟨its, rv, hl, hz⟩ := I.list (.of h1)
    rw [Vals.ref1 r]
    cases rv
    exact PySem.W.max_list_default (xs := []) (I.ok.hd hc) hl.isList .nil alikeAll_nil (by show X.A.units + 1 + 0 < _; omega) (fun _ h' tk hk => ⟨z, H, I.kept hk, hw, k z H (Same.refl H) ⟨rs, rd⟩⟩) fun y ys i v h' tk bs e => by cases e
  · cases e
    obtain ⟨y, rfl, h⟩ := rx.one
    obtain ⟨p, ys, rfl, h1, h2⟩ := h.tupE
    cases h2.inv_nil
    obtain ⟨its, rv, hl, hz⟩ := I.tuple h1
    rw [Vals.ref1 r]
    cases rv
    exact PySem.W.max_tuple_default (xs := []) (I.ok.hd hc) hl .nil alikeAll_nil (by show X.A.units + 1 + 0 < _; omega) (fun _ h' tk hk => ⟨z, H, I.kept hk, hw, k z H (Same.refl H) ⟨rs, rd⟩⟩) fun y ys i v h' tk bs e => by cases e
  · unfold pMax at e
    split at e
    · rename_i x l _ _
      split at e
      · rename_i ho
        cases e
        have hro : rowOk (x :: l) = true := by unfold bestOk at ho; rw [Bool.and_eq_true] at ho; exact ho.1
        obtain ⟨y, rfl, h⟩ := rx.one
        obtain ⟨p, ys, rfl, h1, h2⟩ := h.lstE rs
        obtain ⟨its, rv, hl, hz⟩ := I.list (.of h1)
        rw [Vals.ref1 r]
        obtain ⟨⟨as, k1⟩, k2, _⟩ := reads_row I rfl rfl hro h2 rv
        have ha := alike_best ho
        rw [List.map_cons] at k1 k2 ha
        refine PySem.W.max_list_default (I.ok.hd hc) hl.isList (by simpa using k1) ha (by omega) (fun e => by cases e) fun y0 ys0 i v h' tk bs e hv hr hk => ?_
        cases e
        rw [(maxP_D l x).1] at hr
        obtain ⟨z, q1, q2⟩ := best_at I rfl rfl hro h2 rv (by simpa using hv) (maxP_D l x).2 hr hk
        exact ⟨z, H, I.kept hk, q1, k z H (Same.refl H) ⟨rs, q2⟩⟩
      · cases e
    · rename_i x l _ _
      split at e
      · rename_i ho
        cases e
        have hro : rowOk (x :: l) = true := by unfold bestOk at ho; rw [Bool.and_eq_true] at ho; exact ho.1
        obtain ⟨y, rfl, h⟩ := rx.one
        obtain ⟨p, ys, rfl, h1, h2⟩ := h.tupE
        obtain ⟨its, rv, hl, hz⟩ := I.tuple h1
        rw [Vals.ref1 r]
        obtain ⟨⟨as, k1⟩, k2, _⟩ := reads_row I rfl rfl hro h2 rv
        have ha := alike_best ho
        rw [List.map_cons] at k1 k2 ha
        refine PySem.W.max_tuple_default (I.ok.hd hc) hl (by simpa using k1) ha (by omega) (fun e => by cases e) fun y0 ys0 i v h' tk bs e hv hr hk => ?_
        cases e
        rw [(maxP_D l x).1] at hr
        obtain ⟨z, q1, q2⟩ := best_at I rfl rfl hro h2 rv (by simpa using hv) (maxP_D l x).2 hr hk
        exact ⟨z, H, I.kept hk, q1, k z H (Same.refl H) ⟨rs, q2⟩⟩
      · cases e
    · cases e
end
end Q
/-! LG: sum of a tuple. -/
namespace Q
open PySem PySem.Spec PyProof.Rows L2
theorem preSum_ints (ns : List Int) : ∀ k, k ≤ ns.length → preSum (fun j => ns.getD j 0) k = (ns.take k).sum
  | 0, _ => by simp [preSum]
  | k + 1, h => by
    have ih := preSum_ints ns k (by omega)
    have e : ns.take (k + 1) = ns.take k ++ [ns[k]] := by rw [List.take_add_one, List.getElem?_eq_getElem (by omega)]; rfl
    rw [e, List.sum_append]
    unfold preSum
    rw [ih, List.getD_eq_getElem?_getD, List.getElem?_eq_getElem (by omega)]
    simp
section
variable {prog : Program} {w : World} {A : Around} {E : Value → Shared → Prop} {s : Shared}
theorem sum_tupW {l : Addr} {vs : List Value} {ns : List Int} {R : Value → Shared → Prop} (hh : A.handled = none) (hl : s.heap.IsTuple l vs.toArray) (hi : IntsAre vs ns)
    (h : ∀ h' tk t', (∀ b o, s.heap.get? b = some o → h'.get? b = some o) → R (.int ns.sum t') { s with heap := h', toks := tk }) : wpAny (model prog w) A (call (.builtin "sum") [.ref l]) R E s := by
  refine call_sum_walkAnyS (PySem.W.iter_tupleW (A := A.in1) hh hl fun s₂ e W st hfp _ _ => ?_)
  refine ⟨_, _, _, _, _, _, _, fun j => ns.getD j 0, rfl, W, st, hfp, fun i v hv => ?_, fun s' t' m => ?_⟩
  · have hi' : i < vs.length := by
      have := (List.getElem?_eq_some_iff.mp (by simpa using hv)).1
      exact this
    obtain ⟨t, et⟩ := PyProof.Rows.IntsAre.int_at hi i v (by simpa using hv)
    exact ⟨t, et⟩
  · obtain ⟨h', tk, rfl, hk'⟩ := PySem.W.moved_old e rfl m
    have e1 : vs.toArray.size = ns.length := by rw [List.size_toArray]; exact hi.length
    rw [e1, preSum_ints ns ns.length (Nat.le_refl _), List.take_length]
    exact h h' tk t' hk'
end
def pSumA : List Pv → Option Pv
  | [.tup l] => (intsP l).map fun ns => .int ns.sum
  | l => pSum l
section
variable {X : Cx}
theorem cb_sumA (hc : X.calm = true) : CallR X (.builtin "sum") (rC X.K pSumA (RVx X)) := by
  intro pins s σ H vs us Q I r h
  obtain ⟨G, ι, μ, ρ, σ', ps, v, rs, rx, e, k⟩ := h
  unfold pSumA at e
  split at e
  · rename_i l
    cases e1 : intsP l with
    | none => rw [e1] at e; cases e
    | some ns =>
      rw [e1] at e; cases e
      obtain ⟨x, rfl, h⟩ := rx.one
      obtain ⟨p, ys, rfl, h1, h2⟩ := h.tupE
      rw [ints_map e1] at h2
      rw [h2.intsE] at h1
      obtain ⟨its, rv, hl, _⟩ := I.tuple h1
      rw [Vals.ref1 r]
      exact sum_tupW (I.ok.hd hc) hl rv.ints fun h' tk t' hk => ⟨.int _, H, I.kept hk, ⟨_, rfl⟩, k _ H (Same.refl H) ⟨rs, .int⟩⟩
  · exact cb_sum hc pins s σ H vs us Q I r ⟨G, ι, μ, ρ, σ', _, v, rs, rx, e, k⟩
end
end Q
/-! PK: permutations(range(n)). -/
namespace Q
open PySem PySem.Spec PyProof.Rows L2
open PySem.Sem (wp)
abbrev NP := Nat → Nat → List Nat → List Nat → Option (List Nat × List Nat)
def nxA (f : NP) (o : Value) : Sem PySem.Fin := field o 0 >>= fun pool => Builtin.Itertools.itPoolItems pool >>= fun items => Builtin.Itertools.itIntField o 2 >>= fun r => Builtin.Itertools.itNumbersFrom o 4 >>= fun ns =>
   let result : List Nat → Sem PySem.Fin := fun ix => newTuple ((ix.take r.toNat).map fun i => items.getD i .none) >>= fun t => field o 3 >>= fun old => setField o 3 t >>= fun _ => letGo [old] [t] >>= fun _ => ret t
   Builtin.Itertools.itIntField o 1 >>= fun st =>
   match st with
   | 0 => setField o 1 (rawInt 1) >>= fun _ => result ns
   | 1 => match f items.size r.toNat (ns.take items.size) (ns.drop items.size) with
     | some (a, b) => Builtin.Itertools.itSetNumbersFrom o 4 (a ++ b) >>= fun _ => result a
     | none => setField o 1 (rawInt 2) >>= fun _ => Builtin.Itertools.itStop
   | _ => rule "itertools.permutations.ended" >>= fun _ => Builtin.Itertools.itStop
def npS : {f : NP // ∀ args, Builtin.«itertools.permutations.__next__» args = (slotArgs "__next__" 0 args >>= fun p => match p with | (o, _) => nxA f o)} := by
  refine ⟨?f, fun args => ?h⟩
  case h =>
    delta Builtin.«itertools.permutations.__next__» nxA
    rfl
/-! ### the type -/
theorem pk_mro : mroOf (.type "itertools.permutations") = pure [.type "itertools.permutations", .type "object"] := by rw [mroOf_type]; kernel_rfl
theorem pk_lookup_new : typeLookup (.type "itertools.permutations") "__new__" = pure (some (.builtin "itertools.permutations.__new__")) := by rw [typeLookup_type, builtinLookup_eq_fast]; kernel_rfl
theorem pk_slot_init : Slot "itertools.permutations" "__init__" "object.__init__" :=
  .of (owner := "object") (n := "__init__") (by rw [typeLookup_type, builtinLookup_eq_fast]; kernel_rfl) (by decide +kernel) (by decide +kernel) (by decide +kernel)
    (by first | exact .inl (by decide +kernel) | exact .inr (by decide +kernel)) (by rw [isSubtype_type]; kernel_rfl)
theorem pk_sub : isSubtype (.type "itertools.permutations") (.type "itertools.permutations") = pure true := by rw [isSubtype_type]; kernel_rfl
theorem pk_called : TypeCalled "itertools.permutations" "itertools.permutations.__new__" "object.__init__" :=
  ⟨by decide +kernel, by decide +kernel, ⟨_, _, pk_mro⟩, madeBy_type pk_mro pk_lookup_new (by decide +kernel), by decide +kernel, pk_sub, pk_slot_init⟩
theorem pk_typeCall (a : Value) : checkTypeCall "itertools.permutations" ⟨[a], []⟩ = pure () := by kernel_rfl
theorem pk_newCall (a : Value) : checkBuiltinCall "itertools.permutations.__new__" ⟨[.type "itertools.permutations", a], []⟩ = pure () := by kernel_rfl
theorem pk_entry_new : entryFor table "itertools.permutations.__new__" = some Builtin.«itertools.permutations.__new__» := entryFor_of_tree (by kernel_rfl)
theorem pk_plain_new : plainId "itertools.permutations.__new__" = true := by decide +kernel
theorem pk_slot_iter : Slot "itertools.permutations" "__iter__" "itertools.permutations.__iter__" :=
  .of (owner := "itertools.permutations") (n := "__iter__") (by rw [typeLookup_type, builtinLookup_eq_fast]; kernel_rfl) (by decide +kernel) (by decide +kernel) (by decide +kernel)
    (by first | exact .inl (by decide +kernel) | exact .inr (by decide +kernel)) pk_sub
theorem pk_slot_next : Slot "itertools.permutations" "__next__" "itertools.permutations.__next__" :=
  .of (owner := "itertools.permutations") (n := "__next__") (by rw [typeLookup_type, builtinLookup_eq_fast]; kernel_rfl) (by decide +kernel) (by decide +kernel) (by decide +kernel)
    (by first | exact .inl (by decide +kernel) | exact .inr (by decide +kernel)) pk_sub
theorem pk_entry_iter : entryFor table "itertools.permutations.__iter__" = some Builtin.«dict_keyiterator.__iter__» :=
  entryFor_alias (id' := "dict_keyiterator.__iter__") (by kernel_rfl) (by first | rfl | decide +kernel | (unfold String.splitOn; simp +decide [String.splitOnAux])) (by decide +kernel) (by kernel_rfl)
theorem pk_entry_next : entryFor table "itertools.permutations.__next__" = some Builtin.«itertools.permutations.__next__» := entryFor_of_tree (by kernel_rfl)
theorem pk_owner : Manifest.owners.lookup (String.ofList ['s', 'n', 'o', 'i', 't', 'a', 't', 'u', 'm', 'r', 'e', 'p', '.', 's', 'l', 'o', 'o', 't', 'r', 'e', 't', 'i'].reverse) = some Manifest.sig_itertools_permutations := by kernel_rfl
theorem pk_args_iter (a : Value) : argsOk "itertools.permutations.__iter__" ⟨[a], []⟩ := by
  unfold argsOk; rw [signature?_of (id := "itertools.permutations.__iter__") (n := ['_', '_', 'r', 'e', 't', 'i', '_', '_']) (o := ['s', 'n', 'o', 'i', 't', 'a', 't', 'u', 'm', 'r', 'e', 'p', '.', 's', 'l', 'o', 'o', 't', 'r', 'e', 't', 'i']) (by kernel_rfl) pk_owner]; kernel_rfl
theorem pk_args_next (a : Value) : argsOk "itertools.permutations.__next__" ⟨[a], []⟩ := by
  unfold argsOk; rw [signature?_of (id := "itertools.permutations.__next__") (n := ['_', '_', 't', 'x', 'e', 'n', '_', '_']) (o := ['s', 'n', 'o', 'i', 't', 'a', 't', 'u', 'm', 'r', 'e', 'p', '.', 's', 'l', 'o', 'o', 't', 'r', 'e', 't', 'i']) (by kernel_rfl) pk_owner]; kernel_rfl
theorem pk_noDict : typeHasDict (.type "itertools.permutations") = false := by decide +kernel
abbrev nums (ns : List Nat) : List Value := ns.map fun (i : Nat) => rawInt i
def pmF (T : Addr) (n : Nat) (st : Int) (res : Value) (ns : List Nat) : Array Value := ([Value.ref T, .int st 0, .int n 0, res] ++ nums ns).toArray
/-- a permutations object: its items, how far it is, its numbers -/
def IsPm (h : Heap) (it T : Addr) (n : Nat) (st : Int) (res : Value) (ns : List Nat) : Prop :=
  h.get? it = some { cls := .type "itertools.permutations", dict := none, data := .fields (pmF T n st res ns), slots := #[] }
def IsTp (h : Heap) (T : Addr) (items : Array Value) : Prop := h.get? T = some { cls := .type "tuple", dict := none, data := .seq items 0, slots := #[] }
end Q
/-! PL: permutations(range(n)), made and walked. -/
namespace Q
open PySem PySem.Spec PyProof.Rows L2
open PySem.Sem (wp)
section
variable {prog : Program} {w : World} {A : Around} {E : Value → Shared → Prop} {s : Shared}
theorem pk_new {r : Addr} {a b c : Int} {t u v : Tok} {n : Nat} {Q₁ : Value → Shared → Prop} (hh : A.handled = none) (hr : IsRange s.heap r a b c t u v) (hsmall : Builtin.Range.small a b c = true) (hn : Builtin.Range.rangeSize a b c = n) (hlen : n ≤ 2 ^ 19)
    (h : ∀ (h' : Heap) (tk : Nat) (acc : Array Value), (∀ b o, s.heap.get? b = some o → h'.get? b = some o) → ItemsOf (fun i v => ∃ t, v = .int (a + i * c) t) acc n →
      Q₁ (.ref (h'.push { cls := .type "tuple", data := .seq acc }).objs.size) { s with heap := (h'.push { cls := .type "tuple", data := .seq acc }).push { cls := .type "itertools.permutations", data := .fields (pmF h'.objs.size n 0 .none (List.range n ++ (List.range n).map fun i => n - i)) }, toks := tk }) :
    codeAny (model prog w) A (.call (.builtin "itertools.permutations.__new__") ⟨[.type "itertools.permutations", .ref r], []⟩) (wants Q₁ E) s := by
  refine codeAny_of_tree ?_
  show wpAny _ A.in1 (do checkBuiltinCall "itertools.permutations.__new__" ⟨[.type "itertools.permutations", .ref r], []⟩; again (.builtin "itertools.permutations.__new__" ⟨[.type "itertools.permutations", .ref r], []⟩)) _ _ s
  refine wpAny_bind (wpAny_of_eq (pk_newCall _) (wpAny_pure ⟨plainId_quiet pk_plain_new _, codeAny_builtin pk_entry_new ?_⟩))
  rw [Around.under_plainId pk_plain_new _]
  have hsub := pk_sub
  have hd := pk_noDict
  have hh1 : A.in1.handled = none := hh
  unfold Builtin.«itertools.permutations.__new__»
  wp_walk
  refine wpAny_of_eq pk_sub ?_
  wp_walk using collect_range (A := A.in1) hh1 hr hsmall hn (Nat.le_trans hlen (by decide))
  intro h' tk acc hk hacc
  have hl : acc.toList.length = n := by rw [Array.length_toList]; exact hacc.1
  refine wpAny_bind (m := pure _) (wpAny_pure ?_)
  show wpAny _ _ (if ((acc.toList.length : Nat) : Int) < 0 then _ else _) _ _ _
  rw [if_neg (by omega)]
  show wpAny _ _ (if Builtin.Itertools.itTooMany ((acc.toList.length : Nat) : Int) = true then _ else _) _ _ _
  rw [if_neg (by unfold Builtin.Itertools.itTooMany; rw [hl]; simp only [gt_iff_lt, decide_eq_true_eq]; omega)]
  refine wpAny_bind (wpAny_newTuple ?_ (by rw [hl, sizeLine_eq]; omega))
  refine wpAny_bind ?_
  unfold Builtin.Itertools.itNewRecord
  rw [hd, if_pos (by rfl)]
  have ef : ([Value.ref h'.objs.size, rawInt (if (((acc.toList.length : Nat) : Int).toNat) > acc.toList.length then 2 else 0), rawInt ((((acc.toList.length : Nat) : Int).toNat : Nat) : Int), Value.none] ++ (List.range acc.toList.length).map (fun (i : Nat) => rawInt i) ++ (List.range (((acc.toList.length : Nat) : Int).toNat)).map fun (i : Nat) => rawInt (((acc.toList.length : Nat) : Int) - i)).toArray = pmF h'.objs.size n 0 .none (List.range n ++ (List.range n).map fun i => n - i) := by
    unfold pmF nums
    rw [hl, Int.toNat_natCast, if_neg (by omega), List.map_append, List.map_map, List.append_assoc]
    congr 2
    congr 1
    apply List.map_congr_left
    intro i hi
    have := List.mem_range.mp hi
    show rawInt ((n : Int) - (i : Int)) = rawInt (((n - i : Nat)) : Int)
    congr 1
    omega
  refine wpAny_newObj_type ?_ (by
    show Array.size _ ≤ _
    rw [ef]
    unfold pmF nums
    simp only [List.size_toArray, List.length_append, List.length_map, List.length_range, List.length_cons, List.length_nil, sizeLine_eq]
    omega)
  refine wpAny_pure ?_
  rw [ef]
  have e : acc.toList.toArray = acc := by simp
  rw [e]
  exact h h' tk acc hk hacc
end
end Q
/-! PN: the next one of permutations. -/
namespace Q
open PySem PySem.Spec PyProof.Rows L2
open PySem.Sem (wp)
theorem pmF_nums (T : Addr) (n : Nat) (st : Int) (res : Value) (ns : List Nat) : (((pmF T n st res ns).toList.drop 4).map fun | .int n _ => n.toNat | _ => 0) = ns := by
  unfold pmF nums
  show ((ns.map fun (i : Nat) => rawInt i).map _) = ns
  rw [List.map_map]
  conv => rhs; rw [← List.map_id ns]
  apply List.map_congr_left
  intro i _
  rfl
section
variable {prog : Program} {w : World} {A : Around} {E : Value → Shared → Prop} {s : Shared}
/-- what the numbers become, and the row of places that is given -/
def Nxt (n : Nat) (st : Int) (ns ix ns' : List Nat) : Prop := (st = 0 ∧ ns' = ns ∧ ix = ns) ∨ (st = 1 ∧ ∃ b, npS.1 n n (ns.take n) (ns.drop n) = some (ix, b) ∧ ns' = ix ++ b)
theorem pm_load {it T : Addr} {n : Nat} {st : Int} {res : Value} {ns : List Nat} {h : Heap} (hz : IsPm h it T n st res ns) (f : Array Value → Array Value) :
    (h.update it (Obj.mapFields f)).get? it = some { cls := .type "itertools.permutations", dict := none, data := .fields (f (pmF T n st res ns)), slots := #[] } := Heap.get?_update_self _ hz rfl
theorem pk_numbers {it T : Addr} {n : Nat} {st : Int} {res : Value} {ns : List Nat} {Q : List Nat → Shared → Prop} (hz : IsPm s.heap it T n st res ns) (h : Q ns s) : wpAny (model prog w) A (Builtin.Itertools.itNumbersFrom (.ref it) 4) Q E s := by
  refine wpAny_bind (wpAny_load hz (wpAny_pure ?_))
  exact cast (congrArg (fun z => Q z s) (pmF_nums T n st res ns).symm) h
theorem pm_give {it T : Addr} {n : Nat} {st : Int} {res : Value} {ns ix : List Nat} {items : Array Value} {p : Nat} {Q : Value → Shared → Prop} (hp : s.heap.objs.size = p) (hz : IsPm s.heap it T n st res ns) (hT : IsTp s.heap T items) (hn : n ≤ 1000) (hiT : it ≠ T)
    (hQ : ∀ h', IsPm h' it T n st (.ref p) ns → IsTp h' p ((ix.take ((n : Int).toNat)).map fun i => items.getD i .none).toArray → h'.objs.size = p + 1 →
      (∀ c o, c ≠ it → s.heap.get? c = some o → h'.get? c = some o) → Q (.ref p) { s with heap := h' }) :
    wpAny (model prog w) A (newTuple ((ix.take ((n : Int).toNat)).map fun i => items.getD i .none) >>= fun t => field (.ref it) 3 >>= fun old => setField (.ref it) 3 t >>= fun _ => letGo [old] [t] >>= fun _ => ret t)
      (fun fin s' => ∃ v, fin = .done (.ret v) ∧ Q v s') E s := by
  subst hp
  have hlt := Heap.lt_size hz
  refine wpAny_bind (wpAny_newTuple ?_ (by rw [List.length_map, List.length_take, sizeLine_eq]; omega))
  have hz1 : IsPm (s.heap.push { cls := .type "tuple", data := .seq ((ix.take ((n : Int).toNat)).map fun i => items.getD i .none).toArray }) it T n st res ns := Heap.get?_push_of_some _ hz
  have ht1 : IsTp (s.heap.push { cls := .type "tuple", data := .seq ((ix.take ((n : Int).toNat)).map fun i => items.getD i .none).toArray }) s.heap.objs.size ((ix.take ((n : Int).toNat)).map fun i => items.getD i .none).toArray := Heap.get?_push_size _ rfl
  refine wpAny_bind (wpAny_field hz1 rfl (x := res) rfl ?_)
  refine wpAny_bind (wpAny_setField_rec hz1 (by simp [pmF]) fun h2 hz2 hs2 => ?_)
  refine wpAny_bind (wpAny_letGo ?_)
  refine wpAny_pure ⟨_, rfl, ?_⟩
  refine hQ h2 ?_ ?_ ?_ ?_
  · show h2.get? it = _
    rw [hz2]
    rfl
  · exact hs2.extBut _ _ (Nat.ne_of_gt hlt) ht1
  · rw [hs2.1, Heap.size_push]
  · exact fun c o c1 e => hs2.extBut _ _ c1 (Heap.get?_push_of_some _ e)
theorem pm_next {it T : Addr} {n : Nat} {st : Int} {res : Value} {ns ix ns' : List Nat} {items : Array Value} {Q : Value → Shared → Prop} (hz : IsPm s.heap it T n st res ns) (hT : IsTp s.heap T items) (hsz : items.size = n) (hn : n ≤ 1000) (hiT : it ≠ T)
    (hx : Nxt n st ns ix ns') (hl : ns'.length ≤ 10000)
    (hQ : ∀ h', IsPm h' it T n 1 (.ref s.heap.objs.size) ns' → IsTp h' s.heap.objs.size ((ix.take ((n : Int).toNat)).map fun i => items.getD i .none).toArray → h'.objs.size = s.heap.objs.size + 1 →
      (∀ c o, c ≠ it → s.heap.get? c = some o → h'.get? c = some o) → Q (.ref s.heap.objs.size) { s with heap := h' }) :
    wpAny (model prog w) A (Builtin.«itertools.permutations.__next__» ⟨[.ref it], []⟩) (fun fin s' => ∃ v, fin = .done (.ret v) ∧ Q v s') E s := by
  rw [npS.2]
  show wpAny _ _ (nxA npS.1 (.ref it)) _ _ s
  unfold nxA
  refine wpAny_bind (wpAny_field hz rfl (x := .ref T) rfl ?_)
  refine wpAny_bind (wpAny_bind (wpAny_seqItems hT rfl (wpAny_pure ?_)))
  refine wpAny_bind (wpAny_bind (wpAny_field hz rfl (x := .int n 0) rfl (wpAny_pure ?_)))
  refine wpAny_bind (pk_numbers hz ?_)
  refine wpAny_bind (wpAny_bind (wpAny_field hz rfl (x := .int st 0) rfl (wpAny_pure ?_)))
  rcases hx with ⟨rfl, rfl, rfl⟩ | ⟨rfl, b, hb, rfl⟩
  · refine wpAny_bind (wpAny_setField_rec hz (by simp [pmF]) fun h2 hz2 hs2 => ?_)
    have hz2' : IsPm h2 it T n 1 res _ := hz2.trans rfl
    refine pm_give (s := { s with heap := h2 }) hs2.1 hz2' (hs2.extBut _ _ hiT.symm hT) hn hiT fun h' a1 a2 a3 a4 => ?_
    exact hQ h' a1 a2 a3 fun c o c1 e => a4 c o c1 (hs2.extBut _ _ c1 e)
  · rw [hsz, Int.toNat_natCast, hb]
    refine wpAny_bind (wpAny_updateFields hz rfl ?_ ?_)
    · have hz2 := pm_load hz fun fs => fs.extract 0 4 ++ ((ix ++ b).map fun (n : Nat) => rawInt n).toArray
      have hs2 : Heap.SameBut it s.heap (s.heap.update it (Obj.mapFields fun fs => fs.extract 0 4 ++ ((ix ++ b).map fun (n : Nat) => rawInt n).toArray)) := Heap.SameBut.update ..
      have hz2' : IsPm (s.heap.update it (Obj.mapFields fun fs => fs.extract 0 4 ++ ((ix ++ b).map fun (n : Nat) => rawInt n).toArray)) it T n 1 res (ix ++ b) := by
        refine hz2.trans ?_
        congr 2
        apply congrArg Data.fields
        unfold pmF nums
        apply Array.toList_inj.mp
        simp
      refine pm_give (s := { s with heap := _ }) hs2.1 hz2' (hs2.extBut _ _ hiT.symm hT) hn hiT fun h' a1 a2 a3 a4 => ?_
      exact hQ h' a1 (by rw [Int.toNat_natCast] at a2; rw [Int.toNat_natCast]; exact a2) a3 fun c o c1 e => a4 c o c1 (hs2.extBut _ _ c1 e)
    · simp only [Array.size_append, Array.size_extract, List.size_toArray, List.length_map]
      rw [sizeLine_eq]
      omega
end
end Q
/-! PO: permutations as a thing to walk. -/
namespace Q
open PySem PySem.Spec PyProof.Rows L2
open PySem.Sem (wp)
section
variable {prog : Program} {w : World} {A : Around} {E : Value → Shared → Prop} {s : Shared}
theorem pm_stop {it T : Addr} {n : Nat} {res : Value} {ns : List Nat} {items : Array Value} {Q : PySem.Fin → Shared → Prop} (hh : A.handled = none) (hz : IsPm s.heap it T n 1 res ns) (hT : IsTp s.heap T items) (hsz : items.size = n)
    (hx : npS.1 n n (ns.take n) (ns.drop n) = none)
    (hE : ∀ h' e, (∀ c o, c ≠ it → s.heap.get? c = some o → h'.get? c = some o) → (∃ o, h'.get? e = some o ∧ o.cls = .type "StopIteration") → E (.ref e) { s with heap := h' }) :
    wpAny (model prog w) A (Builtin.«itertools.permutations.__next__» ⟨[.ref it], []⟩) Q E s := by
  rw [npS.2]
  show wpAny _ _ (nxA npS.1 (.ref it)) _ _ s
  unfold nxA
  refine wpAny_bind (wpAny_field hz rfl (x := .ref T) rfl ?_)
  refine wpAny_bind (wpAny_bind (wpAny_seqItems hT rfl (wpAny_pure ?_)))
  refine wpAny_bind (wpAny_bind (wpAny_field hz rfl (x := .int n 0) rfl (wpAny_pure ?_)))
  refine wpAny_bind (pk_numbers hz ?_)
  refine wpAny_bind (wpAny_bind (wpAny_field hz rfl (x := .int 1 0) rfl (wpAny_pure ?_)))
  rw [hsz, Int.toNat_natCast, hx]
  refine wpAny_bind (wpAny_setField_rec hz (by simp [pmF]) fun h2 hz2 hs2 => ?_)
  show wpAny _ _ (newExc (.type "StopIteration") [] >>= _) _ _ _
  refine wpAny_bind ?_
  simp only [newExc, newTuple]
  refine wpAny_bind (wpAny_newObj_type ?_ (by size_fits))
  refine wpAny_bind (m := firstArgMember _ _) (wpAny_of_eq (a := Value.none) (by first | rfl | (simp only [firstArgMember]; rfl)) ?_)
  refine wpAny_newObj_type ?_ (by size_fits)
  simp only [raiseNew]
  refine wpAny_bind (wpAny_handled ?_)
  first | rw [show A.in1.handled = none from hh] | rw [hh]
  refine wpAny_bind (wpAny_pure (wpAny_throw ?_))
  exact hE _ _ (fun c o c1 e => ((hs2.extBut.push _).push _) c o c1 e) ⟨_, Heap.get?_push_size _ rfl, rfl⟩
theorem pm_pyNext {it T : Addr} {n : Nat} {st : Int} {res : Value} {ns ix ns' : List Nat} {items : Array Value} {Q : Option Value → Shared → Prop} (hz : IsPm s.heap it T n st res ns) (hT : IsTp s.heap T items) (hsz : items.size = n) (hn : n ≤ 1000) (hiT : it ≠ T)
    (hx : Nxt n st ns ix ns') (hl : ns'.length ≤ 10000)
    (hQ : ∀ h', IsPm h' it T n 1 (.ref s.heap.objs.size) ns' → IsTp h' s.heap.objs.size ((ix.take ((n : Int).toNat)).map fun i => items.getD i .none).toArray → h'.objs.size = s.heap.objs.size + 1 →
      (∀ c o, c ≠ it → s.heap.get? c = some o → h'.get? c = some o) → Q (some (.ref s.heap.objs.size)) { s with heap := h' }) :
    wpAny (model prog w) A (pyNext (.ref it)) Q E s := by
  have hY : s.TypeIs (.ref it) "itertools.permutations" := ⟨_, hz, rfl⟩
  unfold pyNext
  exact wpAny_bind (wpAny_attempt (wpAny_callSpecial?_slot (name := Str.ofString "__next__") hY pk_slot_next
    (wpAny_call_entry pk_slot_next hY pk_entry_next (pm_next hz hT hsz hn hiT hx hl fun h' a1 a2 a3 a4 => wpAny_pure (hQ h' a1 a2 a3 a4)) (pk_args_next _))))
theorem pm_pyNext_end {it T : Addr} {n : Nat} {res : Value} {ns : List Nat} {items : Array Value} {Q : Option Value → Shared → Prop} (hh : A.handled = none) (hz : IsPm s.heap it T n 1 res ns) (hT : IsTp s.heap T items) (hsz : items.size = n)
    (hx : npS.1 n n (ns.take n) (ns.drop n) = none)
    (hQ : ∀ h', (∀ c o, c ≠ it → s.heap.get? c = some o → h'.get? c = some o) → Q none { s with heap := h' }) : wpAny (model prog w) A (pyNext (.ref it)) Q E s := by
  have hY : s.TypeIs (.ref it) "itertools.permutations" := ⟨_, hz, rfl⟩
  unfold pyNext
  refine wpAny_bind (wpAny_attempt (wpAny_callSpecial?_slot (name := Str.ofString "__next__") hY pk_slot_next
    (wpAny_call_entry pk_slot_next hY pk_entry_next (pm_stop hh hz hT hsz hx fun h' e hk he => ?_) (pk_args_next _))))
  obtain ⟨o, ho, hc⟩ := he
  refine wpAny_bind (wpAny_isInstance (T := "StopIteration") (b := true) ⟨o, ho, hc⟩ isSubtype_stop ?_)
  exact wpAny_pure (hQ _ hk)
theorem pk_iter {it : Addr} {Q : Value → Shared → Prop} (hT : s.TypeIs (.ref it) "itertools.permutations") (h : Q (.ref it) s) : wpAny (model prog w) A (pyIter (.ref it)) Q E s := by
  refine wpAny_pyIter_slot hT pk_slot_iter (wpAny_call_entry pk_slot_iter hT pk_entry_iter ?_ (pk_args_iter _))
  show wpAny _ _ (ret (.ref it)) _ _ s
  exact wpAny_pure ⟨_, rfl, "itertools.permutations", _, hT, pk_slot_next.lookup, h⟩
theorem call_perm {r : Addr} {a b c : Int} {t u v : Tok} {n : Nat} {Q : Value → Shared → Prop} (hh : A.handled = none) (hr : IsRange s.heap r a b c t u v) (hsmall : Builtin.Range.small a b c = true) (hn : Builtin.Range.rangeSize a b c = n) (hlen : n ≤ 2 ^ 19)
    (h : ∀ (h1 h' : Heap) (tk : Nat) (acc : Array Value), (∀ b o, s.heap.get? b = some o → h1.get? b = some o) → (∀ b o, h1.get? b = some o → h'.get? b = some o) → ItemsOf (fun i v => ∃ t, v = .int (a + i * c) t) acc n →
      IsTp h' h1.objs.size acc → IsPm h' (h1.objs.size + 1) h1.objs.size n 0 .none (List.range n ++ (List.range n).map fun i => n - i) → Q (.ref (h1.objs.size + 1)) { s with heap := h', toks := tk }) :
    wpAny (model prog w) A (call (.type "itertools.permutations") [.ref r]) Q E s := by
  refine callType_codes (Q₁ := fun obj s₁ => s₁.TypeIs obj "itertools.permutations" ∧ Q obj s₁) pk_called (pk_typeCall _) F.entry_object_init
    (pk_new (A := A.in1) hh hr hsmall hn hlen fun h' tk acc hk hacc => ⟨⟨_, Heap.get?_push_size _ rfl, rfl⟩, ?_⟩) fun obj s₁ h₁ => ?_
  · have q := h h' _ tk acc hk (fun b o e => Heap.get?_push_of_some _ (Heap.get?_push_of_some _ e)) hacc (Heap.get?_push_of_some _ (Heap.get?_push_size _ rfl)) (by
      have := Heap.get?_push_size (h'.push { cls := .type "tuple", data := .seq acc }) (o := { cls := .type "itertools.permutations", data := .fields (pmF h'.objs.size n 0 .none (List.range n ++ (List.range n).map fun i => n - i)) }) rfl
      rw [Heap.size_push] at this
      exact this)
    rw [Heap.size_push]
    exact q
  · exact ⟨h₁.1, F.args_object_init_2 obj _, object_init_meets pk_called.init.lookup pk_called.made (by decide) prog w A.in1 _ s₁ ⟨h₁.1, rfl, h₁.2⟩⟩
end
/-! ### what is walked -/
def sq (n : Nat) : Nat → Option (List Nat × List Nat)
  | 0 => some (List.range n, (List.range n).map fun i => n - i)
  | i + 1 => (sq n i).bind fun p => npS.1 n n p.1 p.2
def sqOk (n : Nat) (p : List Nat × List Nat) : Bool := p.1.length == n && Nat.ble p.2.length 1000 && p.1.all fun x => Nat.blt x n
def ItP (n : Nat) : It := ⟨fun i _ => ∃ p, sq n i = some p ∧ sqOk n p = true,
  fun i H v H' => ∃ T p, v = .ref T ∧ H T = none ∧ sq n i = some p ∧ H' = upd H T (.tup (p.1.map fun k : Nat => V.int k)),
  fun i _ => sq n i = none⟩
theorem vals_ix {items : Array Value} {n : Nat} (h : ∀ k, k < n → ∃ t, items[k]? = some (.int k t)) : ∀ l : List Nat, (∀ x ∈ l, x < n) → Vals (l.map fun k : Nat => V.int k) (l.map fun i => items.getD i .none)
  | [], _ => .nil
  | x :: l, hl => by
    obtain ⟨t, e⟩ := h x (hl x List.mem_cons_self)
    refine .cons ⟨t, ?_⟩ (vals_ix h l fun y hy => hl y (List.mem_cons_of_mem _ hy))
    show items.getD x .none = _
    rw [Array.getD_eq_getD_getElem?, e]; rfl
theorem turn_perm {P : Program} {w : World} {K : PySem.W.Frag} {tg : Expr} {it T : Addr} {n : Nat} {items : Array Value} (hiT : it ≠ T) (hn : n ≤ 1000) (hsz : items.size = n) (hi : ∀ k, k < n → ∃ t, items[k]? = some (.int k t)) :
    Turn P w K tg (ItP n) [it, T] it (fun i h => IsTp h T items ∧ ((i = 0 ∧ ∃ res, IsPm h it T n 0 res (List.range n ++ (List.range n).map fun i => n - i)) ∨ (∃ j res p, i = j + 1 ∧ sq n j = some p ∧ sqOk n p = true ∧ IsPm h it T n 1 res (p.1 ++ p.2)))) where
  mem := by simp
  obj := fun i h st b hb => by
    have e : b = it ∨ b = T := by simpa using hb
    obtain ⟨hT, hz⟩ := st
    rcases e with rfl | rfl
    · rcases hz with ⟨_, res, hz⟩ | ⟨j, res, p, _, _, _, hz⟩
      · exact ⟨_, hz, fun v z => by cases z⟩
      · exact ⟨_, hz, fun v z => by cases z⟩
    · exact ⟨_, hT, fun v z => by cases z⟩
  keep := fun i h h' st k => by
    obtain ⟨hT, hz⟩ := st
    refine ⟨k T (by simp) _ hT, ?_⟩
    rcases hz with ⟨e, res, hz⟩ | ⟨j, res, p, e1, e2, e3, hz⟩
    · exact .inl ⟨e, res, k it (by simp) _ hz⟩
    · exact .inr ⟨j, res, p, e1, e2, e3, k it (by simp) _ hz⟩
  item := by
    intro X hP hw hK hc i pins s σ H E I hf st hg
    subst hP hw hK
    obtain ⟨hT, hz⟩ := st
    obtain ⟨p, hp, hok⟩ := hg
    have hok' := hok
    unfold sqOk at hok'
    simp only [Bool.and_eq_true, beq_iff_eq, Nat.ble_eq, List.all_eq_true] at hok'
    obtain ⟨⟨o1, o2⟩, o3⟩ := hok'
    have o3 : ∀ x ∈ p.1, x < n := fun x hx => by simpa using o3 x hx
    obtain ⟨st, res, ns, ix, hz, hx, hix⟩ : ∃ (st : Int) (res : Value) (ns ix : List Nat), IsPm s.heap it T n st res ns ∧ Nxt n st ns ix (p.1 ++ p.2) ∧ ix.take n = p.1 := by
      rcases hz with ⟨rfl, res, hz⟩ | ⟨j, res, q, rfl, e2, e3, hz⟩
      · cases (show some (List.range n, (List.range n).map fun i => n - i) = some p from hp)
        refine ⟨0, res, _, _, hz, .inl ⟨rfl, rfl, rfl⟩, ?_⟩
        exact List.take_left' List.length_range
      · unfold sqOk at e3
        simp only [Bool.and_eq_true, beq_iff_eq, Nat.ble_eq, List.all_eq_true] at e3
        have e : npS.1 n n q.1 q.2 = some p := by
          have : sq n (j + 1) = (sq n j).bind fun p => npS.1 n n p.1 p.2 := rfl
          rw [this, e2] at hp
          exact hp
        refine ⟨1, res, _, p.1, hz, .inr ⟨rfl, p.2, ?_, rfl⟩, by rw [← o1, List.take_length]⟩
        rw [List.take_left' e3.1.1, List.drop_left' e3.1.1]
        exact e
    refine pm_pyNext hz hT hsz hn hiT hx (by rw [List.length_append]; omega) fun h' a1 a2 a3 a4 => ?_
    rw [Int.toNat_natCast, hix] at a2
    have hTl : T < s.heap.objs.size := Heap.lt_size hT
    have hil : it < s.heap.objs.size := Heap.lt_size hz
    refine ⟨_, rfl, go_of (s := { s with heap := h' }) a1 rfl rfl (by decide) ?_⟩
    have new : ObjOk X.prog X.w (upd H s.heap.objs.size (.tup (p.1.map fun k : Nat => V.int k))) h' s.heap.objs.size (.tup (p.1.map fun k : Nat => V.int k)) :=
      ⟨by rw [List.length_map, o1, sizeLine_eq]; omega, _, vals_ix hi p.1 o3, ⟨_, a2, rfl, _, rfl⟩⟩
    have I1 : Inv X pins σ (upd H s.heap.objs.size (.tup (p.1.map fun k : Nat => V.int k))) { s with heap := h' } :=
      I.turnedNew (t' := s.toks) (ch := [it, T]) (fun c o hb q => a4 c o (fun q' => hb (by simp [q'])) q) hf (Nat.le_refl _) new
    refine ⟨.ref s.heap.objs.size, _, I1, rfl, ⟨_, p, rfl, I.hok.fresh (Nat.le_refl _), hp, rfl⟩, ⟨a4 T _ hiT.symm hT, .inr ⟨i, _, p, rfl, hp, hok, a1⟩⟩, fun c hcm => ?_⟩
    have hlt : c < s.heap.objs.size := by
      have e' : c = it ∨ c = T := by simpa using hcm
      rcases e' with q | q
      · rw [q]; exact hil
      · rw [q]; exact hTl
    rw [upd_ne (Nat.ne_of_lt hlt)]
    exact (hf c hcm).1
  done := by
    intro X hP hw hK hc i pins s σ H E I hf st hg
    subst hP hw hK
    obtain ⟨hT, hz⟩ := st
    have hg : sq n i = none := hg
    rcases hz with ⟨rfl, res, hz⟩ | ⟨j, res, q, rfl, e2, e3, hz⟩
    · cases hg
    · unfold sqOk at e3
      simp only [Bool.and_eq_true, beq_iff_eq, Nat.ble_eq, List.all_eq_true] at e3
      have e : npS.1 n n q.1 q.2 = none := by
        have : sq n (j + 1) = (sq n j).bind fun p => npS.1 n n p.1 p.2 := rfl
        rw [this, e2] at hg
        exact hg
      refine pm_pyNext_end (I.ok.hd hc) hz hT hsz (by rw [List.take_left' e3.1.1, List.drop_left' e3.1.1]; exact e) fun h' hk => ⟨rfl, I.turnedL (t' := s.toks) (ch := [it, T]) (fun c o hb q => hk c o (fun q' => hb (by simp [q'])) q) hf⟩
  self := fun A i s Q E st h => by
    obtain ⟨hT, hz⟩ := st
    rcases hz with ⟨_, res, hz⟩ | ⟨j, res, p, _, _, _, hz⟩
    · exact pk_iter ⟨_, hz, rfl⟩ h
    · exact pk_iter ⟨_, hz, rfl⟩ h
def iPm (ta : TE) : TI := fun σ H R => tRg1 ta σ H fun lo hi H1 => ∃ n : Nat, lo = 0 ∧ hi = n ∧ n ≤ 500 ∧ R (ItP n) H1
theorem pi_perm {X : Cx} {tg a : Expr} {ta : TE} {p p2 pos pos2 : Pos} (hg : Gl X "permutations") (hm : X.mg "permutations" = some (.type "itertools.permutations")) (hg2 : Gl X "range") (hm2 : X.mg "range" = none) (ha : PE X a ta)
    (na : starEach [a] X.env = (false, eval a X.env) :: starEach [] X.env := by rfl)
    (nb : starEach [.Call (.Name "range" p2) [a] [] pos2] X.env = (false, eval (.Call (.Name "range" p2) [a] [] pos2) X.env) :: starEach [] X.env := by rfl) (hc : X.calm = true := by rfl) :
    PI X tg (.Call (.Name "permutations" p) [.Call (.Name "range" p2) [a] [] pos2] [] pos) (iPm ta) := by
  refine ⟨fun pins s σ H R I h => ?_⟩
  refine Call_ (ld_glob I hg hm (PyProof.Rows.callWith_type1 (args_cons (thn (prg_1 hg2 hm2 ha na pins s σ H (fun lo hi H1 => ∃ n : Nat, lo = 0 ∧ hi = n ∧ n ≤ 500 ∧ R (ItP n) H1) I h) fun v s1 ⟨r, lo, hi, t, u, v', H1, ev, hr, I1, n, e1, e2, hn, q⟩ => args_nil ?_) nb) nb rfl))
  subst ev e1 e2
  have hs : Builtin.Range.rangeSize 0 (n : Int) 1 = n := by
    rw [rangeSize_one]
    split <;> omega
  refine call_perm (I1.ok.hd hc) hr (small_one (by decide) (by decide) (by omega) (by omega)) hs (by omega) fun h1 h' tk acc k1 k2 hacc hT hz => pk_iter (s := { s1 with heap := h', toks := tk }) ⟨_, hz, rfl⟩ ?_
  have Ia : Inv X pins σ H1 { s1 with heap := h1, toks := tk } := I1.kept k1
  have I2 : Inv X pins σ H1 { s1 with heap := h', toks := tk } := I1.kept fun b o e => k2 b o (k1 b o e)
  refine ⟨h1.objs.size + 1, [h1.objs.size + 1, h1.objs.size], _, _, H1, rfl, I2, turn_perm (items := acc) (Nat.succ_ne_self _) (by omega) hacc.1 (fun k hk => ?_), ⟨hT, .inl ⟨rfl, _, hz⟩⟩, fun b hb => ?_, q⟩
  · have hk' : k < acc.size := by rw [hacc.1]; exact hk
    obtain ⟨t, e⟩ := hacc.2 k acc[k] (Array.getElem?_eq_getElem hk')
    exact ⟨t, by rw [Array.getElem?_eq_getElem hk', e]; simp⟩
  · have e : b = h1.objs.size + 1 ∨ b = h1.objs.size := by simpa using hb
    have hle : h1.objs.size ≤ b := by
      rcases e with z | z
      · rw [z]; exact Nat.le_add_right _ _
      · rw [z]; exact Nat.le_refl _
    exact Ia.fpOk hle (Ia.hok.fresh hle)
/-! ### as a list -/
def pmRun (n : Nat) : Nat → Option (List Nat × List Nat) → List (List Nat × List Nat)
  | 0, _ => []
  | _ + 1, none => []
  | k + 1, some p => p :: pmRun n k (npS.1 n n p.1 p.2)
theorem pmRun_at {n : Nat} : ∀ (k j i : Nat) (o : Option (List Nat × List Nat)) (p : List Nat × List Nat), sq n j = o → (pmRun n k o)[i]? = some p → sq n (j + i) = some p
  | 0, _, i, _, p, _, h => by simp [pmRun] at h
  | _ + 1, _, i, none, p, _, h => by simp [pmRun] at h
  | k + 1, j, 0, some q, p, e, h => by
    simp [pmRun] at h
    subst h
    exact e
  | k + 1, j, i + 1, some q, p, e, h => by
    have h : (pmRun n k (npS.1 n n q.1 q.2))[i]? = some p := by simpa [pmRun] using h
    have e2 : sq n (j + 1) = npS.1 n n q.1 q.2 := by
      show (sq n j).bind _ = _
      rw [e]; rfl
    have := pmRun_at k (j + 1) i _ p e2 h
    rwa [Nat.add_right_comm] at this
theorem pmRun_end {n : Nat} : ∀ (k j : Nat) (o : Option (List Nat × List Nat)), sq n j = o → (pmRun n k o).length < k → sq n (j + (pmRun n k o).length) = none
  | 0, _, _, _, h => absurd h (Nat.not_lt_zero _)
  | _ + 1, _, none, e, _ => e
  | k + 1, j, some q, e, h => by
    have e2 : sq n (j + 1) = npS.1 n n q.1 q.2 := by
      show (sq n j).bind _ = _
      rw [e]; rfl
    have h : (pmRun n k (npS.1 n n q.1 q.2)).length < k := by simpa [pmRun] using h
    have := pmRun_end k (j + 1) _ e2 h
    show sq n (j + (_ + 1)) = none
    rwa [Nat.add_right_comm] at this
theorem sq_none {n : Nat} {i : Nat} (h : sq n i = none) : ∀ j, i ≤ j → sq n j = none := by
  intro j hj
  induction hj with
  | refl => exact h
  | step _ ih =>
    show (sq n _).bind _ = none
    rw [ih]; rfl
def pmAll (n : Nat) : List (List Nat × List Nat) := pmRun n 1000 (sq n 0)
def pPerm : Pv → Option (List Pv)
  | .int m => if decide (0 ≤ m) && Nat.ble m.natAbs 6 && (Nat.blt (pmAll m.natAbs).length 1000 && (pmAll m.natAbs).all (sqOk m.natAbs)) then some ((pmAll m.natAbs).map fun p => .tup (p.1.map fun k : Nat => .int k)) else none
  | _ => none
theorem rls_nats {W : Wd} : ∀ l : List Nat, Rls W (l.map fun k : Nat => Pv.int k) (l.map fun k : Nat => V.int k)
  | [] => .nil
  | x :: l => .cons .int (rls_nats l)
theorem jok_perm {n : Nat} {W0 : Wd} (h1 : (pmAll n).length < 1000) (h2 : ∀ p ∈ pmAll n, sqOk n p = true) : JOk (ItP n) ((pmAll n).map fun p => .tup (p.1.map fun k : Nat => .int k)) W0 := fun W hW ht => by
  refine ⟨fun i hi => ?_, fun i v hv => ?_⟩
  · rw [List.length_map] at hi
    have := pmRun_end 1000 0 (sq n 0) rfl h1
    rw [Nat.zero_add] at this
    exact sq_none this i hi
  · rw [List.getElem?_map] at hv
    cases e : (pmAll n)[i]? with
    | none => rw [e] at hv; cases hv
    | some p =>
      rw [e] at hv; cases hv
      have hp := pmRun_at 1000 0 i (sq n 0) p rfl e
      rw [Nat.zero_add] at hp
      refine ⟨⟨p, hp, h2 p (List.mem_of_getElem? e)⟩, fun x H' hy => ?_⟩
      obtain ⟨T, q, rfl, hT, e2, rfl⟩ := hy
      rw [hp] at e2; cases e2
      exact yld_tup ht hT (rls_nats _)
section
variable {X : Cx} {ρ : List SV} {m : Type → Type} [Monad m] [Eff m] {a tg : Expr} {p p2 pos pos2 : Pos}
theorem ei_perm {c : m Pv} (hm : X.mg "permutations" = some (.type "itertools.permutations")) (hm2 : X.mg "range" = none) (ha : Ev X ρ a c) (hg : Gl X "permutations" := by rfl) (hg2 : Gl X "range" := by rfl)
    (na : starEach [a] X.env = (false, eval a X.env) :: starEach [] X.env := by rfl)
    (nb : starEach [.Call (.Name "range" p2) [a] [] pos2] X.env = (false, eval (.Call (.Name "range" p2) [a] [] pos2) X.env) :: starEach [] X.env := by rfl) (hc : X.calm = true := by rfl) :
    Ei X ρ tg (.Call (.Name "permutations" p) [.Call (.Name "range" p2) [a] [] pos2] [] pos) (b1 pPerm c) := PI.imp (pi_perm hg hm hg2 hm2 ha na nb hc) fun σ H R q => by
  obtain ⟨G, ι, μ, l, μ', rs, hr, q⟩ := q
  obtain ⟨v, μ1, h1, h2⟩ := inv_bind hr
  obtain ⟨h5, rfl⟩ := inv_lift h2
  refine ⟨G, ι, μ, v, _, rs, h1, fun x H1 ι1 st1 z1 => ?_⟩
  unfold pPerm at h5
  split at h5
  · split at h5
    · rename_i m' hc'
      cases h5
      simp only [Bool.and_eq_true, decide_eq_true_eq, Nat.ble_eq, List.all_eq_true] at hc'
      obtain ⟨⟨c1, c2⟩, c3, c4⟩ := hc'
      have c3 : (pmAll m'.natAbs).length < 1000 := by simpa using c3
      refine ⟨m', z1.2.intE, m'.natAbs, rfl, by omega, by omega, ?_⟩
      exact q _ H1 ι1 st1 z1.1 (jok_perm c3 c4)
    · cases h5
  · cases h5
end
theorem pmAll_4 : (pmAll 4).map (·.1) = [[0,1,2,3],[0,1,3,2],[0,2,1,3],[0,2,3,1],[0,3,1,2],[0,3,2,1],[1,0,2,3],[1,0,3,2],[1,2,0,3],[1,2,3,0],[1,3,0,2],[1,3,2,0],[2,0,1,3],[2,0,3,1],[2,1,0,3],[2,1,3,0],[2,3,0,1],[2,3,1,0],[3,0,1,2],[3,0,2,1],[3,1,0,2],[3,1,2,0],[3,2,0,1],[3,2,1,0]] := by decide +kernel
end Q
/-! LH: lists of the store. -/
namespace Q
open PySem PySem.Spec PyProof.Rows L2
/-- the list at a place of the store -/
def lsAt (μ : List MO) : Pv → Option (Nat × List Pv)
  | .loc n => match μ[n]? with
    | some (.ls l) => some (n, l)
    | _ => none
  | _ => none
section
variable {K : PySem.W.Frag} {G : Addr → Prop} {ι : List Addr} {μ : List MO} {ρ : List SV} {σ : L2.St} {H : Hp}
theorem lsAt_inv {d : Pv} {n : Nat} {l : List Pv} (h : lsAt μ d = some (n, l)) : d = .loc n ∧ μ[n]? = some (.ls l) := by
  unfold lsAt at h
  split at h
  · split at h
    · cases h; exact ⟨rfl, by assumption⟩
    · cases h
  · cases h
theorem RS.ls (r : RS K G ι μ ρ σ H) {d : Pv} {n : Nat} {l : List Pv} {x : V} (h : lsAt μ d = some (n, l)) (rx : Rl (wd K G ι ρ σ H) d x) : ∃ a vs, x = .ref a ∧ ι[n]? = some a ∧ H a = some (.lst vs) ∧ Rls (wd K G ι ρ σ H) l vs := by
  obtain ⟨rfl, e⟩ := lsAt_inv h
  obtain ⟨a, h1, vs, h2, h3⟩ := r.st n _ e
  unfold Rl at rx
  obtain ⟨b, h4, rfl⟩ := rx
  have h4 : ι[n]? = some b := h4
  rw [h1] at h4; cases h4
  exact ⟨a, vs, rfl, h1, h2, h3⟩
end
/-- a new list goes to the store -/
def nlM (l : List Pv) : M Pv := fun μ => some (.loc μ.length, μ ++ [.ls l])
def pIxS (d k : Pv) : M Pv := fun μ => (lsAt μ d).bind fun p => match k with
  | .int i => (atI p.2 i).map fun v => (v, μ)
  | _ => none
def setS (d k v : Pv) : M Unit := fun μ => (lsAt μ d).bind fun p => match k with
  | .int i => (ixN p.2.length i).map fun j => ((), μ.set p.1 (.ls (p.2.set j v)))
  | _ => none
def capS (d v : Pv) : M Unit := fun μ => (lsAt μ d).bind fun p => if p.2.length < LIM then some ((), μ.set p.1 (.ls (p.2 ++ [v]))) else none
def popS (d : Pv) : M Unit := fun μ => (lsAt μ d).bind fun p => if p.2 = [] then none else some ((), μ.set p.1 (.ls p.2.dropLast))
def lenS (d : Pv) : M Pv := fun μ => (lsAt μ d).map fun p => (.int p.2.length, μ)
def tupS (d : Pv) : M Pv := fun μ => (lsAt μ d).map fun p => (.tup p.2, μ)
def lstS (d : Pv) : M (List Pv) := fun μ => (lsAt μ d).map fun p => (p.2, μ)
section
variable {X : Cx} {ρ : List SV} {e a b : Expr} {pos : Pos} {ca cb : M Pv}
theorem ev_nl {c : M (List Pv)} (h : En X ρ e c) : Ev X ρ e (c >>= nlM) := PE.imp h fun σ H Q q => by
  obtain ⟨G, ι, μ, v, μ', rs, hr, q⟩ := q
  obtain ⟨l, μ1, h1, h2⟩ := inv_bind hr
  have h2 : some (Pv.loc μ1.length, μ1 ++ [MO.ls l]) = some (v, μ') := h2
  cases h2
  refine ⟨G, ι, μ, l, μ1, rs, h1, fun x H1 ι1 st1 z1 => ?_⟩
  obtain ⟨a, vs, rfl, n0, ng, ha, rs1, hl⟩ := z1
  have e1 : upd H1 a (.lst vs) = H1 := funext fun b => by
    by_cases hb : b = a
    · subst hb; rw [upd_same, ha]
    · rw [upd_ne hb]
  have rs2 := rs1.adopt (o := .lst vs) (mo := .ls l) ng fun W hW hH => ⟨vs, hH, hl.mono hW⟩
  rw [e1] at rs2
  refine q (.ref a) H1 (ι1 ++ [a]) ⟨fun n b hb => ?_, st1.keep, fun b hb => ?_, st1.frz⟩ ⟨rs2, ?_⟩
  · rw [List.getElem?_append_left (List.getElem?_eq_some_iff.mp (st1.pre n b hb)).1]; exact st1.pre n b hb
  · rcases hb with hb | hb
    · rcases List.mem_append.mp hb with hb | hb
      · exact st1.new b (.inl hb)
      · right
        rw [show b = a by simpa using hb]; exact n0
    · exact st1.new b (.inr hb)
  · unfold Rl
    exact ⟨a, by show (ι1 ++ [a])[μ1.length]? = some a; rw [← rs1.lm]; simp, rfl⟩
theorem ev_ixS (ha : Ev X ρ a ca) (hb : Ek X ρ b cb) (hs : PlainIx b := by exact fun _ _ => rfl) : Ev X ρ (.Subscript a b pos) (ca >>= fun d => cb >>= fun k => pIxS d k) :=
  PE.imp (pe_ix ix_list ha hb hs) fun σ H Q q => by
    obtain ⟨G, ι, μ, v, μ', rs, hr, q⟩ := q
    obtain ⟨d, μ1, h1, h2⟩ := inv_bind hr
    obtain ⟨k, μ2, h3, h4⟩ := inv_bind h2
    have h4 : pIxS d k μ2 = some (v, μ') := h4
    unfold pIxS at h4
    cases e1 : lsAt μ2 d with
    | none => rw [e1] at h4; cases h4
    | some p =>
      obtain ⟨n, l⟩ := p
      rw [e1, Option.bind_some] at h4
      dsimp only at h4
      split at h4
      · rename_i i _
        cases e2 : L2.atI l i with
        | none => rw [e2] at h4; cases h4
        | some w =>
          rw [e2] at h4
          cases h4
          refine ⟨G, ι, μ, d, μ1, rs, h1, fun x H1 ι1 st1 z1 => ⟨G, ι1, μ1, .int i, _, z1.1, h3, fun y H2 ι2 st2 z2 => ?_⟩⟩
          obtain ⟨p, vs, rfl, hp, hH, hl⟩ := z2.1.ls e1 (z1.2.mono st2.le)
          obtain ⟨z, g1, g2⟩ := hl.atI e2
          exact ⟨p, vs, i, z, rfl, z2.2.intE, .of hH, g1, q z H2 ι2 (st1.trans st2) ⟨z2.1, g2⟩⟩
      · cases h4
theorem rSetL_of {K : PySem.W.Frag} {G : Addr → Prop} {ι : List Addr} {μ μ' : List MO} {σ : L2.St} {H : Hp} {d k v : Pv} {o : Unit} {x y z : V} {Q : Hp → Prop} (rs : RS K G ι μ ρ σ H) (h6 : setS d k v μ = some (o, μ')) (rd : Rl (wd K G ι ρ σ H) d x) (rk : Rk (wd K G ι ρ σ H) ρ σ k y) (rv : Rl (wd K G ι ρ σ H) v z)
    (q : ∀ H', Step ι (Mx ι ρ σ) H ι (Mx ι ρ σ) H' → RS K G ι μ' ρ σ H' → Q H') : rSetL x y z H Q := by
  unfold setS at h6
  cases e1 : lsAt μ d with
  | none => rw [e1] at h6; cases h6
  | some p =>
    obtain ⟨n, l⟩ := p
    rw [e1, Option.bind_some] at h6
    dsimp only at h6
    split at h6
    · rename_i i
      cases e2 : ixN l.length i with
      | none => rw [e2] at h6; cases h6
      | some j =>
        rw [e2] at h6
        cases h6
        obtain ⟨p, vs, rfl, hp, hH, hl⟩ := rs.ls e1 rd
        refine ⟨p, vs, i, j, rfl, rk.intE, hH, by rw [← hl.length]; exact e2, ?_⟩
        exact q _ (Step.refl.updS hp (nfL hH)) (rs.updS hp fun W hW hH' => ⟨_, hH', (Rls.set rv j hl).mono hW⟩)
    · cases h6
theorem es_setS {st : Stmt} {cv co ci : M Pv} (hp : PS X st (tAsg (tG X.K ρ (RV X.K ρ) cv) (gSub (tG X.K ρ (RV X.K ρ) co) (tG X.K ρ (RK X.K ρ) ci) rSetL))) : Es X ρ st (cv >>= fun v => co >>= fun d => ci >>= fun k => setS d k v) fun _ => .nx ρ :=
  PS.imp hp fun D σ H q => by
    obtain ⟨G, ι, μ, o, μ', rs, hr, q⟩ := q
    obtain ⟨v, μ1, h1, h2⟩ := inv_bind hr
    obtain ⟨d, μ2, h3, h4⟩ := inv_bind h2
    obtain ⟨k, μ3, h5, h6⟩ := inv_bind h4
    refine ⟨G, ι, μ, v, μ1, rs, h1, fun x H1 ι1 st1 z1 => ⟨G, ι1, μ1, d, μ2, z1.1, h3, fun y H2 ι2 st2 z2 => ⟨G, ι2, μ2, k, μ3, z2.1, h5, fun z H3 ι3 st3 z3 => ?_⟩⟩⟩
    exact rSetL_of z3.1 h6 (z2.2.mono st3.le) z3.2 (z1.2.mono (st2.trans st3).le) fun H' s r => q σ H' ι3 (((st1.trans st2).trans st3).trans s) r
/-- o.append(e), o.pop() -/
theorem es_appendS {st : Expr} {co c : M Pv} (hp : PE X st (tBM X.K "list" rAppend (tG X.K ρ (RV X.K ρ) co) (tCons (tG X.K ρ (RV X.K ρ) c) tNil))) (hs : swapsWith st none pos.line X.env = pure false := by rfl) :
    Es X ρ (.Expr st pos) (co >>= fun d => lenS d >>= fun _ => c >>= fun v => capS d v) fun _ => .nx ρ :=
  PS.imp (ps_expr hp hs) fun D σ H q => by
    obtain ⟨G, ι, μ, o, μ', rs, hr, q⟩ := q
    obtain ⟨d, μ1, h1, h2⟩ := inv_bind hr
    obtain ⟨u, μ2, h3, h4⟩ := inv_bind h2
    obtain ⟨v, μ3, h5, h6⟩ := inv_bind h4
    have h3 : lenS d μ1 = some (u, μ2) := h3
    have h6 : capS d v μ3 = some (o, μ') := h6
    unfold lenS at h3
    cases e0 : lsAt μ1 d with
    | none => rw [e0] at h3; cases h3
    | some p0 =>
      obtain ⟨n0, l0⟩ := p0
      rw [e0] at h3
      cases h3
      unfold capS at h6
      cases e1 : lsAt μ3 d with
      | none => rw [e1] at h6; cases h6
      | some p =>
        obtain ⟨n, l⟩ := p
        rw [e1, Option.bind_some] at h6
        split at h6
        · rename_i hz
          have hz : l.length < LIM := hz
          cases h6
          refine ⟨G, ι, μ, d, _, rs, h1, fun y H1 ι1 st1 z1 => ?_⟩
          obtain ⟨p0, vs0, rfl, hp0, hH0, hl0⟩ := z1.1.ls e0 z1.2
          refine ⟨.inl ⟨rfl, _, .of hH0⟩, G, ι1, _, v, μ3, z1.1, h5, fun z H2 ι2 st2 z2 => ?_⟩
          obtain ⟨p, vs, ep, hp, hH, hl⟩ := z2.1.ls e1 (z1.2.mono st2.le)
          cases ep
          refine ⟨p0, vs, z, rfl, rfl, hH, ?_, q σ _ ι2 ((st1.trans st2).updS hp (nfL hH)) (z2.1.updS hp fun W hW hH' => ⟨_, hH', (hl.append (.cons z2.2 .nil)).mono hW⟩)⟩
          rw [← hl.length]
          have : LIM ≤ sizeLine := lim_le (Nat.le_refl _)
          omega
        · cases h6
theorem es_popS {st : Expr} {co : M Pv} (hp : PE X st (tBM0 X.K "list" rPop (tG X.K ρ (RV X.K ρ) co))) (hs : swapsWith st none pos.line X.env = pure false := by rfl) :
    Es X ρ (.Expr st pos) (co >>= fun d => popS d) fun _ => .nx ρ :=
  PS.imp (ps_expr hp hs) fun D σ H q => by
    obtain ⟨G, ι, μ, o, μ', rs, hr, q⟩ := q
    obtain ⟨d, μ1, h1, h6⟩ := inv_bind hr
    have h6 : popS d μ1 = some (o, μ') := h6
    unfold popS at h6
    cases e1 : lsAt μ1 d with
    | none => rw [e1] at h6; cases h6
    | some p =>
      obtain ⟨n, l⟩ := p
      rw [e1, Option.bind_some] at h6
      split at h6
      · cases h6
      · rename_i hz
        have hz : ¬ l = [] := hz
        cases h6
        refine ⟨G, ι, μ, d, _, rs, h1, fun y H1 ι1 st1 z1 => ?_⟩
        obtain ⟨p, vs, rfl, hp, hH, hl⟩ := z1.1.ls e1 z1.2
        have hn : vs.length ≠ 0 := fun z => hz (List.eq_nil_of_length_eq_zero (by rw [hl.length, z]))
        have hy : vs[vs.length - 1]? = some vs[vs.length - 1] := List.getElem?_eq_getElem (by omega)
        exact ⟨.inl ⟨rfl, _, .of hH⟩, p, vs, _, rfl, rfl, hH, hy, q σ _ ι1 (st1.updS hp (nfL hH)) (z1.1.updS hp fun W hW hH' => ⟨_, hH', hl.dropLast.mono hW⟩)⟩
/-- o1[i1], o2[i2] = e1, e2 -/
theorem es_swapS {o1 i1 o2 i2 : Expr} {k k2 : Nat} {p1 p2 tp vp : Pos} {c1 c2 d1 d2 j1 j2 : M Pv} (hv1 : Ev X ρ a c1) (hv2 : Ev X ρ b c2) (ho1 : Ev X ρ o1 d1) (hi1 : Ek X ρ i1 j1) (ho2 : Ev X ρ o2 d2) (hi2 : Ek X ρ i2 j2) (hc : X.calm = true)
    (ha1 : ∀ v, assign (.Subscript o1 i1 p1) X.env v = (do
      let ov ← holding [v] (eval o1 X.env)
      let iv ← holding [v, ov] (eval i1 X.env)
      standAt p1
      holding [v, ov, iv] (setItem ov iv v)
      release [v, ov, iv] []) := by intro _; rfl)
    (ha2 : ∀ v, assign (.Subscript o2 i2 p2) X.env v = (do
      let ov ← holding [v] (eval o2 X.env)
      let iv ← holding [v, ov] (eval i2 X.env)
      standAt p2
      holding [v, ov, iv] (setItem ov iv v)
      release [v, ov, iv] []) := by intro _; rfl)
    (hs : swapsWithSole [.Tuple [.Subscript o1 i1 p1, .Subscript o2 i2 p2] k tp] (.Tuple [a, b] k2 vp) pos.line X.env = pure false := by rfl) (hw : swappedStores [.Tuple [.Subscript o1 i1 p1, .Subscript o2 i2 p2] k tp] (.Tuple [a, b] k2 vp) X.env = pure none := by rfl)
    (h1 : (assignEach [.Tuple [.Subscript o1 i1 p1, .Subscript o2 i2 p2] k tp] X.env).map (·.2) = [assign (.Tuple [.Subscript o1 i1 p1, .Subscript o2 i2 p2] k tp) X.env] := by rfl)
    (hq1 : (assignEach [.Subscript o1 i1 p1, .Subscript o2 i2 p2] X.env).map (·.2) = assign (.Subscript o1 i1 p1) X.env :: (assignEach [.Subscript o2 i2 p2] X.env).map (·.2) := by rfl)
    (hq2 : (assignEach [.Subscript o2 i2 p2] X.env).map (·.2) = assign (.Subscript o2 i2 p2) X.env :: (assignEach [] X.env).map (·.2) := by rfl)
    (hn : (assignEach [.Subscript o1 i1 p1, .Subscript o2 i2 p2] X.env).length = 2 := by rfl) (hst : (assignEach [.Subscript o1 i1 p1, .Subscript o2 i2 p2] X.env).findIdx? (·.1) = none := by rfl)
    (hx1 : starEach [a, b] X.env = (false, eval a X.env) :: starEach [b] X.env := by rfl) (hx2 : starEach [b] X.env = (false, eval b X.env) :: starEach [] X.env := by rfl) :
    Es X ρ (.Assign [.Tuple [.Subscript o1 i1 p1, .Subscript o2 i2 p2] k tp] (.Tuple [a, b] k2 vp) pos) (c1 >>= fun u => c2 >>= fun v => d1 >>= fun d => j1 >>= fun k => setS d k u >>= fun _ => d2 >>= fun d => j2 >>= fun k => setS d k v) fun _ => .nx ρ :=
  PS.imp (ps_asg (pe_tup (pa_cons hv1 (pa_cons hv2 pa_nil hx2) hx1)) (pg_tup hc (pgs_cons (pg_sub ho1 hi1 set_list ha1) (pgs_cons (pg_sub ho2 hi2 set_list ha2) pgs_nil hq2) hq1) hn hst) hs hw h1) fun D σ H q => by
    obtain ⟨G, ι, μ, o, μ', rs, hr, q⟩ := q
    obtain ⟨u, μ1, r1, hr⟩ := inv_bind hr
    obtain ⟨v, μ2, r2, hr⟩ := inv_bind hr
    obtain ⟨d, μ3, r3, hr⟩ := inv_bind hr
    obtain ⟨i, μ4, r4, hr⟩ := inv_bind hr
    obtain ⟨w, μ5, r5, hr⟩ := inv_bind hr
    obtain ⟨d', μ6, r6, hr⟩ := inv_bind hr
    obtain ⟨i', μ7, r7, r8⟩ := inv_bind hr
    show tG X.K ρ (RV X.K ρ) c1 σ H fun y H1 => tG X.K ρ (RV X.K ρ) c2 σ H1 fun y2 H2 => _
    refine ⟨G, ι, μ, u, μ1, rs, r1, fun x H1 ι1 st1 z1 => ⟨G, ι1, μ1, v, μ2, z1.1, r2, fun y H2 ι2 st2 z2 => ⟨by show 2 ≤ sizeLine; decide, fun p hp => ?_⟩⟩⟩
    refine ⟨p, [x, y], rfl, .inl (.inl upd_same), rfl, x, [y], rfl, ?_⟩
    have s3 : Step ι2 (Mx ι2 ρ σ) H2 ι2 (Mx ι2 ρ σ) (upd H2 p (.tup [x, y])) := Step.same (same_upd hp) fun _ h => h
    have rs3 := z2.1.same (same_upd (o := .tup [x, y]) hp)
    refine ⟨G, ι2, μ2, d, μ3, rs3, r3, fun xd H4 ι4 st4 z4 => ⟨G, ι4, μ3, i, μ4, z4.1, r4, fun xi H5 ι5 st5 z5 => ?_⟩⟩
    refine rSetL_of z5.1 r5 (z4.2.mono st5.le) z5.2 (z1.2.mono (((st2.trans s3).trans st4).trans st5).le) fun H6 s6 rs6 => ?_
    refine ⟨y, [], rfl, G, ι5, μ5, d', μ6, rs6, r6, fun xd' H7 ι7 st7 z7 => ⟨G, ι7, μ6, i', μ7, z7.1, r7, fun xi' H8 ι8 st8 z8 => ?_⟩⟩
    refine rSetL_of z8.1 r8 (z7.2.mono st8.le) z8.2 (z2.2.mono (((((s3.trans st4).trans st5).trans s6).trans st7).trans st8).le) fun H9 s9 rs9 => ?_
    exact ⟨rfl, q σ H9 ι8 ((((((((st1.trans st2).trans s3).trans st4).trans st5).trans s6).trans st7).trans st8).trans s9) rs9⟩
theorem ev_lenS {p : Pos} (hm : X.mg "len" = none) (ha : Ev X ρ a ca) (hg : Gl X "len" := by rfl) (he : starEach [a] X.env = (false, eval a X.env) :: starEach [] X.env := by rfl) (hpl : (backTo pos (starEach [] X.env)).any (·.1) = false := by rfl) :
    Ev X ρ (.Call (.Name "len" p) [a] [] pos) (ca >>= lenS) :=
  PE.imp (pe_callB call_len_seq hg hm PySem.boot_len (pa_cons ha pa_nil he) (by decide) (by decide) he hpl) fun σ H Q q => by
    obtain ⟨G, ι, μ, o, μ', rs, hr, q⟩ := q
    obtain ⟨d, μ1, h1, h2⟩ := inv_bind hr
    have h2 : lenS d μ1 = some (o, μ') := h2
    unfold lenS at h2
    cases e1 : lsAt μ1 d with
    | none => rw [e1] at h2; cases h2
    | some p =>
      rw [e1] at h2
      cases h2
      refine ⟨G, ι, μ, d, _, rs, h1, fun x H1 ι1 st1 z1 => ?_⟩
      obtain ⟨r, vs, rfl, hp, hH, hl⟩ := z1.1.ls e1 z1.2
      exact ⟨r, vs, rfl, .inl (.of hH), q _ H1 ι1 st1 ⟨z1.1, by rw [← hl.length]; exact .int⟩⟩
theorem ev_tupS {p : Pos} (hm : X.mg "tuple" = none) (ha : Ev X ρ a ca) (hg : Gl X "tuple" := by rfl) (he : starEach [a] X.env = (false, eval a X.env) :: starEach [] X.env := by rfl) (hpl : (backTo pos (starEach [] X.env)).any (·.1) = false := by rfl) :
    Ev X ρ (.Call (.Name "tuple" p) [a] [] pos) (ca >>= tupS) :=
  PE.imp (pe_callTy call_tuple_of hg hm (by decide +kernel) (pa_cons ha pa_nil he) (by decide) (by decide) he hpl) fun σ H Q q => by
    obtain ⟨G, ι, μ, o, μ', rs, hr, q⟩ := q
    obtain ⟨d, μ1, h1, h2⟩ := inv_bind hr
    have h2 : tupS d μ1 = some (o, μ') := h2
    unfold tupS at h2
    cases e1 : lsAt μ1 d with
    | none => rw [e1] at h2; cases h2
    | some p =>
      rw [e1] at h2
      cases h2
      refine ⟨G, ι, μ, d, _, rs, h1, fun x H1 ι1 st1 z1 => ?_⟩
      obtain ⟨r, vs, rfl, hp, hH, hl⟩ := z1.1.ls e1 z1.2
      exact ⟨r, vs, rfl, .inl ⟨.of hH, fun l hl' => q _ _ ι1 (st1.trans (Step.same (same_upd hl') fun _ h => h)) ⟨z1.1.same (same_upd hl'), z1.1.newTup hl' hl⟩⟩⟩
theorem en_lstS {p : Pos} (hm : X.mg "list" = none) (ha : Ev X ρ a ca) (hg : Gl X "list" := by rfl) (he : starEach [a] X.env = (false, eval a X.env) :: starEach [] X.env := by rfl) (hpl : (backTo pos (starEach [] X.env)).any (·.1) = false := by rfl) :
    En X ρ (.Call (.Name "list" p) [a] [] pos) (ca >>= lstS) :=
  PE.imp (pe_callTy call_list_of hg hm (by decide +kernel) (pa_cons ha pa_nil he) (by decide) (by decide) he hpl) fun σ H Q q => by
    obtain ⟨G, ι, μ, o, μ', rs, hr, q⟩ := q
    obtain ⟨d, μ1, h1, h2⟩ := inv_bind hr
    have h2 : lstS d μ1 = some (o, μ') := h2
    unfold lstS at h2
    cases e1 : lsAt μ1 d with
    | none => rw [e1] at h2; cases h2
    | some p =>
      rw [e1] at h2
      cases h2
      refine ⟨G, ι, μ, d, _, rs, h1, fun x H1 ι1 st1 z1 => ?_⟩
      obtain ⟨r, vs, rfl, hp, hH, hl⟩ := z1.1.ls e1 z1.2
      exact ⟨r, vs, rfl, .inl (.of hH), fun l hl' => q _ _ ι1 (st1.trans (Step.same (same_upd hl') fun _ h => h)) (Back.back rs z1.1 st1 (z1.1.newLst hl' hl))⟩
end
end Q
/-! LI: comprehensions over lists of the store. -/
namespace Q
open PySem PySem.Spec PyProof.Rows L2
section
variable {A : Type}
def itS (d : Pv) (i : Nat) : M (Option Pv) := fun μ => (lsAt μ d).map fun p => (p.2[i]?, μ)
def lcSF (un : Pv → Option A) (ct : A → M Bool) (ce : A → M Pv) (d : Pv) : Nat → Nat → M (List Pv)
  | 0, _ => Eff.lift none
  | k + 1, i => itS d i >>= fun o => match o with
    | none => pure []
    | some x => Eff.lift (un x) >>= fun a => ct a >>= fun b => if b = true then ce a >>= fun y => lcSF un ct ce d k (i + 1) >>= fun ys => pure (y :: ys) else lcSF un ct ce d k (i + 1)
def SFUEL : Nat := 100000
def lcS (ci : M Pv) (un : Pv → Option A) (ct : A → M Bool) (ce : A → M Pv) : M (List Pv) := ci >>= fun d => lcSF un ct ce d SFUEL 0
end
section
variable {X : Cx} {ρ : List SV} {A : Type} {elt tg iter : Expr} {ifs : List Expr} {scope : Scope} {own : List (Str × Nat)} {pos : Pos} {un : Pv → Option A} {up : List SV → A → List SV}
theorem tLcS_of {ci : M Pv} {ct : A → M Bool} {ce : A → M Pv} {g : TG} {is vs : List Nat} (hv : noMl ρ vs)
    (hk : ∀ G ι μ ρ σ H x v a Q, RS X.K G ι μ ρ σ H → Rl (wd X.K G ι ρ σ H) v x → un v = some a → (∀ σ', RS X.K G ι μ (up ρ a) σ' H → (∀ b, Mx ι (up ρ a) σ' b → Mx ι ρ σ b) → (∀ j, j ∉ is → σ'[j]? = σ[j]?) → Q σ' H) → g x σ H Q)
    (his : ∀ j ∈ is, j ∈ vs) (hw : ∀ a, wipeR (up (wipeR ρ vs) a) vs = wipeR ρ vs) (hn : ∀ a, noMl (up (wipeR ρ vs) a) vs) {σ : L2.St} {H : Hp} {Q : VK} (q : tG X.K ρ (RN X.K ρ) (lcS ci un ct ce) σ H Q) :
    tLc (iSeq X.K (tG X.K ρ (RV X.K ρ) ci)) g (fun σ H Q => ∃ a, tGt X.K (up (wipeR ρ vs) a) (ct a) σ H Q) (fun σ H Q => ∃ a, tG X.K (up (wipeR ρ vs) a) (RV X.K (up (wipeR ρ vs) a)) (ce a) σ H Q) vs σ H Q := by
  obtain ⟨G, ι, μ, o, μ', rs, hr, q⟩ := q
  obtain ⟨d, μ1, h1, h4⟩ := inv_bind hr
  refine ⟨G, ι, μ, d, _, rs, h1, fun x0 H1 ι1 st1 z1 => ?_⟩
  have rs1 := z1.1
  obtain ⟨n, l0, hl0⟩ : ∃ n l0, lsAt μ1 d = some (n, l0) := by
    have h4' : Eff.run (lcSF un ct ce d (99999 + 1) 0) μ1 = some (o, μ') := h4
    unfold lcSF at h4'
    obtain ⟨w, μ2, k1, k2⟩ := inv_bind h4'
    have k1 : itS d 0 μ1 = some (w, μ2) := k1
    unfold itS at k1
    cases e : lsAt μ1 d with
    | none => rw [e] at k1; cases k1
    | some p => exact ⟨p.1, p.2, rfl⟩
  obtain ⟨a0, vs0, rfl, hι0, hH0, hr0⟩ := rs1.ls hl0 z1.2
  refine ⟨a0, rfl, .inl ⟨⟨vs0, .of hH0⟩, fun D hD => ?_⟩⟩
  have rsD := rs1.alloc (u := .lst []) hD
  have stD : Step ι1 (Mx ι1 ρ σ) H1 ι1 (Mx ι1 ρ σ) (upd H1 D (.lst [])) := Step.same (same_upd hD) fun _ h => h
  refine ⟨fun i k H' => i + k = SFUEL ∧ ∃ acc accV ys μ2 ι2, H' D = some (.lst accV) ∧ Step ι1 (Mx ι1 ρ σ) H1 ι2 (Mx ι2 ρ σ) H' ∧ RS X.K (fun b => G b ∨ b = D) ι2 μ2 ρ σ H' ∧ Le (wd X.K (fun b => G b ∨ b = D) ι1 ρ σ (upd H1 D (.lst []))) (wd X.K (fun b => G b ∨ b = D) ι2 ρ σ H') ∧
      Rls (wd X.K (fun b => G b ∨ b = D) ι2 ρ σ H') acc accV ∧ acc.length ≤ i ∧ Eff.run (lcSF un ct ce d k i) μ2 = some (ys, μ') ∧ o = acc ++ ys,
    ⟨SFUEL, by simp, [], [], o, _, ι1, upd_same, stD, rsD, Le.refl _, Rls.nil, Nat.zero_le _, h4, rfl⟩, ?_⟩
  rintro i k H' ⟨hik, acc, accV, ys, μ2, ι2, eD, st2, rs2, le2, ra, hacc, hrun, ho⟩
  obtain ⟨k, rfl⟩ : ∃ k', k = k' + 1 := by
    cases k with
    | zero =>
      unfold lcSF at hrun
      obtain ⟨e, _⟩ := inv_lift hrun
      cases e
    | succ k => exact ⟨k, rfl⟩
  unfold lcSF at hrun
  obtain ⟨w, μ2', k1, k2⟩ := inv_bind hrun
  have k1 : itS d i μ2 = some (w, μ2') := k1
  unfold itS at k1
  have rd2 : Rl (wd X.K (fun b => G b ∨ b = D) ι2 ρ σ H') d (.ref a0) := (z1.2.mono (Le.alloc (u := .lst []) hD)).mono le2
  cases e0 : lsAt μ2 d with
  | none => rw [e0] at k1; cases k1
  | some p =>
    obtain ⟨n2, l2⟩ := p
    rw [e0] at k1
    cases k1
    obtain ⟨a2, vs2, ea, hι2, hH2, hr2⟩ := rs2.ls e0 rd2
    cases ea
    cases e2 : l2[i]? with
    | some v0 =>
      rw [e2] at k2
      obtain ⟨xv, gx, rx⟩ := hr2.get e2
      have kz : Eff.run (Eff.lift (un v0) >>= fun a => ct a >>= fun b => if b = true then ce a >>= fun y => lcSF un ct ce d k (i + 1) >>= fun ys => pure (y :: ys) else lcSF un ct ce d k (i + 1) : M (List Pv)) μ2 = some (ys, μ') := k2
      clear k2
      obtain ⟨a, μ3, ky, kx⟩ := inv_bind kz
      obtain ⟨hun, hμ⟩ := inv_lift ky
      subst hμ
      obtain ⟨b, μ4, k3, k4⟩ := inv_bind kx
      refine .inr ⟨⟨vs2, xv, .of hH2, gx⟩, fun H3 => ∃ acc accV ys μ5 ι3, H3 D = some (.lst accV) ∧ Step ι1 (Mx ι1 ρ σ) H1 ι3 (Mx ι3 ρ σ) H3 ∧ RS X.K (fun b => G b ∨ b = D) ι3 μ5 ρ σ H3 ∧ Le (wd X.K (fun b => G b ∨ b = D) ι1 ρ σ (upd H1 D (.lst []))) (wd X.K (fun b => G b ∨ b = D) ι3 ρ σ H3) ∧
        Rls (wd X.K (fun b => G b ∨ b = D) ι3 ρ σ H3) acc accV ∧ acc.length ≤ i + 1 ∧ Eff.run (lcSF un ct ce d k (i + 1)) μ5 = some (ys, μ') ∧ o = acc ++ ys, fun H3 h => ⟨k, Nat.lt_succ_self _, by omega, h⟩, fun x H3 hy => ?_⟩
      obtain ⟨rfl, hy⟩ := hy
      have hx := hy vs2 (.of hH2)
      rw [gx] at hx; cases hx
      have rs3 := rs2
      refine hk _ ι2 _ (wipeR ρ vs) (wipe σ vs) H3 xv v0 a _ (rs3.wiped hv) (rx.mono (wipe_le hv)) hun fun σ4 rs4 hm hσ => ?_
      have hl4 : σ4.length = (wipe σ vs).length := by
        rw [← rs4.len, wipe_length, ← rs.len]
        have := congrArg List.length (hw a)
        rw [wipeR_length, wipeR_length] at this
        exact this
      have hwp : wipe σ4 vs = wipe σ vs := by rw [wipe_eq hl4 fun j hj => hσ j fun z => hj (his j z), wipe_wipe]
      refine ⟨hwp, ?_⟩
      have back : ∀ {ι5 μ5 H5}, Step ι2 (Mx ι2 (up (wipeR ρ vs) a) σ4) H3 ι5 (Mx ι5 (up (wipeR ρ vs) a) σ4) H5 → RS X.K (fun b => G b ∨ b = D) ι5 μ5 (up (wipeR ρ vs) a) σ4 H5 →
          Step ι2 (Mx ι2 ρ σ) H3 ι5 (Mx ι5 ρ σ) H5 ∧ RS X.K (fun b => G b ∨ b = D) ι5 μ5 ρ σ H5 ∧ Le (wd X.K (fun b => G b ∨ b = D) ι5 (up (wipeR ρ vs) a) σ4 H5) (wd X.K (fun b => G b ∨ b = D) ι5 ρ σ H5) := fun {ι5 μ5 H5} st rs5 => by
        have mx1 : ∀ ι b, Mx ι ρ σ b ↔ Mx ι (up (wipeR ρ vs) a) σ4 b := fun ι b => by
          rw [← wipe_mx (ρ := up (wipeR ρ vs) a) (hn a), hw a, hwp, wipe_mx hv]
        have s1 : Step ι2 (Mx ι2 ρ σ) H3 ι5 (Mx ι5 ρ σ) H5 := by
          refine ⟨st.pre, fun b ob h k => st.keep b ob h fun z => k ((mx1 _ _).mpr z), fun b h => ?_, st.frz⟩
          rcases st.new b ((mx1 _ _).mp h) with z | z
          · exact .inl ((mx1 _ _).mpr z)
          · exact .inr z
        have r1 := RS.wiped (hn a) rs5
        rw [hw a, hwp] at r1
        exact ⟨s1, RS.unwipe hv rs2 s1 r1, ⟨rfl, fun _ _ h => h, fun b o h k => ⟨h, fun z => k (Or.imp (fun q => q) (mx1 _ _).mp z)⟩⟩⟩
      have keepD : ∀ {ι5 H5}, Step ι2 (Mx ι2 ρ σ) H3 ι5 (Mx ι5 ρ σ) H5 → H5 D = some (.lst accV) := fun {ι5 H5} st => st.keep D _ eD fun z => by
        rcases z with z | ⟨j, z⟩
        · exact (rs2.g D (.inr rfl)).2 z
        · exact (rs2.ni j D z).2 (.inr rfl)
      refine ⟨a, _, ι2, _, b, μ4, rs4, k3, fun H5 ι5 st5 rs5 => ?_⟩
      obtain ⟨s5, r5, l5⟩ := back st5 rs5
      cases b with
      | false =>
        rw [if_neg Bool.false_ne_true] at k4 ⊢
        exact ⟨acc, accV, ys, μ4, ι5, keepD s5, st2.trans s5, r5, le2.trans s5.le, ra.mono s5.le, by omega, k4, ho⟩
      | true =>
        rw [if_pos rfl] at k4 ⊢
        obtain ⟨y, μ6, k5, k6⟩ := inv_bind k4
        obtain ⟨ys', μ7, k7, k8⟩ := inv_bind k6
        obtain ⟨rfl, rfl⟩ := inv_pure k8
        refine ⟨a, _, ι5, _, y, μ6, rs5, k5, fun yV H6 ι6 st6 z6 => ?_⟩
        obtain ⟨s6, r6, l6⟩ := back (st5.trans st6) z6.1
        have ra6 := ra.mono (s6.le (K := X.K) (G := fun b => G b ∨ b = D))
        obtain ⟨r7, l7⟩ := r6.updG (p := D) (ys := accV ++ [yV]) (.inr rfl) (keepD s6)
        refine ⟨accV, keepD s6, ?_, acc ++ [y], accV ++ [yV], ys', μ6, ι6, upd_same, ?_, r7, (le2.trans s6.le).trans l7, (ra6.append (.cons (z6.2.mono l6) .nil)).mono l7, by rw [List.length_append]; simp; omega, k7, by rw [ho]; simp⟩
        · rw [← ra.length]
          have := lim_le (n := SFUEL) (by decide)
          omega
        · have s7 := st2.trans s6
          refine ⟨s7.pre, fun b ob h k => ?_, s7.new, fun b o u h => by rw [upd_ne (ne_of_none h hD)]; exact s7.frz b o u h⟩
          have nb : b ≠ D := ne_of_none h hD
          rw [upd_ne nb]
          exact s7.keep b ob h k
    | none =>
      rw [e2] at k2
      refine .inl ⟨⟨vs2, .of hH2, ?_⟩, ?_⟩
      · rw [← hr2.length]
        exact List.getElem?_eq_none_iff.mp e2
      · have k2 : Eff.run (pure [] : M (List Pv)) μ2 = some (ys, μ') := k2
        obtain ⟨rfl, rfl⟩ := inv_pure k2
        rw [List.append_nil] at ho
        subst ho
        have h0 : H D = none := fresh_back rs rs1 st1 hD
        refine q (.ref D) H' ι2 (st1.trans st2) ⟨D, accV, rfl, h0, fun z => ?_, eD, rs2, ra⟩
        obtain ⟨ob, e, _⟩ := (rs.g D z).1
        rw [h0] at e; cases e
theorem en_lcS {ci : M Pv} {ct : A → M Bool} {ce : A → M Pv} {g : TG} {is : List Nat} (hc : X.calm = true) (hN : X.N.Nodup) (hi : Ev X ρ iter ci) (ok : BlkOk X.N X.env.scope scope own)
    (hg : ∀ s H C cl fp, Tg (blkX X scope s H C cl fp) tg g is un up) (ht : ∀ s H C cl fp a, Ets (blkX X scope s H C cl fp) (up (wipeR ρ (own.map (·.2))) a) ifs (ct a)) (he : ∀ s H C cl fp a, Ev (blkX X scope s H C cl fp) (up (wipeR ρ (own.map (·.2))) a) elt (ce a))
    (hv : noMl ρ (own.map (·.2))) (his : ∀ j ∈ is, j ∈ own.map (·.2)) (hw : ∀ a, wipeR (up (wipeR ρ (own.map (·.2))) a) (own.map (·.2)) = wipeR ρ (own.map (·.2))) (hn : ∀ a, noMl (up (wipeR ρ (own.map (·.2))) a) (own.map (·.2)))
    (hs : ∀ x, foldedSetIterable iter X.env x = pure x := by intro _; rfl) : En X ρ (.ListComp elt [⟨tg, iter, ifs, 0⟩] scope pos) (lcS ci un ct ce) := by
  refine PE.imp (pe_lc (g := g) (tt := fun σ H Q => ∃ a, tGt X.K (up (wipeR ρ (own.map fun p => p.2)) a) (ct a) σ H Q) (te := fun σ H Q => ∃ a, tG X.K (up (wipeR ρ (own.map fun p => p.2)) a) (RV X.K (up (wipeR ρ (own.map fun p => p.2)) a)) (ce a) σ H Q) hc hN (pi_seq hi) ok (fun s H C cl fp => (hg s H C cl fp).pg) (fun s H C cl fp => PTs_exv (ht s H C cl fp)) (fun s H C cl fp => PE_exv (he s H C cl fp)) hs) fun σ H Q q => ?_
  by_cases hA : ∃ (sh : Shared), True
  · obtain ⟨sh, _⟩ := hA
    exact tLcS_of hv (hg sh (fun _ => none) 0 [] []).ok his hw hn q
  · exact (hA ⟨X.s_0, trivial⟩).elim
end
end Q
/-! LJ: a list of the frame goes to the store. -/
namespace Q
open PySem PySem.Spec PyProof.Rows L2
section
variable {K : PySem.W.Frag} {G : Addr → Prop} {ι : List Addr} {μ : List MO} {ρ : List SV} {σ : L2.St} {H : Hp}
theorem own_val {i : Nat} {v : Pv} {j : Nat} {b : Addr} (h : own (ρ.set i (.val v)) σ j b) : own ρ σ j b ∧ i ≠ j := by
  obtain ⟨⟨l, e⟩, e2⟩ := h
  by_cases z : i = j
  · subst z
    rw [List.getElem?_set_self'] at e
    cases q : ρ[i]? with
    | none => rw [q] at e; cases e
    | some u => rw [q] at e; cases e
  · rw [List.getElem?_set_ne z] at e
    exact ⟨⟨⟨l, e⟩, e2⟩, z⟩
theorem RS.toStore (r : RS K G ι μ ρ σ H) {i : Nat} {l : List Pv} (h : ρ[i]? = some (.ml l)) : ∃ a, own ρ σ i a ∧ RS K G (ι ++ [a]) (μ ++ [.ls l]) (ρ.set i (.val (.loc μ.length))) σ H := by
  obtain ⟨a, vs, eσ, ow, ha, hl⟩ := r.slotM h
  have hi : i < ρ.length := (List.getElem?_eq_some_iff.mp h).1
  have le : Le (wd K G ι ρ σ H) (wd K G (ι ++ [a]) (ρ.set i (.val (.loc μ.length))) σ H) := ⟨rfl, fun n b q => by
    show (ι ++ [a])[n]? = some b
    rw [List.getElem?_append_left (List.getElem?_eq_some_iff.mp q).1]; exact q, fun b o q k => ⟨q, fun z => k (by
      rcases z with z | z | ⟨j, z⟩
      · exact .inl z
      · rcases List.mem_append.mp z with z | z
        · exact .inr (.inl z)
        · rw [show b = a by simpa using z]
          exact .inr (.inr ⟨i, ow⟩)
      · exact .inr (.inr ⟨j, (own_val z).1⟩))⟩⟩
  refine ⟨a, ow, by rw [List.length_set]; exact r.len, fun j s q => ?_, fun j k b x y => r.inj j k b (own_val x).1 (own_val y).1, fun j b x => ⟨fun z => ?_, (r.ni j b (own_val x).1).2⟩, fun b q => ?_, ?_, by simp [r.lm], fun n o q => ?_⟩
  · by_cases z : i = j
    · subst z
      rw [List.getElem?_set_self hi] at q
      cases q
      rw [eσ]
      show Rl _ _ _
      unfold Rl
      exact ⟨a, by show (ι ++ [a])[μ.length]? = some a; rw [← r.lm]; simp, rfl⟩
    · rw [List.getElem?_set_ne z] at q
      exact SlotOk.mono le (fun _ _ _ _ _ _ => rfl) (r.sl j s q)
  · obtain ⟨x1, x2⟩ := own_val x
    rcases List.mem_append.mp z with z | z
    · exact (r.ni j b x1).1 z
    · rw [show b = a by simpa using z] at x1
      exact x2 (r.inj i j a ow x1)
  · obtain ⟨q1, q2⟩ := r.g b q
    refine ⟨q1, fun z => ?_⟩
    rcases List.mem_append.mp z with z | z
    · exact q2 z
    · exact (r.ni i a ow).2 (by rw [show a = b from (by simpa using z : b = a).symm]; exact q)
  · refine List.nodup_append.mpr ⟨r.nd, by simp, fun b h c hb e => ?_⟩
    exact (r.ni i a ow).1 (by rw [show a = b by rw [e]; exact (by simpa using hb : c = a).symm]; exact h)
  · by_cases hn : n < μ.length
    · rw [List.getElem?_append_left hn] at q
      obtain ⟨b, q1, q2⟩ := r.st n o q
      exact ⟨b, by rw [List.getElem?_append_left (List.getElem?_eq_some_iff.mp q1).1]; exact q1, MOk.mono le rfl q2⟩
    · rw [List.getElem?_append_right (by omega)] at q
      have : n = μ.length := by
        have := (List.getElem?_eq_some_iff.mp q).1
        simp at this; omega
      subst this
      simp at q
      subst q
      exact ⟨a, by rw [List.getElem?_append_right (by rw [r.lm]; exact Nat.le_refl _), r.lm]; simp, vs, ha, hl.mono le⟩
end
section
variable {X : Cx} {ρ : List SV} {O : Type} {itp : O → Fl} {sts : List Stmt}
theorem x_nl {i : Nat} {l : List Pv} {c : Pv → M O} (h : ρ[i]? = some (.ml l)) (k : ∀ v, Ex X (ρ.set i (.val v)) sts (c v) itp) : Ex X ρ sts (nlM l >>= c) itp := PSs.imp (PSs.ex k) fun D σ H q => by
  obtain ⟨G, ι, μ, o, μ', rs, hr, q⟩ := q
  obtain ⟨v, μ1, h1, h2⟩ := inv_bind hr
  have h1 : some (Pv.loc μ.length, μ ++ [MO.ls l]) = some (v, μ1) := h1
  cases h1
  obtain ⟨a, ow, rs'⟩ := rs.toStore h
  have st : Step ι (Mx ι ρ σ) H (ι ++ [a]) (Mx (ι ++ [a]) (ρ.set i (.val (.loc μ.length))) σ) H := ⟨fun n b q => by
    rw [List.getElem?_append_left (List.getElem?_eq_some_iff.mp q).1]; exact q, fun b o q _ => q, fun b z => .inl (by
      rcases z with z | ⟨j, z⟩
      · rcases List.mem_append.mp z with z | z
        · exact .inl z
        · rw [show b = a by simpa using z]
          exact .inr ⟨i, ow⟩
      · exact .inr ⟨j, (own_val z).1⟩), fun _ _ _ h => h⟩
  exact ⟨.loc μ.length, G, ι ++ [a], μ ++ [.ls l], o, μ', rs', h2, q.back st⟩
end
end Q
/-! LK: comprehensions with two fors; targets in a comprehension. -/
namespace Q
open PySem PySem.Spec PyProof.Rows L2
section
variable {X : Cx} {i j k l : Nat} {x y z w : Str} {p1 p2 p3 p4 pos : Pos} {kk : Nat}
theorem tg_2K {K : PySem.W.Frag} (hc : X.calm = true) (hN : X.N.Nodup) (hK : X.K = K := by rfl) (hi : X.N[i]? = some x := by rfl) (hj : X.N[j]? = some y := by rfl)
    (hx : Loc X.env.scope x := by first | exact Or.inl rfl | exact Or.inr rfl) (hf : X.fn x = true ∨ X.env.scope.names.lookup x = some .local := by first | exact .inl rfl | exact .inr rfl | assumption)
    (hy : Loc X.env.scope y := by first | exact Or.inl rfl | exact Or.inr rfl) (hg : X.fn y = true ∨ X.env.scope.names.lookup y = some .local := by first | exact .inl rfl | exact .inr rfl | assumption) :
    Tg X (.Tuple [.Name x p1, .Name y p2] kk pos) (gUn K 2 (gCons (gName i) (gCons (gName j) gNil))) [i, j] un2t (fun ρ a => (ρ.set i (.val a.1)).set j (.val a.2)) := by
  subst hK; exact tg_2 hc hN hi hj hx hf hy hg
theorem tg_3K {K : PySem.W.Frag} (hc : X.calm = true) (hN : X.N.Nodup) (hK : X.K = K := by rfl) (hi : X.N[i]? = some x := by rfl) (hj : X.N[j]? = some y := by rfl) (hk : X.N[k]? = some z := by rfl)
    (hx : Loc X.env.scope x := by first | exact Or.inl rfl | exact Or.inr rfl) (hf : X.fn x = true ∨ X.env.scope.names.lookup x = some .local := by first | exact .inl rfl | exact .inr rfl | assumption)
    (hy : Loc X.env.scope y := by first | exact Or.inl rfl | exact Or.inr rfl) (hg : X.fn y = true ∨ X.env.scope.names.lookup y = some .local := by first | exact .inl rfl | exact .inr rfl | assumption)
    (hz : Loc X.env.scope z := by first | exact Or.inl rfl | exact Or.inr rfl) (hh : X.fn z = true ∨ X.env.scope.names.lookup z = some .local := by first | exact .inl rfl | exact .inr rfl | assumption) :
    Tg X (.Tuple [.Name x p1, .Name y p2, .Name z p3] kk pos) (gUn K 3 (gCons (gName i) (gCons (gName j) (gCons (gName k) gNil)))) [i, j, k] un3 (fun ρ a => ((ρ.set i (.val a.1)).set j (.val a.2.1)).set k (.val a.2.2)) := by
  subst hK; exact tg_3 hc hN hi hj hk hx hf hy hg hz hh
theorem tg_4K {K : PySem.W.Frag} (hc : X.calm = true) (hN : X.N.Nodup) (hK : X.K = K := by rfl) (hi : X.N[i]? = some x := by rfl) (hj : X.N[j]? = some y := by rfl) (hk : X.N[k]? = some z := by rfl) (hl : X.N[l]? = some w := by rfl)
    (hx : Loc X.env.scope x := by first | exact Or.inl rfl | exact Or.inr rfl) (hf : X.fn x = true ∨ X.env.scope.names.lookup x = some .local := by first | exact .inl rfl | exact .inr rfl | assumption)
    (hy : Loc X.env.scope y := by first | exact Or.inl rfl | exact Or.inr rfl) (hg : X.fn y = true ∨ X.env.scope.names.lookup y = some .local := by first | exact .inl rfl | exact .inr rfl | assumption)
    (hz : Loc X.env.scope z := by first | exact Or.inl rfl | exact Or.inr rfl) (hh : X.fn z = true ∨ X.env.scope.names.lookup z = some .local := by first | exact .inl rfl | exact .inr rfl | assumption)
    (hw : Loc X.env.scope w := by first | exact Or.inl rfl | exact Or.inr rfl) (hhw : X.fn w = true ∨ X.env.scope.names.lookup w = some .local := by first | exact .inl rfl | exact .inr rfl | assumption) :
    Tg X (.Tuple [.Name x p1, .Name y p2, .Name z p3, .Name w p4] kk pos) (gUn K 4 (gCons (gName i) (gCons (gName j) (gCons (gName k) (gCons (gName l) gNil))))) [i, j, k, l] un4 (fun ρ a => (((ρ.set i (.val a.1)).set j (.val a.2.1)).set k (.val a.2.2.1)).set l (.val a.2.2.2)) := by
  subst hK; exact tg_4 hc hN hi hj hk hl hx hf hy hg hz hh hw hhw
end
/-- from a block's state to the state around it -/
theorem blk_back {K : PySem.W.Frag} {G : Addr → Prop} {ι2 : List Addr} {μ2 : List MO} {ρ ρ' : List SV} {σ σ' : L2.St} {H' H3 : Hp} {vs : List Nat} (rs2 : RS K G ι2 μ2 ρ σ H') (hv : noMl ρ vs) (hw : wipeR ρ' vs = wipeR ρ vs) (hn : noMl ρ' vs) (hwp : wipe σ' vs = wipe σ vs) (sm : Same H' H3) :
    ∀ {ι5 μ5 H5}, Step ι2 (Mx ι2 ρ' σ') H3 ι5 (Mx ι5 ρ' σ') H5 → RS K G ι5 μ5 ρ' σ' H5 → Step ι2 (Mx ι2 ρ σ) H' ι5 (Mx ι5 ρ σ) H5 ∧ RS K G ι5 μ5 ρ σ H5 ∧ Le (wd K G ι5 ρ' σ' H5) (wd K G ι5 ρ σ H5) := fun {ι5 μ5 H5} st rs5 => by
  have mx1 : ∀ ι b, Mx ι ρ σ b ↔ Mx ι ρ' σ' b := fun ι b => by rw [← wipe_mx (ρ := ρ') hn, hw, hwp, wipe_mx hv]
  have s1 : Step ι2 (Mx ι2 ρ σ) H' ι5 (Mx ι5 ρ σ) H5 := by
    refine ⟨st.pre, fun b ob h k => st.keep b ob (sm b ob h) fun z => k ((mx1 _ _).mpr z), fun b h => ?_, fun b o u h => st.frz b o u (sm b _ h)⟩
    rcases st.new b ((mx1 _ _).mp h) with z | z
    · exact .inl ((mx1 _ _).mpr z)
    · right
      cases e : H' b with
      | none => rfl
      | some ob => rw [sm b ob e] at z; cases z
  have r1 := RS.wiped hn rs5
  rw [hw, hwp] at r1
  exact ⟨s1, RS.unwipe hv rs2 s1 r1, ⟨rfl, fun _ _ h => h, fun b o h k => ⟨h, fun z => k (Or.imp (fun q => q) (mx1 _ _).mp z)⟩⟩⟩
section
variable {m : Type → Type} [Monad m] [Eff m] {A B : Type}
def lc2M (un : Pv → Option A) (ct : A → m Bool) (ci1 : A → m (List Pv)) (un1 : Pv → Option B) (ct1 : A → B → m Bool) (ce : A → B → m Pv) : List Pv → m (List Pv)
  | [] => pure []
  | x :: r => Eff.lift (un x) >>= fun a => ct a >>= fun b => if b = true then ci1 a >>= fun l1 => lcM un1 (ct1 a) (ce a) l1 >>= fun ys => lc2M un ct ci1 un1 ct1 ce r >>= fun zs => pure (ys ++ zs) else lc2M un ct ci1 un1 ct1 ce r
def lc2W (ci : m (List Pv)) (un : Pv → Option A) (ct : A → m Bool) (ci1 : A → m (List Pv)) (un1 : Pv → Option B) (ct1 : A → B → m Bool) (ce : A → B → m Pv) : m (List Pv) :=
  ci >>= fun l => lc2M un ct ci1 un1 ct1 ce l >>= fun ys => Eff.lift (limL ys)
end
section
variable {X : Cx} {ρ : List SV} {m : Type → Type} [Monad m] [Eff m] {elt tg iter tg1 iter1 : Expr} {ifs ifs1 : List Expr} {scope : Scope} {own : List (Str × Nat)} {pos pos' : Pos} {A B : Type} {un : Pv → Option A} {up : List SV → A → List SV} {un1 : Pv → Option B} {up1 : List SV → B → List SV}
theorem tLc2_of {ci : m (List Pv)} {ct : A → m Bool} {ci1 : A → m (List Pv)} {ct1 : A → B → m Bool} {ce : A → B → m Pv} {g g1 : TG} {is is1 vs vs1 : List Nat} (hv : noMl ρ vs)
    (hk : ∀ G ι μ ρ σ H x v a Q, RS X.K G ι μ ρ σ H → Rl (wd X.K G ι ρ σ H) v x → un v = some a → (∀ σ', RS X.K G ι μ (up ρ a) σ' H → (∀ b, Mx ι (up ρ a) σ' b → Mx ι ρ σ b) → (∀ j, j ∉ is → σ'[j]? = σ[j]?) → Q σ' H) → g x σ H Q)
    (hk1 : ∀ G ι μ ρ σ H x v a Q, RS X.K G ι μ ρ σ H → Rl (wd X.K G ι ρ σ H) v x → un1 v = some a → (∀ σ', RS X.K G ι μ (up1 ρ a) σ' H → (∀ b, Mx ι (up1 ρ a) σ' b → Mx ι ρ σ b) → (∀ j, j ∉ is1 → σ'[j]? = σ[j]?) → Q σ' H) → g1 x σ H Q)
    (his : ∀ j ∈ is, j ∈ vs) (hw : ∀ a, wipeR (up (wipeR ρ vs) a) vs = wipeR ρ vs) (hn : ∀ a, noMl (up (wipeR ρ vs) a) vs)
    (his1 : ∀ j ∈ is1, j ∈ vs1) (hn0 : ∀ a, noMl (up (wipeR ρ vs) a) vs1) (hw1 : ∀ a b, wipeR (up1 (wipeR (up (wipeR ρ vs) a) vs1) b) vs1 = wipeR (up (wipeR ρ vs) a) vs1) (hn1 : ∀ a b, noMl (up1 (wipeR (up (wipeR ρ vs) a) vs1) b) vs1)
    {σ : L2.St} {H : Hp} {Q : VK} (q : tG X.K ρ (RN X.K ρ) (lc2W ci un ct ci1 un1 ct1 ce) σ H Q) :
    tLc2 (tEi X.K ρ ci) g (fun σ H Q => ∃ a, tGt X.K (up (wipeR ρ vs) a) (ct a) σ H Q) (fun σ H R => ∃ a, tEi X.K (up (wipeR ρ vs) a) (ci1 a) σ H R) g1 (fun σ H Q => ∃ a b, tGt X.K (up1 (wipeR (up (wipeR ρ vs) a) vs1) b) (ct1 a b) σ H Q)
      (fun σ H Q => ∃ a b, tG X.K (up1 (wipeR (up (wipeR ρ vs) a) vs1) b) (RV X.K (up1 (wipeR (up (wipeR ρ vs) a) vs1) b)) (ce a b) σ H Q) vs vs1 σ H Q := by
  obtain ⟨G, ι, μ, o, μ', rs, hr, q⟩ := q
  obtain ⟨l0, μ1, h1, h2⟩ := inv_bind hr
  obtain ⟨o', μe, h4, h3⟩ := inv_bind h2
  obtain ⟨hlm, hμ⟩ := inv_lift h3
  subst hμ
  obtain ⟨ho', hz⟩ := limL_inv hlm
  subst ho'
  have hz := lim_le hz
  refine ⟨G, ι, μ, l0, _, rs, h1, fun J H1 ι1 st1 rs1 jk D hD => ?_⟩
  have rsD := rs1.alloc (u := .lst []) hD
  have stD : Step ι1 (Mx ι1 ρ σ) H1 ι1 (Mx ι1 ρ σ) (upd H1 D (.lst [])) := Step.same (same_upd hD) fun _ h => h
  refine ⟨fun i k H' => k = l0.length - i ∧ i ≤ l0.length ∧ ∃ acc accV ys μ2 ι2, H' D = some (.lst accV) ∧ Step ι1 (Mx ι1 ρ σ) H1 ι2 (Mx ι2 ρ σ) H' ∧ RS X.K (fun b => G b ∨ b = D) ι2 μ2 ρ σ H' ∧ Le (wd X.K (fun b => G b ∨ b = D) ι1 ρ σ (upd H1 D (.lst []))) (wd X.K (fun b => G b ∨ b = D) ι2 ρ σ H') ∧
      Rls (wd X.K (fun b => G b ∨ b = D) ι2 ρ σ H') acc accV ∧ Eff.run (lc2M un ct ci1 un1 ct1 ce (l0.drop i)) μ2 = some (ys, μ') ∧ o' = acc ++ ys,
    ⟨l0.length, by simp, Nat.zero_le _, [], [], o', _, ι1, upd_same, stD, rsD, Le.refl _, Rls.nil, by simpa using h4, rfl⟩, ?_⟩
  rintro i k H' ⟨rfl, hi, acc, accV, ys, μ2, ι2, eD, st2, rs2, le2, ra, hrun, ho⟩
  have lej : Le (wd X.K G ι1 ρ σ H1) (wd X.K (fun b => G b ∨ b = D) ι2 ρ σ H') := (Le.alloc hD).trans le2
  obtain ⟨j1, j2⟩ := jk _ lej (Le.tracked rs2)
  by_cases hlt : i < l0.length
  · obtain ⟨go, yl⟩ := j2 i l0[i] (List.getElem?_eq_getElem hlt)
    rw [List.drop_eq_getElem_cons hlt] at hrun
    unfold lc2M at hrun
    obtain ⟨a, μ3, k1, k2⟩ := inv_bind hrun
    obtain ⟨hun, hμ⟩ := inv_lift k1
    subst hμ
    obtain ⟨b, μ4, k3, k4⟩ := inv_bind k2
    refine .inr ⟨go, fun H3 => ∃ acc accV ys μ5 ι3, H3 D = some (.lst accV) ∧ Step ι1 (Mx ι1 ρ σ) H1 ι3 (Mx ι3 ρ σ) H3 ∧ RS X.K (fun b => G b ∨ b = D) ι3 μ5 ρ σ H3 ∧ Le (wd X.K (fun b => G b ∨ b = D) ι1 ρ σ (upd H1 D (.lst []))) (wd X.K (fun b => G b ∨ b = D) ι3 ρ σ H3) ∧
      Rls (wd X.K (fun b => G b ∨ b = D) ι3 ρ σ H3) acc accV ∧ Eff.run (lc2M un ct ci1 un1 ct1 ce (l0.drop (i + 1))) μ5 = some (ys, μ') ∧ o' = acc ++ ys, fun H3 h => ⟨l0.length - (i + 1), by omega, rfl, hlt, h⟩, fun x H3 hy => ?_⟩
    obtain ⟨sm, rx⟩ := yl x H3 hy
    have rs3 := rs2.same sm
    refine hk _ ι2 _ (wipeR ρ vs) (wipe σ vs) H3 x _ a _ (rs3.wiped hv) (rx.mono (wipe_le hv)) hun fun σ4 rs4 hm hσ => ?_
    have hl4 : σ4.length = (wipe σ vs).length := by
      rw [← rs4.len, wipe_length, ← rs.len]
      have := congrArg List.length (hw a)
      rw [wipeR_length, wipeR_length] at this
      exact this
    have hwp : wipe σ4 vs = wipe σ vs := by rw [wipe_eq hl4 fun j hj => hσ j fun z => hj (his j z), wipe_wipe]
    refine ⟨hwp, ?_⟩
    have back := fun {ι5 μ5 H5} => blk_back (ι5 := ι5) (μ5 := μ5) (H5 := H5) rs2 hv (hw a) (hn a) hwp sm
    have keepD : ∀ {ι5 H5}, Step ι2 (Mx ι2 ρ σ) H' ι5 (Mx ι5 ρ σ) H5 → H5 D = some (.lst accV) := fun {ι5 H5} st => st.keep D _ eD fun z => by
      rcases z with z | ⟨j, z⟩
      · exact (rs2.g D (.inr rfl)).2 z
      · exact (rs2.ni j D z).2 (.inr rfl)
    refine ⟨a, _, ι2, _, b, μ4, rs4, k3, fun H5 ι5 st5 rs5 => ?_⟩
    obtain ⟨s5, r5, l5⟩ := back st5 rs5
    cases b with
    | false =>
      rw [if_neg Bool.false_ne_true] at k4 ⊢
      exact ⟨acc, accV, ys, μ4, ι5, keepD s5, st2.trans s5, r5, le2.trans s5.le, ra.mono s5.le, k4, ho⟩
    | true =>
      rw [if_pos rfl] at k4 ⊢
      obtain ⟨l1, μ6, k5, k6⟩ := inv_bind k4
      obtain ⟨ys1, μ7, k7, k8⟩ := inv_bind k6
      obtain ⟨zs, μ8, k9, k10⟩ := inv_bind k8
      obtain ⟨ey, hμ⟩ := inv_pure k10
      subst hμ ey
      refine ⟨a, _, ι5, _, l1, μ6, rs5, k5, fun J1 H6 ι6 st6 rs6 jk1 => ?_⟩
      obtain ⟨s6, r6, l6⟩ := back (st5.trans st6) rs6
      -- the inner turns, in the block's state
      refine ⟨fun j k H7 => k = l1.length - j ∧ j ≤ l1.length ∧ ∃ acc accV ys μ2 ι7, H7 D = some (.lst accV) ∧ Step ι1 (Mx ι1 ρ σ) H1 ι7 (Mx ι7 ρ σ) H7 ∧ RS X.K (fun b => G b ∨ b = D) ι7 μ2 ρ σ H7 ∧ RS X.K (fun b => G b ∨ b = D) ι7 μ2 (up (wipeR ρ vs) a) σ4 H7 ∧ Le (wd X.K (fun b => G b ∨ b = D) ι1 ρ σ (upd H1 D (.lst []))) (wd X.K (fun b => G b ∨ b = D) ι7 ρ σ H7) ∧
          Le (wd X.K (fun b => G b ∨ b = D) ι6 (up (wipeR ρ vs) a) σ4 H6) (wd X.K (fun b => G b ∨ b = D) ι7 (up (wipeR ρ vs) a) σ4 H7) ∧
          Rls (wd X.K (fun b => G b ∨ b = D) ι7 ρ σ H7) acc accV ∧ Eff.run (lcM un1 (ct1 a) (ce a) (l1.drop j)) μ2 = some (ys, μ7) ∧ o' = acc ++ ys ++ zs,
        ⟨l1.length, by simp, Nat.zero_le _, acc, accV, ys1, μ6, ι6, keepD s6, st2.trans s6, r6, rs6, le2.trans s6.le, Le.refl _, ra.mono s6.le, by simpa using k7, by rw [ho, List.append_assoc]⟩, ?_⟩
      rintro j k H7 ⟨rfl, hj, acc7, accV7, ys7, μ9, ι7, eD7, st7, r7, rs7, le7, lb7, ra7, hrun7, ho7⟩
      obtain ⟨n1, n2⟩ := jk1 _ lb7 (Le.tracked rs7)
      by_cases hlt7 : j < l1.length
      · obtain ⟨go7, yl7⟩ := n2 j l1[j] (List.getElem?_eq_getElem hlt7)
        rw [List.drop_eq_getElem_cons hlt7] at hrun7
        unfold lcM at hrun7
        obtain ⟨c, μ10, m1, m2⟩ := inv_bind hrun7
        obtain ⟨hun7, hμ⟩ := inv_lift m1
        subst hμ
        obtain ⟨b7, μ11, m3, m4⟩ := inv_bind m2
        refine .inr ⟨go7, fun H8 => ∃ acc accV ys μ2 ι8, H8 D = some (.lst accV) ∧ Step ι1 (Mx ι1 ρ σ) H1 ι8 (Mx ι8 ρ σ) H8 ∧ RS X.K (fun b => G b ∨ b = D) ι8 μ2 ρ σ H8 ∧ RS X.K (fun b => G b ∨ b = D) ι8 μ2 (up (wipeR ρ vs) a) σ4 H8 ∧ Le (wd X.K (fun b => G b ∨ b = D) ι1 ρ σ (upd H1 D (.lst []))) (wd X.K (fun b => G b ∨ b = D) ι8 ρ σ H8) ∧
          Le (wd X.K (fun b => G b ∨ b = D) ι6 (up (wipeR ρ vs) a) σ4 H6) (wd X.K (fun b => G b ∨ b = D) ι8 (up (wipeR ρ vs) a) σ4 H8) ∧
          Rls (wd X.K (fun b => G b ∨ b = D) ι8 ρ σ H8) acc accV ∧ Eff.run (lcM un1 (ct1 a) (ce a) (l1.drop (j + 1))) μ2 = some (ys, μ7) ∧ o' = acc ++ ys ++ zs, fun H8 h => ⟨l1.length - (j + 1), by omega, rfl, hlt7, h⟩, fun x7 H8 hy7 => ?_⟩
        obtain ⟨sm7, rx7⟩ := yl7 x7 H8 hy7
        have rs8 := rs7.same sm7
        refine hk1 _ ι7 _ (wipeR (up (wipeR ρ vs) a) vs1) (wipe σ4 vs1) H8 x7 _ c _ (rs8.wiped (hn0 a)) (rx7.mono (wipe_le (hn0 a))) hun7 fun σ5 rs9 hm9 hσ9 => ?_
        have hl5 : σ5.length = (wipe σ4 vs1).length := by
          rw [← rs9.len, wipe_length, ← rs7.len]
          have := congrArg List.length (hw1 a c)
          rw [wipeR_length, wipeR_length] at this
          exact this
        have hwp5 : wipe σ5 vs1 = wipe σ4 vs1 := by rw [wipe_eq hl5 fun j hj => hσ9 j fun z => hj (his1 j z), wipe_wipe]
        refine ⟨hwp5, ?_⟩
        have back1 := fun {ι5 μ5 H5} => blk_back (ι5 := ι5) (μ5 := μ5) (H5 := H5) rs7 (hn0 a) (hw1 a c) (hn1 a c) hwp5 sm7
        have back2 := fun {ι5 μ5 H5} => blk_back (ι5 := ι5) (μ5 := μ5) (H5 := H5) r7 hv (hw a) (hn a) hwp (Same.refl H7)
        have keepD7 : ∀ {ι5 H5}, Step ι7 (Mx ι7 ρ σ) H7 ι5 (Mx ι5 ρ σ) H5 → H5 D = some (.lst accV7) := fun {ι5 H5} st => st.keep D _ eD7 fun z => by
          rcases z with z | ⟨j, z⟩
          · exact (r7.g D (.inr rfl)).2 z
          · exact (r7.ni j D z).2 (.inr rfl)
        refine ⟨a, c, _, ι7, _, b7, μ11, rs9, m3, fun H10 ι10 st10 rs10 => ?_⟩
        obtain ⟨s11, r11, l11⟩ := back1 st10 rs10
        obtain ⟨s12, r12, l12⟩ := back2 s11 r11
        cases b7 with
        | false =>
          rw [if_neg Bool.false_ne_true] at m4 ⊢
          exact ⟨acc7, accV7, ys7, μ11, ι10, keepD7 s12, st7.trans s12, r12, r11, le7.trans s12.le, lb7.trans s11.le, ra7.mono s12.le, m4, ho7⟩
        | true =>
          rw [if_pos rfl] at m4 ⊢
          obtain ⟨y, μ12, m5, m6⟩ := inv_bind m4
          obtain ⟨ys', μ13, m7, m8⟩ := inv_bind m6
          obtain ⟨ey, hμ⟩ := inv_pure m8
          subst hμ ey
          refine ⟨a, c, _, ι10, _, y, μ12, rs10, m5, fun yV H11 ι11 st11 z11 => ?_⟩
          obtain ⟨s13, r13, l13⟩ := back1 (st10.trans st11) z11.1
          obtain ⟨s14, r14, l14⟩ := back2 s13 r13
          have ra14 := ra7.mono (s14.le (K := X.K) (G := fun b => G b ∨ b = D))
          obtain ⟨r15, l15⟩ := r14.updG (p := D) (ys := accV7 ++ [yV]) (.inr rfl) (keepD7 s14)
          obtain ⟨r16, l16⟩ := r13.updG (p := D) (ys := accV7 ++ [yV]) (.inr rfl) (keepD7 s14)
          refine ⟨accV7, keepD7 s14, ?_, acc7 ++ [y], accV7 ++ [yV], ys', μ12, ι11, upd_same, ?_, r15, r16, (le7.trans s14.le).trans l15, (lb7.trans s13.le).trans l16, (ra14.append (.cons (z11.2.mono (l13.trans l14)) .nil)).mono l15, m7, by rw [ho7]; simp⟩
          · rw [← ra7.length]
            have := congrArg List.length ho7
            simp only [List.length_append, List.length_cons] at this
            rw [this] at hz
            omega
          · have s15 := st7.trans s14
            refine ⟨s15.pre, fun b ob h k => ?_, s15.new, fun b o u h => by rw [upd_ne (ne_of_none h hD)]; exact s15.frz b o u h⟩
            have nb : b ≠ D := ne_of_none h hD
            rw [upd_ne nb]
            exact s15.keep b ob h k
      · refine .inl ⟨n1 j (by omega), ?_⟩
        rw [List.drop_eq_nil_of_le (by omega)] at hrun7
        unfold lcM at hrun7
        obtain ⟨ey, hμ⟩ := inv_pure hrun7
        subst hμ ey
        exact ⟨acc7, accV7, zs, μ7, ι7, eD7, st7, r7, le7, ra7, k9, by rw [ho7]; simp⟩
  · refine .inl ⟨j1 i (by omega), ?_⟩
    rw [List.drop_eq_nil_of_le (by omega)] at hrun
    unfold lc2M at hrun
    obtain ⟨ey, hμ⟩ := inv_pure hrun
    subst hμ ey
    rw [List.append_nil] at ho
    subst ho
    have h0 : H D = none := fresh_back rs rs1 st1 hD
    refine q (.ref D) H' ι2 (st1.trans st2) ⟨D, accV, rfl, h0, fun z => ?_, eD, rs2, ra⟩
    obtain ⟨ob, e, _⟩ := (rs.g D z).1
    rw [h0] at e; cases e
theorem PI.ex {tg it : Expr} {α : Type} {t : α → TI} (h : ∀ a, PI X tg it (t a)) : PI X tg it fun σ H R => ∃ a, t a σ H R := ⟨fun pins s σ H R I ⟨a, q⟩ => (h a).run pins s σ H R I q⟩
theorem PI_exv {X : Cx} {tg it : Expr} {f : A → List SV} {c : A → m (List Pv)} (h : ∀ a, Ei X (f a) tg it (c a)) : PI X tg it fun σ H R => ∃ a, tEi X.K (f a) (c a) σ H R := PI.ex h
theorem en_lc2 {ci : m (List Pv)} {ct : A → m Bool} {ci1 : A → m (List Pv)} {ct1 : A → B → m Bool} {ce : A → B → m Pv} {g g1 : TG} {is is1 vs1 : List Nat} (hc : X.calm = true) (hN : X.N.Nodup) (hi : Ei X ρ tg iter ci) (ok : BlkOk X.N X.env.scope scope own) (hvv : ∀ i ∈ vs1, i ∈ own.map (·.2))
    (hg : ∀ s H C cl fp, Tg (blkX X scope s H C cl fp) tg g is un up) (ht : ∀ s H C cl fp a, Ets (blkX X scope s H C cl fp) (up (wipeR ρ (own.map (·.2))) a) ifs (ct a))
    (hi1 : ∀ s H C cl fp a, Ei (blkX X scope s H C cl fp) (up (wipeR ρ (own.map (·.2))) a) tg1 iter1 (ci1 a))
    (hg1 : ∀ s H C cl fp, Tg (blkX X scope s H C cl fp) tg1 g1 is1 un1 up1) (ht1 : ∀ s H C cl fp a b, Ets (blkX X scope s H C cl fp) (up1 (wipeR (up (wipeR ρ (own.map (·.2))) a) vs1) b) ifs1 (ct1 a b))
    (he : ∀ s H C cl fp a b, Ev (blkX X scope s H C cl fp) (up1 (wipeR (up (wipeR ρ (own.map (·.2))) a) vs1) b) elt (ce a b))
    (hv : noMl ρ (own.map (·.2))) (his : ∀ j ∈ is, j ∈ own.map (·.2)) (hw : ∀ a, wipeR (up (wipeR ρ (own.map (·.2))) a) (own.map (·.2)) = wipeR ρ (own.map (·.2))) (hn : ∀ a, noMl (up (wipeR ρ (own.map (·.2))) a) (own.map (·.2)))
    (his1 : ∀ j ∈ is1, j ∈ vs1) (hn0 : ∀ a, noMl (up (wipeR ρ (own.map (·.2))) a) vs1) (hw1 : ∀ a b, wipeR (up1 (wipeR (up (wipeR ρ (own.map (·.2))) a) vs1) b) vs1 = wipeR (up (wipeR ρ (own.map (·.2))) a) vs1) (hn1 : ∀ a b, noMl (up1 (wipeR (up (wipeR ρ (own.map (·.2))) a) vs1) b) vs1)
    (hs : ∀ x, foldedSetIterable iter X.env x = pure x := by intro _; rfl) (hs1 : ∀ env x, foldedSetIterable iter1 env x = pure x := by intro _ _; rfl) : En X ρ (.ListComp elt [⟨tg, iter, ifs, 0⟩, ⟨tg1, iter1, ifs1, 0⟩] scope pos) (lc2W ci un ct ci1 un1 ct1 ce) := by
  refine PE.imp (pe_lc2 (g := g) (g1 := g1) (tt := fun σ H Q => ∃ a, tGt X.K (up (wipeR ρ (own.map fun p => p.2)) a) (ct a) σ H Q) (wi1 := fun σ H R => ∃ a, tEi X.K (up (wipeR ρ (own.map fun p => p.2)) a) (ci1 a) σ H R)
    (tt1 := fun σ H Q => ∃ a b, tGt X.K (up1 (wipeR (up (wipeR ρ (own.map fun p => p.2)) a) vs1) b) (ct1 a b) σ H Q) (te := fun σ H Q => ∃ a b, tG X.K (up1 (wipeR (up (wipeR ρ (own.map fun p => p.2)) a) vs1) b) (RV X.K (up1 (wipeR (up (wipeR ρ (own.map fun p => p.2)) a) vs1) b)) (ce a b) σ H Q)
    hc hN hi ok hvv (fun s H C cl fp => (hg s H C cl fp).pg) (fun s H C cl fp => PTs_exv (ht s H C cl fp)) (fun s H C cl fp => PI_exv (hi1 s H C cl fp)) (fun s H C cl fp => (hg1 s H C cl fp).pg) (fun s H C cl fp => PTs.ex fun a => PTs_exv (ht1 s H C cl fp a)) (fun s H C cl fp => PE.ex fun a => PE_exv (he s H C cl fp a)) hs hs1) fun σ H Q q => ?_
  by_cases hA : ∃ (sh : Shared), True
  · obtain ⟨sh, _⟩ := hA
    exact tLc2_of hv (hg sh (fun _ => none) 0 [] []).ok (hg1 sh (fun _ => none) 0 [] []).ok his hw hn his1 hn0 hw1 hn1 q
  · exact (hA ⟨X.s_0, trivial⟩).elim
theorem es_lc2 {i : Nat} {y : Str} {py spos : Pos} {ci : m (List Pv)} {ct : A → m Bool} {ci1 : A → m (List Pv)} {ct1 : A → B → m Bool} {ce : A → B → m Pv} {g g1 : TG} {is is1 vs1 : List Nat} (hc : X.calm = true) (hN : X.N.Nodup) (hi : Ei X ρ tg iter ci) (ok : BlkOk X.N X.env.scope scope own) (hvv : ∀ i ∈ vs1, i ∈ own.map (·.2))
    (hg : ∀ s H C cl fp, Tg (blkX X scope s H C cl fp) tg g is un up) (ht : ∀ s H C cl fp a, Ets (blkX X scope s H C cl fp) (up (wipeR ρ (own.map (·.2))) a) ifs (ct a))
    (hi1 : ∀ s H C cl fp a, Ei (blkX X scope s H C cl fp) (up (wipeR ρ (own.map (·.2))) a) tg1 iter1 (ci1 a))
    (hg1 : ∀ s H C cl fp, Tg (blkX X scope s H C cl fp) tg1 g1 is1 un1 up1) (ht1 : ∀ s H C cl fp a b, Ets (blkX X scope s H C cl fp) (up1 (wipeR (up (wipeR ρ (own.map (·.2))) a) vs1) b) ifs1 (ct1 a b))
    (he : ∀ s H C cl fp a b, Ev (blkX X scope s H C cl fp) (up1 (wipeR (up (wipeR ρ (own.map (·.2))) a) vs1) b) elt (ce a b))
    (hv : noMl ρ (own.map (·.2))) (his : ∀ j ∈ is, j ∈ own.map (·.2)) (hw : ∀ a, wipeR (up (wipeR ρ (own.map (·.2))) a) (own.map (·.2)) = wipeR ρ (own.map (·.2))) (hn : ∀ a, noMl (up (wipeR ρ (own.map (·.2))) a) (own.map (·.2)))
    (his1 : ∀ j ∈ is1, j ∈ vs1) (hn0 : ∀ a, noMl (up (wipeR ρ (own.map (·.2))) a) vs1) (hw1 : ∀ a b, wipeR (up1 (wipeR (up (wipeR ρ (own.map (·.2))) a) vs1) b) vs1 = wipeR (up (wipeR ρ (own.map (·.2))) a) vs1) (hn1 : ∀ a b, noMl (up1 (wipeR (up (wipeR ρ (own.map (·.2))) a) vs1) b) vs1)
    (hsw : swapsWith (.ListComp elt [⟨tg, iter, ifs, 0⟩, ⟨tg1, iter1, ifs1, 0⟩] scope pos) (some (.Name y py)) spos.line X.env = pure true) (hyi : X.N[i]? = some y := by rfl) (hyl : X.env.scope.names.lookup y = some .local := by rfl)
    (hs : ∀ x, foldedSetIterable iter X.env x = pure x := by intro _; rfl) (hs1 : ∀ env x, foldedSetIterable iter1 env x = pure x := by intro _ _; rfl) : Es X ρ (.Assign [.Name y py] (.ListComp elt [⟨tg, iter, ifs, 0⟩, ⟨tg1, iter1, ifs1, 0⟩] scope pos) spos) (lc2W ci un ct ci1 un1 ct1 ce) fun l => .nx (ρ.set i (.ml l)) := by
  refine PS.imp (ps_setLc2 (g := g) (g1 := g1) (tt := fun σ H Q => ∃ a, tGt X.K (up (wipeR ρ (own.map fun p => p.2)) a) (ct a) σ H Q) (wi1 := fun σ H R => ∃ a, tEi X.K (up (wipeR ρ (own.map fun p => p.2)) a) (ci1 a) σ H R)
    (tt1 := fun σ H Q => ∃ a b, tGt X.K (up1 (wipeR (up (wipeR ρ (own.map fun p => p.2)) a) vs1) b) (ct1 a b) σ H Q) (te := fun σ H Q => ∃ a b, tG X.K (up1 (wipeR (up (wipeR ρ (own.map fun p => p.2)) a) vs1) b) (RV X.K (up1 (wipeR (up (wipeR ρ (own.map fun p => p.2)) a) vs1) b)) (ce a b) σ H Q)
    hc hN hyi hyl hsw hi ok hvv (fun s H C cl fp => (hg s H C cl fp).pg) (fun s H C cl fp => PTs_exv (ht s H C cl fp)) (fun s H C cl fp => PI_exv (hi1 s H C cl fp)) (fun s H C cl fp => (hg1 s H C cl fp).pg) (fun s H C cl fp => PTs.ex fun a => PTs_exv (ht1 s H C cl fp a)) (fun s H C cl fp => PE.ex fun a => PE_exv (he s H C cl fp a)) hs hs1) fun D σ H q => ?_
  obtain ⟨G, ι, μ, o, μ', rs, hr, q⟩ := q
  refine tLc2_of hv (hg X.s_0 (fun _ => none) 0 [] []).ok (hg1 X.s_0 (fun _ => none) 0 [] []).ok his hw hn his1 hn0 hw1 hn1 ⟨G, ι, μ, o, μ', rs, hr, fun x H' ι' st z => ?_⟩
  obtain ⟨a, vs, rfl, n0, ng, ha, rs', hl⟩ := z
  exact q _ H' ι' (own_set_step st (.inr n0)) (rs'.setMl ng ha hl)
theorem es_lcS {i : Nat} {y : Str} {py spos : Pos} {ci : M Pv} {ct : A → M Bool} {ce : A → M Pv} {g : TG} {is : List Nat} (hc : X.calm = true) (hN : X.N.Nodup) (hi : Ev X ρ iter ci) (ok : BlkOk X.N X.env.scope scope own)
    (hg : ∀ s H C cl fp, Tg (blkX X scope s H C cl fp) tg g is un up) (ht : ∀ s H C cl fp a, Ets (blkX X scope s H C cl fp) (up (wipeR ρ (own.map (·.2))) a) ifs (ct a)) (he : ∀ s H C cl fp a, Ev (blkX X scope s H C cl fp) (up (wipeR ρ (own.map (·.2))) a) elt (ce a))
    (hv : noMl ρ (own.map (·.2))) (his : ∀ j ∈ is, j ∈ own.map (·.2)) (hw : ∀ a, wipeR (up (wipeR ρ (own.map (·.2))) a) (own.map (·.2)) = wipeR ρ (own.map (·.2))) (hn : ∀ a, noMl (up (wipeR ρ (own.map (·.2))) a) (own.map (·.2)))
    (hsw : swapsWith (.ListComp elt [⟨tg, iter, ifs, 0⟩] scope pos) (some (.Name y py)) spos.line X.env = pure true) (hyi : X.N[i]? = some y := by rfl) (hyl : X.env.scope.names.lookup y = some .local := by rfl)
    (hs : ∀ x, foldedSetIterable iter X.env x = pure x := by intro _; rfl) : Es X ρ (.Assign [.Name y py] (.ListComp elt [⟨tg, iter, ifs, 0⟩] scope pos) spos) (lcS ci un ct ce) fun l => .nx (ρ.set i (.ml l)) := by
  refine PS.imp (ps_setLc (g := g) (tt := fun σ H Q => ∃ a, tGt X.K (up (wipeR ρ (own.map fun p => p.2)) a) (ct a) σ H Q) (te := fun σ H Q => ∃ a, tG X.K (up (wipeR ρ (own.map fun p => p.2)) a) (RV X.K (up (wipeR ρ (own.map fun p => p.2)) a)) (ce a) σ H Q) hc hN hyi hyl hsw (pi_seq hi) ok (fun s H C cl fp => (hg s H C cl fp).pg) (fun s H C cl fp => PTs_exv (ht s H C cl fp)) (fun s H C cl fp => PE_exv (he s H C cl fp)) hs) fun D σ H q => ?_
  obtain ⟨G, ι, μ, o, μ', rs, hr, q⟩ := q
  refine tLcS_of hv (hg X.s_0 (fun _ => none) 0 [] []).ok his hw hn ⟨G, ι, μ, o, μ', rs, hr, fun x H' ι' st z => ?_⟩
  obtain ⟨a, vs, rfl, n0, ng, ha, rs', hl⟩ := z
  exact q _ H' ι' (own_set_step st (.inr n0)) (rs'.setMl ng ha hl)
end
end Q
/-! LL: any of a tuple or list of ints. -/
namespace Q
open PySem PySem.Spec PyProof.Rows L2
section
variable {prog : Program} {w : World} {A : Around} {E : Value → Shared → Prop} {s : Shared}
theorem reads_ints {h : Heap} : ∀ {vs : List Value} {ns : List Int}, IntsAre vs ns → ∃ as, ReadsAll h vs (ns.map PyData.int) as
  | _, _, .nil => ⟨_, .nil⟩
  | _, _, .cons n t hi => by
    obtain ⟨as, r⟩ := reads_ints (h := h) hi
    exact ⟨_, .cons (.int n t) r⟩
theorem plain_ints : ∀ ns : List Int, PyData.plainAll (ns.map PyData.int) = true
  | [] => rfl
  | _ :: ns => by
    show (true && PyData.plainAll (ns.map PyData.int)) = true
    rw [plain_ints ns]; rfl
end
def pAnyA : List Pv → Option Pv
  | [.tup l] => (intsP l).map fun ns => .bl (ns.any fun n => n != 0)
  | l => pAny l
section
variable {X : Cx}
theorem cb_anyA (hc : X.calm = true) : CallR X (.builtin "any") (rC X.K pAnyA (RVx X)) := by
  intro pins s σ H vs us Q I r h
  obtain ⟨G, ι, μ, ρ, σ', ps, v, rs, rx, e, k⟩ := h
  unfold pAnyA at e
  split at e
  · rename_i l
    cases e1 : intsP l with
    | none => rw [e1] at e; cases e
    | some ns =>
      rw [e1] at e; cases e
      obtain ⟨x, rfl, h⟩ := rx.one
      obtain ⟨p, ys, rfl, h1, h2⟩ := h.tupE
      rw [ints_map e1] at h2
      rw [h2.intsE] at h1
      obtain ⟨its, rv, hl, _⟩ := I.tuple h1
      rw [Vals.ref1 r]
      obtain ⟨as, ra⟩ := reads_ints (h := s.heap) rv.ints
      refine PySem.W.any_tuple_data (I.ok.hd hc) hl ra (plain_ints ns) (fun x hx => ?_) fun h' tk hk => ⟨.bl _, H, I.kept hk, ?_, k _ H (Same.refl H) ⟨rs, .bl⟩⟩
      · obtain ⟨n, _, rfl⟩ := List.mem_map.mp hx
        trivial
      · show Value.bool _ = Value.bool _
        rw [List.any_map]
        congr 1
  · exact cb_any hc pins s σ H vs us Q I r ⟨G, ι, μ, ρ, σ', _, v, rs, rx, e, k⟩
end
end Q
/-! LO: sorted of a list of empty tuples. -/
namespace Q
open PySem PySem.Spec PyProof.Rows L2 PySem.W PySem.SeqAt
section
variable {prog : Program} {w : World} {A : Around} {s : Shared}
theorem call_tuple_ltE {E : Value → Shared → Prop} {Q : Value → Shared → Prop} {l b : Addr} (hl : s.heap.IsTuple l #[]) (hb : s.heap.IsTuple b #[])
    (h : Q (.bool false) s) : wpAny (model prog w) A (call (.builtin "tuple.__lt__") [.ref l, .ref b]) Q E s := by
  obtain ⟨⟨cls, dd, data, sl⟩, ho, hc, n, hd⟩ := id hl
  obtain ⟨⟨cls2, dd2, data2, sl2⟩, ho2, hc2, n2, hd2⟩ := id hb
  simp only at hc hd hc2 hd2
  subst hc hd hc2 hd2
  exact call_meets F.slot_tuple_lt ⟨_, ho, rfl⟩ F.entry_tuple_lt (F.args_tuple_lt_2 _ _) (tuple_ltAt l b #[] #[] n n2 dd dd2 sl sl2 (fun _ => true) (fun _ => true)) ⟨ho, ho2, fun j h1 => absurd h1 (Nat.not_lt_zero _), fun j h1 => absurd h1 (Nat.not_lt_zero _), h⟩
theorem kae_kind {vs : List Value} {Q : SortKind → Shared → Prop} {E : Value → Shared → Prop} (h2 : 2 ≤ vs.length) (hT : ∀ v ∈ vs, ∃ a, v = .ref a ∧ s.heap.IsTuple a #[]) (h : Q oneType' s) :
    wpAny (model prog w) A (keyKind' vs.toArray) Q E s := by
  obtain ⟨v₁, v₂, rest, rfl⟩ : ∃ v₁ v₂ rest, vs = v₁ :: v₂ :: rest := by
    match vs, h2 with
    | [], h2 => simp at h2
    | [_], h2 => simp at h2
    | v₁ :: v₂ :: rest, _ => exact ⟨v₁, v₂, rest, rfl⟩
  have hL : ∀ v ∈ v₁ :: v₂ :: rest, Looks (model prog w) s.heap (typeOf v) (Value.type "tuple") := fun v hv => by
    obtain ⟨a, rfl, o, ho, hc, _⟩ := hT v hv
    show Looks _ s.heap (typeOf (Value.ref _)) (Value.type "tuple")
    exact hc ▸ (Looks.ld ho).andThen .now
  rw [keyKind'_eq, List.mapM_toArray, map_eq_pure_bind]
  refine wpAny_bind (wpAny_bind (kas_mapM (r := none) _ (fun v hv Q' hq => ?_) (wpAny_pure ?_)))
  · rw [kas_first_eq]
    refine wpAny_bind ((hL v hv).here ?_)
    have t2 : (Value.type "tuple" != Value.type "tuple") = false := by rfl
    rw [t2, if_neg Bool.false_ne_true]
    obtain ⟨a, rfl, o, ho, hc, n, hd⟩ := hT v hv
    refine wpAny_bind (listItems_at ho hd ?_)
    exact wpAny_pure hq
  · rw [if_neg (by simp), if_neg (by simp)]
    rw [oneTypeOnly'_eq, List.mapM_toArray, map_eq_pure_bind]
    refine wpAny_bind (wpAny_bind (wpAny_bind (kas_mapM (r := Value.type "tuple") _ (fun v hv Q' hq => (hL v hv).here hq) (wpAny_pure ?_))))
    have hall : ((List.map (fun _ => Value.type "tuple") (v₁ :: v₂ :: rest)).toArray.all fun x => x == Value.type "tuple") = true := by
      simp only [List.all_toArray, List.all_map, List.all_eq_true]
      intro _ _
      rfl
    have h0 : (List.map (fun _ => Value.type "tuple") (v₁ :: v₂ :: rest)).toArray[0]? = some (Value.type "tuple") := by simp
    rw [h0]
    simp only [hall, if_true]
    exact wpAny_pure (wpAny_pure h)
theorem reads_empty {h : Heap} {v : Value} {as : List Addr} (r : Reads h v (.tuple []) as) : ∃ a, v = .ref a ∧ h.IsTuple a #[] := by
  cases r with
  | @tuple a o xs n _ _ h1 h2 h3 h4 =>
    have : xs = #[] := by
      have := ReadsAll.length _ _ _ h4
      exact Array.eq_empty_of_size_eq_zero (by simpa using this)
    subst this
    exact ⟨a, rfl, o, h1, h2, n, h3⟩
theorem SortsAt.empties {vs : List Value} {ds : List PyData} (e : EachIs (fun v d => ∃ as, Reads s.heap v d as) vs ds) (hd : ∀ d ∈ ds, d = .tuple []) (hu : A.units < cLine) : SortsAt prog w A s (dataKind s.heap ds) vs := by
  have hal : AllAlike ds := fun d h d' h' => by rw [hd d h, hd d' h']; rfl
  have hv : ∀ v ∈ vs, ∃ a, v = .ref a ∧ s.heap.IsTuple a #[] := fun v hv => by
    obtain ⟨d, h, as, r⟩ := e.left v hv
    rw [hd d h] at r
    exact reads_empty r
  refine ⟨fun v hv => ?_, oneType', ?_, fun h2 E Q hq => kae_kind h2 hv hq⟩
  · obtain ⟨d, hd, as, r⟩ := e.left v hv
    exact ⟨_, dataKind_some hal hd r⟩
  · intro E x y a b Q ha hb hq
    obtain ⟨d, as, h1, ra, rfl⟩ := dataKind_inv ha
    obtain ⟨d', as', h2, rb, rfl⟩ := dataKind_inv hb
    have e1 := hd d h1
    have e2 := hd d' h2
    subst e1 e2
    have hq : Q false s := hq
    obtain ⟨p, rfl, hp⟩ := reads_empty ra
    obtain ⟨q, rfl, hq2⟩ := reads_empty rb
    rw [keyLt'_oneType, oneLt'_eq]
    simp only [if_true]
    refine wpAny_bind (wpAny_cRoomFor hu ?_)
    obtain ⟨o, ho, hc, _⟩ := id hp
    refine wpAny_bind (wpAny_callSpecialIfBound?_slot (T := "tuple") ⟨o, ho, hc⟩ F.slot_tuple_lt (call_tuple_ltE hp hq2 ?_))
    exact wpAny_truthy_bool hq
end
def isE : Pv → Bool
  | .tup [] => true
  | _ => false
def allE (l : List Pv) : Bool := rowOk l && l.all isE
def pSortedE : List Pv → Option (List Pv)
  | [.lst l] => if allE l then some (srt false l) else pSorted [.lst l]
  | l => pSorted l
section
variable {X : Cx}
theorem sorts_atE {pins : List (Addr × Obj)} {σ : L2.St} {H : Hp} {s : Shared} {W : Wd} (I : Inv X pins σ H s) {l : List Pv} {vs : List V} {us : List Value} (hu : X.A.units + 64 < cLine) (hK : W.K = X.K) (hH : W.H = H) (ho : allE l = true) (h : Rls W l vs) (r : Vals vs us) (b : Bool) :
    us.length = l.length ∧ SortsAt X.prog X.w X.A.in1.in1 { s with heap := sortingHeap (copyHeap s.heap us) (s.heap.objs.size + 1) us } (dataKind (sortingHeap (copyHeap s.heap us) (s.heap.objs.size + 1) us) (l.map toD)) us ∧
      ∃ out xs, sortVals (dataKind (sortingHeap (copyHeap s.heap us) (s.heap.objs.size + 1) us) (l.map toD)) b us us = out ∧ out.length = l.length ∧ Vals xs out ∧ Rls W (srt b l) xs := by
  have hr : rowOk l = true := by unfold allE at ho; rw [Bool.and_eq_true] at ho; exact ho.1
  obtain ⟨k1, k2⟩ := each_of I hK hH (rowOk_at hr).2.1 h r
  have k3 : EachIs (fun v u => ∃ as, Reads (sortingHeap (copyHeap s.heap us) (s.heap.objs.size + 1) us) v (toD u) as) us l := k2.mono fun _ _ ⟨as, r⟩ => ⟨as, PyProof.Rows.Reads.keeps (fun _ _ => sorting_copy_old) r⟩
  refine ⟨k1.length, SortsAt.empties (s := { s with heap := sortingHeap (copyHeap s.heap us) (s.heap.objs.size + 1) us }) (each_map (R := fun v d => ∃ as, Reads (sortingHeap (copyHeap s.heap us) (s.heap.objs.size + 1) us) v d as) toD k3) (fun d hd => ?_) (by show X.A.units + 1 + 1 < _; omega), ?_⟩
  · obtain ⟨u, hu', rfl⟩ := List.mem_map.mp hd
    unfold allE at ho
    rw [Bool.and_eq_true] at ho
    have := List.all_eq_true.mp ho.2 u hu'
    unfold isE at this
    split at this
    · rw [toD_tup]; unfold toDs; rfl
    · cases this
  · have q := sortVals_data b k1 k3 (alike_rows hr)
    obtain ⟨xs, q1, q2⟩ := rls_each q
    exact ⟨_, xs, rfl, (sortVals_length b rfl).trans k1.length, q1, q2⟩
theorem cr_sortedE (hu : X.A.units + 64 < cLine) : CallR X (.builtin "sorted") (rC X.K pSortedE (RNx X)) := by
  intro pins s σ H vs us Q I r h
  obtain ⟨G, ι, μ, ρ, σ', ps, v, rs, rx, e, k⟩ := h
  unfold pSortedE at e
  split at e
  · rename_i l
    split at e
    · rename_i ho
      cases e
      obtain ⟨x, rfl, h⟩ := rx.one
      obtain ⟨p, ys, rfl, h1, h2⟩ := h.lstE rs
      obtain ⟨its, rv, hl, hz⟩ := I.list (.of h1)
      rw [Vals.ref1 r]
      obtain ⟨hlen, S, out, xs, eo, k1, k2, k3⟩ := sorts_atE I hu rfl rfl ho h2 rv false
      refine PySem.W.sorted_vals hl.isList S (by rw [← rv.length]; exact hz) ?_
      rw [eo]
      obtain ⟨ep, he'⟩ := PyProof.Rows.sortedAll_at s.heap its out.toArray
      have hr : rowOk l = true := by unfold allE at ho; rw [Bool.and_eq_true] at ho; exact ho.1
      have hz : xs.length ≤ sizeLine := by rw [k2.length, k1]; exact lim_le (rowOk_at hr).1
      have hf : H (s.heap.objs.size + 1) = none := I.hok.fresh (Nat.le_succ _)
      exact ⟨.ref _, upd H (s.heap.objs.size + 1) (.lst xs), I.laid (t' := s.toks) (fun _ _ => PyProof.Rows.sortedAll_old) (Nat.le_succ _) ⟨hz, out, ep, k2, he'⟩, rfl, k _ _ (same_upd hf) (rs.newLst hf k3)⟩
    · exact cr_sorted hu pins s σ H vs us Q I r ⟨G, ι, μ, ρ, σ', _, v, rs, rx, e, k⟩
  · exact cr_sorted hu pins s σ H vs us Q I r ⟨G, ι, μ, ρ, σ', _, v, rs, rx, e, k⟩
end
end Q
/-! LQ: sorted(.., reverse=True). -/
namespace Q
open PySem PySem.Spec PyProof.Rows L2 PySem.W
def pSortedK (l : List Pv) (d : Pv) : Option (List Pv) := match l, d with
  | [.lst l], .bl b => if sortOk l then some (srt b l) else none
  | [.tup l], .bl b => if sortOk l then some (srt b l) else none
  | _, _ => none
section
variable {X : Cx}
theorem cr_sortedK (hu : X.A.units + 64 < cLine) : CallRK X (.builtin "sorted") [Str.ofString "reverse"] (rCK X.K pSortedK (RNx X)) := by
  intro pins s σ H vs zs us ws Q I r rz h
  obtain ⟨G, ι, μ, ρ, σ', ps, z, d, v, rfl, rs, rx, rd, e, k⟩ := h
  obtain ⟨w0, rfl, hw⟩ := vals1 rz
  unfold pSortedK at e
  have fine : ∀ (l : List Pv) (b : Bool) (xs : List V) (its : List Value), sortOk l = true → v = srt b l → ∀ out ys, out.length = l.length → Vals ys out → Rls (wd X.K G ι ρ σ' H) (srt b l) ys →
      EP X pins σ Q (.ref (s.heap.objs.size + 1)) { s with heap := PyProof.Rows.sortedAll s.heap its out.toArray } := by
    intro l b xs its ho hv out ys hlen hvals hrls
    obtain ⟨ep, he'⟩ := PyProof.Rows.sortedAll_at s.heap its out.toArray
    have hr : rowOk l = true := by unfold sortOk at ho; rw [Bool.and_eq_true] at ho; exact ho.1
    have hz : ys.length ≤ sizeLine := by rw [hvals.length, hlen]; exact lim_le (rowOk_at hr).1
    have hf : H (s.heap.objs.size + 1) = none := I.hok.fresh (Nat.le_succ _)
    subst hv
    exact ⟨.ref _, upd H (s.heap.objs.size + 1) (.lst ys), I.laid (t' := s.toks) (fun _ _ => PyProof.Rows.sortedAll_old) (Nat.le_succ _) ⟨hz, out, ep, hvals, he'⟩, rfl, k _ _ (same_upd hf) (rs.newLst hf hrls)⟩
  split at e
  · rename_i l b
    split at e
    · rename_i ho
      cases e
      obtain rfl := rd.blE
      obtain ⟨x, rfl, h⟩ := rx.one
      obtain ⟨p, ys, rfl, h1, h2⟩ := h.lstE rs
      obtain ⟨its, rv, hl, hz⟩ := I.list (.of h1)
      rw [Vals.ref1 r]
      have hw : w0 = .bool b := hw
      subst hw
      obtain ⟨hlen, S, out, xs, eo, k1, k2, k3⟩ := sorts_at I hu rfl rfl ho h2 rv b
      refine PySem.W.sorted_rev_vals hl.isList S (by rw [← rv.length]; exact hz) ?_
      rw [eo]
      exact fine l b ys its ho rfl out xs k1 k2 k3
    · cases e
  · rename_i l b
    split at e
    · rename_i ho
      cases e
      obtain rfl := rd.blE
      obtain ⟨x, rfl, h⟩ := rx.one
      obtain ⟨p, ys, rfl, h1, h2⟩ := h.tupE
      obtain ⟨its, rv, hl, hz⟩ := I.tuple h1
      rw [Vals.ref1 r]
      have hw : w0 = .bool b := hw
      subst hw
      obtain ⟨hlen, S, out, xs, eo, k1, k2, k3⟩ := sorts_at I hu rfl rfl ho h2 rv b
      refine sorted_tup hl (by rw [← rv.length]; exact hz) (PyProof.Rows.args_sorted_rev _ _) (fun _ => PyProof.Rows.args_list_sort_rev _ _) fun _ => list_sort_rev_vals (s := { s with heap := copyHeap s.heap its }) (copyHeap_at s.heap its) S (by rw [← rv.length]; exact hz) ⟨rfl, ?_⟩
      have := fine l b ys its ho rfl out xs k1 k2 k3
      rw [← eo] at this
      exact this
    · cases e
  · cases e
end
section
variable {m : Type → Type} [Monad m] [Eff m] {X : Cx} {ρ : List SV} {a e : Expr} {es : List Expr} {pos kp : Pos}
theorem en_bltK {g : List Pv → Pv → Option (List Pv)} {cs : m (List Pv)} {cd : m Pv} {x : Str} {p : Pos} {id : String} {nm : Option Str} {ks : List Str} (hc : CallRK X (.builtin id) ks (rCK X.K g (RNx X))) (hm : X.mg x = none) (hv : bootBuiltins x = some (.builtin id)) (ha : Eka X ρ (a :: es) cs) (hk : Ev X ρ e cd) (hg : Gl X x := by rfl)
    (hn : x ≠ "__name__" := by decide) (hdb : (x == ("__debug__" : Str)) = false := by decide)
    (he : backTo pos (starEach (a :: es) X.env) = (false, eval a X.env) :: backTo pos (starEach es X.env) := by rfl) (hpl : (backTo pos (starEach (a :: es) X.env)).any (·.1) = false := by rfl)
    (hall : (backToKw pos (keywordEach [⟨nm, e, kp⟩] X.env)).all (·.1.isSome) = true := by rfl) (hnone : (backToKw pos (keywordEach [⟨nm, e, kp⟩] X.env)).any (·.1.isNone) = false := by rfl) (hks : (backToKw pos (keywordEach [⟨nm, e, kp⟩] X.env)).filterMap (·.1) = ks := by rfl) :
    En X ρ (.Call (.Name x p) (a :: es) [⟨nm, e, kp⟩] pos) (bD g cs cd) := pe_bltKG hc hm hv ha hk hg hn hdb he hpl hall hnone hks
end
end Q
/-! LR: x.remove(e) on a list of ints. -/
namespace Q
open PySem PySem.Spec PyProof.Rows L2
def remP (l : List Pv) (v : Pv) : Option (List Pv) := match intsP l, v with
  | some ns, .int k => if k ∈ ns then some ((ns.eraseIdx (ns.idxOf k)).map .int) else none
  | _, _ => none
theorem Rls.ofInts {W : Wd} : ∀ ns : List Int, Rls W (ns.map .int) (ns.map V.int)
  | [] => .nil
  | n :: ns => .cons .int (Rls.ofInts ns)
section
variable {X : Cx} {ρ : List SV} {m : Type → Type} [Monad m] [Eff m] {e : Expr} {pos : Pos} {i : Nat} {l : List Pv}
theorem es_remove {c : m Pv} (h : ρ[i]? = some (.ml l)) (hp : PE X e (tBM X.K "list" rRemI (tVar i) (tCons (tG X.K ρ (RV X.K ρ) c) tNil))) (hs : swapsWith e none pos.line X.env = pure false := by rfl) :
    Es X ρ (.Expr e pos) (b1 (remP l) c) fun l' => .nx (ρ.set i (.ml l')) :=
  PS.imp (ps_expr hp hs) fun D σ H q => by
    obtain ⟨G, ι, μ, o, μ', rs, hr, q⟩ := q
    obtain ⟨v, μ1, h1, h2⟩ := inv_bind hr
    obtain ⟨h5, rfl⟩ := inv_lift h2
    unfold remP at h5
    split at h5
    · rename_i ns k hns
      split at h5
      · rename_i hk
        cases h5
        obtain ⟨a, vs, eσ, ow, ha, hl⟩ := rs.slotM h
        refine ⟨.ref a, eσ, .inl ⟨rfl, _, .of ha⟩, G, ι, μ, .int k, _, rs, h1, fun y H1 ι1 st1 z1 => ?_⟩
        obtain ⟨a', vs', eσ', ow', ha', hl'⟩ := z1.1.slotM h
        rw [eσ] at eσ'; cases eσ'
        rw [ints_map hns] at hl'
        rw [hl'.intsE] at ha'
        have hj : ns.idxOf k < ns.length := List.idxOf_lt_length_of_mem hk
        refine ⟨a, ns, k, ns.idxOf k, rfl, ?_, ha', ?_, ?_, q σ _ ι1 (st1.updMl h eσ (nfL ha')) (z1.1.updMl h eσ (Rls.ofInts _))⟩
        · rw [z1.2.intE]
        · rw [List.getElem?_eq_getElem hj, List.getElem_idxOf]
        · intro m hm hz
          obtain ⟨hml, hmk⟩ := List.getElem?_eq_some_iff.mp hz
          have := List.not_of_lt_findIdx (p := (· == k)) (xs := ns) hm
          simp [hmk] at this
      · cases h5
    · cases h5
end
end Q
/-! LS: x, y = list, list; lists that may stand in the store (pIxA, lenA). -/
namespace Q
open PySem PySem.Spec PyProof.Rows L2
section
variable {K : PySem.W.Frag} {G : Addr → Prop} {ι ι1 ι2 : List Addr} {μ μ1 μ2 : List MO} {ρ : List SV} {σ : L2.St} {H H1 H2 : Hp}
/-- values from before a list was made do not hold it -/
theorem Le.fresh {b : Addr} (st : Step ι1 (Mx ι1 ρ σ) H1 ι2 (Mx ι2 ρ σ) H2) (hb : H1 b = none) : Le (wd K G ι1 ρ σ H1) (wd K (fun c => G c ∨ c = b) ι2 ρ σ H2) where
  k := rfl
  i := st.pre
  h := fun a o h k => by
    obtain ⟨h1, h2⟩ := (st.le (K := K) (G := G)).h a o h k
    refine ⟨h1, fun z => ?_⟩
    rcases z with (z | z) | z
    · exact h2 (.inl z)
    · subst z
      have h : H1 a = some o := h
      rw [hb] at h; cases h
    · exact h2 (.inr z)
theorem le_setMl {i : Nat} {l : List Pv} {a : Addr} : Le (wd K (fun b => G b ∨ b = a) ι ρ σ H) (wd K G ι (ρ.set i (.ml l)) (σ.set i (some (.ref a))) H) := ⟨rfl, fun _ _ h => h, fun b o e k => ⟨e, fun z => k (by
    rcases z with z | z | ⟨j, z⟩
    · exact .inl (.inl z)
    · exact .inr (.inl z)
    · rcases own_set_ml z with ⟨z, _⟩ | ⟨_, z⟩
      · exact .inr (.inr ⟨j, z⟩)
      · exact .inl (.inr z))⟩⟩
end
section
variable {X : Cx} {ρ : List SV} {m : Type → Type} [Monad m] [Eff m] {a b : Expr} {pos : Pos}
def parG {α β : Type} (x : m α) (y : m β) : m (α × β) := x >>= fun a => y >>= fun b => pure (a, b)
theorem es_parMM {i j : Nat} {x y : Str} {ca cb : m (List Pv)} {px py pt pt2 : Pos} {kt k2 : Nat} (ha : En X ρ a ca) (hb : En X ρ b cb) (hc : X.calm = true) (hN : X.N.Nodup) (hi : X.N[i]? = some x := by rfl) (hj : X.N[j]? = some y := by rfl) (hij : i ≠ j := by decide)
    (hx : X.env.scope.names.lookup x = some .local := by rfl) (hy : X.env.scope.names.lookup y = some .local := by rfl)
    (hw : swappedStores [.Tuple [.Name x px, .Name y py] kt pt] (.Tuple [a, b] k2 pt2) X.env = pure (some [x, y]) := by rfl)
    (hs : swapsWithSole [.Tuple [.Name x px, .Name y py] kt pt] (.Tuple [a, b] k2 pt2) pos.line X.env = pure false := by rfl)
    (h1 : starEach [a, b] X.env = (false, eval a X.env) :: starEach [b] X.env := by rfl) (h2 : starEach [b] X.env = (false, eval b X.env) :: starEach [] X.env := by rfl) :
    Es X ρ (.Assign [.Tuple [.Name x px, .Name y py] kt pt] (.Tuple [a, b] k2 pt2) pos) (parG ca cb) fun p => .nx ((ρ.set i (.ml p.1)).set j (.ml p.2)) :=
  PS.imp (ps_par hc hN hi hj hij hx hy (pa_cons ha (pa_cons hb pa_nil h2) h1) hw hs) fun D σ H q => by
    obtain ⟨G, ι, μ, o, μ', rs, hr, q⟩ := q
    obtain ⟨la, μ1, g1, g2⟩ := inv_bind hr
    obtain ⟨lb, μ2, g3, g4⟩ := inv_bind g2
    obtain ⟨rfl, rfl⟩ := inv_pure g4
    refine ⟨G, ι, μ, la, μ1, rs, g1, fun xa H1 ι1 st1 z1 => ?_⟩
    obtain ⟨p, vs1, rfl, n1, ng1, e1, rs1, r1⟩ := z1
    refine ⟨_, ι1, μ1, lb, _, rs1, g3, fun xb H2 ι2 st2 z2 => ?_⟩
    obtain ⟨p2, vs2, rfl, n2, ng2, e2, rs2, r2⟩ := z2
    have kp : H2 p = some (.lst vs1) := st2.keep p _ e1 fun z => by
      rcases z with z | ⟨j, z⟩
      · exact (rs1.g p (.inr rfl)).2 z
      · exact (rs1.ni j p z).2 (.inr rfl)
    have r1' := (r1.mono (Le.fresh (G := fun c => G c ∨ c = p) st2 n2)).mono (le_setMl (i := j) (l := lb))
    have rs3 := rs2.setMl (i := j) ng2 e2 r2
    have rs4 := rs3.setMl (i := i) ng1 kp r1'
    have st3 : Step ι (Mx ι ρ σ) H ι2 _ H2 := own_set_step (i := i) (l := la) (a := p) (own_set_step (i := j) (l := lb) (a := p2) (st1.trans st2) (.inr (fresh_back rs (rs1.less (G' := G) fun _ z => .inl z) st1 n2))) (.inr n1)
    have c1 : (ρ.set j (.ml lb)).set i (.ml la) = (ρ.set i (.ml la)).set j (.ml lb) := List.set_comm _ _ (Ne.symm hij)
    have c2 : (σ.set j (some (.ref p2))).set i (some (.ref p)) = (σ.set i (some (.ref p))).set j (some (.ref p2)) := List.set_comm _ _ (Ne.symm hij)
    rw [c1, c2] at rs4 st3
    exact ⟨_, _, rfl, q _ H2 ι2 st3 rs4⟩
theorem es_parVM {i j : Nat} {x y : Str} {ca : m Pv} {cb : m (List Pv)} {px py pt pt2 : Pos} {kt k2 : Nat} (ha : Ev X ρ a ca) (hb : En X ρ b cb) (hc : X.calm = true) (hN : X.N.Nodup) (hi : X.N[i]? = some x := by rfl) (hj : X.N[j]? = some y := by rfl) (hij : i ≠ j := by decide)
    (hx : X.env.scope.names.lookup x = some .local := by rfl) (hy : X.env.scope.names.lookup y = some .local := by rfl)
    (hw : swappedStores [.Tuple [.Name x px, .Name y py] kt pt] (.Tuple [a, b] k2 pt2) X.env = pure (some [x, y]) := by rfl)
    (hs : swapsWithSole [.Tuple [.Name x px, .Name y py] kt pt] (.Tuple [a, b] k2 pt2) pos.line X.env = pure false := by rfl)
    (h1 : starEach [a, b] X.env = (false, eval a X.env) :: starEach [b] X.env := by rfl) (h2 : starEach [b] X.env = (false, eval b X.env) :: starEach [] X.env := by rfl) :
    Es X ρ (.Assign [.Tuple [.Name x px, .Name y py] kt pt] (.Tuple [a, b] k2 pt2) pos) (parG ca cb) fun p => .nx ((ρ.set i (.val p.1)).set j (.ml p.2)) :=
  PS.imp (ps_par hc hN hi hj hij hx hy (pa_cons ha (pa_cons hb pa_nil h2) h1) hw hs) fun D σ H q => by
    obtain ⟨G, ι, μ, o, μ', rs, hr, q⟩ := q
    obtain ⟨la, μ1, g1, g2⟩ := inv_bind hr
    obtain ⟨lb, μ2, g3, g4⟩ := inv_bind g2
    obtain ⟨rfl, rfl⟩ := inv_pure g4
    refine ⟨G, ι, μ, la, μ1, rs, g1, fun xa H1 ι1 st1 z1 => ?_⟩
    refine ⟨_, ι1, μ1, lb, _, z1.1, g3, fun xb H2 ι2 st2 z2 => ?_⟩
    obtain ⟨p2, vs2, rfl, n2, ng2, e2, rs2, r2⟩ := z2
    have r1 := z1.2.mono (Le.fresh st2 n2)
    have rs3 := rs2.setVal (i := i) r1
    have rs4 := rs3.setMl (i := j) ng2 e2 (r2.mono le_set)
    have st3 : Step ι (Mx ι ρ σ) H ι2 _ H2 := own_set_step (i := j) (l := lb) (a := p2) (Step.set (i := i) (v := la) (x := some xa) (st1.trans st2)) (.inr (fresh_back rs z1.1 st1 n2))
    exact ⟨_, _, rfl, q _ H2 ι2 st3 rs4⟩
theorem es_parMV {i j : Nat} {x y : Str} {ca : m (List Pv)} {cb : m Pv} {px py pt pt2 : Pos} {kt k2 : Nat} (ha : En X ρ a ca) (hb : Ev X ρ b cb) (hc : X.calm = true) (hN : X.N.Nodup) (hi : X.N[i]? = some x := by rfl) (hj : X.N[j]? = some y := by rfl) (hij : i ≠ j := by decide)
    (hx : X.env.scope.names.lookup x = some .local := by rfl) (hy : X.env.scope.names.lookup y = some .local := by rfl)
    (hw : swappedStores [.Tuple [.Name x px, .Name y py] kt pt] (.Tuple [a, b] k2 pt2) X.env = pure (some [x, y]) := by rfl)
    (hs : swapsWithSole [.Tuple [.Name x px, .Name y py] kt pt] (.Tuple [a, b] k2 pt2) pos.line X.env = pure false := by rfl)
    (h1 : starEach [a, b] X.env = (false, eval a X.env) :: starEach [b] X.env := by rfl) (h2 : starEach [b] X.env = (false, eval b X.env) :: starEach [] X.env := by rfl) :
    Es X ρ (.Assign [.Tuple [.Name x px, .Name y py] kt pt] (.Tuple [a, b] k2 pt2) pos) (parG ca cb) fun p => .nx ((ρ.set i (.ml p.1)).set j (.val p.2)) :=
  PS.imp (ps_par hc hN hi hj hij hx hy (pa_cons ha (pa_cons hb pa_nil h2) h1) hw hs) fun D σ H q => by
    obtain ⟨G, ι, μ, o, μ', rs, hr, q⟩ := q
    obtain ⟨la, μ1, g1, g2⟩ := inv_bind hr
    obtain ⟨lb, μ2, g3, g4⟩ := inv_bind g2
    obtain ⟨rfl, rfl⟩ := inv_pure g4
    refine ⟨G, ι, μ, la, μ1, rs, g1, fun xa H1 ι1 st1 z1 => ?_⟩
    obtain ⟨p, vs1, rfl, n1, ng1, e1, rs1, r1⟩ := z1
    refine ⟨_, ι1, μ1, lb, _, rs1, g3, fun xb H2 ι2 st2 z2 => ?_⟩
    have kp : H2 p = some (.lst vs1) := st2.keep p _ e1 fun z => by
      rcases z with z | ⟨j, z⟩
      · exact (rs1.g p (.inr rfl)).2 z
      · exact (rs1.ni j p z).2 (.inr rfl)
    have rs3 := z2.1.setVal (i := j) z2.2
    have rs4 := rs3.setMl (i := i) ng1 kp ((r1.mono st2.le).mono le_set)
    have st3 : Step ι (Mx ι ρ σ) H ι2 _ H2 := own_set_step (i := i) (l := la) (a := p) (Step.set (i := j) (v := lb) (x := some xb) (st1.trans st2)) (.inr n1)
    have c1 : (ρ.set j (.val lb)).set i (.ml la) = (ρ.set i (.ml la)).set j (.val lb) := List.set_comm _ _ (Ne.symm hij)
    have c2 : (σ.set j (some xb)).set i (some (.ref p)) = (σ.set i (some (.ref p))).set j (some xb) := List.set_comm _ _ (Ne.symm hij)
    rw [c1, c2] at rs4 st3
    exact ⟨_, _, rfl, q _ H2 ι2 st3 rs4⟩
end
section
variable {X : Cx} {ρ : List SV} {a b : Expr} {pos : Pos} {ca cb : M Pv}
def pIxA (d k : Pv) : M Pv := match d with
  | .loc _ => pIxS d k
  | _ => Eff.lift (pIx d k)
def lenA (d : Pv) : M Pv := match d with
  | .loc _ => lenS d
  | _ => Eff.lift (pLen [d])
theorem lsAt_loc {μ : List MO} {d : Pv} {p : Nat × List Pv} (h : lsAt μ d = some p) : ∃ n, d = .loc n := by
  obtain ⟨n, l⟩ := p
  exact ⟨n, (lsAt_inv h).1⟩
theorem pIxA_cases {d k : Pv} {μ μ' : List MO} {v : Pv} (h : pIxA d k μ = some (v, μ')) : pIxS d k μ = some (v, μ') ∨ (pIx d k = some v ∧ μ' = μ) := by
  unfold pIxA at h
  split at h
  · exact .inl h
  · exact .inr (inv_lift (m := M) h)
theorem lenA_cases {d : Pv} {μ μ' : List MO} {v : Pv} (h : lenA d μ = some (v, μ')) : lenS d μ = some (v, μ') ∨ (pLen [d] = some v ∧ μ' = μ) := by
  unfold lenA at h
  split at h
  · exact .inl h
  · exact .inr (inv_lift (m := M) h)
theorem IxR.or' {r r' : R2} (h : IxR X r) (k : IxR X r') : IxR X fun x y H Q => r x y H Q ∨ r' x y H Q := fun a b pins s σ H x y v u Q I rx ry q e => by
  rcases q with q | q
  · exact h a b pins s σ H x y v u Q I rx ry q e
  · exact k a b pins s σ H x y v u Q I rx ry q e
theorem ev_ixA (ha : Ev X ρ a ca) (hb : Ek X ρ b cb) (hs : PlainIx b := by exact fun _ _ => rfl) : Ev X ρ (.Subscript a b pos) (ca >>= fun d => cb >>= fun k => pIxA d k) :=
  PE.imp (pe_ix (IxR.or' ix_list ob_ix) ha hb hs) fun σ H Q q => by
    obtain ⟨G, ι, μ, v, μ', rs, hr, q⟩ := q
    obtain ⟨d, μ1, h1, h2⟩ := inv_bind hr
    obtain ⟨k, μ2, h3, h4⟩ := inv_bind h2
    refine ⟨G, ι, μ, d, μ1, rs, h1, fun x H1 ι1 st1 z1 => ⟨G, ι1, μ1, k, μ2, z1.1, h3, fun y H2 ι2 st2 z2 => ?_⟩⟩
    rcases pIxA_cases h4 with h4 | ⟨h5, rfl⟩
    · unfold pIxS at h4
      cases e1 : lsAt μ2 d with
      | none => rw [e1] at h4; cases h4
      | some p =>
        obtain ⟨n, l⟩ := p
        rw [e1, Option.bind_some] at h4
        dsimp only at h4
        split at h4
        · rename_i i _
          cases e2 : L2.atI l i with
          | none => rw [e2] at h4; cases h4
          | some w =>
            rw [e2] at h4
            cases h4
            obtain ⟨p, vs, rfl, hp, hH, hl⟩ := z2.1.ls e1 (z1.2.mono st2.le)
            obtain ⟨z, g1, g2⟩ := hl.atI e2
            exact .inl ⟨p, vs, i, z, rfl, z2.2.intE, .of hH, g1, q z H2 ι2 (st1.trans st2) ⟨z2.1, g2⟩⟩
        · cases h4
    · exact .inr ⟨G, ι2, _, ρ, σ, d, k, v, z2.1, .inl (z1.2.mono st2.le), z2.2, h5, fun z H' s hz => q z H' ι2 (st1.trans (st2.trans (Step.same s fun _ h => h))) ⟨z2.1.same s, hz⟩⟩
theorem ev_lenA {p : Pos} (hm : X.mg "len" = none) (ha : Ev X ρ a ca) (hg : Gl X "len" := by rfl) (he : starEach [a] X.env = (false, eval a X.env) :: starEach [] X.env := by rfl) (hpl : (backTo pos (starEach [] X.env)).any (·.1) = false := by rfl) :
    Ev X ρ (.Call (.Name "len" p) [a] [] pos) (ca >>= lenA) :=
  PE.imp (pe_callB (r := fun xs H Q => _ ∨ _) (fun pins s σ H xs us Q I rx q => by
      rcases q with q | q
      · exact call_len_seq pins s σ H xs us Q I rx q
      · exact (cb_len (X := X)) pins s σ H xs us Q I rx q) hg hm PySem.boot_len (pa_cons ha pa_nil he) (by decide) (by decide) he hpl) fun σ H Q q => by
    obtain ⟨G, ι, μ, o, μ', rs, hr, q⟩ := q
    obtain ⟨d, μ1, h1, h2⟩ := inv_bind hr
    refine ⟨G, ι, μ, d, _, rs, h1, fun x H1 ι1 st1 z1 => ?_⟩
    rcases lenA_cases h2 with h2 | ⟨h5, rfl⟩
    · unfold lenS at h2
      cases e1 : lsAt μ1 d with
      | none => rw [e1] at h2; cases h2
      | some p =>
        rw [e1] at h2
        cases h2
        obtain ⟨r, vs, rfl, hp, hH, hl⟩ := z1.1.ls e1 z1.2
        exact .inl ⟨r, vs, rfl, .inl (.of hH), q _ H1 ι1 st1 ⟨z1.1, by rw [← hl.length]; exact .int⟩⟩
    · exact .inr ⟨G, ι1, _, ρ, σ, [d], o, z1.1, ⟨x, [], rfl, .inl z1.2, rfl⟩, h5, fun z H' s hz => q z H' ι1 (st1.trans (Step.same s fun _ h => h)) ⟨z1.1.same s, hz.2⟩⟩
end
end Q
/-! LT: xs.count(k), xs.index(y). -/
namespace Q
open PySem PySem.Spec PyProof.Rows L2
def pCountL : Pv → Pv → Option Pv
  | .lst l, .int k => (intsP l).map fun ns => .int (ns.count k : Nat)
  | _, _ => none
def pIndexL : Pv → Pv → Option Pv
  | .lst l, v => if okE (.lst l) && okE v then (l.findIdx? fun z => peq z v).map fun j => .int (j : Nat) else none
  | _, _ => none
section
variable {X : Cx} {ρ : List SV} {m : Type → Type} [Monad m] [Eff m] {e : Expr} {ca cb : m Pv}
theorem ev_countL (hp : PE X e (tBM X.K "list" (rCntI X.K) (tG X.K ρ (RK X.K ρ) ca) (tCons (tG X.K ρ (RK X.K ρ) cb) tNil))) : Ev X ρ e (b2 pCountL ca cb) :=
  PE.imp hp fun σ H Q q => by
    obtain ⟨G, ι, μ, v, μ', rs, hr, q⟩ := q
    obtain ⟨va, μ1, h1, h2⟩ := inv_bind hr
    obtain ⟨vb, μ2, h3, h4⟩ := inv_bind h2
    obtain ⟨h5, rfl⟩ := inv_lift h4
    unfold pCountL at h5
    split at h5
    · rename_i l k
      cases e : intsP l with
      | none => rw [e] at h5; cases h5
      | some ns =>
        rw [e] at h5
        cases h5
        refine ⟨G, ι, μ, .lst l, μ1, rs, h1, fun x H1 ι1 st1 z1 => ?_⟩
        obtain ⟨a, vs, rfl, ha, hl⟩ := z1.2.lstE z1.1
        refine ⟨.inl ⟨rfl, _, .of ha⟩, G, ι1, μ1, .int k, _, z1.1, h3, fun y H2 ι2 st2 z2 => ?_⟩
        obtain ⟨a', vs', e', ha', hl'⟩ := (z1.2.mono st2.le).lstE z2.1
        cases e'
        rw [ints_map e] at hl'
        rw [hl'.intsE] at ha'
        refine ⟨a, ns, k, rfl, ?_, .of ha', q _ H2 ι2 (st1.trans st2) ⟨z2.1, .int⟩⟩
        rw [z2.2.intE]
    · cases h5
theorem toDs_mapS : ∀ l : List Pv, toDs l = l.map toD
  | [] => rfl
  | x :: l => by simp [toDs, toDs_mapS l]
theorem ev_indexL (hp : PE X e (tBM X.K "list" (rIndexD X.K) (tG X.K ρ (RK X.K ρ) ca) (tCons (tG X.K ρ (RK X.K ρ) cb) tNil))) : Ev X ρ e (b2 pIndexL ca cb) :=
  PE.imp hp fun σ H Q q => by
    obtain ⟨G, ι, μ, v, μ', rs, hr, q⟩ := q
    obtain ⟨va, μ1, h1, h2⟩ := inv_bind hr
    obtain ⟨vb, μ2, h3, h4⟩ := inv_bind h2
    obtain ⟨h5, rfl⟩ := inv_lift h4
    unfold pIndexL at h5
    split at h5
    · rename_i l
      split at h5
      · rename_i hk
        rw [Bool.and_eq_true] at hk
        cases e : l.findIdx? (fun z => peq z vb) with
        | none => rw [e] at h5; cases h5
        | some j =>
          rw [e] at h5
          cases h5
          obtain ⟨hj, hp1, hp2⟩ := List.findIdx?_eq_some_iff_getElem.mp e
          refine ⟨G, ι, μ, .lst l, μ1, rs, h1, fun x H1 ι1 st1 z1 => ?_⟩
          obtain ⟨a, vs, rfl, ha, hl⟩ := z1.2.lstE z1.1
          refine ⟨.inl ⟨rfl, _, .of ha⟩, G, ι1, μ1, vb, _, z1.1, h3, fun y H2 ι2 st2 z2 => ?_⟩
          have d1 : Dp X.K H2 (.ref a) (toD (.lst l)) := Rk.dp z2.1 hk.1 (z1.2.mono st2.le)
          have s1 := okE_shaped hk.1
          rw [toD_lst] at d1 s1
          refine ⟨a, y, toD vb, toDs l, j, toD l[j], rfl, rfl, d1, Rk.dp z2.1 hk.2 z2.2, s1, okE_shaped hk.2, ?_, hp1, fun m z' hm hz => ?_, q _ H2 ι2 (st1.trans st2) ⟨z2.1, .int⟩⟩
          · rw [toDs_mapS, List.getElem?_map, List.getElem?_eq_getElem hj]; rfl
          · have hml : m < l.length := by omega
            rw [toDs_mapS, List.getElem?_map, List.getElem?_eq_getElem hml] at hz
            cases hz
            have := hp2 m hm
            simpa [peq] using this
      · cases h5
    · cases h5
end
end Q
/-! ZN: list(zip(*rows)), tuple(zip(*rows)) of tuples, at the library's level. -/
namespace ZN
open PySem PySem.Spec PyProof.Rows
open PySem.Sem (wp)
abbrev IsZp (h : Heap) (z TI TO : Addr) (f0 : Value) (f : Bool) : Prop :=
  h.get? z = some { cls := .type "zip", dict := none, data := .fields #[f0, .bool f, .bool false, .ref TI, .ref TO], slots := #[] }
abbrev IsTs (h : Heap) (T : Addr) (xs : List Value) : Prop := h.get? T = some { cls := .type "tuple", data := .seq xs.toArray }
/-- iterators over rows, all at k -/
def Itr (h : Heap) (k : Nat) : List Addr → List (Addr × Array Value) → Prop
  | [], [] => True
  | it :: its, r :: rows => h.IsTupleIter it r.1 k ∧ h.IsTuple r.1 r.2 ∧ Itr h k its rows
  | _, _ => False
theorem Itr.keep {h h' : Heap} {k : Nat} {W : Addr → Prop} (hk : ∀ b o, ¬ W b → h.get? b = some o → h'.get? b = some o) : ∀ {its : List Addr} {rows : List (Addr × Array Value)}, Itr h k its rows → (∀ i ∈ its, ¬ W i) → (∀ r ∈ rows, ¬ W r.1) → Itr h' k its rows
  | [], [], _, _, _ => trivial
  | it :: its, r :: rows, ⟨a, b, c⟩, h1, h2 => by
    refine ⟨a.at fun o e => hk _ o (h1 it List.mem_cons_self) e, ?_, Itr.keep hk c (fun i hi => h1 i (List.mem_cons_of_mem _ hi)) fun r hr => h2 r (List.mem_cons_of_mem _ hr)⟩
    obtain ⟨o, ho, r'⟩ := b
    exact ⟨o, hk _ o (h2 r List.mem_cons_self) ho, r'⟩
  | [], _ :: _, h, _, _ => h.elim
  | _ :: _, [], h, _, _ => h.elim
theorem Itr.apart {h : Heap} {k : Nat} {it l : Addr} {j : Nat} (a : h.IsTupleIter it l j) : ∀ {its : List Addr} {rows : List (Addr × Array Value)}, Itr h k its rows → ∀ r ∈ rows, r.1 ≠ it
  | [], [], _, r, hr => absurd hr List.not_mem_nil
  | i :: its, r0 :: rows, ⟨_, b, c⟩, r, hr => by
    rcases List.mem_cons.mp hr with e | hr
    · subst e
      obtain ⟨o, ho, hc, _⟩ := a
      obtain ⟨o', ho', hc', _⟩ := b
      intro e
      rw [e, ho] at ho'
      cases ho'
      rw [hc] at hc'
      exact absurd hc' (by decide)
    · exact c.apart a r hr
  | [], _ :: _, h, _, _ => h.elim
  | _ :: _, [], h, _, _ => h.elim
theorem row_not {h : Heap} {k : Nat} {r : Addr × Array Value} (b : h.IsTuple r.1 r.2) : ∀ {its : List Addr} {rows : List (Addr × Array Value)}, Itr h k its rows → r.1 ∉ its
  | [], [], _, z => absurd z List.not_mem_nil
  | i :: its, r1 :: rows, ⟨q1, _, q3⟩, z => by
    rcases List.mem_cons.mp z with e | z
    · obtain ⟨o, ho, hc, _⟩ := b
      obtain ⟨o', ho', hc', _⟩ := q1
      rw [e, ho'] at ho
      cases ho
      rw [hc'] at hc
      exact absurd hc (by decide)
    · exact row_not b q3 z
  | [], _ :: _, h, _ => h.elim
  | _ :: _, [], h, _ => h.elim
theorem drawKeep {h h1 h2 : Heap} {j : Nat} {it : Addr} {r : Addr × Array Value} {W : Addr → Prop} (b : h.IsTuple r.1 r.2) (a1 : h1.IsTupleIter it r.1 j) (k2 : ∀ b o, ¬ W b → h1.get? b = some o → h2.get? b = some o)
    (k1 : ∀ o, h.get? r.1 = some o → h1.get? r.1 = some o) (w1 : ¬ W it) (w2 : ¬ W r.1) : h2.IsTupleIter it r.1 j ∧ h2.IsTuple r.1 r.2 := by
  refine ⟨a1.at fun o e => k2 _ o w1 e, ?_⟩
  obtain ⟨o, ho, r'⟩ := b
  exact ⟨o, k2 _ o w2 (k1 o ho), r'⟩
section
variable {prog : Program} {w : World} {A : Around} {E : Value → Shared → Prop}
/-- every iterator gives one -/
theorem drawAll {bd : Value → Option Fin × Array Value → Sem (ForInStep (Option Fin × Array Value))} {k : Nat}
    (hb : ∀ (v : Value) (acc : Array Value) (s : Shared) (Q : ForInStep (Option Fin × Array Value) → Shared → Prop), wpAny (model prog w) A (Builtin.SmallTypes.nextOf v) (fun x s' => Q (.yield (none, acc.push x)) s') E s → wpAny (model prog w) A (bd v (none, acc)) Q E s) :
    ∀ (its : List Addr) (rows : List (Addr × Array Value)) (xs : List Value) (acc : Array Value) (s : Shared) (Q : Option Fin × Array Value → Shared → Prop), its.Nodup → Itr s.heap k its rows → rows.map (fun r => r.2[k]?) = xs.map some →
    (∀ h', (∀ b o, b ∉ its → s.heap.get? b = some o → h'.get? b = some o) → h'.objs.size = s.heap.objs.size → Itr h' (k + 1) its rows → Q (none, acc ++ xs.toArray) { s with heap := h' }) →
    wpAny (model prog w) A (forIn (its.map Value.ref) ((none : Option Fin), acc) bd) Q E s
  | [], [], xs, acc, s, Q, _, _, hx, hq => by
    cases xs with
    | cons x xs => cases hx
    | nil =>
      have := hq s.heap (fun b o _ e => e) rfl trivial
      rw [show acc ++ ([] : List Value).toArray = acc by simp] at this
      exact wpAny_pure this
  | it :: its, r :: rows, xs, acc, s, Q, hn, ⟨a, b, c⟩, hx, hq => by
    cases xs with
    | nil => cases hx
    | cons x xs =>
      have hx0 : r.2[k]? = some x := (List.cons.inj hx).1
      have hxs := (List.cons.inj hx).2
      have hn' := List.nodup_cons.mp hn
      rw [List.map_cons, List.forIn_cons]
      refine wpAny_bind (hb _ _ _ _ (RZ.nextOf_tuple_item a b hx0 fun h1 a1 s1 => ?_))
      have k1 : ∀ b o, ¬ (b = it) → s.heap.get? b = some o → h1.get? b = some o := fun b o hb e => s1.extBut b o hb e
      have c1 := c.keep (W := fun b => b = it) k1 (fun i hi e => hn'.1 (e ▸ hi)) fun r hr => c.apart a r hr
      refine drawAll hb its rows xs (acc.push x) { s with heap := h1 } Q hn'.2 c1 hxs fun h2 k2 z2 c2 => ?_
      have := hq h2 (fun b o hb e => k2 b o (fun z => hb (List.mem_cons_of_mem _ z)) (k1 b o (fun z => hb (z ▸ List.mem_cons_self)) e)) (z2.trans s1.1) ⟨a1.at fun o e => k2 _ o hn'.1 e, ?_, c2⟩
      · rw [show acc ++ (x :: xs).toArray = acc.push x ++ xs.toArray by simp] at this
        exact this
      · have hne : r.1 ≠ it := Itr.apart (its := [it]) (rows := [r]) a ⟨a, b, trivial⟩ r List.mem_cons_self
        exact (drawKeep b a1 (W := fun b => b ∈ its) k2 (fun o e => k1 _ o hne e) hn'.1 (row_not b c)).2
  | [], _ :: _, _, _, _, _, _, h, _, _ => h.elim
  | _ :: _, [], _, _, _, _, _, h, _, _ => h.elim
/-- every iterator gives one, laid into the tuple that is kept -/
theorem layAll {bd : Value × Nat → Option Fin × Unit → Sem (ForInStep (Option Fin × Unit))} {k : Nat} {TO : Addr}
    (hb : ∀ (it l : Addr) (items : Array Value) (x y : Value) (pre rest : List Value) (s : Shared) (Q : ForInStep (Option Fin × Unit) → Shared → Prop), s.heap.IsTupleIter it l k → s.heap.IsTuple l items → items[k]? = some x → it ≠ TO → l ≠ TO → (pre ++ y :: rest).length ≤ 1000 → IsTs s.heap TO (pre ++ y :: rest) →
      (∀ h', h'.IsTupleIter it l (k + 1) → IsTs h' TO (pre ++ x :: rest) → h'.objs.size = s.heap.objs.size → (∀ b o, b ≠ it → b ≠ TO → s.heap.get? b = some o → h'.get? b = some o) → Q (.yield (none, ())) { s with heap := h' }) →
      wpAny (model prog w) A (bd (.ref it, pre.length) (none, ())) Q E s) :
    ∀ (its : List Addr) (rows : List (Addr × Array Value)) (xs pre rest : List Value) (s : Shared) (Q : Option Fin × Unit → Shared → Prop), its.Nodup → TO ∉ its → (∀ r ∈ rows, r.1 ≠ TO) → Itr s.heap k its rows → rows.map (fun r => r.2[k]?) = xs.map some → rest.length = its.length → (pre ++ rest).length ≤ 1000 → IsTs s.heap TO (pre ++ rest) →
    (∀ h', (∀ b o, b ∉ its → b ≠ TO → s.heap.get? b = some o → h'.get? b = some o) → h'.objs.size = s.heap.objs.size → Itr h' (k + 1) its rows → IsTs h' TO (pre ++ xs) → Q (none, ()) { s with heap := h' }) →
    wpAny (model prog w) A (forIn ((its.map Value.ref).zipIdx pre.length) ((none : Option Fin), ()) bd) Q E s
  | [], [], xs, pre, rest, s, Q, _, _, _, _, hx, hr, _, hT, hq => by
    cases xs with
    | cons x xs => cases hx
    | nil =>
      cases rest with
      | cons y rest => cases hr
      | nil => exact wpAny_pure (hq s.heap (fun b o _ _ e => e) rfl trivial hT)
  | it :: its, r :: rows, xs, pre, rest, s, Q, hn, hTi, hTr, ⟨a, b, c⟩, hx, hr, hz, hT, hq => by
    cases xs with
    | nil => cases hx
    | cons x xs =>
      cases rest with
      | nil => cases hr
      | cons y rest =>
        have hx0 : r.2[k]? = some x := (List.cons.inj hx).1
        have hxs := (List.cons.inj hx).2
        have hn' := List.nodup_cons.mp hn
        rw [List.map_cons, List.zipIdx_cons, List.forIn_cons]
        refine wpAny_bind (hb it r.1 r.2 x y pre rest s _ a b hx0 (fun e => hTi (e ▸ List.mem_cons_self)) (hTr r List.mem_cons_self) hz hT fun h1 a1 t1 z1 k1 => ?_)
        have c1 := c.keep (W := fun b => b = it ∨ b = TO) (h' := h1) (fun b o hb e => k1 b o (fun z => hb (.inl z)) (fun z => hb (.inr z)) e) (fun i hi e => by
          rcases e with e | e
          · exact hn'.1 (e ▸ hi)
          · exact hTi (e ▸ List.mem_cons_of_mem _ hi)) fun r hr e => by
          rcases e with e | e
          · exact c.apart a r hr e
          · exact hTr r (List.mem_cons_of_mem _ hr) e
        have t1' : IsTs h1 TO ((pre ++ [x]) ++ rest) := by rw [List.append_assoc]; exact t1
        have ih := layAll hb its rows xs (pre ++ [x]) rest { s with heap := h1 } Q hn'.2 (fun z => hTi (List.mem_cons_of_mem _ z)) (fun r hr => hTr r (List.mem_cons_of_mem _ hr)) c1 hxs (Nat.succ.inj hr) (by simp only [List.length_append, List.length_cons, List.length_nil] at hz ⊢; omega) t1' fun h2 k2 z2 c2 t2 => ?_
        · rw [List.length_append] at ih
          exact ih
        · have rest' := drawKeep b a1 (W := fun b => b ∈ its ∨ b = TO) (h1 := h1) (h2 := h2) (fun b o hb e => k2 b o (fun z => hb (.inl z)) (fun z => hb (.inr z)) e) (fun o e => k1 _ o (by
            have := Itr.apart (its := [it]) (rows := [r]) a ⟨a, b, trivial⟩ r List.mem_cons_self
            exact this) (hTr r List.mem_cons_self) e) (fun z => by
            rcases z with z | z
            · exact hn'.1 z
            · exact hTi (z ▸ List.mem_cons_self)) (fun z => by
            rcases z with z | z
            · exact row_not b c z
            · exact hTr r List.mem_cons_self z)
          refine hq h2 (fun b o hb hb' e => k2 b o (fun z => hb (List.mem_cons_of_mem _ z)) hb' (k1 b o (fun z => hb (z ▸ List.mem_cons_self)) hb' e)) (z2.trans z1) ⟨rest'.1, rest'.2, c2⟩ ?_
          rw [List.append_assoc] at t2
          exact t2
  | [], _ :: _, _, _, _, _, _, _, _, _, h, _, _, _, _, _ => h.elim
  | _ :: _, [], _, _, _, _, _, _, _, _, h, _, _, _, _, _ => h.elim
variable {s : Shared}
theorem zp_out {z TI TO a : Addr} {f : Bool} {oa : Obj} {k : Nat} {its : List Addr} {rows : List (Addr × Array Value)} {xs : List Value} {Q : Value → Shared → Prop} (hz : IsZp s.heap z TI TO (rawInt a) f) (ha : s.heap.get? a = some oa) (haz : a ≠ z)
    (hTI : IsTs s.heap TI (its.map Value.ref)) (hne : its ≠ []) (hn : its.Nodup) (hI : Itr s.heap k its rows) (hzi : z ∉ its) (hzr : ∀ r ∈ rows, r.1 ≠ z) (hx : rows.map (fun r => r.2[k]?) = xs.map some) (hsz : xs.length ≤ 1000)
    (hQ : ∀ h', IsZp h' z TI TO (rawInt a) true → Itr h' (k + 1) its rows → IsTs h' s.heap.objs.size xs → h'.objs.size = s.heap.objs.size + 1 → (∀ b o, b ∉ its → b ≠ z → s.heap.get? b = some o → h'.get? b = some o) → Q (.ref s.heap.objs.size) { s with heap := h' }) :
    wpAny (model prog w) A (Builtin.«zip.__next__» ⟨[.ref z], []⟩) (fun fin s' => ∃ v, fin = .done (.ret v) ∧ Q v s') E s := by
  show wpAny _ _ (field (.ref z) 2 >>= _) _ _ _
  refine wpAny_bind (wpAny_field hz rfl (x := .bool false) rfl ?_)
  show wpAny _ _ (field (.ref z) 3 >>= _) _ _ _
  refine wpAny_bind (wpAny_field hz rfl (x := .ref TI) rfl ?_)
  refine wpAny_bind (wpAny_seqItems hTI rfl ?_)
  have h0 : ((its.map Value.ref).toArray).isEmpty = false := by
    cases its with
    | nil => exact absurd rfl hne
    | cons a l => rfl
  simp only [h0, Bool.false_eq_true, if_false]
  show wpAny _ _ (Builtin.SmallTypes.ownedTupleIsFree (.ref z) >>= _) _ _ _
  refine wpAny_bind ?_
  unfold Builtin.SmallTypes.ownedTupleIsFree
  refine wpAny_bind (wpAny_field hz rfl (x := rawInt a) rfl ?_)
  show wpAny _ _ (loadIfAlive ((a : Int).toNat) >>= _) _ _ _
  rw [Int.toNat_natCast]
  refine wpAny_bind (PySem.W.kdx_alive ha ?_)
  simp only [Option.isNone_some, Bool.false_eq_true, if_false]
  refine wpAny_bind (wpAny_field hz rfl (x := .bool f) rfl ?_)
  refine wpAny_mono (show wpAny (model prog w) A _ (fun b s' => b = false ∧ ∃ h1 : Heap, s' = { s with heap := h1 } ∧ IsZp h1 z TI TO (rawInt a) true ∧ h1.objs.size = s.heap.objs.size ∧ ∀ b o, b ≠ z → s.heap.get? b = some o → h1.get? b = some o) E s from ?_) (fun b s' q => ?_) fun _ _ q => q
  · cases f with
    | true =>
      rw [if_neg (show ¬ ((Value.bool true != Value.bool true) = true) from Bool.false_ne_true)]
      exact wpAny_pure ⟨rfl, s.heap, rfl, hz, rfl, fun _ _ _ e => e⟩
    | false =>
      rw [if_pos (show (Value.bool false != Value.bool true) = true from rfl)]
      refine wpAny_bind (wpAny_setField_rec hz (by simp) fun h1 z1 s1 => wpAny_pure ?_)
      exact ⟨rfl, h1, rfl, z1, s1.1, fun b o hb e => s1.extBut b o hb e⟩
  obtain ⟨rfl, h1, rfl, z1, s1, k1⟩ := q
  simp only [Bool.false_eq_true, if_false]
  rw [List.forIn_toArray]
  refine wpAny_bind ?_
  refine drawAll (k := k) (fun v acc s Q h => ?_) its rows xs #[] { s with heap := h1 } _ hn (hI.keep (W := fun b => b = z) k1 (fun i hi e => hzi (e ▸ hi)) hzr) hx fun h2 k2 z2 c2 => ?_
  · refine wpAny_bind (wpAny_holding ?_)
    show wpAny _ _ (Builtin.SmallTypes.nextOf v >>= fun x => pure (some x)) _ _ _
    exact wpAny_bind (wpAny_mono h (fun x s' q => wpAny_pure (wpAny_pure q)) fun _ _ q => q)
  · have z3 : IsZp h2 z TI TO (rawInt a) true := k2 z _ hzi z1
    have e0 : (#[] ++ xs.toArray : Array Value).toList = xs := by simp
    show wpAny _ _ (newTuple (#[] ++ xs.toArray : Array Value).toList >>= _) _ _ _
    rw [e0]
    refine wpAny_bind (wpAny_newTuple ?_)
    have sz : h2.objs.size = s.heap.objs.size := z2.trans s1
    refine wpAny_pure ⟨_, rfl, ?_⟩
    show Q (.ref h2.objs.size) _
    rw [sz]
    have up : ∀ b o, h2.get? b = some o → (h2.push { cls := .type "tuple", data := .seq xs.toArray }).get? b = some o := fun b o e => Heap.get?_push_of_some _ e
    refine hQ _ (up _ _ z3) (c2.keep (W := fun _ => False) (fun b o _ e => up b o e) (fun _ _ h => h) fun _ _ h => h) ?_ (by rw [Heap.size_push, sz]) fun b o hb hb' e => up b o (k2 b o hb (k1 b o hb' e))
    have := Heap.get?_push_size h2 (o := { cls := .type "tuple", data := .seq xs.toArray }) rfl
    rw [sz] at this
    exact this
/-- the first tuple is the one that was kept -/
theorem zp_first {z TI TO : Addr} {its : List Addr} {rows : List (Addr × Array Value)} {xs ys : List Value} {Q : Value → Shared → Prop} (hz : IsZp s.heap z TI TO .none false)
    (hTI : IsTs s.heap TI (its.map Value.ref)) (hTO : IsTs s.heap TO ys) (hl : ys.length = its.length) (hys : ys.length ≤ 1000) (hne : its ≠ []) (hn : its.Nodup) (hI : Itr s.heap 0 its rows) (hzi : z ∉ its) (hzr : ∀ r ∈ rows, r.1 ≠ z) (hTi : TO ∉ its) (hTr : ∀ r ∈ rows, r.1 ≠ TO) (hTz : TO ≠ z) (hx : rows.map (fun r => r.2[0]?) = xs.map some) (hsz : xs.length ≤ 1000)
    (hQ : ∀ h', IsZp h' z TI TO (rawInt s.heap.objs.size) false → Itr h' 1 its rows → IsTs h' s.heap.objs.size xs → h'.objs.size = s.heap.objs.size + 1 → (∀ b o, b ∉ its → b ≠ z → b ≠ TO → s.heap.get? b = some o → h'.get? b = some o) → Q (.ref s.heap.objs.size) { s with heap := h' }) :
    wpAny (model prog w) A (Builtin.«zip.__next__» ⟨[.ref z], []⟩) (fun fin s' => ∃ v, fin = .done (.ret v) ∧ Q v s') E s := by
  show wpAny _ _ (field (.ref z) 2 >>= _) _ _ _
  refine wpAny_bind (wpAny_field hz rfl (x := .bool false) rfl ?_)
  show wpAny _ _ (field (.ref z) 3 >>= _) _ _ _
  refine wpAny_bind (wpAny_field hz rfl (x := .ref TI) rfl ?_)
  refine wpAny_bind (wpAny_seqItems hTI rfl ?_)
  have h0 : ((its.map Value.ref).toArray).isEmpty = false := by
    cases its with
    | nil => exact absurd rfl hne
    | cons a l => rfl
  simp only [h0, Bool.false_eq_true, if_false]
  show wpAny _ _ (Builtin.SmallTypes.ownedTupleIsFree (.ref z) >>= _) _ _ _
  refine wpAny_bind ?_
  unfold Builtin.SmallTypes.ownedTupleIsFree
  refine wpAny_bind (wpAny_field hz rfl (x := .none) rfl (wpAny_pure ?_))
  simp only [if_true]
  refine wpAny_bind (wpAny_rule ?_)
  refine wpAny_bind (wpAny_field hz rfl (x := .ref TO) rfl ?_)
  refine wpAny_bind (wpAny_setField_rec hz (by simp) fun h1 z1 s1 => ?_)
  replace z1 : IsZp h1 z TI TO .ellipsis false := z1
  have k1 : ∀ b o, b ≠ z → s.heap.get? b = some o → h1.get? b = some o := fun b o hb e => s1.extBut b o hb e
  refine wpAny_bind ?_
  refine layAll (k := 0) (TO := TO) (fun it l items x y pre rest s Q a b hx0 hiT hlT hlen hT q => ?_) its rows xs [] ys { s with heap := h1 } _ hn hTi hTr (hI.keep (W := fun b => b = z) k1 (fun i hi e => hzi (e ▸ hi)) hzr) hx hl (by simpa using hys) (k1 _ _ hTz hTO) fun h2 k2 z2 c2 t2 => ?_
  · refine wpAny_bind (wpAny_onRaise ?_)
    show wpAny _ _ (Builtin.SmallTypes.nextOf (.ref it) >>= fun x => pure (some x)) _ _ _
    refine wpAny_bind (RZ.nextOf_tuple_item a b hx0 fun h3 a3 s3 => wpAny_pure ?_)
    have hT3 : IsTs h3 TO (pre ++ y :: rest) := s3.extBut _ _ (Ne.symm hiT) hT
    show wpAny _ _ (seqItems? (Value.ref TO) >>= _) _ _ _
    refine wpAny_bind (wpAny_seqItems hT3 rfl ?_)
    have e1 : ((pre ++ y :: rest).toArray).setIfInBounds pre.length x = (pre ++ x :: rest).toArray := by
      rw [List.setIfInBounds_toArray, List.set_append_right _ _ (Nat.le_refl _), Nat.sub_self]; rfl
    refine wpAny_bind (wpAny_updateSeq hT3 rfl ?_ (by rw [sizeLine_eq, List.size_toArray]; omega) (by
      show (((pre ++ y :: rest).toArray).setIfInBounds pre.length x).size ≤ _
      rw [e1, sizeLine_eq, List.size_toArray]
      simp only [List.length_append, List.length_cons] at hlen ⊢
      omega))
    refine wpAny_bind (wpAny_letGo (wpAny_pure ?_))
    have g4 := Heap.get?_update_self (Obj.mapSeq (fun xs => xs.setIfInBounds pre.length x)) hT3 rfl
    have k4 : ∀ b o, b ≠ TO → h3.get? b = some o → (h3.update TO (Obj.mapSeq (fun xs => xs.setIfInBounds pre.length x))).get? b = some o := fun b o hb e => (Heap.get?_update_other _ _ (Ne.symm hb)).trans e
    refine q _ (a3.at fun o e => k4 _ o hiT e) ?_ ?_ fun b o hb hb' e => k4 b o hb' (s3.extBut b o hb e)
    · show _ = _
      rw [g4]
      simp [Obj.mapSeq]
    · rw [(Heap.SameBut.update ..).1, s3.1]
  · have t2 : IsTs h2 TO xs := t2
    show wpAny _ _ (seqItems? (Value.ref TO) >>= _) _ _ _
    refine wpAny_bind (wpAny_seqItems t2 rfl ?_)
    show wpAny _ _ (newTuple xs >>= _) _ _ _
    refine wpAny_bind (wpAny_newTuple ?_)
    have sz : h2.objs.size = s.heap.objs.size := z2.trans s1.1
    have z3 : IsZp h2 z TI TO .ellipsis false := k2 z _ hzi (Ne.symm hTz) z1
    show wpAny _ _ (Builtin.SmallTypes.ownedTupleHandOut (.ref z) (.ref h2.objs.size) >>= _) _ _ _
    refine wpAny_bind ?_
    unfold Builtin.SmallTypes.ownedTupleHandOut
    have z4 : IsZp (h2.push { cls := .type "tuple", data := .seq xs.toArray }) z TI TO .ellipsis false := Heap.get?_push_of_some _ z3
    refine wpAny_bind (wpAny_setField_rec z4 (by simp) fun h5 z5 s5 => ?_)
    replace z5 : IsZp h5 z TI TO (rawInt h2.objs.size) false := z5
    refine wpAny_setField_rec z5 (by simp) fun h6 z6 s6 => ?_
    replace z6 : IsZp h6 z TI TO (rawInt h2.objs.size) false := z6
    have up : ∀ b o, b ≠ z → h2.get? b = some o → h6.get? b = some o := fun b o hb e => s6.extBut b o hb (s5.extBut b o hb (Heap.get?_push_of_some _ e))
    have hzl : z < h2.objs.size := Heap.lt_size z3
    have hT : IsTs h6 h2.objs.size xs := s6.extBut _ _ (Nat.ne_of_gt hzl) (s5.extBut _ _ (Nat.ne_of_gt hzl) (Heap.get?_push_size _ rfl))
    have sz6 : h6.objs.size = h2.objs.size + 1 := by rw [s6.1, s5.1, Heap.size_push]
    rw [sz] at z6 hT sz6
    refine wpAny_pure ⟨_, rfl, ?_⟩
    show Q (.ref h2.objs.size) _
    rw [sz]
    exact hQ h6 z6 (c2.keep (W := fun b => b = z) up (fun i hi e => hzi (e ▸ hi)) hzr) hT sz6 fun b o hb hb' hb'' e => up b o hb' (k2 b o hb hb'' (k1 b o hb' e))
/-- behind the last one -/
theorem zp_end {z TI TO a it : Addr} {f : Bool} {oa : Obj} {k : Nat} {its : List Addr} {r : Addr × Array Value} {Q : PySem.Fin → Shared → Prop} (hh : A.handled = none) (hz : IsZp s.heap z TI TO (rawInt a) f) (ha : s.heap.get? a = some oa)
    (hTI : IsTs s.heap TI ((it :: its).map Value.ref)) (hi : s.heap.IsTupleIter it r.1 k) (hr : s.heap.IsTuple r.1 r.2) (hzi : z ≠ it) (hzr : r.1 ≠ z) (hx : r.2[k]? = none)
    (hE : ∀ h' e, (∀ b o, b ≠ it → b ≠ z → s.heap.get? b = some o → h'.get? b = some o) → (∃ o, h'.get? e = some o ∧ o.cls = .type "StopIteration") → E (.ref e) { s with heap := h' }) :
    wpAny (model prog w) A (Builtin.«zip.__next__» ⟨[.ref z], []⟩) Q E s := by
  show wpAny _ _ (field (.ref z) 2 >>= _) _ _ _
  refine wpAny_bind (wpAny_field hz rfl (x := .bool false) rfl ?_)
  show wpAny _ _ (field (.ref z) 3 >>= _) _ _ _
  refine wpAny_bind (wpAny_field hz rfl (x := .ref TI) rfl ?_)
  refine wpAny_bind (wpAny_seqItems hTI rfl ?_)
  have h0 : (((it :: its).map Value.ref).toArray).isEmpty = false := rfl
  simp only [h0, Bool.false_eq_true, if_false]
  show wpAny _ _ (Builtin.SmallTypes.ownedTupleIsFree (.ref z) >>= _) _ _ _
  refine wpAny_bind ?_
  unfold Builtin.SmallTypes.ownedTupleIsFree
  refine wpAny_bind (wpAny_field hz rfl (x := rawInt a) rfl ?_)
  show wpAny _ _ (loadIfAlive ((a : Int).toNat) >>= _) _ _ _
  rw [Int.toNat_natCast]
  refine wpAny_bind (PySem.W.kdx_alive ha ?_)
  simp only [Option.isNone_some, Bool.false_eq_true, if_false]
  refine wpAny_bind (wpAny_field hz rfl (x := .bool f) rfl ?_)
  refine wpAny_mono (show wpAny (model prog w) A _ (fun b s' => b = false ∧ ∃ h1 : Heap, s' = { s with heap := h1 } ∧ h1.objs.size = s.heap.objs.size ∧ ∀ b o, b ≠ z → s.heap.get? b = some o → h1.get? b = some o) E s from ?_) (fun b s' q => ?_) fun _ _ q => q
  · cases f with
    | true =>
      rw [if_neg (show ¬ ((Value.bool true != Value.bool true) = true) from Bool.false_ne_true)]
      exact wpAny_pure ⟨rfl, s.heap, rfl, rfl, fun _ _ _ e => e⟩
    | false =>
      rw [if_pos (show (Value.bool false != Value.bool true) = true from rfl)]
      refine wpAny_bind (wpAny_setField_rec hz (by simp) fun h1 z1 s1 => wpAny_pure ?_)
      exact ⟨rfl, h1, rfl, s1.1, fun b o hb e => s1.extBut b o hb e⟩
  obtain ⟨rfl, h1, rfl, s1, k1⟩ := q
  simp only [Bool.false_eq_true, if_false]
  rw [List.forIn_toArray, List.map_cons, List.forIn_cons]
  refine wpAny_bind (wpAny_bind (wpAny_bind (wpAny_holding ?_)))
  show wpAny _ _ (Builtin.SmallTypes.nextOf (.ref it) >>= fun x => pure (some x)) _ _ _
  refine wpAny_bind (RZ.nextOf_tuple_end (s := { s with heap := h1 }) hh (hi.at fun o e => k1 _ o (Ne.symm hzi) e) (by obtain ⟨o, ho, r'⟩ := hr; exact ⟨o, k1 _ o hzr ho, r'⟩) hx fun h2 e he hs => ?_)
  exact hE h2 e (fun b o hb hb' ee => he b o hb (k1 b o hb' ee)) hs
/-- next(z): one tuple more -/
def ZSt (h : Heap) (z TI TO S : Addr) (k : Nat) (its : List Addr) (rows : List (Addr × Array Value)) : Prop :=
  Itr h k its rows ∧ IsTs h TI (its.map Value.ref) ∧ ((k = 0 ∧ IsZp h z TI TO .none false ∧ ∃ ys : List Value, IsTs h TO ys ∧ ys.length = its.length) ∨ ∃ (a : Addr) (f : Bool) (oa : Obj), IsZp h z TI TO (rawInt a) f ∧ h.get? a = some oa ∧ a ≠ z ∧ a ≠ TO ∧ a ≠ S ∧ a ∉ its)
/-- what is apart -/
structure Ap (z TI TO : Addr) (its : List Addr) (rows : List (Addr × Array Value)) : Prop where
  ne : its ≠ []
  nd : its.Nodup
  zi : z ∉ its
  zr : ∀ r ∈ rows, r.1 ≠ z
  oi : TO ∉ its
  or : ∀ r ∈ rows, r.1 ≠ TO
  oz : TO ≠ z
  iz : TI ≠ z
  io : TI ≠ TO
  ii : TI ∉ its
  len : its.length ≤ 1000
theorem ZSt.keep {h h' : Heap} {z TI TO S : Addr} {k : Nat} {its : List Addr} {rows : List (Addr × Array Value)} (x : ZSt h z TI TO S k its rows) (hk : ∀ b o, b ≠ S → h.get? b = some o → h'.get? b = some o) (h1 : S ∉ its) (h2 : ∀ r ∈ rows, r.1 ≠ S) (h3 : z ≠ S) (h4 : TI ≠ S) (h5 : TO ≠ S) : ZSt h' z TI TO S k its rows := by
  obtain ⟨a, b, c⟩ := x
  refine ⟨a.keep (W := fun b => b = S) hk (fun i hi e => h1 (e ▸ hi)) h2, hk _ _ h4 b, ?_⟩
  rcases c with ⟨e, c, ys, c2, c3⟩ | ⟨a, f, oa, c1, c2, c3, c4, c5, c6⟩
  · exact .inl ⟨e, hk _ _ h3 c, ys, hk _ _ h5 c2, c3⟩
  · exact .inr ⟨a, f, oa, hk _ _ h3 c1, hk _ _ c5 c2, c3, c4, c5, c6⟩
theorem zp_item {z TI TO S : Addr} {k : Nat} {its : List Addr} {rows : List (Addr × Array Value)} {xs : List Value} {Q : Option Value → Shared → Prop} (ap : Ap z TI TO its rows) (st : ZSt s.heap z TI TO S k its rows) (hS : S < s.heap.objs.size) (hx : rows.map (fun r => r.2[k]?) = xs.map some) (hl : xs.length ≤ 1000) (hS1 : S ∉ its)
    (hQ : ∀ h', ZSt h' z TI TO S (k + 1) its rows → IsTs h' s.heap.objs.size xs → h'.objs.size = s.heap.objs.size + 1 → (∀ b o, b ∉ its → b ≠ z → b ≠ TO → s.heap.get? b = some o → h'.get? b = some o) → Q (some (.ref s.heap.objs.size)) { s with heap := h' }) :
    wpAny (model prog w) A (pyNext (.ref z)) Q E s := by
  obtain ⟨hI, hTI, c⟩ := st
  have big : ∀ b, (∃ o, s.heap.get? b = some o) → s.heap.objs.size ≠ b := fun b ⟨o, e⟩ => Nat.ne_of_gt (Heap.lt_size e)
  have bi : s.heap.objs.size ∉ its := by
    have : ∀ {its : List Addr} {rows : List (Addr × Array Value)}, Itr s.heap k its rows → s.heap.objs.size ∉ its := by
      intro its
      induction its with
      | nil => intro _ _ z; exact absurd z List.not_mem_nil
      | cons i its ih =>
        intro rows h z
        cases rows with
        | nil => exact h.elim
        | cons r rows =>
          obtain ⟨⟨o, ho, _⟩, _, q3⟩ := h
          rcases List.mem_cons.mp z with e | z
          · exact big i ⟨o, ho⟩ e
          · exact ih q3 z
    exact this hI
  have bS : s.heap.objs.size ≠ S := Nat.ne_of_gt hS
  rcases c with ⟨rfl, c, ys, c2, c3⟩ | ⟨a, f, oa, c1, c2, c3, c4, c5, c6⟩
  · have hT : s.TypeIs (.ref z) "zip" := ⟨_, c, rfl⟩
    unfold pyNext
    refine wpAny_bind (wpAny_attempt (wpAny_callSpecial?_slot (name := Str.ofString "__next__") hT F.slot_zip_next (wpAny_call_entry F.slot_zip_next hT F.entry_zip_next ?_ (F.args_zip_next_1 _))))
    refine zp_first c hTI c2 c3 (by rw [c3]; exact ap.len) ap.ne ap.nd hI ap.zi ap.zr ap.oi ap.or ap.oz hx hl fun h' z1 i1 t1 s1 k1 => wpAny_pure ?_
    exact hQ h' ⟨i1, k1 _ _ ap.ii ap.iz ap.io hTI, .inr ⟨_, false, _, z1, t1, big z ⟨_, c⟩, big TO ⟨_, c2⟩, bS, bi⟩⟩ t1 s1 k1
  · have hT : s.TypeIs (.ref z) "zip" := ⟨_, c1, rfl⟩
    unfold pyNext
    refine wpAny_bind (wpAny_attempt (wpAny_callSpecial?_slot (name := Str.ofString "__next__") hT F.slot_zip_next (wpAny_call_entry F.slot_zip_next hT F.entry_zip_next ?_ (F.args_zip_next_1 _))))
    refine zp_out c1 c2 c3 hTI ap.ne ap.nd hI ap.zi ap.zr hx hl fun h' z1 i1 t1 s1 k1 => wpAny_pure ?_
    exact hQ h' ⟨i1, k1 _ _ ap.ii ap.iz hTI, .inr ⟨a, true, oa, z1, k1 _ _ c6 c3 c2, c3, c4, c5, c6⟩⟩ t1 s1 fun b o hb hb' _ e => k1 b o hb hb' e
theorem zp_done {z TI TO S : Addr} {k : Nat} {its : List Addr} {rows : List (Addr × Array Value)} {Q : Option Value → Shared → Prop} (hh : A.handled = none) (ap : Ap z TI TO its rows) (st : ZSt s.heap z TI TO S (k + 1) its rows) (hx : ∀ r ∈ rows, r.2[k + 1]? = none)
    (hQ : ∀ h', (∀ b o, b ∉ its → b ≠ z → s.heap.get? b = some o → h'.get? b = some o) → Q none { s with heap := h' }) : wpAny (model prog w) A (pyNext (.ref z)) Q E s := by
  obtain ⟨hI, hTI, c⟩ := st
  rcases c with ⟨e, _⟩ | ⟨a, f, oa, c1, c2, c3, c4, c5, c6⟩
  · cases e
  · have hT : s.TypeIs (.ref z) "zip" := ⟨_, c1, rfl⟩
    cases its with
    | nil => exact absurd rfl ap.ne
    | cons it its =>
      cases rows with
      | nil => exact hI.elim
      | cons r rows =>
        obtain ⟨i1, i2, _⟩ := hI
        unfold pyNext
        refine wpAny_bind (wpAny_attempt (wpAny_callSpecial?_slot (name := Str.ofString "__next__") hT F.slot_zip_next (wpAny_call_entry F.slot_zip_next hT F.entry_zip_next ?_ (F.args_zip_next_1 _))))
        refine zp_end hh c1 c2 hTI i1 i2 (fun e => ap.zi (e ▸ List.mem_cons_self)) (ap.zr r List.mem_cons_self) (hx r List.mem_cons_self) fun h' e hk he => ?_
        obtain ⟨o, ho, hc⟩ := he
        refine wpAny_bind (wpAny_isInstance (T := "StopIteration") (b := true) ⟨o, ho, hc⟩ isSubtype_stop ?_)
        exact wpAny_pure (hQ _ fun b o hb hb' e => hk b o (fun z => hb (z ▸ List.mem_cons_self)) hb' e)
end
/-- the tuples made so far -/
structure ZG (cols : List (List Value)) (lo : Addr) (h : Heap) (as : List Addr) : Prop where
  rise : as.Pairwise (· < ·)
  above : ∀ a ∈ as, lo < a
  at_ : ∀ (j : Nat) (a : Addr), as[j]? = some a → ∃ xs, cols[j]? = some xs ∧ IsTs h a xs
theorem ZG.lt {cols : List (List Value)} {lo : Addr} {h : Heap} {as : List Addr} (g : ZG cols lo h as) {a : Addr} (ha : a ∈ as) : a < h.objs.size := by
  obtain ⟨j, hj⟩ := List.mem_iff_getElem?.mp ha
  obtain ⟨_, _, e⟩ := g.at_ j a hj
  exact Heap.lt_size e
/-- rows and their columns -/
structure Cl (its : List Addr) (rows : List (Addr × Array Value)) (cols : List (List Value)) (z TI TO S : Addr) : Prop where
  ap : Ap z TI TO its rows
  si : S ∉ its
  sr : ∀ r ∈ rows, r.1 ≠ S
  iS : ∀ i ∈ its, i < S
  zS : z < S
  tS : TI < S
  oS : TO < S
  col : ∀ (j : Nat) (xs : List Value), cols[j]? = some xs → rows.map (fun r => r.2[j]?) = xs.map some ∧ xs.length ≤ 1000
  sz : ∀ r ∈ rows, r.2.size = cols.length
  pos : 0 < cols.length
  le : cols.length ≤ 1000
section
variable {prog : Program} {w : World} {A : Around} {s : Shared} {R : Result → Shared → Prop} {its : List Addr} {rows : List (Addr × Array Value)} {cols : List (List Value)} {z TI TO S : Addr}
theorem zn_loop (hh : A.handled = none) (C : Cl its rows cols z TI TO S) (res : Value) {h1 : Heap}
    (hR : ∀ h' tk acc c as, (∀ b o, b ≠ S → b ∉ its → b ≠ z → b ≠ TO → h1.get? b = some o → h'.get? b = some o) → h'.get? S = some { cls := .type "list", dict := none, data := .seq acc c, slots := #[] } → as.length = cols.length → ZG cols S h' as → acc.toList = as.map Value.ref → R (.ok (.ret res)) { s with heap := h', toks := tk }) :
    ∀ (k i : Nat) (h : Heap) (tk c : Nat) (acc : Array Value) (as : List Addr), cols.length - i = k → i ≤ cols.length → ZSt h z TI TO S i its rows → (∀ b o, b ≠ S → b ∉ its → b ≠ z → b ≠ TO → h1.get? b = some o → h.get? b = some o) →
      h.get? S = some { cls := .type "list", dict := none, data := .seq acc c, slots := #[] } → acc.toList = as.map Value.ref → as.length = i → ZG cols S h as →
      codeAny (model prog w) A (.builtin "list.extend.loop" ⟨[.ref S, .ref z, res], []⟩) R { s with heap := h, toks := tk } := by
  have low : ∀ {h : Heap} {as : List Addr} {a : Addr}, ZG cols S h as → a ∈ as → a ≠ S ∧ a ∉ its ∧ a ≠ z ∧ a ≠ TO := fun {h as a} g ha => by
    have hb := g.above a ha
    exact ⟨Nat.ne_of_gt hb, fun hz => absurd (C.iS a hz) (Nat.not_lt.mpr (Nat.le_of_lt hb)), Nat.ne_of_gt (Nat.lt_trans C.zS hb), Nat.ne_of_gt (Nat.lt_trans C.oS hb)⟩
  intro k
  induction k with
  | zero =>
    intro i h tk c acc as hk hi st keep hS hacc hal hG
    obtain ⟨j, rfl⟩ : ∃ j, i = j + 1 := ⟨i - 1, by have := C.pos; omega⟩
    refine codeAny_builtin F.entry_extend_loop (?_ : wpAny _ _ _ _ _ _)
    rw [Around.under_plainId F.plain_extend_loop (_ : Args)]
    show wpAny _ A.in1 (pyNext (.ref z) >>= _) _ _ _
    refine wpAny_bind (zp_done (s := { s with heap := h, toks := tk }) (A := A.in1) hh C.ap st (fun r hr => Array.getElem?_eq_none (by rw [C.sz r hr]; omega)) fun h' he => ?_)
    refine wpAny_pure (hR h' tk acc c as (fun b o h1 h2 h3 h4 e => he b o h2 h3 (keep b o h1 h2 h3 h4 e)) (he S _ C.si (Nat.ne_of_gt C.zS) hS) (by omega) ⟨hG.rise, hG.above, fun j a hj => ?_⟩ hacc)
    obtain ⟨xs, e1, e2⟩ := hG.at_ j a hj
    obtain ⟨_, l2, l3, _⟩ := low hG (List.mem_of_getElem? hj)
    exact ⟨xs, e1, he a _ l2 l3 e2⟩
  | succ k ih =>
    intro i h tk c acc as hk hi st keep hS hacc hal hG
    have hlt : i < cols.length := by omega
    obtain ⟨xs, hx⟩ : ∃ xs, cols[i]? = some xs := ⟨cols[i], List.getElem?_eq_getElem hlt⟩
    obtain ⟨cx, cl⟩ := C.col i xs hx
    have hsz : acc.size = i := by rw [← Array.length_toList, hacc, List.length_map, hal]
    have hSl : S < h.objs.size := Heap.lt_size hS
    refine codeAny_builtin F.entry_extend_loop (?_ : wpAny _ _ _ _ _ _)
    rw [Around.under_plainId F.plain_extend_loop (_ : Args)]
    show wpAny _ A.in1 (pyNext (.ref z) >>= _) _ _ _
    refine wpAny_bind (zp_item (s := { s with heap := h, toks := tk }) (S := S) C.ap st hSl cx cl C.si fun h' st' ht hz hkp => ?_)
    dsimp only at ht hz hkp ⊢
    have hS' := hkp S _ C.si (Nat.ne_of_gt C.zS) (Nat.ne_of_gt C.oS) hS
    have up : ∀ b o, b ≠ S → h'.get? b = some o → (h'.update S (Obj.mapSeq fun ys => ys.push (Value.ref h.objs.size))).get? b = some o := fun b o hb e => (Heap.get?_update_other _ _ (Ne.symm hb)).trans e
    show wpAny _ A.in1 (updateSeq S (fun ys => ys.push (Value.ref h.objs.size)) >>= _) _ _ _
    refine wpAny_bind ?_
    refine wpAny_updateSeq hS' rfl (wpAny_pure ⟨plainId_quiet F.plain_extend_loop _, ih (i + 1) _ tk _ (acc.push (Value.ref h.objs.size)) (as ++ [h.objs.size]) (by omega) hlt (st'.keep up C.si C.sr (Nat.ne_of_lt C.zS) (Nat.ne_of_lt C.tS) (Nat.ne_of_lt C.oS))
      (fun b o h1 h2 h3 h4 e => up b o h1 (hkp b o h2 h3 h4 (keep b o h1 h2 h3 h4 e))) (Heap.get?_update_self _ hS' rfl) (by rw [Array.toList_push, hacc, List.map_append]; rfl) (by rw [List.length_append, hal]; rfl) ⟨?_, ?_, ?_⟩⟩) (by rw [hsz, sizeLine_eq]; have := C.le; omega) (by
        show (acc.push (Value.ref h.objs.size)).size ≤ _
        rw [Array.size_push, hsz, sizeLine_eq]; have := C.le; omega)
    · refine List.pairwise_append.mpr ⟨hG.rise, List.pairwise_singleton _ _, fun a ha b hb => ?_⟩
      exact List.mem_singleton.mp hb ▸ hG.lt ha
    · intro a ha
      rcases List.mem_append.mp ha with ha | ha
      · exact hG.above a ha
      · exact List.mem_singleton.mp ha ▸ hSl
    · intro j b hj
      rcases Nat.lt_trichotomy j as.length with l | l | l
      · rw [List.getElem?_append_left l] at hj
        obtain ⟨ys, e1, e2⟩ := hG.at_ j b hj
        obtain ⟨l1, l2, l3, l4⟩ := low hG (List.mem_of_getElem? hj)
        exact ⟨ys, e1, up b _ l1 (hkp b _ l2 l3 l4 e2)⟩
      · subst l
        have hb : h.objs.size = b := by simpa using hj
        exact ⟨xs, by rw [hal]; exact hx, hb ▸ up _ _ (Nat.ne_of_gt hSl) ht⟩
      · rw [List.getElem?_eq_none (by rw [List.length_append, List.length_singleton]; omega)] at hj
        cases hj
theorem zip_no_len : typeLookup (.type "zip") "__len__" = pure none := by rw [typeLookup_type, builtinLookup_eq_fast]; kernel_rfl
theorem zip_no_hint : typeLookup (.type "zip") "__length_hint__" = pure none := by rw [typeLookup_type, builtinLookup_eq_fast]; kernel_rfl
theorem ZSt.zip {h : Heap} {i : Nat} (x : ZSt h z TI TO S i its rows) : ∃ f0 f, IsZp h z TI TO f0 f := by
  obtain ⟨_, _, c⟩ := x
  rcases c with ⟨_, c, _⟩ | ⟨a, f, _, c, _⟩
  · exact ⟨_, _, c⟩
  · exact ⟨_, _, c⟩
theorem zn_iter {E : Value → Shared → Prop} {Q : Value → Shared → Prop} {f0 : Value} {f : Bool} (hz : IsZp s.heap z TI TO f0 f) (h : Q (.ref z) s) : wpAny (model prog w) A (pyIter (.ref z)) Q E s := by
  have hT : s.TypeIs (.ref z) "zip" := ⟨_, hz, rfl⟩
  refine wpAny_pyIter_slot hT F.slot_zip_iter (wpAny_call_entry F.slot_zip_iter hT F.entry_zip_iter (?_ : wpAny _ _ _ _ _ _) (F.args_zip_iter_1 _))
  show wpAny _ _ (ret (.ref z)) _ _ s
  exact wpAny_pure ⟨_, rfl, _, _, hT, F.slot_zip_next.lookup, h⟩
theorem zn_extend (hh : A.handled = none) (C : Cl its rows cols z TI TO S) (res : Value) (c0 : Nat) (st : ZSt s.heap z TI TO S 0 its rows) (hS : s.heap.get? S = some { cls := .type "list", data := .seq #[] c0 })
    (hR : ∀ h' tk acc c as, (∀ b o, b ≠ S → b ∉ its → b ≠ z → b ≠ TO → s.heap.get? b = some o → h'.get? b = some o) → h'.get? S = some { cls := .type "list", dict := none, data := .seq acc c, slots := #[] } → as.length = cols.length → ZG cols S h' as → acc.toList = as.map Value.ref → R (.ok (.ret res)) { s with heap := h', toks := tk }) :
    wpAny (model prog w) A.in1 (Builtin.List.listExtendWith (.ref S) (.ref z) res)
      (fun fin s' => match fin with | .done f => R (.ok f) s' | .again c' => c'.quiet = true ∧ codeAny (model prog w) A c' R s') (fun e s' => R (.error e) s') s := by
  obtain ⟨f0, f, hz⟩ := st.zip
  have hT : s.TypeIs (.ref z) "zip" := ⟨_, hz, rfl⟩
  have hSz : S ≠ z := Nat.ne_of_gt C.zS
  unfold Builtin.List.listExtendWith
  refine wpAny_bind (wpAny_typeOf hT ?_)
  have y1 : Builtin.List.listSameRef (.ref S) (.ref z) = false := by simp [Builtin.List.listSameRef, hSz]
  have y2 : (Value.type "zip" == Value.type "list") = false := by decide
  have y3 : (Value.type "zip" == Value.type "tuple") = false := by decide
  simp only [y1, y2, y3, Bool.or_false, Bool.false_eq_true, if_false]
  refine wpAny_bind (zn_iter hz (wpAny_bind (wpAny_holding ?_)))
  unfold Builtin.List.listLengthHint
  refine wpAny_bind (wpAny_specialOf hT zip_no_len ?_)
  show wpAny _ A.in1 (specialOf (Value.ref z) (Str.ofString "__length_hint__") >>= _) _ _ _
  refine wpAny_bind (wpAny_specialOf hT zip_no_hint (wpAny_pure ?_))
  show wpAny _ A.in1 (rule "list.extend.makes-room" >>= fun _ => Builtin.List.listTouch (.ref S) >>= fun _ =>
    again (.builtin "list.extend.loop" ⟨[.ref S, .ref z, res], []⟩)) _ _ _
  refine wpAny_bind (wpAny_rule (wpAny_bind ?_))
  show wpAny _ A.in1 (updateSeq S (fun ys => ys.push .none) >>= fun _ => updateSeq S (fun ys => ys.pop)) _ _ _
  refine wpAny_bind (wpAny_updateSeq hS rfl ?_)
  have g2 := Heap.get?_update_self (Obj.mapSeq fun ys => ys.push Value.none) hS rfl
  refine wpAny_updateSeq (hz := by seq_fits) g2 rfl ?_
  have g3 := Heap.get?_update_self (Obj.mapSeq fun ys => ys.pop) g2 rfl
  have oth : ∀ b o, b ≠ S → s.heap.get? b = some o → ((s.heap.update S (Obj.mapSeq fun ys => ys.push Value.none)).update S (Obj.mapSeq fun ys => ys.pop)).get? b = some o := fun b o hb e => (Heap.get?_update_other _ _ (Ne.symm hb)).trans ((Heap.get?_update_other _ _ (Ne.symm hb)).trans e)
  refine wpAny_pure ⟨plainId_quiet F.plain_extend_loop _, zn_loop (s := s) (h1 := s.heap) hh C res hR cols.length 0 _ s.toks _ #[] [] (Nat.sub_zero _) (Nat.zero_le _) (st.keep oth C.si C.sr (Nat.ne_of_lt C.zS) (Nat.ne_of_lt C.tS) (Nat.ne_of_lt C.oS)) (fun b o h1 _ _ _ e => oth b o h1 e) g3 rfl rfl ⟨List.Pairwise.nil, (fun _ ha => nomatch ha), (fun j a hj => by simp at hj)⟩⟩
/-- what is there before the list is laid -/
structure Rdy (s : Shared) (its : List Addr) (rows : List (Addr × Array Value)) (cols : List (List Value)) (z TI TO : Addr) : Prop where
  cl : ∀ S, S = s.heap.objs.size → Cl its rows cols z TI TO S
  st : ∀ S, S = s.heap.objs.size → ZSt s.heap z TI TO S 0 its rows
theorem ZSt.push {h : Heap} {o : Obj} {i : Nat} (x : ZSt h z TI TO S i its rows) : ZSt (h.push o) z TI TO S i its rows := by
  obtain ⟨a, b, c⟩ := x
  have up : ∀ b x, h.get? b = some x → (h.push o).get? b = some x := fun b x e => Heap.get?_push_of_some _ e
  refine ⟨a.keep (W := fun _ => False) (fun b x _ e => up b x e) (fun _ _ h => h) fun _ _ h => h, up _ _ b, ?_⟩
  rcases c with ⟨e, c, ys, c2, c3⟩ | ⟨a, f, oa, c1, c2, c3⟩
  · exact .inl ⟨e, up _ _ c, ys, up _ _ c2, c3⟩
  · exact .inr ⟨a, f, oa, up _ _ c1, up _ _ c2, c3⟩
theorem zn_list {E : Value → Shared → Prop} {Q : Value → Shared → Prop} (hh : A.handled = none) (rd : Rdy s its rows cols z TI TO)
    (hQ : ∀ h' tk acc c as, (∀ b o, b ∉ its → b ≠ z → b ≠ TO → s.heap.get? b = some o → h'.get? b = some o) → h'.get? s.heap.objs.size = some { cls := .type "list", dict := none, data := .seq acc c, slots := #[] } → as.length = cols.length → ZG cols s.heap.objs.size h' as → acc.toList = as.map Value.ref → Q (.ref s.heap.objs.size) { s with heap := h', toks := tk }) :
    wpAny (model prog w) A (call (.type "list") [.ref z]) Q E s := by
  have C := rd.cl _ rfl
  refine callType_codes (Q₁ := fun obj s₁ => obj = .ref s.heap.objs.size ∧ s₁ = { s with heap := s.heap.push { cls := .type "list", data := .seq #[] } }) F.called_list (F.typeCall_list_1 (.ref z)) F.entry_list_init (code_list_new (.ref z) ⟨rfl, rfl⟩) fun obj s₁ hs => ?_
  obtain ⟨rfl, rfl⟩ := hs
  have hS : (s.heap.push { cls := .type "list", data := .seq #[] }).get? s.heap.objs.size = some { cls := .type "list", data := .seq #[] } := Heap.get?_push_size (h := s.heap) rfl
  refine ⟨⟨_, hS, rfl⟩, F.args_list_init_2 _ _, ?_⟩
  show wpAny _ A.in1.in1 (do let old ← Builtin.List.listItems (.ref s.heap.objs.size); Builtin.List.listUpdate (.ref s.heap.objs.size) (fun _ => #[]); letGo old.toList.reverse; Builtin.List.listExtendWith (.ref s.heap.objs.size) (.ref z) .none) _ _ _
  refine wpAny_bind ?_
  unfold Builtin.List.listItems
  refine wpAny_bind (wpAny_seqItems hS rfl (wpAny_pure ?_))
  show wpAny _ A.in1.in1 (updateSeq s.heap.objs.size (fun _ => #[]) >>= fun _ => letGo (#[] : Array Value).toList.reverse >>= fun _ => Builtin.List.listExtendWith (.ref s.heap.objs.size) (.ref z) .none) _ _ _
  refine wpAny_bind (wpAny_updateSeq hS rfl ?_)
  have g2 := Heap.get?_update_self (Obj.mapSeq (fun _ => (#[] : Array Value))) hS rfl
  have oth : ∀ b o, b ≠ s.heap.objs.size → (s.heap.push { cls := .type "list", data := .seq #[] }).get? b = some o → ((s.heap.push { cls := .type "list", data := .seq #[] }).update s.heap.objs.size (Obj.mapSeq (fun _ => (#[] : Array Value)))).get? b = some o := fun b o hb e => (Heap.get?_update_other _ _ (Ne.symm hb)).trans e
  refine wpAny_bind (wpAny_letGo ?_)
  refine zn_extend (A := A.in1) hh C .none _ ((rd.st _ rfl).push.keep oth C.si C.sr (Nat.ne_of_lt C.zS) (Nat.ne_of_lt C.tS) (Nat.ne_of_lt C.oS)) g2 fun h' tk acc c as hk hS' hl hG hacc => ?_
  exact ⟨rfl, hQ h' tk acc c as (fun b o h1 h2 h3 e => hk b o (Nat.ne_of_lt (Heap.lt_size e)) h1 h2 h3 (oth b o (Nat.ne_of_lt (Heap.lt_size e)) (Heap.get?_push_of_some _ e))) hS' hl hG hacc⟩
theorem zn_collect {E : Value → Shared → Prop} {Q : List Value → Shared → Prop} (hh : A.handled = none) (rd : Rdy s its rows cols z TI TO)
    (hQ : ∀ (h' : Heap) (tk : Nat) (as : List Addr), (∀ b o, b ∉ its → b ≠ z → b ≠ TO → s.heap.get? b = some o → h'.get? b = some o) → as.length = cols.length → ZG cols s.heap.objs.size h' as → Q (as.map Value.ref) { s with heap := h', toks := tk }) :
    wpAny (model prog w) A (collect (.ref z)) Q E s := by
  have C := rd.cl _ rfl
  unfold collect
  refine wpAny_bind (wpAny_runValue (codeAny_builtin F.entry_proto_collect ?_))
  rw [Around.under_plainId PySem.F.plain_proto_collect (_ : Args)]
  show wpAny _ A.in1 (newList [] >>= fun l => again (.builtin "list.__iadd__" ⟨[l, .ref z], []⟩)) _ _ s
  refine wpAny_bind (wpAny_newObj_type (wpAny_pure ⟨plainId_quiet PySem.F.plain_list_iadd _, codeAny_builtin F.entry_list_iadd ?_⟩))
  rw [Around.under_plainId PySem.F.plain_list_iadd (_ : Args)]
  have hS : (s.heap.push { cls := .type "list", data := .seq ([] : List Value).toArray }).get? s.heap.objs.size = some { cls := .type "list", data := .seq #[] } := Heap.get?_push_size (h := s.heap) rfl
  show wpAny _ A.in1 (Builtin.List.listExtendWith (.ref s.heap.objs.size) (.ref z) (.ref s.heap.objs.size)) _ _ _
  have key := zn_extend (prog := prog) (w := w) (A := A) (s := { s with heap := s.heap.push { cls := .type "list", data := .seq ([] : List Value).toArray } }) (R := fun (q : Result) (s' : Shared) => ∃ (h' : Heap) (tk : Nat) (acc' : Array Value) (c' : Nat) (as : List Addr), q = .ok (.ret (.ref s.heap.objs.size)) ∧ s' = { s with heap := h', toks := tk } ∧
      (∀ b o, b ∉ its → b ≠ z → b ≠ TO → s.heap.get? b = some o → h'.get? b = some o) ∧ h'.get? s.heap.objs.size = some { cls := .type "list", dict := none, data := .seq acc' c', slots := #[] } ∧ as.length = cols.length ∧ ZG cols s.heap.objs.size h' as ∧ acc'.toList = as.map Value.ref)
    hh C (.ref s.heap.objs.size) 0 (rd.st _ rfl).push hS (fun h' tk acc' c' as hk hS' hl hG hacc => ⟨h', tk, acc', c', as, rfl, rfl, fun b o h1 h2 h3 e => hk b o (Nat.ne_of_lt (Heap.lt_size e)) h1 h2 h3 (Heap.get?_push_of_some _ e), hS', hl, hG, hacc⟩)
  refine wpAny_mono key (fun fin s' x => ?_) fun e s' x => ?_
  · cases fin with
    | done f =>
      obtain ⟨h', tk, acc', c', as, e, rfl, hk, hS', hl, hG, hacc⟩ := x
      cases e
      show wpAny _ A (load s.heap.objs.size >>= _) _ _ _
      refine wpAny_bind (wpAny_load hS' (wpAny_pure ?_))
      show Q acc'.toList _
      rw [hacc]
      exact hQ h' tk as hk hl hG
    | again c₁ =>
      refine ⟨x.1, codeAny_mono x.2 fun q s₂ y => ?_⟩
      obtain ⟨h', tk, acc', c', as, rfl, rfl, hk, hS', hl, hG, hacc⟩ := y
      show wpAny _ A (load s.heap.objs.size >>= _) _ _ _
      refine wpAny_bind (wpAny_load hS' (wpAny_pure ?_))
      show Q acc'.toList _
      rw [hacc]
      exact hQ h' tk as hk hl hG
  · obtain ⟨_, _, _, _, _, e', _⟩ := x
    cases e'
theorem code_tuple_new_zip {E : Value → Shared → Prop} {Q₁ : Value → Shared → Prop} (hh : A.handled = none) (rd : Rdy s its rows cols z TI TO)
    (hQ : ∀ (h' : Heap) (tk : Nat) (as : List Addr), (∀ b o, b ∉ its → b ≠ z → b ≠ TO → s.heap.get? b = some o → h'.get? b = some o) → as.length = cols.length → ZG cols s.heap.objs.size h' as →
      Q₁ (.ref h'.objs.size) { s with heap := h'.push { cls := .type "tuple", data := .seq (as.map Value.ref).toArray }, toks := tk }) :
    codeAny (model prog w) A (.call (.builtin "tuple.__new__") ⟨[.type "tuple", .ref z], []⟩) (wants Q₁ E) s := by
  refine codeAny_of_tree ?_
  show wpAny _ A.in1 (do checkBuiltinCall "tuple.__new__" ⟨[.type "tuple", .ref z], []⟩; again (.builtin "tuple.__new__" ⟨[.type "tuple", .ref z], []⟩)) _ _ s
  refine wpAny_bind (wpAny_of_eq (F.newCall_tuple_1 (.ref z)) (wpAny_pure ⟨plainId_quiet F.plain_tuple_new _, codeAny_builtin F.entry_tuple_new ?_⟩))
  rw [Around.under_plainId F.plain_tuple_new (_ : Args)]
  have hsub := sub_tuple_self
  have hinit := init_tuple_lookup
  have hmh := madeHere_tuple
  obtain ⟨f0, f, hz⟩ := (rd.st _ rfl).zip
  have hTI : s.TypeIs (.ref z) "zip" := ⟨_, hz, rfl⟩
  have hh1 : A.in1.handled = none := hh
  wp_walk using wpAny_typeOf hTI, zn_collect (A := A.in1) hh1 rd
  intro h' tk as hk hl hG
  show wpAny _ _ (Builtin.Tuple.tupleExact (as.map Value.ref).toArray >>= fun v => ret v) _ _ _
  unfold Builtin.Tuple.tupleExact
  refine wpAny_bind (wpAny_newObj_type (wpAny_pure (hQ h' tk as hk hl hG)) ?_)
  show (as.map Value.ref).toArray.size ≤ sizeLine
  rw [List.size_toArray, List.length_map, hl, sizeLine_eq]
  have := (rd.cl _ rfl).le
  omega
theorem zn_tuple {E : Value → Shared → Prop} {Q : Value → Shared → Prop} (hh : A.handled = none) (rd : Rdy s its rows cols z TI TO)
    (hQ : ∀ (h' : Heap) (tk : Nat) (as : List Addr), (∀ b o, b ∉ its → b ≠ z → b ≠ TO → s.heap.get? b = some o → h'.get? b = some o) → as.length = cols.length → ZG cols s.heap.objs.size h' as →
      Q (.ref h'.objs.size) { s with heap := h'.push { cls := .type "tuple", data := .seq (as.map Value.ref).toArray }, toks := tk }) :
    wpAny (model prog w) A (call (.type "tuple") [.ref z]) Q E s := by
  refine callType_codes (Q₁ := fun obj s₁ => s₁.TypeIs obj "tuple" ∧ Q obj s₁) F.called_tuple (F.typeCall_tuple_1 (.ref z)) F.entry_object_init
    (code_tuple_new_zip (A := A.in1) hh rd fun h' tk as hk hl hG => ⟨⟨_, Heap.get?_push_size _ rfl, rfl⟩, hQ h' tk as hk hl hG⟩) fun obj s₁ hs => ?_
  exact ⟨hs.1, F.args_object_init_2 obj _, object_init_meets F.called_tuple.init.lookup F.called_tuple.made (by decide) prog w A.in1 _ s₁ ⟨hs.1, rfl, hs.2⟩⟩
end
end ZN
namespace ZN
open PySem PySem.Spec PyProof.Rows
open PySem.Sem (wp)
theorem typeCall_zip : ∀ args : List Value, args.length ≤ 6 → checkTypeCall "zip" ⟨args, []⟩ = pure ()
  | [], _ => by kernel_rfl
  | [_], _ => by kernel_rfl
  | [_, _], _ => by kernel_rfl
  | [_, _, _], _ => by kernel_rfl
  | [_, _, _, _], _ => by kernel_rfl
  | [_, _, _, _, _], _ => by kernel_rfl
  | [_, _, _, _, _, _], _ => by kernel_rfl
  | _ :: _ :: _ :: _ :: _ :: _ :: _ :: _, h => absurd h (by simp)
theorem newCall_zip : ∀ args : List Value, args.length ≤ 6 → checkBuiltinCall "zip.__new__" ⟨.type "zip" :: args, []⟩ = pure ()
  | [], _ => by kernel_rfl
  | [_], _ => by kernel_rfl
  | [_, _], _ => by kernel_rfl
  | [_, _, _], _ => by kernel_rfl
  | [_, _, _, _], _ => by kernel_rfl
  | [_, _, _, _, _], _ => by kernel_rfl
  | [_, _, _, _, _, _], _ => by kernel_rfl
  | _ :: _ :: _ :: _ :: _ :: _ :: _ :: _, h => absurd h (by simp)
theorem objInit_args (obj : Value) : ∀ args : List Value, args.length ≤ 6 → argsOk "object.__init__" ⟨obj :: args, []⟩ := by
  intro args h
  have key : ∀ args : List Value, args.length ≤ 6 → argsOk "object.__init__" ⟨obj :: args, []⟩ := fun args h => by
    unfold argsOk
    rw [signature?_of (id := "object.__init__") (n := ['_', '_', 't', 'i', 'n', 'i', '_', '_']) (o := ['t', 'c', 'e', 'j', 'b', 'o']) (by kernel_rfl) F.owner_object]
    match args, h with
    | [], _ => kernel_rfl
    | [_], _ => kernel_rfl
    | [_, _], _ => kernel_rfl
    | [_, _, _], _ => kernel_rfl
    | [_, _, _, _], _ => kernel_rfl
    | [_, _, _, _, _], _ => kernel_rfl
    | [_, _, _, _, _, _], _ => kernel_rfl
    | _ :: _ :: _ :: _ :: _ :: _ :: _ :: _, h => exact absurd h (by simp)
  exact key args h
/-- what zip(..) has made -/
structure Mk (h h' : Heap) (rows : List (Addr × Array Value)) (its : List Addr) (z TI TO : Addr) : Prop where
  keep : ∀ b o, h.get? b = some o → h'.get? b = some o
  len : its.length = rows.length
  nd : its.Nodup
  lo : ∀ i ∈ its, h.objs.size ≤ i ∧ i < TI
  ti : h.objs.size ≤ TI
  to : TI < TO
  tz : TO < z
  hi : z < h'.objs.size
  itr : Itr h' 0 its rows
  hTI : IsTs h' TI (its.map Value.ref)
  hTO : ∃ ys : List Value, IsTs h' TO ys ∧ ys.length = its.length
  hz : IsZp h' z TI TO .none false
section
variable {prog : Program} {w : World} {A : Around} {E : Value → Shared → Prop}
theorem iterLoop : ∀ (rows : List (Addr × Array Value)) (acc : Array Value) (s : Shared) (Q : Array Value → Shared → Prop), (∀ r ∈ rows, s.heap.IsTuple r.1 r.2) →
    (∀ h' its, (∀ b o, s.heap.get? b = some o → h'.get? b = some o) → its.length = rows.length → its.Pairwise (· < ·) → (∀ i ∈ its, s.heap.objs.size ≤ i ∧ i < h'.objs.size) → s.heap.objs.size ≤ h'.objs.size → Itr h' 0 its rows → Q (acc ++ (its.map Value.ref).toArray) { s with heap := h' }) →
    wpAny (model prog w) A (forIn (rows.map fun r => Value.ref r.1) acc fun x acc => do
      let v ← holding acc.toList (pyIter x)
      pure (ForInStep.yield (acc.push v))) Q E s
  | [], acc, s, Q, _, hq => by
    have := hq s.heap [] (fun _ _ e => e) rfl .nil (fun _ h => absurd h List.not_mem_nil) (Nat.le_refl _) trivial
    rw [show acc ++ (([] : List Addr).map Value.ref).toArray = acc by simp] at this
    exact wpAny_pure this
  | r :: rows, acc, s, Q, hr, hq => by
    rw [List.map_cons, List.forIn_cons]
    refine wpAny_bind (wpAny_bind (wpAny_holding (wpAny_pyIter_tuple (hr r List.mem_cons_self) (wpAny_pure ?_))))
    have up : ∀ b o, s.heap.get? b = some o → (s.heap.push { cls := .type "tuple_iterator", data := .fields #[.ref r.1, .int 0 0] }).get? b = some o := fun b o e => Heap.get?_push_of_some _ e
    refine iterLoop rows (acc.push (.ref s.heap.objs.size)) { s with heap := s.heap.push { cls := .type "tuple_iterator", data := .fields #[.ref r.1, .int 0 0] } } Q (fun q hq => by
      obtain ⟨o, ho, r'⟩ := hr q (List.mem_cons_of_mem _ hq)
      exact ⟨o, up _ _ ho, r'⟩) fun h' its k1 l1 p1 b1 z1 i1 => ?_
    dsimp only at b1 z1 k1
    rw [Heap.size_push] at b1 z1
    have := hq h' (s.heap.objs.size :: its) (fun b o e => k1 b o (up b o e)) (by rw [List.length_cons, List.length_cons, l1]) (List.pairwise_cons.mpr ⟨fun a ha => (b1 a ha).1, p1⟩) (fun i hi => by
      rcases List.mem_cons.mp hi with e | hi
      · subst e; exact ⟨Nat.le_refl _, z1⟩
      · exact ⟨Nat.le_of_succ_le (b1 i hi).1, (b1 i hi).2⟩) (Nat.le_of_succ_le z1) ⟨⟨_, k1 _ _ (Heap.get?_push_size _ rfl), rfl, rfl⟩, by
      obtain ⟨o, ho, r'⟩ := hr r List.mem_cons_self
      exact ⟨o, k1 _ _ (up _ _ ho), r'⟩, i1⟩
    rw [show acc ++ ((s.heap.objs.size :: its).map Value.ref).toArray = acc.push (.ref s.heap.objs.size) ++ (its.map Value.ref).toArray by simp] at this
    exact this
end
theorem meets_new (rows : List (Addr × Array Value)) (hl : rows.length ≤ 6) : Meets (Builtin.«zip.__new__» ⟨.type "zip" :: rows.map fun r => Value.ref r.1, []⟩) (fun _ R s => (∀ r ∈ rows, s.heap.IsTuple r.1 r.2) ∧ ∀ h' its z TI TO, Mk s.heap h' rows its z TI TO → R (.ok (.ret (.ref z))) { s with heap := h' }) :=
  .of_wp fun prog w A R s h => by
    have hsub := sub_zip
    unfold Builtin.«zip.__new__»
    refine wpAny_bind ?_
    have hit : isType (.type "zip") = pure true := rfl
    have nc : Builtin.SmallTypes.newClass "zip" ⟨.type "zip" :: rows.map (fun r => Value.ref r.1), []⟩ = pure (.type "zip", rows.map fun r => Value.ref r.1) := by
      unfold Builtin.SmallTypes.newClass
      simp only [hit, hsub, pure_bind, Bool.not_true, Bool.false_eq_true, if_false]
    rw [nc]
    refine wpAny_pure ?_
    show wpAny _ _ (Builtin.SmallTypes.iterAll (rows.map fun r => Value.ref r.1) >>= _) _ _ _
    refine wpAny_bind ?_
    unfold Builtin.SmallTypes.iterAll
    refine wpAny_bind (iterLoop rows #[] s _ h.1 fun h1 its k1 l1 p1 b1 z1 i1 => wpAny_pure ?_)
    have e0 : (#[] ++ (its.map Value.ref).toArray : Array Value).toList = its.map Value.ref := by simp
    rw [e0]
    have hz : its.length ≤ sizeLine := by rw [sizeLine_eq, l1]; omega
    refine wpAny_bind (wpAny_newTuple ?_ (by rw [List.length_map]; exact hz))
    refine wpAny_bind (wpAny_newTuple ?_ (by rw [List.length_map, List.length_map]; exact hz))
    refine wpAny_bind ?_
    unfold Builtin.SmallTypes.newRecord
    refine wpAny_newObj_type (wpAny_pure ⟨_, rfl, ?_⟩) (by show 5 ≤ sizeLine + 2; rw [sizeLine_eq]; decide)
    have up : ∀ b o, h1.get? b = some o → (((h1.push { cls := .type "tuple", data := .seq (its.map Value.ref).toArray }).push { cls := .type "tuple", data := .seq ((its.map Value.ref).map fun _ => Value.none).toArray }).push { cls := .type "zip", data := .fields #[.none, .bool false, .bool false, .ref h1.objs.size, .ref (h1.push { cls := .type "tuple", data := .seq (its.map Value.ref).toArray }).objs.size] }).get? b = some o := fun b o e => Heap.get?_push_of_some _ (Heap.get?_push_of_some _ (Heap.get?_push_of_some _ e))
    have s1 := Heap.size_push h1 ({ cls := .type "tuple", data := .seq (its.map Value.ref).toArray } : Obj)
    have s2 := Heap.size_push (h1.push { cls := .type "tuple", data := .seq (its.map Value.ref).toArray }) ({ cls := .type "tuple", data := .seq ((its.map Value.ref).map fun _ => Value.none).toArray } : Obj)
    refine h.2 _ its _ h1.objs.size (h1.push { cls := .type "tuple", data := .seq (its.map Value.ref).toArray }).objs.size ⟨fun b o e => up b o (k1 b o e), l1, p1.imp fun {a b} h => Nat.ne_of_lt h, b1, z1, ?_, ?_, ?_, i1.keep (W := fun _ => False) (fun b o _ e => up b o e) (fun _ _ h => h) fun _ _ h => h, ?_, ⟨(its.map Value.ref).map fun _ => Value.none, ?_, by rw [List.length_map, List.length_map]⟩, ?_⟩
    · rw [s1]; exact Nat.lt_succ_self _
    · rw [s2]; exact Nat.lt_succ_self _
    · exact Heap.lt_size (Heap.get?_push_size _ rfl)
    · exact Heap.get?_push_of_some _ (Heap.get?_push_of_some _ (Heap.get?_push_size _ rfl))
    · exact Heap.get?_push_of_some _ (Heap.get?_push_size _ rfl)
    · exact Heap.get?_push_size _ rfl
theorem zn_new {prog : Program} {w : World} {A : Around} {E : Value → Shared → Prop} {s : Shared} {Q : Value → Shared → Prop} {rows : List (Addr × Array Value)} (hl : rows.length ≤ 6) (hr : ∀ r ∈ rows, s.heap.IsTuple r.1 r.2) (hQ : ∀ h' its z TI TO, Mk s.heap h' rows its z TI TO → Q (.ref z) { s with heap := h' }) :
    wpAny (model prog w) A (call (.type "zip") (rows.map fun r => Value.ref r.1)) Q E s := by
  have l6 : (rows.map fun r => Value.ref r.1).length ≤ 6 := by rw [List.length_map]; exact hl
  refine callType_new F.called_zip (by decide) (typeCall_zip _ l6) (newCall_zip _ l6) (fun obj => objInit_args obj _ l6) F.entry_zip_new (meets_new rows hl) ⟨hr, fun h' its z TI TO m => ?_⟩
  exact ⟨⟨_, m.hz, rfl⟩, hQ h' its z TI TO m⟩
end ZN
/-! ZP: list(zip(*rows)), tuple(zip(*rows)) as rules. -/
namespace ZN
open PySem PySem.Spec PyProof.Rows L2
/-- tuples tracked at their addresses -/
def putC : Hp → List Addr → List (List V) → Hp
  | H, a :: as, c :: cs => putC (upd H a (.tup c)) as cs
  | H, _, _ => H
theorem putC_off {b : Addr} : ∀ (as : List Addr) (cs : List (List V)) (H : Hp), b ∉ as → putC H as cs b = H b
  | [], _, _, _ => rfl
  | _ :: _, [], _, _ => rfl
  | a :: as, c :: cs, H, h => by
    show putC (upd H a (.tup c)) as cs b = H b
    rw [putC_off as cs (upd H a (.tup c)) fun z => h (List.mem_cons_of_mem _ z), upd_ne fun z => h (by rw [z]; exact List.mem_cons_self)]
theorem putC_at : ∀ (as : List Addr) (cs : List (List V)) (H : Hp), as.Nodup → ∀ (j : Nat) (t : Addr) (c : List V), as[j]? = some t → cs[j]? = some c → putC H as cs t = some (.tup c)
  | [], _, _, _, _, _, _, h, _ => by simp at h
  | _ :: _, [], _, _, _, _, _, _, h => by simp at h
  | a :: as, c0 :: cs, H, hn, 0, t, c, h1, h2 => by
    cases h1; cases h2
    show putC (upd H a (.tup c0)) as cs a = _
    rw [putC_off as cs (upd H a (.tup c0)) (List.nodup_cons.mp hn).1, upd_same]
  | a :: as, c0 :: cs, H, hn, j + 1, t, c, h1, h2 => putC_at as cs _ (List.nodup_cons.mp hn).2 j t c (by simpa using h1) (by simpa using h2)
section
variable {X : Cx}
/-- new tuples, and an object over them -/
theorem cols_laid {pins : List (Addr × Obj)} {σ : L2.St} {H : Hp} {s : Shared} {h' : Heap} {tk : Nat} {S lo : Addr} {u : HO} {cs : List (List V)} {cv : List (List Value)} {as : List Addr} (I : Inv X pins σ H s) (hk : ∀ b o, s.heap.get? b = some o → h'.get? b = some o) (hl : as.length = cs.length)
    (hcv : cv.length = cs.length) (hv : ∀ (j : Nat) (c : List V) (d : List Value), cs[j]? = some c → cv[j]? = some d → Vals c d ∧ c.length ≤ 1000) (rise : as.Pairwise (· < ·)) (above : ∀ a ∈ as, s.heap.objs.size ≤ a) (hS : s.heap.objs.size ≤ S) (hSa : S ∉ as)
    (hat : ∀ (j : Nat) (a : Addr), as[j]? = some a → ∃ xs, cv[j]? = some xs ∧ IsTs h' a xs) (ok : ∀ H' : Hp, H' S = some u → ObjOk X.prog X.w H' h' S u) :
    ∃ H' : Hp, (∀ b, b ∉ as → b ≠ S → H' b = H b) ∧ H S = none ∧ (∀ t ∈ as, H t = none) ∧ H' S = some u ∧ (∀ (j : Nat) (t : Addr) (c : List V), as[j]? = some t → cs[j]? = some c → H' t = some (.tup c)) ∧ Inv X pins σ H' { s with heap := h', toks := tk } := by
  have nd : as.Nodup := rise.imp fun {a b} h => Nat.ne_of_lt h
  have new : ∀ t ∈ as, H t = none := fun t ht => I.hok.fresh (above t ht)
  have newS : H S = none := I.hok.fresh hS
  have off : ∀ b, b ∉ as → b ≠ S → putC (upd H S u) as cs b = H b := fun b h1 h2 => by rw [putC_off as cs (upd H S u) h1, upd_ne h2]
  have eS : putC (upd H S u) as cs S = some u := by rw [putC_off as cs (upd H S u) hSa, upd_same]
  have atT := putC_at as cs (upd H S u) nd
  have low : ∀ b o, s.heap.get? b = some o → b ∉ as ∧ b ≠ S := fun b o e => ⟨fun z => absurd (Heap.lt_size e) (Nat.not_lt.mpr (above b z)), fun z => absurd (Heap.lt_size e) (Nat.not_lt.mpr (z ▸ hS))⟩
  have kp : ∀ b x, H b = some x → putC (upd H S u) as cs b = some x := fun b x e => by
    rw [off b (fun z => by rw [new b z] at e; cases e) fun z => by rw [z, newS] at e; cases e]
    exact e
  refine ⟨putC (upd H S u) as cs, off, newS, new, eS, atT, ?_⟩
  refine I.call' (ch := []) rfl ⟨fun b o q _ _ _ => hk b o q, fun b o q _ _ _ => ⟨o.slots, hk b o q⟩, fun b o q n _ => ?_, fun b o q _ => ⟨o, hk b o q⟩, fun b xs q => kp b _ q, fun b o u q => kp b _ q, fun b ps q => ⟨#[], by rw [kp b _ q]; simp⟩⟩ (fun b x q => ?_) I.bare fun b z => by simp at z
  · obtain ⟨z1, z2⟩ := low b o q
    rw [off b z1 z2]; exact n
  · by_cases hb : b ∈ as
    · obtain ⟨j, e1⟩ := List.mem_iff_getElem?.mp hb
      have hj : j < cs.length := by rw [← hl]; exact (List.getElem?_eq_some_iff.mp e1).1
      rw [atT j b _ e1 (List.getElem?_eq_getElem hj)] at q
      cases q
      obtain ⟨xs, f1, f2⟩ := hat j b e1
      obtain ⟨v1, v2⟩ := hv j _ xs (List.getElem?_eq_getElem hj) f1
      exact ⟨by rw [sizeLine_eq]; omega, xs, v1, ⟨_, f2, rfl, _, rfl⟩⟩
    · by_cases hb2 : b = S
      · subst hb2
        rw [eS] at q
        cases q
        exact ok _ eS
      · rw [off b hb hb2] at q
        exact (I.hok b x q).stay (fun d v _ y => hk d v y) (fun d y => kp d _ y) fun d xs y => kp d _ y
/-- rows at their addresses, and their columns -/
def ZRel (K : PySem.W.Frag) (x : V) (H : Hp) (cs : List (List V)) : Prop := ∃ (a : Addr) (rs : List (Addr × List V)), x = .ref a ∧ (SqT K H a (rs.map fun r => V.ref r.1) ∨ SqL K H a (rs.map fun r => V.ref r.1)) ∧ rs ≠ [] ∧ rs.length ≤ 6 ∧
  (∀ r ∈ rs, SqT K H r.1 r.2 ∧ r.2.length = cs.length) ∧ 0 < cs.length ∧ cs.length ≤ 1000 ∧ ∀ (j : Nat) (c : List V), cs[j]? = some c → rs.map (fun r => r.2[j]?) = c.map some
theorem vals_refs' : ∀ {rs : List (Addr × List V)} {us : List Value}, Vals (rs.map fun r => V.ref r.1) us → us = rs.map fun r => Value.ref r.1
  | [], _, h => by cases h; rfl
  | r :: rs, _, h => by
    cases h with
    | cons a b =>
      have : _ = Value.ref r.1 := a
      rw [this, vals_refs' b]; rfl
theorem rows_val {pins : List (Addr × Obj)} {σ : L2.St} {H : Hp} {s : Shared} (I : Inv X pins σ H s) {m : Nat} : ∀ (rs : List (Addr × List V)), (∀ r ∈ rs, SqT X.K H r.1 r.2 ∧ r.2.length = m) →
    ∃ rv : List (Addr × Array Value), rv.map (fun r => Value.ref r.1) = rs.map (fun r => Value.ref r.1) ∧ rv.length = rs.length ∧ (∀ r ∈ rv, s.heap.IsTuple r.1 r.2 ∧ r.2.size = m) ∧ ∀ j, j < m → ∀ c : List V, rs.map (fun r => r.2[j]?) = c.map some → ∃ d : List Value, rv.map (fun r => r.2[j]?) = d.map some ∧ Vals c d ∧ d.length = rs.length
  | [], _ => ⟨[], rfl, rfl, fun _ h => absurd h List.not_mem_nil, fun j _ c hc => by
    cases c with
    | nil => exact ⟨[], rfl, .nil, rfl⟩
    | cons => cases hc⟩
  | r :: rs, h => by
    obtain ⟨h1, h2⟩ := h r List.mem_cons_self
    obtain ⟨its, v1, t1, _⟩ := I.tuple h1
    obtain ⟨rv, e1, e2, e3, e4⟩ := rows_val I rs fun q hq => h q (List.mem_cons_of_mem _ hq)
    have l1 : its.length = m := by rw [← v1.length, h2]
    refine ⟨(r.1, its.toArray) :: rv, by rw [List.map_cons, List.map_cons, e1], by rw [List.length_cons, List.length_cons, e2], fun q hq => ?_, fun j hj c hc => ?_⟩
    · rcases List.mem_cons.mp hq with e | hq
      · subst e; exact ⟨t1, by rw [List.size_toArray, l1]⟩
      · exact e3 q hq
    · cases c with
      | nil => cases hc
      | cons x c =>
        obtain ⟨d, f1, f2, f3⟩ := e4 j hj c (List.cons.inj hc).2
        have hx : r.2[j]? = some x := (List.cons.inj hc).1
        have hj' : j < its.length := by omega
        refine ⟨its[j] :: d, ?_, .cons ?_ f2, by rw [List.length_cons, List.length_cons, f3]⟩
        · rw [List.map_cons, f1, List.map_cons]
          congr 1
          show its.toArray[j]? = _
          rw [List.getElem?_toArray, List.getElem?_eq_getElem hj']
        · have key : ∀ {xs : List V} {us : List Value} {j : Nat} {x : V} {u : Value}, Vals xs us → xs[j]? = some x → us[j]? = some u → RelV x u := by
            intro xs us j x u hv
            induction hv generalizing j with
            | nil => intro h; simp at h
            | cons a _ ih =>
              cases j with
              | zero => intro h g; cases h; cases g; exact a
              | succ j => intro h g; exact ih (by simpa using h) (by simpa using g)
          exact key v1 hx (List.getElem?_eq_getElem hj')
/-- zip(..) is made: all is ready for its walk -/
theorem rdy {s : Shared} {rv : List (Addr × Array Value)} {its : List Addr} {z TI TO : Addr} {h' : Heap} {cv : List (List Value)} (hr : ∀ r ∈ rv, s.heap.IsTuple r.1 r.2 ∧ r.2.size = cv.length) (m : Mk s.heap h' rv its z TI TO) (hne : rv ≠ []) (h6 : rv.length ≤ 6) (hc : 0 < cv.length) (hc2 : cv.length ≤ 1000)
    (col : ∀ (j : Nat) (xs : List Value), cv[j]? = some xs → rv.map (fun r => r.2[j]?) = xs.map some ∧ xs.length ≤ 1000) : Rdy { s with heap := h' } its rv cv z TI TO := by
  have low : ∀ r ∈ rv, r.1 < s.heap.objs.size := fun r hr' => by
    obtain ⟨o, ho, _⟩ := (hr r hr').1
    exact Heap.lt_size ho
  have zlo : s.heap.objs.size < z := Nat.lt_of_le_of_lt m.ti (Nat.lt_trans m.to m.tz)
  have olo : s.heap.objs.size < TO := Nat.lt_of_le_of_lt m.ti m.to
  have ap : Ap z TI TO its rv := ⟨fun e => hne (List.eq_nil_of_length_eq_zero (by rw [← m.len, e]; rfl)), m.nd, fun h => absurd (m.lo z h).2 (Nat.not_lt.mpr (Nat.le_of_lt (Nat.lt_trans m.to m.tz))), fun r hr' e => absurd (low r hr') (Nat.not_lt.mpr (e ▸ Nat.le_of_lt zlo)), fun h => absurd (m.lo TO h).2 (Nat.not_lt.mpr (Nat.le_of_lt m.to)),
    fun r hr' e => absurd (low r hr') (Nat.not_lt.mpr (e ▸ Nat.le_of_lt olo)), Nat.ne_of_lt m.tz, Nat.ne_of_lt (Nat.lt_trans m.to m.tz), Nat.ne_of_lt m.to, fun h => absurd (m.lo TI h).2 (Nat.lt_irrefl _), by rw [m.len]; omega⟩
  refine ⟨fun S hS => ?_, fun S hS => ⟨m.itr, m.hTI, .inl ⟨rfl, m.hz, m.hTO⟩⟩⟩
  have hS : S = h'.objs.size := hS
  subst hS
  exact ⟨ap, fun h => absurd (Nat.lt_trans (m.lo _ h).2 (Nat.lt_trans (Nat.lt_trans m.to m.tz) m.hi)) (Nat.lt_irrefl _), fun r hr' e => absurd (low r hr') (Nat.not_lt.mpr (e ▸ Nat.le_of_lt (Nat.lt_trans zlo m.hi))), fun i hi => Nat.lt_trans (m.lo i hi).2 (Nat.lt_trans (Nat.lt_trans m.to m.tz) m.hi), m.hi, Nat.lt_trans (Nat.lt_trans m.to m.tz) m.hi, Nat.lt_trans m.tz m.hi,
    col, fun r hr' => (hr r hr').2, hc, hc2⟩
end
section
variable {X : Cx} {e : Expr} {te : TE} {p p2 p3 pos pos2 : Pos}
def tZip (K : PySem.W.Frag) (te : TE) (mk : List V → HO) : TE := fun σ H Q => te σ H fun x H1 => ∃ cs, ZRel K x H1 cs ∧ ∀ (as : List Addr) (S : Addr) (H' : Hp), (∀ b, b ∉ as → b ≠ S → H' b = H1 b) → H1 S = none → (∀ t ∈ as, H1 t = none) → S ∉ as → as.length = cs.length → H' S = some (mk (as.map V.ref)) →
  (∀ (j : Nat) (t : Addr) (c : List V), as[j]? = some t → cs[j]? = some c → H' t = some (.tup c)) → Q (.ref S) H'
theorem zip_eval {pins : List (Addr × Obj)} {s : Shared} {σ : L2.St} {H : Hp} {Q : VK} {mk : List V → HO} {Z : Value → Shared → Prop} (he : PE X e te) (hg2 : Gl X "zip") (hm2 : X.mg "zip" = none) (I : Inv X pins σ H s) (h : tZip X.K te mk σ H Q)
    (hst : starEach [.Starred e p3] X.env = [(true, eval e X.env)])
    (hZ : ∀ (s2 : Shared) (H1 : Hp) (cs : List (List V)) (cv : List (List Value)) (h' : Heap) (its : List Addr) (z TI TO : Addr) (rv : List (Addr × Array Value)), Inv X pins σ H1 s2 → (∀ (as : List Addr) (S : Addr) (H' : Hp), (∀ b, b ∉ as → b ≠ S → H' b = H1 b) → H1 S = none → (∀ t ∈ as, H1 t = none) → S ∉ as → as.length = cs.length → H' S = some (mk (as.map V.ref)) →
      (∀ (j : Nat) (t : Addr) (c : List V), as[j]? = some t → cs[j]? = some c → H' t = some (.tup c)) → Q (.ref S) H') → cv.length = cs.length → cs.length ≤ 1000 → (∀ (j : Nat) (c : List V) (d : List Value), cs[j]? = some c → cv[j]? = some d → Vals c d ∧ c.length ≤ 1000) → Rdy { s2 with heap := h' } its rv cv z TI TO → Mk s2.heap h' rv its z TI TO → Z (.ref z) { s2 with heap := h' }) :
    wpAny (model X.prog X.w) X.A (eval (.Call (.Name "zip" p2) [.Starred e p3] [] pos2) X.env) Z X.xe s := by
  refine Call_ (ld_blt (u := .type "zip") I hg2 hm2 (by decide +kernel) ?_)
  rw [hst]
  refine PySem.W.ks_call (P := fun _ => True) rfl (fun _ _ => ⟨.machine, .inr (.inl rfl), fun _ _ _ _ _ q => wpAny_pure q⟩) (PySem.W.ks_lone (thn (he.run pins s σ H _ I h) fun v s1 ⟨x, H1, I1, rx, cs, zr, q⟩ => ?_))
  obtain ⟨a, rs, rfl, hx, hne, h6, hrs, hc0, hc1, hcol⟩ := zr
  obtain rfl : v = Value.ref a := rx
  refine StX.star_any I1 hx fun us s2 I2 rv => ⟨trivial, ?_⟩
  obtain ⟨rw_, e1, e2, e3, e4⟩ := rows_val I2 rs hrs
  rw [List.nil_append, vals_refs' rv, ← e1]
  refine zn_new (by rw [e2]; exact h6) (fun r hr => (e3 r hr).1) fun h' its z TI TO m => ?_
  have ex : ∀ j, j < cs.length → ∃ d : List Value, rw_.map (fun r => r.2[j]?) = d.map some ∧ Vals (cs.getD j []) d ∧ d.length = rs.length := fun j hj => e4 j hj (cs.getD j []) (hcol j _ (by rw [List.getD_eq_getElem?_getD, List.getElem?_eq_getElem hj]; rfl))
  have mkL : ∀ n, n ≤ cs.length → ∃ cv : List (List Value), cv.length = n ∧ ∀ j d, cv[j]? = some d → rw_.map (fun r => r.2[j]?) = d.map some ∧ Vals (cs.getD j []) d ∧ d.length = rs.length := by
    intro n
    induction n with
    | zero => exact fun _ => ⟨[], rfl, fun j d h => by simp at h⟩
    | succ n ih =>
      intro hn
      obtain ⟨cv, l1, c1⟩ := ih (by omega)
      obtain ⟨d, d1⟩ := ex n (by omega)
      refine ⟨cv ++ [d], by simp [l1], fun j d' h => ?_⟩
      by_cases hj : j < cv.length
      · rw [List.getElem?_append_left hj] at h; exact c1 j d' h
      · rw [List.getElem?_append_right (by omega)] at h
        have : j - cv.length = 0 := by
          have := (List.getElem?_eq_some_iff.mp h).1
          simp at this; omega
        rw [this] at h
        cases h
        have : j = n := by omega
        subst this; exact d1
  obtain ⟨cv, l1, c1⟩ := mkL cs.length (Nat.le_refl _)
  refine hZ s2 H1 cs cv h' its z TI TO rw_ I2 q l1 hc1 (fun j c d h g => ?_) (rdy (fun r hr => ⟨(e3 r hr).1, by rw [l1]; exact (e3 r hr).2⟩) m (fun e => hne (List.eq_nil_of_length_eq_zero (by rw [← e2, e]; rfl))) (by rw [e2]; exact h6) (by rw [l1]; exact hc0) (by rw [l1]; exact hc1) fun j xs hj => ⟨(c1 j xs hj).1, by rw [(c1 j xs hj).2.2]; omega⟩) m
  have := (c1 j d g).2
  rw [List.getD_eq_getElem?_getD, h] at this
  have t1 : Vals c d := this.1
  exact ⟨t1, by rw [t1.length, this.2]; omega⟩
theorem Mk.low {h h' : Heap} {rows : List (Addr × Array Value)} {its : List Addr} {z TI TO : Addr} (m : Mk h h' rows its z TI TO) {b : Addr} {o : Obj} (e : h.get? b = some o) : b ∉ its ∧ b ≠ z ∧ b ≠ TO := by
  have hb := Heap.lt_size e
  refine ⟨fun z => absurd hb (Nat.not_lt.mpr (m.lo b z).1), fun z => absurd hb (Nat.not_lt.mpr ?_), fun z => absurd hb (Nat.not_lt.mpr ?_)⟩
  · subst z; exact Nat.le_of_lt (Nat.lt_of_le_of_lt m.ti (Nat.lt_trans m.to m.tz))
  · subst z; exact Nat.le_of_lt (Nat.lt_of_le_of_lt m.ti m.to)
theorem Mk.size {h h' : Heap} {rows : List (Addr × Array Value)} {its : List Addr} {z TI TO : Addr} (m : Mk h h' rows its z TI TO) : h.objs.size ≤ h'.objs.size := Nat.le_of_lt (Nat.lt_of_le_of_lt m.ti (Nat.lt_trans (Nat.lt_trans m.to m.tz) m.hi))
/-- list(zip(*e)) -/
theorem pe_listZip (hc : X.calm = true) (he : PE X e te) (hg : Gl X "list") (hm : X.mg "list" = none) (hg2 : Gl X "zip") (hm2 : X.mg "zip" = none) (hst : starEach [.Starred e p3] X.env = [(true, eval e X.env)] := by rfl)
    (hs : starEach [.Call (.Name "zip" p2) [.Starred e p3] [] pos2] X.env = (false, eval (.Call (.Name "zip" p2) [.Starred e p3] [] pos2) X.env) :: starEach [] X.env := by rfl) :
    PE X (.Call (.Name "list" p) [.Call (.Name "zip" p2) [.Starred e p3] [] pos2] [] pos) (tZip X.K te .lst) := by
  refine ⟨fun pins s σ H Q I h => ?_⟩
  refine Call_ (ld_blt (u := .type "list") I hg hm (by decide +kernel) (PyProof.Rows.callWith_type1 (args_cons (zip_eval he hg2 hm2 I h hst fun s2 H1 cs cv h' its z TI TO rv I2 q l1 l2 hv rd m => args_nil ?_) hs) hs))
  refine zn_list (I2.ok.hd hc) rd fun h2 tk acc c as hk hS hl hG hacc => ?_
  obtain ⟨H', k1, k2, k3, k4, k5, J⟩ := cols_laid (tk := tk) (S := h'.objs.size) (lo := 0) (u := .lst (as.map V.ref)) I2 (fun b o e => by
      obtain ⟨z1, z2, z3⟩ := m.low e
      exact hk b o z1 z2 z3 (m.keep b o e)) (by rw [hl, l1]) l1 hv hG.rise (fun a ha => Nat.le_trans m.size (Nat.le_of_lt (hG.above a ha))) m.size (fun z => Nat.lt_irrefl _ (hG.above _ z)) hG.at_ fun H' e => ⟨by rw [List.length_map, hl, l1, sizeLine_eq]; omega, acc.toList, c, by rw [hacc]; exact LiI.vals_refs as, by rw [Array.toArray_toList]; exact hS⟩
  exact ⟨.ref h'.objs.size, H', J, rfl, q as _ H' k1 k2 k3 (fun z => Nat.lt_irrefl _ (hG.above _ z)) (by rw [hl, l1]) k4 k5⟩
/-- tuple(zip(*e)) -/
theorem pe_tupleZip (hc : X.calm = true) (he : PE X e te) (hg : Gl X "tuple") (hm : X.mg "tuple" = none) (hg2 : Gl X "zip") (hm2 : X.mg "zip" = none) (hst : starEach [.Starred e p3] X.env = [(true, eval e X.env)] := by rfl)
    (hs : starEach [.Call (.Name "zip" p2) [.Starred e p3] [] pos2] X.env = (false, eval (.Call (.Name "zip" p2) [.Starred e p3] [] pos2) X.env) :: starEach [] X.env := by rfl) :
    PE X (.Call (.Name "tuple" p) [.Call (.Name "zip" p2) [.Starred e p3] [] pos2] [] pos) (tZip X.K te .tup) := by
  refine ⟨fun pins s σ H Q I h => ?_⟩
  refine Call_ (ld_blt (u := .type "tuple") I hg hm (by decide +kernel) (PyProof.Rows.callWith_type1 (args_cons (zip_eval he hg2 hm2 I h hst fun s2 H1 cs cv h' its z TI TO rv I2 q l1 l2 hv rd m => args_nil ?_) hs) hs))
  refine zn_tuple (I2.ok.hd hc) rd fun h2 tk as hk hl hG => ?_
  have up : ∀ b o, h2.get? b = some o → (h2.push { cls := .type "tuple", data := .seq (as.map Value.ref).toArray }).get? b = some o := fun b o e => Heap.get?_push_of_some _ e
  have hz : h'.objs.size ≤ h2.objs.size := by
    have hp := (rd.cl _ rfl).pos
    cases as with
    | nil => rw [← hl] at hp; exact absurd hp (Nat.lt_irrefl _)
    | cons a l => exact Nat.le_of_lt (Nat.lt_trans (hG.above a List.mem_cons_self) (hG.lt List.mem_cons_self))
  obtain ⟨H', k1, k2, k3, k4, k5, J⟩ := cols_laid (tk := tk) (S := h2.objs.size) (lo := 0) (u := .tup (as.map V.ref)) I2 (fun b o e => by
      obtain ⟨z1, z2, z3⟩ := m.low e
      exact up b o (hk b o z1 z2 z3 (m.keep b o e))) (by rw [hl, l1]) l1 hv hG.rise (fun a ha => Nat.le_trans m.size (Nat.le_of_lt (hG.above a ha))) (Nat.le_trans m.size hz) (fun z => Nat.lt_irrefl _ (hG.lt z)) (fun j a hj => by
      obtain ⟨xs, e1, e2⟩ := hG.at_ j a hj
      exact ⟨xs, e1, up _ _ e2⟩) fun H' e => ⟨by rw [List.length_map, hl, l1, sizeLine_eq]; omega, as.map Value.ref, LiI.vals_refs as, ⟨_, Heap.get?_push_size _ rfl, rfl, _, rfl⟩⟩
  exact ⟨.ref h2.objs.size, H', J, rfl, q as _ H' k1 k2 k3 (fun z => Nat.lt_irrefl _ (hG.lt z)) (by rw [hl, l1]) k4 k5⟩
end
end ZN
namespace Q
open PySem PySem.Spec PyProof.Rows L2
/-- the columns of rows -/
def tupsP : List Pv → Option (List (List Pv))
  | [] => some []
  | .tup l :: r => (tupsP r).map (l :: ·)
  | _ => none
def seqP : Pv → Option (List Pv)
  | .tup l => some l
  | .lst l => some l
  | _ => none
def colsP (rs : List (List Pv)) (m : Nat) : List (List Pv) := (List.range m).map fun j => rs.map fun r => r.getD j .non
def zipS (v : Pv) : Option (List (List Pv)) := (seqP v).bind fun l => (tupsP l).bind fun rs => match rs with
  | [] => none
  | r :: rs => if decide (rs.length < 6) && (Nat.blt 0 r.length && Nat.ble r.length 1000) && rs.all (fun q => q.length == r.length) then some (colsP (r :: rs) r.length) else none
def pZipL (v : Pv) : Option (List Pv) := (zipS v).map fun cs => cs.map .tup
def pZipT (v : Pv) : Option Pv := (zipS v).map fun cs => .tup (cs.map .tup)
section
variable {K : PySem.W.Frag} {G : Addr → Prop} {ι : List Addr} {μ : List MO} {ρ : List SV} {σ : L2.St} {H H' : Hp}
theorem tups_rel {W : Wd} : ∀ {l : List Pv} {rs : List (List Pv)} {xs : List V}, tupsP l = some rs → Rls W l xs → ∃ rv : List (Addr × List V), xs = rv.map (fun r => V.ref r.1) ∧ rv.length = rs.length ∧ (∀ r ∈ rv, SqT W.K W.H r.1 r.2) ∧ ∀ (j : Nat) (r : Addr × List V) (q : List Pv), rv[j]? = some r → rs[j]? = some q → Rls W q r.2
  | [], rs, xs, h, r => by
    cases h
    have := r.inv_nil
    exact ⟨[], this, rfl, fun _ h => absurd h List.not_mem_nil, fun j r q h => by simp at h⟩
  | .tup l :: k, rs, xs, h, r => by
    obtain ⟨x, r', rfl, h1, h2⟩ := r.inv_cons
    unfold tupsP at h
    cases e : tupsP k with
    | none => rw [e] at h; cases h
    | some rs' =>
      rw [e] at h; cases h
      obtain ⟨a, vs, rfl, s1, s2⟩ := h1.tupE
      obtain ⟨rv, e1, e2, e3, e4⟩ := tups_rel e h2
      refine ⟨(a, vs) :: rv, by rw [e1]; rfl, by rw [List.length_cons, List.length_cons, e2], fun q hq => ?_, fun j q u hj hu => ?_⟩
      · rcases List.mem_cons.mp hq with e | hq
        · subst e; exact s1
        · exact e3 q hq
      · cases j with
        | zero => cases hj; cases hu; exact s2
        | succ j => exact e4 j q u (by simpa using hj) (by simpa using hu)
  | .non :: _, _, _, h, _ | .bl _ :: _, _, _, h, _ | .int _ :: _, _, _, h, _ | .str _ :: _, _, _, h, _ | .lst _ :: _, _, _, h, _ | .loc _ :: _, _, _, h, _ | .scr _ :: _, _, _, h, _ => by cases h
theorem zipS_rel {v : Pv} {cs : List (List Pv)} {x : V} (rs : RS K G ι μ ρ σ H) (h : zipS v = some cs) (rx : Rk (wd K G ι ρ σ H) ρ σ v x) : ∃ cv : List (List V), ZN.ZRel K x H cv ∧ cv.length = cs.length ∧ ∀ (j : Nat) (c : List V) (d : List Pv), cv[j]? = some c → cs[j]? = some d → Rls (wd K G ι ρ σ H) d c := by
  unfold zipS at h
  cases e1 : seqP v with
  | none => rw [e1] at h; cases h
  | some l =>
    rw [e1, Option.bind_some] at h
    cases e2 : tupsP l with
    | none => rw [e2] at h; cases h
    | some rl =>
      rw [e2, Option.bind_some] at h
      cases rl with
      | nil => cases h
      | cons r rl =>
        dsimp only at h
        split at h
        · rename_i hb
          simp only [Bool.and_eq_true, decide_eq_true_eq, Nat.blt_eq, Nat.ble_eq, List.all_eq_true, beq_iff_eq] at hb
          obtain ⟨⟨b1, b2, b3⟩, b4⟩ := hb
          cases h
          obtain ⟨a, xs, rfl, sx, rx⟩ : ∃ a xs, x = .ref a ∧ (SqT K H a xs ∨ SqL K H a xs) ∧ Rls (wd K G ι ρ σ H) l xs := by
            cases v with
            | tup k => cases e1; obtain ⟨a, vs, e, s, t⟩ := rx.tupE; exact ⟨a, vs, e, .inl s, t⟩
            | lst k => cases e1; obtain ⟨a, vs, e, s, t⟩ := rx.lstE rs; exact ⟨a, vs, e, .inr (.of s), t⟩
            | _ => cases e1
          obtain ⟨rv, f1, f2, f3, f4⟩ := tups_rel e2 rx
          have flen : ∀ q ∈ rv, q.2.length = r.length := fun q hq => by
            obtain ⟨j, hj⟩ := List.mem_iff_getElem?.mp hq
            have hjl : j < (r :: rl).length := by rw [← f2]; exact (List.getElem?_eq_some_iff.mp hj).1
            have := f4 j q _ hj (List.getElem?_eq_getElem hjl)
            rw [← this.length]
            cases j with
            | zero => rfl
            | succ j => exact b4 _ (List.getElem_mem _)
          have lc : (colsP (r :: rl) r.length).length = r.length := by unfold colsP; rw [List.length_map, List.length_range]
          have cl : ((List.range r.length).map fun j => rv.map fun q => q.2.getD j V.non).length = r.length := by rw [List.length_map, List.length_range]
          refine ⟨(List.range r.length).map fun j => rv.map fun q => q.2.getD j V.non, ⟨a, rv, rfl, by rw [← f1]; exact sx, fun e => ?_, by rw [f2, List.length_cons]; omega, fun q hq => ⟨f3 q hq, by rw [cl]; exact flen q hq⟩, by rw [cl]; exact b2, by rw [cl]; exact b3, fun j c hj => ?_⟩, by rw [lc, cl], fun j c d hj hd => ?_⟩
          · rw [e] at f2; cases f2
          · obtain ⟨hj1, hj2⟩ := List.getElem?_eq_some_iff.mp hj
            rw [cl] at hj1
            rw [List.getElem_map, List.getElem_range] at hj2
            rw [← hj2, List.map_map]
            refine List.map_congr_left fun q hq => ?_
            show q.2[j]? = some (q.2.getD j V.non)
            rw [List.getD_eq_getElem?_getD, List.getElem?_eq_getElem (by rw [flen q hq]; exact hj1)]; rfl
          · unfold colsP at hd
            obtain ⟨hj1, hj2⟩ := List.getElem?_eq_some_iff.mp hj
            obtain ⟨hd1, hd2⟩ := List.getElem?_eq_some_iff.mp hd
            rw [cl] at hj1
            rw [List.getElem_map, List.getElem_range] at hj2
            rw [List.getElem_map, List.getElem_range] at hd2
            rw [← hj2, ← hd2]
            have key : ∀ (rs : List (List Pv)) (rv : List (Addr × List V)), rv.length = rs.length → (∀ q ∈ rs, q.length = r.length) → (∀ (i : Nat) (q : Addr × List V) (u : List Pv), rv[i]? = some q → rs[i]? = some u → Rls (wd K G ι ρ σ H) u q.2) → Rls (wd K G ι ρ σ H) (rs.map fun q => q.getD j .non) (rv.map fun q => q.2.getD j V.non) := by
              intro rs
              induction rs with
              | nil =>
                intro rv h1 _ _
                cases rv with
                | nil => exact .nil
                | cons => cases h1
              | cons u rs ih =>
                intro rv h1 h2 h3
                cases rv with
                | nil => cases h1
                | cons q rv =>
                  have hu := h3 0 q u rfl rfl
                  obtain ⟨y, g1, g2⟩ := hu.get (i := j) (v := u.getD j .non) (by rw [List.getD_eq_getElem?_getD, List.getElem?_eq_getElem (by rw [h2 u List.mem_cons_self]; exact hj1)]; rfl)
                  refine .cons ?_ (ih rv (Nat.succ.inj h1) (fun q hq => h2 q (List.mem_cons_of_mem _ hq)) fun i q u hi hu => h3 (i + 1) q u (by simpa using hi) (by simpa using hu))
                  show Rl _ _ (q.2.getD j V.non)
                  rw [List.getD_eq_getElem?_getD, g1]
                  exact g2
            exact key _ _ f2 (fun q hq => by
              rcases List.mem_cons.mp hq with e | hq
              · rw [e]
              · exact b4 q hq) f4
        · cases h
end
section
variable {X : Cx} {ρ : List SV} {m : Type → Type} [Monad m] [Eff m] {e : Expr} {ca : m Pv} {p p2 p3 pos pos2 : Pos}
theorem cols_rls {K : PySem.W.Frag} {G G' : Addr → Prop} {ι : List Addr} {σ : L2.St} {H H' : Hp} {as : List Addr} {cv : List (List V)} {cs : List (List Pv)} (le : Le (wd K G ι ρ σ H) (wd K G' ι ρ σ H')) (nb : ∀ t ∈ as, ¬ (wd K G' ι ρ σ H').B t) (l1 : as.length = cv.length) (l2 : cv.length = cs.length)
    (h : ∀ (j : Nat) (t : Addr) (c : List V), as[j]? = some t → cv[j]? = some c → H' t = some (.tup c)) (hr : ∀ (j : Nat) (c : List V) (d : List Pv), cv[j]? = some c → cs[j]? = some d → Rls (wd K G ι ρ σ H) d c) : Rls (wd K G' ι ρ σ H') (cs.map .tup) (as.map V.ref) := by
  induction as generalizing cv cs with
  | nil =>
    cases cv with
    | cons => cases l1
    | nil =>
      cases cs with
      | cons => cases l2
      | nil => exact .nil
  | cons t as ih =>
    cases cv with
    | nil => cases l1
    | cons c cv =>
      cases cs with
      | nil => cases l2
      | cons d cs =>
        refine .cons ?_ (ih (fun t ht => nb t (List.mem_cons_of_mem _ ht)) (Nat.succ.inj l1) (Nat.succ.inj l2) (fun j t c h1 h2 => h (j + 1) t c (by simpa using h1) (by simpa using h2)) fun j c d h1 h2 => hr (j + 1) c d (by simpa using h1) (by simpa using h2))
        unfold Rl
        exact ⟨t, c, rfl, ⟨h 0 t c rfl rfl, nb t List.mem_cons_self⟩, (hr 0 c d rfl rfl).mono le⟩
theorem RS.hold {K : PySem.W.Frag} {G : Addr → Prop} {ι : List Addr} {μ : List MO} {σ : L2.St} {H : Hp} {p : Addr} {u : HO} (r : RS K G ι μ ρ σ (fun b => if b = p then none else H b)) (e : H p = some u) (hu : NT u := by intro _ z; cases z) : RS K (fun b => G b ∨ b = p) ι μ ρ σ H := by
  have hp : (fun b => if b = p then none else H b) p = none := if_pos rfl
  have := r.alloc (u := u) hp hu
  have ee : upd (fun b => if b = p then none else H b) p u = H := by
    funext b
    by_cases hb : b = p
    · subst hb; rw [upd_same, e]
    · rw [upd_ne hb, if_neg hb]
  rwa [ee] at this
theorem en_zipL (hc : X.calm = true) (hm : X.mg "list" = none) (hm2 : X.mg "zip" = none) (ha : Ek X ρ e ca) (hg : Gl X "list" := by rfl) (hg2 : Gl X "zip" := by rfl) (hst : starEach [.Starred e p3] X.env = [(true, eval e X.env)] := by rfl)
    (hs : starEach [.Call (.Name "zip" p2) [.Starred e p3] [] pos2] X.env = (false, eval (.Call (.Name "zip" p2) [.Starred e p3] [] pos2) X.env) :: starEach [] X.env := by rfl) :
    En X ρ (.Call (.Name "list" p) [.Call (.Name "zip" p2) [.Starred e p3] [] pos2] [] pos) (b1 pZipL ca) :=
  PE.imp (ZN.pe_listZip hc ha hg hm hg2 hm2 hst hs) fun σ H Q q => by
    obtain ⟨G, ι, μ, v, μ', rs, hr, q⟩ := q
    obtain ⟨va, μ1, h1, h2⟩ := inv_bind hr
    obtain ⟨h5, rfl⟩ := inv_lift h2
    unfold pZipL at h5
    cases e1 : zipS va with
    | none => rw [e1] at h5; cases h5
    | some cs =>
      rw [e1] at h5; cases h5
      refine ⟨G, ι, μ, va, _, rs, h1, fun x H1 ι1 st1 z1 => ?_⟩
      obtain ⟨cv, c1, c2, c3⟩ := zipS_rel z1.1 e1 z1.2
      refine ⟨cv, c1, fun as S H' k1 k2 k3 k4 k5 k6 k7 => ?_⟩
      have sm : Same H1 H' := fun b o eb => by
        rw [k1 b (fun hb => by rw [k3 b hb] at eb; cases eb) fun hb => by rw [hb, k2] at eb; cases eb]
        exact eb
      have sm2 : Same H1 (fun b => if b = S then none else H' b) := fun b o eb => by
        have hb : b ≠ S := fun hb => by rw [hb, k2] at eb; cases eb
        show (if b = S then none else H' b) = _
        rw [if_neg hb]; exact sm b o eb
      have rs2 := (z1.1.same sm2).hold k6
      have nS : ¬ G S := fun hG => by
        obtain ⟨o, ho, _⟩ := (z1.1.g S hG).1
        rw [k2] at ho; cases ho
      have le : Le (wd X.K G ι1 ρ σ H1) (wd X.K (fun b => G b ∨ b = S) ι1 ρ σ H') := ⟨rfl, fun _ _ h => h, fun b o eb k => ⟨sm b o eb, fun z => by
        rcases z with (z | z) | z
        · exact k (.inl z)
        · have eb : H1 b = some o := eb
          rw [z, k2] at eb; cases eb
        · exact k (.inr z)⟩⟩
      refine q (.ref S) H' ι1 (st1.trans (Step.same sm fun _ h => h)) (Back.back rs z1.1 st1 ⟨S, as.map V.ref, rfl, k2, nS, k6, rs2, cols_rls le (fun t ht z => ?_) k5 c2 k7 c3⟩)
      rcases z with (z | z) | z
      · obtain ⟨o, ho, _⟩ := (z1.1.g t z).1
        rw [k3 t ht] at ho; cases ho
      · exact k4 (z ▸ ht)
      · obtain ⟨o, ho⟩ := z1.1.tracked (a := t) (.inr z)
        rw [k3 t ht] at ho; cases ho
theorem ev_zipT (hc : X.calm = true) (hm : X.mg "tuple" = none) (hm2 : X.mg "zip" = none) (ha : Ek X ρ e ca) (hg : Gl X "tuple" := by rfl) (hg2 : Gl X "zip" := by rfl) (hst : starEach [.Starred e p3] X.env = [(true, eval e X.env)] := by rfl)
    (hs : starEach [.Call (.Name "zip" p2) [.Starred e p3] [] pos2] X.env = (false, eval (.Call (.Name "zip" p2) [.Starred e p3] [] pos2) X.env) :: starEach [] X.env := by rfl) :
    Ev X ρ (.Call (.Name "tuple" p) [.Call (.Name "zip" p2) [.Starred e p3] [] pos2] [] pos) (b1 pZipT ca) :=
  PE.imp (ZN.pe_tupleZip hc ha hg hm hg2 hm2 hst hs) fun σ H Q q => by
    obtain ⟨G, ι, μ, v, μ', rs, hr, q⟩ := q
    obtain ⟨va, μ1, h1, h2⟩ := inv_bind hr
    obtain ⟨h5, rfl⟩ := inv_lift h2
    unfold pZipT at h5
    cases e1 : zipS va with
    | none => rw [e1] at h5; cases h5
    | some cs =>
      rw [e1] at h5; cases h5
      refine ⟨G, ι, μ, va, _, rs, h1, fun x H1 ι1 st1 z1 => ?_⟩
      obtain ⟨cv, c1, c2, c3⟩ := zipS_rel z1.1 e1 z1.2
      refine ⟨cv, c1, fun as S H' k1 k2 k3 k4 k5 k6 k7 => ?_⟩
      have sm : Same H1 H' := fun b o eb => by
        rw [k1 b (fun hb => by rw [k3 b hb] at eb; cases eb) fun hb => by rw [hb, k2] at eb; cases eb]
        exact eb
      have nb : ∀ t, H1 t = none → ¬ (wd X.K G ι1 ρ σ H').B t := fun t ht z => by
        rcases z with z | z
        · obtain ⟨o, ho, _⟩ := (z1.1.g t z).1
          rw [ht] at ho; cases ho
        · obtain ⟨o, ho⟩ := z1.1.tracked (a := t) (.inr z)
          rw [ht] at ho; cases ho
      have le : Le (wd X.K G ι1 ρ σ H1) (wd X.K G ι1 ρ σ H') := (Step.same sm fun _ h => h).le
      refine q (.ref S) H' ι1 (st1.trans (Step.same sm fun _ h => h)) ⟨z1.1.same sm, ?_⟩
      unfold Rl
      exact ⟨S, as.map V.ref, rfl, ⟨k6, nb S k2⟩, cols_rls le (fun t ht => nb t (k3 t ht)) k5 c2 k7 c3⟩
end
end Q
/-! LU: a list of the store compared; nested targets. -/
namespace Q
open PySem PySem.Spec PyProof.Rows L2
def cmpS (g : Pv → Pv → Option Pv) (d v : Pv) : M Pv := fun μ => (lsAt μ d).bind fun p => (g (.lst p.2) v).map fun r => (r, μ)
section
variable {X : Cx} {ρ : List SV} {a b : Expr} {pos : Pos} {ca cb : M Pv} {cop : CmpOp}
theorem Dp_of {K : PySem.W.Frag} {G : Addr → Prop} {ι : List Addr} {σ : L2.St} {H : Hp} {x : Addr} {l : List Pv} {vs : List V} (h : okE (.lst l) = true) (hH : H x = some (.lst vs)) (hl : Rls (wd K G ι ρ σ H) l vs) : Dp K H (.ref x) (toD (.lst l)) := by
  unfold toD
  exact .lst (.of hH) (dps_of (fun v hv x hx => dp_of 59 v x (List.all_eq_true.mp (show (l.all (okN 59)) = true from h) v hv) hx) hl)
/-- what == and != ask of their sides -/
def EqR (K : PySem.W.Frag) (neg : Bool) : R2 := fun x y H Q => ∃ d e, Dp K H x d ∧ Dp K H y e ∧ SeqAt.shaped d = true ∧ SeqAt.shaped e = true ∧ Q (.bl (if neg then !(PyData.eqv d e) else PyData.eqv d e)) H
theorem op_eqR (hu : X.A.units + 64 < cLine) : OpR X (compareOp .Eq) (EqR X.K false) := OpR.imp (op_eqD hu) fun x y H Q ⟨d, e, h1, h2, h3, h4, q⟩ => ⟨d, e, h1, h2, h3, h4, q⟩
theorem op_neR (hu : X.A.units + 64 < cLine) : OpR X (compareOp .NotEq) (EqR X.K true) := OpR.imp (op_neD hu) fun x y H Q ⟨d, e, h1, h2, h3, h4, q⟩ => ⟨d, e, h1, h2, h3, h4, q⟩
def gEq (neg : Bool) (a b : Pv) : Option Pv := if okE a && okE b then some (.bl (if neg then !(peq a b) else peq a b)) else none
theorem tG_cmpS {neg : Bool} {σ : L2.St} {H : Hp} {Q : VK} (q : tG X.K ρ (RV X.K ρ) (ca >>= fun d => cb >>= fun v => cmpS (gEq neg) d v) σ H Q) : tOp (EqR X.K neg) (tG X.K ρ (RV X.K ρ) ca) (tG X.K ρ (RK X.K ρ) cb) σ H Q := by
  obtain ⟨G, ι, μ, v, μ', rs, hr, q⟩ := q
  obtain ⟨d, μ1, h1, h2⟩ := inv_bind hr
  obtain ⟨u, μ2, h3, h4⟩ := inv_bind h2
  have h4 : cmpS (gEq neg) d u μ2 = some (v, μ') := h4
  unfold cmpS at h4
  cases e1 : lsAt μ2 d with
  | none => rw [e1] at h4; cases h4
  | some p =>
    obtain ⟨n, l⟩ := p
    rw [e1, Option.bind_some] at h4
    dsimp only at h4
    unfold gEq at h4
    split at h4
    · rename_i hb
      rw [Bool.and_eq_true] at hb
      cases h4
      refine ⟨G, ι, μ, d, μ1, rs, h1, fun x H1 ι1 st1 z1 => ⟨G, ι1, μ1, u, _, z1.1, h3, fun y H2 ι2 st2 z2 => ?_⟩⟩
      obtain ⟨p, vs, rfl, hp, hH, hl⟩ := z2.1.ls e1 (z1.2.mono st2.le)
      exact ⟨_, _, Dp_of hb.1 hH hl, z2.2.dp z2.1 hb.2, okE_shaped hb.1, okE_shaped hb.2, q _ H2 ι2 (st1.trans st2) ⟨z2.1, by unfold peq; exact .bl⟩⟩
    · cases h4
theorem ev_cmpS {neg : Bool} (ho : OpR X (compareOp cop) (EqR X.K neg)) (ha : Ev X ρ a ca) (hb : Ek X ρ b cb) (hm : behindInMarks cop b = false := by rfl) : Ev X ρ (.Compare a [cop] [b] pos) (ca >>= fun d => cb >>= fun v => cmpS (gEq neg) d v) :=
  PE.imp (pe_cmpR ho ha hb hm) fun σ H Q q => tG_cmpS q
theorem et_cmpS {neg : Bool} (ho : OpR X (compareOp cop) (EqR X.K neg)) (ha : Ev X ρ a ca) (hb : Ek X ρ b cb) (hm : behindInMarks cop b = false := by rfl) : Et X ρ (.Compare a [cop] [b] pos) (b1 asB (ca >>= fun d => cb >>= fun v => cmpS (gEq neg) d v)) :=
  PT.imp (pt_cmpR ho ha hb hm) fun σ H Q q => by
    obtain ⟨G, ι, μ, v, μ', rs, hr, q⟩ := q
    obtain ⟨va, μ1, h1, h2⟩ := inv_bind hr
    obtain ⟨h5, rfl⟩ := inv_lift h2
    refine tG_cmpS (Q := fun x H' => ∃ k, x = .bl k ∧ Q k H') ⟨G, ι, μ, va, _, rs, h1, fun x H1 ι1 st1 z1 => ?_⟩
    cases va <;> simp only [asB, Option.some.injEq, reduceCtorEq] at h5
    subst h5
    exact ⟨_, z1.2.blE, q H1 ι1 st1 z1.1⟩
end
end Q
/-! LV: a target within a target. -/
namespace Q
open PySem PySem.Spec PyProof.Rows L2
def un32 (v : Pv) : Option (Pv × Pv × Pv × Pv) := (un2t v).bind fun p => (un3 p.1).map fun q => (q.1, q.2.1, q.2.2, p.2)
section
variable {X : Cx} {i j k l : Nat} {x y z w : Str} {p1 p2 p3 p4 pos pos1 : Pos} {kk kk1 : Nat}
/-- (x, y, z), w -/
theorem tg_32 (hc : X.calm = true) (hN : X.N.Nodup) (hi : X.N[i]? = some x := by rfl) (hj : X.N[j]? = some y := by rfl) (hk : X.N[k]? = some z := by rfl) (hl : X.N[l]? = some w := by rfl)
    (hx : Loc X.env.scope x := by first | exact Or.inl rfl | exact Or.inr rfl) (hf : X.fn x = true ∨ X.env.scope.names.lookup x = some .local := by first | exact .inl rfl | exact .inr rfl | assumption)
    (hy : Loc X.env.scope y := by first | exact Or.inl rfl | exact Or.inr rfl) (hg : X.fn y = true ∨ X.env.scope.names.lookup y = some .local := by first | exact .inl rfl | exact .inr rfl | assumption)
    (hz : Loc X.env.scope z := by first | exact Or.inl rfl | exact Or.inr rfl) (hh : X.fn z = true ∨ X.env.scope.names.lookup z = some .local := by first | exact .inl rfl | exact .inr rfl | assumption)
    (hw : Loc X.env.scope w := by first | exact Or.inl rfl | exact Or.inr rfl) (hhw : X.fn w = true ∨ X.env.scope.names.lookup w = some .local := by first | exact .inl rfl | exact .inr rfl | assumption) :
    Tg X (.Tuple [.Tuple [.Name x p1, .Name y p2, .Name z p3] kk1 pos1, .Name w p4] kk pos) (gUn X.K 2 (gCons (gUn X.K 3 (gCons (gName i) (gCons (gName j) (gCons (gName k) gNil)))) (gCons (gName l) gNil))) [i, j, k, l] un32 (fun ρ a => (((ρ.set i (.val a.1)).set j (.val a.2.1)).set k (.val a.2.2.1)).set l (.val a.2.2.2)) :=
  ⟨pg_un (n := 2) hc (pgs_cons (pg_un (n := 3) hc (pgs_cons (pg_name (i := i) hN hi hx hf) (pgs_cons (pg_name (i := j) hN hj hy hg) (pgs_cons (pg_name (i := k) hN hk hz hh) pgs_nil)))) (pgs_cons (pg_name (i := l) hN hl hw hhw) pgs_nil)), fun G ι μ ρ σ H x v a Q rs r e k => by
    unfold un32 at e
    cases e1 : un2t v with
    | none => rw [e1] at e; cases e
    | some p =>
      rw [e1, Option.bind_some] at e
      cases e2 : un3 p.1 with
      | none => rw [e2] at e; cases e
      | some t =>
        rw [e2] at e
        cases e
        unfold un2t at e1
        split at e1
        · cases e1
          unfold un3 at e2
          split at e2
          · cases e2
            refine gUn_of r (by assumption) rfl fun vs h2 => ?_
            obtain ⟨x1, r1, rfl, q1, h2⟩ := h2.inv_cons
            obtain ⟨x4, r2, rfl, q4, h2⟩ := h2.inv_cons
            cases h2.inv_nil
            refine ⟨x1, [x4], rfl, gUn_of q1 (by assumption) rfl fun vs h3 => ?_⟩
            obtain ⟨x1, r1, rfl, q1, h3⟩ := h3.inv_cons
            obtain ⟨x2, r2, rfl, q2, h3⟩ := h3.inv_cons
            obtain ⟨x3, r3, rfl, q3, h3⟩ := h3.inv_cons
            cases h3.inv_nil
            refine ⟨x1, [x2, x3], rfl, x2, [x3], rfl, x3, [], rfl, rfl, x4, [], rfl, rfl, ?_⟩
            exact k _ ((((rs.setVal q1).setVal (q2.mono le_set)).setVal ((q3.mono le_set).mono le_set)).setVal (((q4.mono le_set).mono le_set).mono le_set)) (fun b h => mx_set (mx_set (mx_set (mx_set h)))) fun n hn => by
              simp only [List.mem_cons, List.not_mem_nil, or_false, not_or] at hn
              rw [List.getElem?_set_ne (fun z => hn.2.2.2 z.symm), List.getElem?_set_ne (fun z => hn.2.2.1 z.symm), List.getElem?_set_ne (fun z => hn.2.1 z.symm), List.getElem?_set_ne (fun z => hn.1 z.symm)]
          · cases e2
        · cases e1⟩
end
end Q
/-! LW: dicts of the store with keys of numbers or text: an empty one, is it in, a key set. -/
namespace Q
open PySem PySem.Spec PyProof.Rows L2
theorem KRel.isS {W : Wd} {k : Key} : ∀ {kvs : List (Key × Pv)} {vs : List (Key × V)}, KRel W kvs vs → (valP kvs k).isSome = (valV vs k).isSome
  | _, _, .nil => rfl
  | p :: kvs, q :: vs, .cons r t => by
    by_cases e : p.1 = k
    · rw [valV_pos (r.1 ▸ e)]
      simp [valP, List.find?_cons, e]
    · rw [valV_neg (r.1 ▸ e), ← KRel.isS t]
      simp [valP, List.find?_cons, e]
def dNew0 : M Pv := fun μ => some (.loc μ.length, μ ++ [.dk []])
def dHasM (d k : Pv) : M Pv := fun μ => (dkAt μ d).bind fun p => (toKey k).map fun k => (.bl (valP p.2 k).isSome, μ)
def dHasN (d k : Pv) : M Pv := fun μ => (dkAt μ d).bind fun p => (toKey k).map fun k => (.bl (!(valP p.2 k).isSome), μ)
section
variable {X : Cx} {ρ : List SV} {o i e : Expr} {pos pos' : Pos} {cd ci cv : M Pv}
/-- {} -/
theorem ev_dnew0 : Ev X ρ (.Dict [] [] pos) dNew0 := PE.imp pe_dnewK fun σ H Q q => by
  obtain ⟨G, ι, μ, v, μ', rs, hr, q⟩ := q
  have hr : some (Pv.loc μ.length, μ ++ [MO.dk []]) = some (v, μ') := hr
  cases hr
  intro p hp
  have rs' := rs.newS (o := .dK []) (mo := .dk []) hp fun W hW hH => ⟨[], hH, .nil⟩
  refine q (.ref p) (upd H p (.dK [])) (ι ++ [p]) ⟨fun n a h => ?_, fun b ob h k => ?_, fun b h => ?_, fun b o u h => by rw [upd_ne (ne_of_none h hp)]; exact h⟩ ⟨rs', ?_⟩
  · rw [List.getElem?_append_left (List.getElem?_eq_some_iff.mp h).1]; exact h
  · rw [upd_ne (ne_of_none h hp)]; exact h
  · rcases h with h | h
    · rcases List.mem_append.mp h with h | h
      · exact .inl (.inl h)
      · right
        rw [show b = p by simpa using h]; exact hp
    · exact .inl (.inr h)
  · unfold Rl
    exact ⟨p, by show (ι ++ [p])[μ.length]? = some p; rw [← rs.lm]; simp, rfl⟩
theorem tG_has {σ : L2.St} {H : Hp} {Q : VK} (q : tG X.K ρ (RV X.K ρ) (ci >>= fun k => cd >>= fun d => dHasM d k) σ H Q) : tDIn (tG X.K ρ (RV X.K ρ) ci) (tG X.K ρ (RV X.K ρ) cd) σ H Q := by
  obtain ⟨G, ι, μ, v, μ', rs, hr, q⟩ := q
  obtain ⟨k, μ1, h1, h2⟩ := inv_bind hr
  obtain ⟨d, μ2, h3, h4⟩ := inv_bind h2
  have h4 : dHasM d k μ2 = some (v, μ') := h4
  unfold dHasM at h4
  cases e1 : dkAt μ2 d with
  | none => rw [e1] at h4; cases h4
  | some p =>
    obtain ⟨n, kvs⟩ := p
    rw [e1, Option.bind_some] at h4
    cases e2 : toKey k with
    | none => rw [e2] at h4; cases h4
    | some kk =>
      rw [e2] at h4
      cases h4
      refine ⟨G, ι, μ, k, μ1, rs, h1, fun y H1 ι1 st1 z1 => ⟨G, ι1, μ1, d, _, z1.1, h3, fun x H2 ι2 st2 z2 => ?_⟩⟩
      obtain ⟨a, vs, rfl, ha, hH, kr⟩ := z2.1.dk e1 z2.2
      refine ⟨a, valV vs kk, rfl, by rw [toKey_kV e2 (z1.2.mono st2.le)]; exact DGet.k hH, ?_⟩
      rw [← kr.isS]
      exact q _ H2 ι2 (st1.trans st2) ⟨z2.1, .bl⟩
theorem tG_hasN {σ : L2.St} {H : Hp} {Q : VK} (q : tG X.K ρ (RV X.K ρ) (ci >>= fun k => cd >>= fun d => dHasN d k) σ H Q) : tDNotIn (tG X.K ρ (RV X.K ρ) ci) (tG X.K ρ (RV X.K ρ) cd) σ H Q := by
  obtain ⟨G, ι, μ, v, μ', rs, hr, q⟩ := q
  obtain ⟨k, μ1, h1, h2⟩ := inv_bind hr
  obtain ⟨d, μ2, h3, h4⟩ := inv_bind h2
  have h4 : dHasN d k μ2 = some (v, μ') := h4
  unfold dHasN at h4
  cases e1 : dkAt μ2 d with
  | none => rw [e1] at h4; cases h4
  | some p =>
    obtain ⟨n, kvs⟩ := p
    rw [e1, Option.bind_some] at h4
    cases e2 : toKey k with
    | none => rw [e2] at h4; cases h4
    | some kk =>
      rw [e2] at h4
      cases h4
      refine ⟨G, ι, μ, k, μ1, rs, h1, fun y H1 ι1 st1 z1 => ⟨G, ι1, μ1, d, _, z1.1, h3, fun x H2 ι2 st2 z2 => ?_⟩⟩
      obtain ⟨a, vs, rfl, ha, hH, kr⟩ := z2.1.dk e1 z2.2
      refine ⟨a, valV vs kk, rfl, by rw [toKey_kV e2 (z1.2.mono st2.le)]; exact DGet.k hH, ?_⟩
      rw [← kr.isS]
      exact q _ H2 ι2 (st1.trans st2) ⟨z2.1, .bl⟩
/-- k in d, k not in d -/
theorem ev_din (hu : X.A.units + 1 < cLine) (hi : Ev X ρ i ci) (hd : Ev X ρ o cd) (hm : behindInMarks .In o = false := by rfl) : Ev X ρ (.Compare i [.In] [o] pos) (ci >>= fun k => cd >>= fun d => dHasM d k) :=
  PE.imp (pe_cmp (pc_din hu hi hd) hm) fun σ H Q q => tG_has q
theorem ev_dnotin (hu : X.A.units + 1 < cLine) (hi : Ev X ρ i ci) (hd : Ev X ρ o cd) (hm : behindInMarks .NotIn o = false := by rfl) : Ev X ρ (.Compare i [.NotIn] [o] pos) (ci >>= fun k => cd >>= fun d => dHasN d k) :=
  PE.imp (pe_cmp (pc_dnotin hu hi hd) hm) fun σ H Q q => tG_hasN q
theorem et_din (hu : X.A.units + 1 < cLine) (hi : Ev X ρ i ci) (hd : Ev X ρ o cd) (hm : behindInMarks .In o = false := by rfl) : Et X ρ (.Compare i [.In] [o] pos) (b1 asB (ci >>= fun k => cd >>= fun d => dHasM d k)) :=
  PT.imp (pt_cmp (pc_din hu hi hd) hm) fun σ H Q q => by
    obtain ⟨G, ι, μ, v, μ', rs, hr, q⟩ := q
    obtain ⟨va, μ1, h1, h2⟩ := inv_bind hr
    obtain ⟨h5, rfl⟩ := inv_lift h2
    refine tG_has (Q := fun x H' => ∃ k, x = .bl k ∧ Q k H') ⟨G, ι, μ, va, _, rs, h1, fun x H1 ι1 st1 z1 => ?_⟩
    cases va <;> simp only [asB, Option.some.injEq, reduceCtorEq] at h5
    subst h5
    exact ⟨_, z1.2.blE, q H1 ι1 st1 z1.1⟩
theorem et_dnotin (hu : X.A.units + 1 < cLine) (hi : Ev X ρ i ci) (hd : Ev X ρ o cd) (hm : behindInMarks .NotIn o = false := by rfl) : Et X ρ (.Compare i [.NotIn] [o] pos) (b1 asB (ci >>= fun k => cd >>= fun d => dHasN d k)) :=
  PT.imp (pt_cmp (pc_dnotin hu hi hd) hm) fun σ H Q q => by
    obtain ⟨G, ι, μ, v, μ', rs, hr, q⟩ := q
    obtain ⟨va, μ1, h1, h2⟩ := inv_bind hr
    obtain ⟨h5, rfl⟩ := inv_lift h2
    refine tG_hasN (Q := fun x H' => ∃ k, x = .bl k ∧ Q k H') ⟨G, ι, μ, va, _, rs, h1, fun x H1 ι1 st1 z1 => ?_⟩
    cases va <;> simp only [asB, Option.some.injEq, reduceCtorEq] at h5
    subst h5
    exact ⟨_, z1.2.blE, q H1 ι1 st1 z1.1⟩
/-- d[k] = e -/
theorem es_dput (hu : X.A.units + 1 < cLine) (hd : Ev X ρ o cd) (hi : Ev X ρ i ci) (hv : Ev X ρ e cv) (hs : swapsWith e (some (.Subscript o i pos')) pos.line X.env = pure false := by rfl) :
    Es X ρ (.Assign [.Subscript o i pos'] e pos) (cv >>= fun v => cd >>= fun d => ci >>= fun k => dPutM d k v) fun _ => .nx ρ :=
  PS.imp (ps_dput hu hd hi hv hs) fun D σ H q => by
    obtain ⟨G, ι, μ, v, μ', rs, hr, q⟩ := q
    obtain ⟨w, μ1, h1, h2⟩ := inv_bind hr
    obtain ⟨d, μ2, h3, h4⟩ := inv_bind h2
    obtain ⟨k, μ3, h5, h6⟩ := inv_bind h4
    have h6 : dPutM d k w μ3 = some (v, μ') := h6
    unfold dPutM at h6
    cases e1 : dkAt μ3 d with
    | none => rw [e1] at h6; cases h6
    | some p =>
      obtain ⟨n, kvs⟩ := p
      rw [e1, Option.bind_some] at h6
      cases e2 : toKey k with
      | none => rw [e2] at h6; cases h6
      | some kk =>
        rw [e2, Option.bind_some] at h6
        split at h6
        · rename_i hz
          have hz : kvs.length < LIM := hz
          cases h6
          refine ⟨G, ι, μ, w, μ1, rs, h1, fun x H1 ι1 st1 z1 => ⟨G, ι1, μ1, d, μ2, z1.1, h3, fun y H2 ι2 st2 z2 => ⟨G, ι2, μ2, k, _, z2.1, h5, fun z H3 ι3 st3 z3 => ?_⟩⟩⟩
          obtain ⟨a, vs, rfl, ha, hH, kr⟩ := z3.1.dk e1 (z2.2.mono st3.le)
          refine ⟨a, upd H3 a (.dK (putK vs kk x)), rfl, ?_, ?_⟩
          · rw [toKey_kV e2 z3.2]
            exact DPut.k hH (by rw [← kr.len]; have : LIM ≤ sizeLine := lim_le (Nat.le_refl _); omega)
          · exact q σ _ ι3 (((st1.trans st2).trans st3).updS ha (nfK hH)) (z3.1.updS ha fun W hW hH => ⟨_, hH, KRel.put (((z1.2.mono st2.le).mono st3.le).mono hW) (kr.mono hW)⟩)
        · cases h6
/-- {i: e} with a number for its key -/
def dNewI (i : Int) (c : M Pv) : M Pv := c >>= fun a => fun μ => some (.loc μ.length, μ ++ [.dk [(.inl i, a)]])
theorem ev_disp1 {i : Int} {e1 : Expr} {c1 : M Pv} {i1 : Nat} {p1 : Pos} (h1 : Ev X ρ e1 c1) : Ev X ρ (.Dict [some (.Constant (.int i) i1 p1)] [e1] pos) (dNewI i c1) :=
  PE.imp (pe_disp (pps_cons pe_int h1 pps_nil) (by rfl) (by rfl) (fun z => by cases z) (by simp)) fun σ H Q q => by
    obtain ⟨G, ι, μ, v, μ', rs, hr, q⟩ := q
    unfold dNewI at hr
    obtain ⟨a, μ1, r1, hr⟩ := inv_bind hr
    have hr : some (Pv.loc μ1.length, μ1 ++ [MO.dk [(.inl i, a)]]) = some (v, μ') := hr
    cases hr
    intro p hp
    have rsD := rs.alloc (u := .dK []) hp
    have keep : ∀ {ι1 H1}, Step ι (Mx ι ρ σ) (upd H p (.dK [])) ι1 (Mx ι1 ρ σ) H1 → H1 p = some (.dK []) := fun {ι1 H1} st => st.keep p _ upd_same fun z => by
      rcases z with z | ⟨j, z⟩
      · exact (rsD.g p (.inr rfl)).2 z
      · exact (rsD.ni j p z).2 (.inr rfl)
    show tPairs _ σ (upd H p (.dK [])) _
    show tG X.K ρ (RV X.K ρ) c1 σ (upd H p (.dK [])) fun y H2 => _
    refine ⟨_, ι, μ, a, μ1, rsD, r1, fun y H1 ι1 st z1 => ?_⟩
    have hD := keep st
    refine ⟨hD, [(.inl i, y)], rfl, by simp, ?_⟩
    have em : mergeK [] [((Sum.inl i : Key), y)] = [((Sum.inl i : Key), y)] := by simp [mergeK, putK]
    rw [em]
    have ng : ¬ G p := fun z => by
      obtain ⟨ob, e, _⟩ := (rs.g p z).1
      rw [hp] at e; cases e
    have st' : Step ι (Mx ι ρ σ) H (ι1 ++ [p]) (Mx (ι1 ++ [p]) ρ σ) (upd H1 p (.dK [((Sum.inl i : Key), y)])) := by
      refine ⟨fun n a h => ?_, fun b ob h k => ?_, fun b h => ?_, fun b o u h => by rw [upd_ne (ne_of_none h hp)]; exact st.frz b o u (by rw [upd_ne (ne_of_none h hp)]; exact h)⟩
      · rw [List.getElem?_append_left (List.getElem?_eq_some_iff.mp (st.pre n a h)).1]; exact st.pre n a h
      · have nb : b ≠ p := ne_of_none h hp
        rw [upd_ne nb]
        exact st.keep b ob (by rw [upd_ne nb]; exact h) k
      · have h' : Mx ι1 ρ σ b ∨ b = p := by
          rcases h with h | h
          · rcases List.mem_append.mp h with h | h
            · exact .inl (.inl h)
            · exact .inr (by simpa using h)
          · exact .inl (.inr h)
        rcases h' with h' | h'
        · rcases st.new b h' with z | z
          · exact .inl z
          · right
            cases e : H b with
            | none => rfl
            | some ob => rw [upd_ne (ne_of_none e hp)] at z; rw [e] at z; cases z
        · rw [h']; exact .inr hp
    refine q (.ref p) _ (ι1 ++ [p]) st' ⟨RS.adopt z1.1 ng fun W hW hH => ⟨_, hH, .cons ⟨rfl, z1.2.mono hW⟩ .nil⟩, ?_⟩
    unfold Rl
    exact ⟨p, by show (ι1 ++ [p])[μ1.length]? = some p; rw [← z1.1.lm]; simp, rfl⟩
end
end Q
/-! LX: a, b, c = e1, e2, e3 -/
namespace Q
open PySem PySem.Spec PyProof.Rows L2
section
variable {X : Cx} {ρ : List SV} {m : Type → Type} [Monad m] [Eff m] {a b c : Expr} {pos : Pos}
def parM3 (x y z : m Pv) : m (Pv × Pv × Pv) := x >>= fun a => y >>= fun b => z >>= fun c => pure (a, b, c)
theorem es_par3 {i j l : Nat} {x y z : Str} {ca cb cc : m Pv} {px py pz pt pt2 : Pos} {kt k2 : Nat} (ha : Ea X ρ [a, b, c] (consM ca (consM cb (consM cc (pure []))))) (hc : X.calm = true) (hN : X.N.Nodup) (hi : X.N[i]? = some x := by rfl) (hj : X.N[j]? = some y := by rfl) (hl : X.N[l]? = some z := by rfl) (hij : i ≠ j := by decide) (hil : i ≠ l := by decide) (hjl : j ≠ l := by decide)
    (hx : X.env.scope.names.lookup x = some .local := by rfl) (hy : X.env.scope.names.lookup y = some .local := by rfl) (hz : X.env.scope.names.lookup z = some .local := by rfl)
    (hw : swappedStores [.Tuple [.Name x px, .Name y py, .Name z pz] kt pt] (.Tuple [a, b, c] k2 pt2) X.env = pure (some [x, y, z]) := by rfl)
    (hs : swapsWithSole [.Tuple [.Name x px, .Name y py, .Name z pz] kt pt] (.Tuple [a, b, c] k2 pt2) pos.line X.env = pure false := by rfl) :
    Es X ρ (.Assign [.Tuple [.Name x px, .Name y py, .Name z pz] kt pt] (.Tuple [a, b, c] k2 pt2) pos) (parM3 ca cb cc) fun p => .nx (((ρ.set i (.val p.1)).set j (.val p.2.1)).set l (.val p.2.2)) :=
  PS.imp (ps_par3 hc hN hi hj hl hij hil hjl hx hy hz ha hw hs) fun D σ H q => by
    obtain ⟨G, ι, μ, o, μ', rs, hr, q⟩ := q
    obtain ⟨va, μ1, h1, h2⟩ := inv_bind hr
    obtain ⟨vb, μ2, h3, h4⟩ := inv_bind h2
    obtain ⟨vc, μ3, h5, h6⟩ := inv_bind h4
    obtain ⟨rfl, hμ⟩ := inv_pure h6
    subst hμ
    refine ⟨G, ι, μ, [va, vb, vc], μ', rs, ?_, fun xs H1 ι1 st1 r1 z1 => ?_⟩
    · unfold consM
      rw [Eff.run_bind, h1, Option.bind_some, Eff.run_bind, Eff.run_bind, h3, Option.bind_some, Eff.run_bind, Eff.run_bind, h5, Option.bind_some, Eff.run_bind, Eff.run_pure, Option.bind_some, Eff.run_pure, Option.bind_some, Eff.run_pure, Option.bind_some, Eff.run_pure]
    · have z1 : Rls (wd X.K G ι1 ρ σ H1) [va, vb, vc] xs := z1
      obtain ⟨x1, r, rfl, k1, z1⟩ := z1.inv_cons
      obtain ⟨x2, r, rfl, k2, z1⟩ := z1.inv_cons
      obtain ⟨x3, r, rfl, k3, z1⟩ := z1.inv_cons
      cases z1.inv_nil
      exact ⟨x1, x2, x3, rfl, q _ H1 ι1 st1.set.set.set (((r1.setVal k1).setVal (k2.mono le_set)).setVal ((k3.mono le_set).mono le_set))⟩
end
end Q
/-! LY: dicts of the store whose keys are tuples of numbers and text. -/
namespace Q
open PySem PySem.Spec PyProof.Rows L2
def toKs : List Pv → Option (List Key)
  | [] => some []
  | v :: l => (toKey v).bind fun k => (toKs l).map fun r => k :: r
def toKeyT : Pv → Option (List Key)
  | .tup l => toKs l
  | _ => none
def valT (kvs : List (List Key × Pv)) (k : List Key) : Option Pv := (kvs.find? fun kv => decide (kv.1 = k)).map (·.2)
def putT (kvs : List (List Key × Pv)) (k : List Key) (v : Pv) : List (List Key × Pv) :=
  if (kvs.any fun kv => decide (kv.1 = k)) = true then kvs.map (fun kv => if kv.1 = k then (kv.1, v) else kv) else kvs ++ [(k, v)]
section
variable {W : Wd}
theorem toKs_kV : ∀ {l : List Pv} {ks : List Key} {xs : List V}, toKs l = some ks → Rls W l xs → xs = ks.map kV
  | [], ks, xs, h, r => by cases h; rw [r.inv_nil]; rfl
  | v :: l, ks, xs, h, r => by
    unfold toKs at h
    obtain ⟨x, rr, rfl, r1, r2⟩ := r.inv_cons
    cases e1 : toKey v with
    | none => rw [e1] at h; cases h
    | some k =>
      rw [e1, Option.bind_some] at h
      cases e2 : toKs l with
      | none => rw [e2] at h; cases h
      | some ks' =>
        rw [e2] at h
        cases h
        rw [toKey_kV e1 r1, toKs_kV e2 r2]; rfl
theorem toKeyT_V {v : Pv} {ks : List Key} {x : V} (h : toKeyT v = some ks) (r : Rl W v x) : ∃ b, x = .ref b ∧ W.H b = some (.tup (ks.map kV)) := by
  unfold toKeyT at h
  split at h
  · obtain ⟨b, vs, rfl, hb, hr⟩ := r.tupH
    exact ⟨b, rfl, by rw [hb, toKs_kV h hr]⟩
  · cases h
theorem TRel.val {k : List Key} : ∀ {kvs : List (List Key × Pv)} {vs : List (List Key × V)}, TRel W kvs vs → ∀ v, valT kvs k = some v → ∃ x, valV vs k = some x ∧ Rl W v x
  | _, _, .nil, v, h => by simp [valT] at h
  | p :: kvs, q :: vs, .cons r t, v, h => by
    by_cases e : p.1 = k
    · have : valT (p :: kvs) k = some p.2 := by simp [valT, List.find?_cons, e]
      rw [this] at h; cases h
      exact ⟨q.2, valV_pos (r.1 ▸ e), r.2⟩
    · have : valT (p :: kvs) k = valT kvs k := by simp [valT, List.find?_cons, e]
      rw [this] at h
      obtain ⟨x, h1, h2⟩ := TRel.val t v h
      exact ⟨x, by rw [valV_neg (r.1 ▸ e)]; exact h1, h2⟩
theorem TRel.isS {k : List Key} : ∀ {kvs : List (List Key × Pv)} {vs : List (List Key × V)}, TRel W kvs vs → (valT kvs k).isSome = (valV vs k).isSome
  | _, _, .nil => rfl
  | p :: kvs, q :: vs, .cons r t => by
    by_cases e : p.1 = k
    · rw [valV_pos (r.1 ▸ e)]
      simp [valT, List.find?_cons, e]
    · rw [valV_neg (r.1 ▸ e), ← TRel.isS t]
      simp [valT, List.find?_cons, e]
theorem TRel.any {k : List Key} : ∀ {kvs : List (List Key × Pv)} {vs : List (List Key × V)}, TRel W kvs vs → (kvs.any fun kv => decide (kv.1 = k)) = vs.any fun kv => decide (kv.1 = k)
  | _, _, .nil => rfl
  | p :: kvs, q :: vs, .cons r t => by rw [List.any_cons, List.any_cons, TRel.any t, r.1]
theorem TRel.app : ∀ {a c : List (List Key × Pv)} {b d : List (List Key × V)}, TRel W a b → TRel W c d → TRel W (a ++ c) (b ++ d)
  | _, _, _, _, .nil, h => h
  | _, _, _, _, .cons r t, h => .cons r (TRel.app t h)
theorem TRel.mapP {k : List Key} {v : Pv} {x : V} (hx : Rl W v x) : ∀ {kvs : List (List Key × Pv)} {vs : List (List Key × V)}, TRel W kvs vs → TRel W (kvs.map fun kv => if kv.1 = k then (kv.1, v) else kv) (vs.map fun kv => if kv.1 = k then (kv.1, x) else kv)
  | _, _, .nil => .nil
  | p :: kvs, q :: vs, .cons r t => by
    refine .cons ?_ (TRel.mapP hx t)
    show (if p.1 = k then (p.1, v) else p).1 = (if q.1 = k then (q.1, x) else q).1 ∧ Rl W (if p.1 = k then (p.1, v) else p).2 (if q.1 = k then (q.1, x) else q).2
    by_cases e : p.1 = k
    · rw [if_pos e, if_pos (r.1 ▸ e)]; exact ⟨r.1, hx⟩
    · rw [if_neg e, if_neg (r.1 ▸ e)]; exact r
theorem TRel.put {k : List Key} {v : Pv} {x : V} (hx : Rl W v x) {kvs : List (List Key × Pv)} {vs : List (List Key × V)} (h : TRel W kvs vs) : TRel W (putT kvs k v) (putK vs k x) := by
  unfold putT putK
  rw [h.any]
  split
  · exact TRel.mapP hx h
  · exact h.app (.cons ⟨rfl, hx⟩ .nil)
theorem TRel.len {kvs : List (List Key × Pv)} {vs : List (List Key × V)} (h : TRel W kvs vs) : kvs.length = vs.length := Paired.length h
end
def dtAt (μ : List MO) : Pv → Option (Nat × List (List Key × Pv))
  | .loc n => match μ[n]? with
    | some (.dt kvs) => some (n, kvs)
    | _ => none
  | _ => none
def dNewT : M Pv := fun μ => some (.loc μ.length, μ ++ [.dt []])
def dGetT (d k : Pv) : M Pv := fun μ => (dtAt μ d).bind fun p => (toKeyT k).bind fun k => (valT p.2 k).map fun v => (v, μ)
def dPutT (d k v : Pv) : M Unit := fun μ => (dtAt μ d).bind fun p => (toKeyT k).bind fun k => if p.2.length < LIM then some ((), μ.set p.1 (.dt (putT p.2 k v))) else none
def dHasT (d k : Pv) : M Pv := fun μ => (dtAt μ d).bind fun p => (toKeyT k).map fun k => (.bl (valT p.2 k).isSome, μ)
def dHasNT (d k : Pv) : M Pv := fun μ => (dtAt μ d).bind fun p => (toKeyT k).map fun k => (.bl (!(valT p.2 k).isSome), μ)
section
variable {K : PySem.W.Frag} {G : Addr → Prop} {ι : List Addr} {μ : List MO} {ρ : List SV} {σ : L2.St} {H : Hp}
theorem dtAt_inv {d : Pv} {n : Nat} {kvs : List (List Key × Pv)} (h : dtAt μ d = some (n, kvs)) : d = .loc n ∧ μ[n]? = some (.dt kvs) := by
  unfold dtAt at h
  split at h
  · split at h
    · cases h; exact ⟨rfl, by assumption⟩
    · cases h
  · cases h
theorem RS.dt (r : RS K G ι μ ρ σ H) {d : Pv} {n : Nat} {kvs : List (List Key × Pv)} {x : V} (h : dtAt μ d = some (n, kvs)) (rx : Rl (wd K G ι ρ σ H) d x) : ∃ a vs, x = .ref a ∧ ι[n]? = some a ∧ H a = some (.dT vs) ∧ TRel (wd K G ι ρ σ H) kvs vs := by
  obtain ⟨rfl, e⟩ := dtAt_inv h
  obtain ⟨a, h1, vs, h2, h3⟩ := r.st n _ e
  unfold Rl at rx
  obtain ⟨b, h4, rfl⟩ := rx
  have h4 : ι[n]? = some b := h4
  rw [h1] at h4; cases h4
  exact ⟨a, vs, rfl, h1, h2, h3⟩
end
section
variable {X : Cx} {ρ : List SV} {o i e : Expr} {pos pos' : Pos} {cd ci cv : M Pv}
/-- {} with tuples to come as keys -/
theorem ev_dnewT : Ev X ρ (.Dict [] [] pos) dNewT := PE.imp pe_dnewT fun σ H Q q => by
  obtain ⟨G, ι, μ, v, μ', rs, hr, q⟩ := q
  have hr : some (Pv.loc μ.length, μ ++ [MO.dt []]) = some (v, μ') := hr
  cases hr
  intro p hp
  have rs' := rs.newS (o := .dT []) (mo := .dt []) hp fun W hW hH => ⟨[], hH, .nil⟩
  refine q (.ref p) (upd H p (.dT [])) (ι ++ [p]) ⟨fun n a h => ?_, fun b ob h k => ?_, fun b h => ?_, fun b o u h => by rw [upd_ne (ne_of_none h hp)]; exact h⟩ ⟨rs', ?_⟩
  · rw [List.getElem?_append_left (List.getElem?_eq_some_iff.mp h).1]; exact h
  · rw [upd_ne (ne_of_none h hp)]; exact h
  · rcases h with h | h
    · rcases List.mem_append.mp h with h | h
      · exact .inl (.inl h)
      · right
        rw [show b = p by simpa using h]; exact hp
    · exact .inl (.inr h)
  · unfold Rl
    exact ⟨p, by show (ι ++ [p])[μ.length]? = some p; rw [← rs.lm]; simp, rfl⟩
theorem ev_dgetT (hu : X.A.units + 1 < cLine) (hd : Ev X ρ o cd) (hi : Ev X ρ i ci) (hs : NoSl i := by exact fun _ _ => rfl) : Ev X ρ (.Subscript o i pos) (cd >>= fun d => ci >>= fun k => dGetT d k) :=
  PE.imp (pe_dget hu hd hi hs) fun σ H Q q => by
    obtain ⟨G, ι, μ, v, μ', rs, hr, q⟩ := q
    obtain ⟨d, μ1, h1, h2⟩ := inv_bind hr
    obtain ⟨k, μ2, h3, h4⟩ := inv_bind h2
    have h4 : dGetT d k μ2 = some (v, μ') := h4
    unfold dGetT at h4
    cases e1 : dtAt μ2 d with
    | none => rw [e1] at h4; cases h4
    | some p =>
      obtain ⟨n, kvs⟩ := p
      rw [e1, Option.bind_some] at h4
      cases e2 : toKeyT k with
      | none => rw [e2] at h4; cases h4
      | some kk =>
        rw [e2, Option.bind_some] at h4
        cases e3 : valT kvs kk with
        | none => rw [e3] at h4; cases h4
        | some w =>
          rw [e3] at h4
          cases h4
          refine ⟨G, ι, μ, d, μ1, rs, h1, fun x H1 ι1 st1 z1 => ⟨G, ι1, μ1, k, _, z1.1, h3, fun y H2 ι2 st2 z2 => ?_⟩⟩
          obtain ⟨a, vs, rfl, ha, hH, kr⟩ := z2.1.dt e1 (z1.2.mono st2.le)
          obtain ⟨xv, g1, g2⟩ := kr.val _ e3
          obtain ⟨b, rfl, hb⟩ := toKeyT_V e2 z2.2
          refine ⟨a, xv, rfl, ?_, q xv H2 ι2 (st1.trans st2) ⟨z2.1, g2⟩⟩
          rw [← g1]
          exact DGet.t hH hb
theorem tG_hasT {σ : L2.St} {H : Hp} {Q : VK} (q : tG X.K ρ (RV X.K ρ) (ci >>= fun k => cd >>= fun d => dHasT d k) σ H Q) : tDIn (tG X.K ρ (RV X.K ρ) ci) (tG X.K ρ (RV X.K ρ) cd) σ H Q := by
  obtain ⟨G, ι, μ, v, μ', rs, hr, q⟩ := q
  obtain ⟨k, μ1, h1, h2⟩ := inv_bind hr
  obtain ⟨d, μ2, h3, h4⟩ := inv_bind h2
  have h4 : dHasT d k μ2 = some (v, μ') := h4
  unfold dHasT at h4
  cases e1 : dtAt μ2 d with
  | none => rw [e1] at h4; cases h4
  | some p =>
    obtain ⟨n, kvs⟩ := p
    rw [e1, Option.bind_some] at h4
    cases e2 : toKeyT k with
    | none => rw [e2] at h4; cases h4
    | some kk =>
      rw [e2] at h4
      cases h4
      refine ⟨G, ι, μ, k, μ1, rs, h1, fun y H1 ι1 st1 z1 => ⟨G, ι1, μ1, d, _, z1.1, h3, fun x H2 ι2 st2 z2 => ?_⟩⟩
      obtain ⟨a, vs, rfl, ha, hH, kr⟩ := z2.1.dt e1 z2.2
      obtain ⟨b, rfl, hb⟩ := toKeyT_V e2 (z1.2.mono st2.le)
      refine ⟨a, valV vs kk, rfl, DGet.t hH hb, ?_⟩
      rw [← kr.isS]
      exact q _ H2 ι2 (st1.trans st2) ⟨z2.1, .bl⟩
theorem tG_hasNT {σ : L2.St} {H : Hp} {Q : VK} (q : tG X.K ρ (RV X.K ρ) (ci >>= fun k => cd >>= fun d => dHasNT d k) σ H Q) : tDNotIn (tG X.K ρ (RV X.K ρ) ci) (tG X.K ρ (RV X.K ρ) cd) σ H Q := by
  obtain ⟨G, ι, μ, v, μ', rs, hr, q⟩ := q
  obtain ⟨k, μ1, h1, h2⟩ := inv_bind hr
  obtain ⟨d, μ2, h3, h4⟩ := inv_bind h2
  have h4 : dHasNT d k μ2 = some (v, μ') := h4
  unfold dHasNT at h4
  cases e1 : dtAt μ2 d with
  | none => rw [e1] at h4; cases h4
  | some p =>
    obtain ⟨n, kvs⟩ := p
    rw [e1, Option.bind_some] at h4
    cases e2 : toKeyT k with
    | none => rw [e2] at h4; cases h4
    | some kk =>
      rw [e2] at h4
      cases h4
      refine ⟨G, ι, μ, k, μ1, rs, h1, fun y H1 ι1 st1 z1 => ⟨G, ι1, μ1, d, _, z1.1, h3, fun x H2 ι2 st2 z2 => ?_⟩⟩
      obtain ⟨a, vs, rfl, ha, hH, kr⟩ := z2.1.dt e1 z2.2
      obtain ⟨b, rfl, hb⟩ := toKeyT_V e2 (z1.2.mono st2.le)
      refine ⟨a, valV vs kk, rfl, DGet.t hH hb, ?_⟩
      rw [← kr.isS]
      exact q _ H2 ι2 (st1.trans st2) ⟨z2.1, .bl⟩
theorem ev_dinT (hu : X.A.units + 1 < cLine) (hi : Ev X ρ i ci) (hd : Ev X ρ o cd) (hm : behindInMarks .In o = false := by rfl) : Ev X ρ (.Compare i [.In] [o] pos) (ci >>= fun k => cd >>= fun d => dHasT d k) :=
  PE.imp (pe_cmp (pc_din hu hi hd) hm) fun σ H Q q => tG_hasT q
theorem ev_dnotinT (hu : X.A.units + 1 < cLine) (hi : Ev X ρ i ci) (hd : Ev X ρ o cd) (hm : behindInMarks .NotIn o = false := by rfl) : Ev X ρ (.Compare i [.NotIn] [o] pos) (ci >>= fun k => cd >>= fun d => dHasNT d k) :=
  PE.imp (pe_cmp (pc_dnotin hu hi hd) hm) fun σ H Q q => tG_hasNT q
theorem et_dinT (hu : X.A.units + 1 < cLine) (hi : Ev X ρ i ci) (hd : Ev X ρ o cd) (hm : behindInMarks .In o = false := by rfl) : Et X ρ (.Compare i [.In] [o] pos) (b1 asB (ci >>= fun k => cd >>= fun d => dHasT d k)) :=
  PT.imp (pt_cmp (pc_din hu hi hd) hm) fun σ H Q q => by
    obtain ⟨G, ι, μ, v, μ', rs, hr, q⟩ := q
    obtain ⟨va, μ1, h1, h2⟩ := inv_bind hr
    obtain ⟨h5, rfl⟩ := inv_lift h2
    refine tG_hasT (Q := fun x H' => ∃ k, x = .bl k ∧ Q k H') ⟨G, ι, μ, va, _, rs, h1, fun x H1 ι1 st1 z1 => ?_⟩
    cases va <;> simp only [asB, Option.some.injEq, reduceCtorEq] at h5
    subst h5
    exact ⟨_, z1.2.blE, q H1 ι1 st1 z1.1⟩
theorem et_dnotinT (hu : X.A.units + 1 < cLine) (hi : Ev X ρ i ci) (hd : Ev X ρ o cd) (hm : behindInMarks .NotIn o = false := by rfl) : Et X ρ (.Compare i [.NotIn] [o] pos) (b1 asB (ci >>= fun k => cd >>= fun d => dHasNT d k)) :=
  PT.imp (pt_cmp (pc_dnotin hu hi hd) hm) fun σ H Q q => by
    obtain ⟨G, ι, μ, v, μ', rs, hr, q⟩ := q
    obtain ⟨va, μ1, h1, h2⟩ := inv_bind hr
    obtain ⟨h5, rfl⟩ := inv_lift h2
    refine tG_hasNT (Q := fun x H' => ∃ k, x = .bl k ∧ Q k H') ⟨G, ι, μ, va, _, rs, h1, fun x H1 ι1 st1 z1 => ?_⟩
    cases va <;> simp only [asB, Option.some.injEq, reduceCtorEq] at h5
    subst h5
    exact ⟨_, z1.2.blE, q H1 ι1 st1 z1.1⟩
theorem es_dputT (hu : X.A.units + 1 < cLine) (hd : Ev X ρ o cd) (hi : Ev X ρ i ci) (hv : Ev X ρ e cv) (hs : swapsWith e (some (.Subscript o i pos')) pos.line X.env = pure false := by rfl) :
    Es X ρ (.Assign [.Subscript o i pos'] e pos) (cv >>= fun v => cd >>= fun d => ci >>= fun k => dPutT d k v) fun _ => .nx ρ :=
  PS.imp (ps_dput hu hd hi hv hs) fun D σ H q => by
    obtain ⟨G, ι, μ, v, μ', rs, hr, q⟩ := q
    obtain ⟨w, μ1, h1, h2⟩ := inv_bind hr
    obtain ⟨d, μ2, h3, h4⟩ := inv_bind h2
    obtain ⟨k, μ3, h5, h6⟩ := inv_bind h4
    have h6 : dPutT d k w μ3 = some (v, μ') := h6
    unfold dPutT at h6
    cases e1 : dtAt μ3 d with
    | none => rw [e1] at h6; cases h6
    | some p =>
      obtain ⟨n, kvs⟩ := p
      rw [e1, Option.bind_some] at h6
      cases e2 : toKeyT k with
      | none => rw [e2] at h6; cases h6
      | some kk =>
        rw [e2, Option.bind_some] at h6
        split at h6
        · rename_i hz
          have hz : kvs.length < LIM := hz
          cases h6
          refine ⟨G, ι, μ, w, μ1, rs, h1, fun x H1 ι1 st1 z1 => ⟨G, ι1, μ1, d, μ2, z1.1, h3, fun y H2 ι2 st2 z2 => ⟨G, ι2, μ2, k, _, z2.1, h5, fun z H3 ι3 st3 z3 => ?_⟩⟩⟩
          obtain ⟨a, vs, rfl, ha, hH, kr⟩ := z3.1.dt e1 (z2.2.mono st3.le)
          obtain ⟨b, rfl, hb⟩ := toKeyT_V e2 z3.2
          refine ⟨a, upd H3 a (.dT (putK vs kk x)), rfl, ?_, ?_⟩
          · exact DPut.t hH hb (by rw [← kr.len]; have : LIM ≤ sizeLine := lim_le (Nat.le_refl _); omega)
          · exact q σ _ ι3 (((st1.trans st2).trans st3).updS ha (nfT hH)) (z3.1.updS ha fun W hW hH => ⟨_, hH, TRel.put (((z1.2.mono st2.le).mono st3.le).mono hW) (kr.mono hW)⟩)
        · cases h6
/-- {k: e}, k a tuple; the new dict stands empty while the pair is made -/
def tDispT (tk tv : TE) : TE := fun σ H Q => ∀ p, H p = none → tk σ (upd H p (.dT [])) fun x H1 => tv σ H1 fun y H2 => H2 p = some (.dT []) ∧ ∃ (k : List Key) (b : Addr), x = .ref b ∧ H2 b = some (.tup (k.map kV)) ∧ Q (.ref p) (upd H2 p (.dT [(k, y)]))
theorem pe_dispT {k v : Expr} {tk tv : TE} (hu : X.A.units + 1 < cLine) (hk : PE X k tk) (hv : PE X v tv) : PE X (.Dict [some k] [v] pos) (tDispT tk tv) := by
  refine ⟨fun pins s σ H Q I q => ?_⟩
  have hn := I.hok.fresh (Nat.le_refl s.heap.objs.size)
  have I1 := I.laid (a := s.heap.objs.size) (o := .dT []) (h' := s.heap.push { cls := .type "dict", data := .dict #[] }) (t' := s.toks) (fun _ _ q => Heap.get?_push_of_some _ q) (Nat.le_refl _) (dt_empty s.heap I.big)
  rw [arm_eval_Dict, zip_pairTrees [some k] [v] X.env pos rfl rfl, dictDisplay_pairs (pairTrees [some k] [v] X.env pos) (fun z => nomatch z) (by show 1 < 17; decide)]
  refine wpAny_bind (wpAny_standAt (wpAny_bind (wpAny_subDictH (knd := tupleKind (mixKind X.prog X.w)) (by show _ < cLine; omega) (by show 1 ≤ 15; decide) ?_)))
  refine pairTrees_cons_walk (thn (hk.run pins _ σ _ _ I1 (q _ hn)) fun u s1 ⟨x, H1, I2, rx, q1⟩ => thn (hv.run pins s1 σ H1 _ I2 q1) fun w2 s2 ⟨y, H2, I3, ry, q2⟩ => pairTrees_nil_walk ?_)
  obtain ⟨hD, ks, b, rfl, hb, qq⟩ := q2
  have rx : u = Value.ref b := rx
  subst rx
  obtain ⟨z, hd, xs0, r0, dd⟩ := dt_of I3.hok hD
  cases r0
  refine ⟨[(ks, b, w2)], ⟨rfl, rfl, key_of I3.hok hb, trivial⟩, dd, fun h' tk dd' hs => wpAny_pure ⟨.ref s.heap.objs.size, _, ?_, rfl, qq⟩⟩
  have e1 : storedAllH [] [(ks, b, w2)] = [(ks, b, w2)] := rfl
  rw [e1] at dd'
  obtain ⟨q, es, ep, hq, h2, h3, h4, _, h5⟩ := dd'
  refine d_write I3 (by rw [hD]; exact True.intro) hs ⟨q, hq⟩ ⟨by rw [sizeLine_eq]; show 1 ≤ _; omega, hd, _, KT.keeps (H := H2) (kvs := [(ks, y)]) (xs := [(ks, b, w2)]) (.cons ⟨rfl, hb, ry⟩ .nil) fun c ys ec => ?_, q, es, ep, hq, h2, h3, h4, h5⟩
  rw [upd_ne (ne_of ec hD (fun z => nomatch z))]
  exact ec
def dNewT1 (c1 c2 : M Pv) : M Pv := c1 >>= fun a => c2 >>= fun b => fun μ => (toKeyT a).map fun k => (.loc μ.length, μ ++ [.dt [(k, b)]])
theorem ev_dispT {e1 e2 : Expr} {c1 c2 : M Pv} (hu : X.A.units + 1 < cLine) (h1 : Ev X ρ e1 c1) (h2 : Ev X ρ e2 c2) : Ev X ρ (.Dict [some e1] [e2] pos) (dNewT1 c1 c2) :=
  PE.imp (pe_dispT hu h1 h2) fun σ H Q q => by
    obtain ⟨G, ι, μ, v, μ', rs, hr, q⟩ := q
    unfold dNewT1 at hr
    obtain ⟨a, μ1, r1, hr⟩ := inv_bind hr
    obtain ⟨b, μ2, r2, hr⟩ := inv_bind hr
    have hr : ((toKeyT a).map fun k => (Pv.loc μ2.length, μ2 ++ [MO.dt [(k, b)]])) = some (v, μ') := hr
    cases ek : toKeyT a with
    | none => rw [ek] at hr; cases hr
    | some k =>
      rw [ek] at hr
      cases hr
      intro p hp
      have rsD := rs.alloc (u := .dT []) hp
      have keep : ∀ {ι1 H1}, Step ι (Mx ι ρ σ) (upd H p (.dT [])) ι1 (Mx ι1 ρ σ) H1 → H1 p = some (.dT []) := fun {ι1 H1} st => st.keep p _ upd_same fun z => by
        rcases z with z | ⟨j, z⟩
        · exact (rsD.g p (.inr rfl)).2 z
        · exact (rsD.ni j p z).2 (.inr rfl)
      show tG X.K ρ (RV X.K ρ) c1 σ (upd H p (.dT [])) fun y H2 => tG X.K ρ (RV X.K ρ) c2 σ H2 fun y2 H4 => _
      refine ⟨_, ι, μ, a, μ1, rsD, r1, fun y H1 ι1 st1 z1 => ⟨_, ι1, μ1, b, μ2, z1.1, r2, fun y2 H2 ι2 st2 z2 => ?_⟩⟩
      have st := st1.trans st2
      have hD := keep st
      obtain ⟨bk, rfl, hb⟩ := toKeyT_V ek (z1.2.mono st2.le)
      refine ⟨hD, k, bk, rfl, hb, ?_⟩
      have ng : ¬ G p := fun z => by
        obtain ⟨ob, e, _⟩ := (rs.g p z).1
        rw [hp] at e; cases e
      have st' : Step ι (Mx ι ρ σ) H (ι2 ++ [p]) (Mx (ι2 ++ [p]) ρ σ) (upd H2 p (.dT [(k, y2)])) := by
        refine ⟨fun n a h => ?_, fun b ob h k => ?_, fun b h => ?_, fun b o u h => by rw [upd_ne (ne_of_none h hp)]; exact st.frz b o u (by rw [upd_ne (ne_of_none h hp)]; exact h)⟩
        · rw [List.getElem?_append_left (List.getElem?_eq_some_iff.mp (st.pre n a h)).1]; exact st.pre n a h
        · have nb : b ≠ p := ne_of_none h hp
          rw [upd_ne nb]
          exact st.keep b ob (by rw [upd_ne nb]; exact h) k
        · have h' : Mx ι2 ρ σ b ∨ b = p := by
            rcases h with h | h
            · rcases List.mem_append.mp h with h | h
              · exact .inl (.inl h)
              · exact .inr (by simpa using h)
            · exact .inl (.inr h)
          rcases h' with h' | h'
          · rcases st.new b h' with z | z
            · exact .inl z
            · right
              cases e : H b with
              | none => rfl
              | some ob => rw [upd_ne (ne_of_none e hp)] at z; rw [e] at z; cases z
          · rw [h']; exact .inr hp
      refine q (.ref p) _ (ι2 ++ [p]) st' ⟨RS.adopt z2.1 ng fun W hW hH => ⟨_, hH, .cons ⟨rfl, z2.2.mono hW⟩ .nil⟩, ?_⟩
      unfold Rl
      exact ⟨p, by show (ι2 ++ [p])[μ2.length]? = some p; rw [← z2.1.lm]; simp, rfl⟩
end
end Q
/-! LYB: a loop of a comprehension, whatever its body; comprehensions with three fors out of it. -/
namespace Q
open PySem PySem.Spec PyProof.Rows L2
section
variable {prog : Program} {w : World} {A : Around} {R : Result → Shared → Prop} {s : Shared} {elt t : Expr} {gens : List Comprehension} {scope : Scope} {pos p : Pos} {ifs : List Expr} {d : Nat} {it acc : Value} {env : Env} {body : Sem Unit}
/-- a loop, when its turn is known -/
theorem loop_any (e : compTurn (.ListComp elt gens scope pos) d it acc env = (do
      standAt p
      match ← pyNext it with
      | none => pure (.done .next)
      | some v =>
        letOwnedTupleGo t it v
        assign t env v
        let mut ok := true
        for c in ifs do
          if ok then ok ← isTrue c env (eval c env)
        if ok then body
        again (.compLoop (.ListComp elt gens scope pos) d it acc env))) (I : Nat → Shared → Prop)
    (turn : ∀ n s, I n s → wpAny (model prog w) A (pyNext it) (fun r s₁ => match r with
      | none => R (.ok .next) s₁
      | some v => wpAny (model prog w) A (letOwnedTupleGo t it v) (fun _ s₂ => wpAny (model prog w) A (assign t env v) (fun _ s₃ =>
          wpAny (model prog w) A (forIn ifs true fun c r => if r = true then do let ok ← isTrue c env (eval c env); pure (ForInStep.yield ok) else pure (ForInStep.yield r)) (fun ok s₄ =>
            if ok = true then wpAny (model prog w) A body (fun _ s₅ => ∃ m, m < n ∧ I m s₅) (fun _ _ => False) s₄ else ∃ m, m < n ∧ I m s₄) (fun _ _ => False) s₃) (fun _ _ => False) s₂) (fun _ _ => False) s₁) (fun _ _ => False) s)
    (n : Nat) (h : I n s) : codeAny (model prog w) A (.compLoop (.ListComp elt gens scope pos) d it acc env) R s := by
  refine codeAny_loop rfl I (fun n s hI => ?_) n h
  show wpAny _ A ((compTurn (.ListComp elt gens scope pos) d it acc env).onRaise (fun x => do noteFrame x env; theTreesLotGoes x)) _ _ s
  refine wpAny_noted ?_
  rw [e]
  refine wpAny_bind (wpAny_standAt (wpAny_bind (thnF (turn n s hI) fun r s₁ h₁ => ?_)))
  cases r with
  | none => exact wpAny_pure h₁
  | some v =>
    refine wpAny_bind (thnF h₁ fun _ s₂ h₂ => ?_)
    refine wpAny_bind (thnF h₂ fun _ s₃ h₃ => wpAny_bind (thnF h₃ fun ok s₄ h₄ => ?_))
    cases ok with
    | false => exact wpAny_pure ⟨rfl, h₄⟩
    | true => exact wpAny_bind (thnF h₄ fun _ s₅ h₅ => wpAny_pure ⟨rfl, h₅⟩)
end
/-- what the slots σ know, σ' knows -/
def Kp (σ σ' : L2.St) : Prop := σ.length = σ'.length ∧ ∀ (j : Nat) v, σ[j]? = some (some v) → σ'[j]? = some (some v)
theorem Kp.trans {a b c : L2.St} (h : Kp a b) (k : Kp b c) : Kp a c := ⟨h.1.trans k.1, fun j v e => k.2 j v (h.2 j v e)⟩
theorem Kp.wipe {σ : L2.St} {vs : List Nat} : Kp (L2.wipe σ vs) σ := ⟨wipe_length _ _, fun j v e => (wipe_some e).1⟩
/-- behind the store of a target, with fewer of its names wiped -/
theorem Kp.sub {σ σ2 : L2.St} {vs vs1 : List Nat} (h : L2.wipe σ2 vs = L2.wipe σ vs) (k : ∀ i ∈ vs1, i ∈ vs) : Kp (L2.wipe σ vs) (L2.wipe σ2 vs1) := by
  refine ⟨by rw [← h, wipe_length, wipe_length], fun j v e => ?_⟩
  rw [← h] at e
  obtain ⟨e1, e2⟩ := wipe_some e
  rw [wipe_out fun z => e2 (k j z)]
  exact e1
/-- what a loop asks of its source and its turns -/
def Lvl (J : It) (σ0 : L2.St) (g : TG) (tt : TT) (Bd : L2.St → Hp → (Hp → Prop) → Prop) (Fin : Hp → Prop) (H : Hp) : Prop :=
  ∃ W : Nat → Nat → Hp → Prop, (∃ m, W 0 m H) ∧ ∀ i m H, W i m H → (J.stop i H ∧ Fin H) ∨ (J.go i H ∧ ∃ Nx : Hp → Prop, (∀ H', Nx H' → ∃ m', m' < m ∧ W (i + 1) m' H') ∧
    ∀ x H', J.yld i H x H' → g x σ0 H' fun σ2 H2 => Kp σ0 σ2 ∧ tt σ2 H2 fun b H3 => if b = true then Bd σ2 H3 Nx else Nx H3)
section
variable {B : Cx} {elt t : Expr} {gens : List Comprehension} {scope : Scope} {pos p : Pos} {ifs : List Expr} {d : Nat} {it : Addr} {acc : Value} {body : Sem Unit} {g : TG} {tt : TT} {J : It} {fp : List Addr} {tn : Nat → Heap → Prop} {P : List (Addr × Obj)} {σ0 : L2.St} {Bd : L2.St → Hp → (Hp → Prop) → Prop} {Fin : Hp → Prop} {R : Result → Shared → Prop}
theorem lvl (hc : B.calm = true) (hx : B.xe = fun _ _ => False) (e : compTurn (.ListComp elt gens scope pos) d (.ref it) acc B.env = (do
      standAt p
      match ← pyNext (.ref it) with
      | none => pure (.done .next)
      | some v =>
        letOwnedTupleGo t (.ref it) v
        assign t B.env v
        let mut ok := true
        for c in ifs do
          if ok then ok ← isTrue c B.env (eval c B.env)
        if ok then body
        again (.compLoop (.ListComp elt gens scope pos) d (.ref it) acc B.env))) (pg : PG B t g) (pt : PTs B ifs tt) (T : Turn B.prog B.w B.K t J fp it tn)
    (stat : ∀ {H' s'}, Inv B P σ0 H' s' → (∀ b ∈ fp, H' b = none) → ∀ b ∈ fp, FpOk B P H' b)
    (hb : ∀ P' σ2 H3 s3 Nx, Inv B P' σ2 H3 s3 → Kp σ0 σ2 → Bd σ2 H3 Nx → wpAny (model B.prog B.w) B.A body (fun _ s4 => ∃ σ' H', Inv B P' σ' H' s4 ∧ Kp σ0 σ' ∧ Nx H') (fun _ _ => False) s3)
    (fin : ∀ s' H', Inv B P σ0 H' s' → Fin H' → R (.ok .next) s') {s : Shared} {H : Hp} (I : Inv B P σ0 H s) (st : tn 0 s.heap) (nf : ∀ b ∈ fp, H b = none) (l : Lvl J σ0 g tt Bd Fin H) :
    codeAny (model B.prog B.w) B.A (.compLoop (.ListComp elt gens scope pos) d (.ref it) acc B.env) R s := by
  obtain ⟨W, ⟨m0, w0⟩, turn⟩ := l
  refine loop_any e (fun n s' => ∃ i H', Inv B P σ0 H' s' ∧ tn i s'.heap ∧ (∀ b ∈ fp, H' b = none) ∧ W i n H') ?_ m0 ⟨0, H, I, st, nf, w0⟩
  rintro n s1 ⟨i, H1, I1, st1, n1, w1⟩
  rcases turn i n H1 w1 with ⟨stop, qq⟩ | ⟨go, Nx, hNx, step⟩
  · refine thnF (T.done B rfl rfl rfl hc i P s1 σ0 H1 (fun _ _ => False) I1 (stat I1 n1) st1 stop) fun r s2 ⟨hr, I2⟩ => ?_
    subst hr
    exact fin s2 H1 I2 qq
  · refine thnF (T.item B rfl rfl rfl hc i P s1 σ0 H1 (fun _ _ => False) I1 (stat I1 n1) st1 go) fun r s2 ⟨u, hr, h2⟩ => ?_
    subst hr
    refine thnF h2 fun _ s3 ⟨x, H3, I3, r3, y3, st3, n3⟩ => ?_
    have I3' := I3.pinned (stat I3 n3) (T.obj _ _ st3)
    have q4 := pg.run _ s3 σ0 H3 x u _ I3' r3 (step x H3 y3)
    rw [hx] at q4
    refine thnF q4 fun _ s4 ⟨σ4, H4, I4, k4, q5⟩ => ?_
    have q5 := pt.run _ s4 σ4 H4 _ I4 q5
    rw [hx] at q5
    refine thnF q5 fun b s5 ⟨H5, I5, q6⟩ => ?_
    have next : ∀ {σ' : L2.St} {s' : Shared} {H' : Hp}, Inv B (P ++ pinsAt fp s3.heap) σ' H' s' → Kp σ0 σ' → Nx H' → ∃ m, m < n ∧ ∃ i H', Inv B P σ0 H' s' ∧ tn i s'.heap ∧ (∀ b ∈ fp, H' b = none) ∧ W i m H' := fun {σ' s' H'} I' kp nx => by
      obtain ⟨m', hm, w'⟩ := hNx H' nx
      have pin' : ∀ b ∈ fp, ∀ o, s3.heap.get? b = some o → s'.heap.get? b = some o ∧ H' b = none := fun b hb o e =>
        let z := I'.pin (b, o) (List.mem_append_right _ (List.mem_append_right _ (mem_pinsAt hb e)))
        ⟨z.1, z.2.1⟩
      refine ⟨m', hm, i + 1, H', I'.unpinned.weak kp.1 kp.2, T.keep _ _ _ st3 fun b hb o e => (pin' b hb o e).1, fun b hb => ?_, w'⟩
      obtain ⟨o, e, _⟩ := T.obj _ _ st3 b hb
      exact (pin' b hb o e).2
    cases b with
    | false =>
      simp only [Bool.false_eq_true, if_false] at q6 ⊢
      exact next I5 k4 q6
    | true =>
      simp only [if_true] at q6 ⊢
      exact thnF (hb _ _ _ _ Nx I5 k4 q6) fun _ s6 ⟨σ', H', I6, k6, nx⟩ => next I6 k6 nx
end
theorem wp_ifN {α : Type} {M : Model} {A : Around} {E : Value → Shared → Prop} {s : Shared} {c : Prop} {i : Decidable c} {x y : Sem α} {Q : α → Shared → Prop} (hc : ¬ c) (h : wpAny M A y Q E s) : wpAny M A (@ite _ c i x y) Q E s := by rw [if_neg hc]; exact h
theorem start_any {prog : Program} {w : World} {A : Around} {R : Result → Shared → Prop} {s : Shared} {elt : Expr} {gens : List Comprehension} {scope : Scope} {pos : Pos} {d : Nat} {it acc : Value} {env : Env} {k : Comprehension} (hk : gens[d]? = some k) (ha : (k.is_async != 0) = false)
    (h0 : codeAny (model prog w) A (.compLoop (.ListComp elt gens scope pos) d it acc env) R s)
    (h : wpAny (model prog w) A (pyIter it) (fun it' s' => codeAny (model prog w) A (.compLoop (.ListComp elt gens scope pos) d it' acc env) R s') (fun _ _ => False) s) :
    codeAny (model prog w) A (.compStart (.ListComp elt gens scope pos) d it acc env) R s := by
  refine codeAny_of_tree ?_
  show wpAny _ _ ((compStart (.ListComp elt gens scope pos) d it acc env).onRaise (fun x => do noteFrame x env; standAt theWindowsPlace)) _ _ s
  refine wpAny_notedAt ?_
  have hk : (clausesOf (.ListComp elt gens scope pos))[d]? = some k := hk
  unfold compStart
  rw [hk]
  dsimp only [Option.elim]
  refine wp_ifN (by rw [ha]; exact Bool.false_ne_true) ?_
  refine wpAny_bind (wpAny_askSetting (wpAny_ite ?_))
  split
  · exact wpAny_pure (And.intro rfl h0)
  · exact wpAny_bind (wpAny_rule (wpAny_bind (wpAny_standAt (wpAny_bind (thnF h fun it' s' h' => wpAny_pure (And.intro rfl h'))))))
/-- the body that starts the next loop -/
theorem body_loop {B : Cx} {elt : Expr} {gens : List Comprehension} {scope : Scope} {pos : Pos} {d : Nat} {acc : Value} {k : Comprehension} (hk : gens[d]? = some k) (ha : (k.is_async != 0) = false) (hx : B.xe = fun _ _ => False) {wi : TI} (pi : PI B k.target k.iter wi) (hs : ∀ x, foldedSetIterable k.iter B.env x = pure x)
    {P : List (Addr × Obj)} {σ : L2.St} {H : Hp} {s : Shared} {Post : Shared → Prop} {Kk : It → Hp → Prop} (I : Inv B P σ H s) (h : wi σ H Kk)
    (hl : ∀ it fp tn J H' s', Inv B P σ H' s' → Turn B.prog B.w B.K k.target J fp it tn → tn 0 s'.heap → (∀ b ∈ fp, FpOk B P H' b) → Kk J H' → codeAny (model B.prog B.w) B.A (.compLoop (.ListComp elt gens scope pos) d (.ref it) acc B.env) (fun r s' => match r with | .ok _ => Post s' | .error _ => False) s') :
    wpAny (model B.prog B.w) B.A (do
      let x ← eval k.iter B.env
      standAt k.iter.pos
      let x ← foldedSetIterable k.iter B.env x
      let _ ← runOwn (.compStart (.ListComp elt gens scope pos) d (← holding [x] (pyIter x)) acc B.env) B.env) (fun _ s' => Post s') (fun _ _ => False) s := by
  have q := pi.run P s σ H Kk I h
  rw [hx] at q
  refine wpAny_bind (thnF q fun x s1 h1 => ?_)
  refine wpAny_bind (wpAny_standAt (wpAny_bind (wpAny_of_eq (hs x) (wpAny_bind (wpAny_holding (thnF h1 fun itv s2 h2 => ?_))))))
  obtain ⟨it, fp, tn, J, H2, e, I2, T, st, ff, kk⟩ := h2
  subst e
  refine wpAny_bind (wpAny_runOwn ?_)
  rw [Around.mark_none]
  have loop := hl it fp tn J H2 s2 I2 T st ff kk
  refine codeAny_mono (start_any hk ha loop (T.self B.A 0 _ _ _ st loop)) fun r s' hr => ?_
  cases r with
  | ok f => exact wpAny_pure hr
  | error e => exact hr.elim
theorem turn3_0 (elt t0 i0 t1 i1 t2 i2 : Expr) (ifs0 ifs1 ifs2 : List Expr) (scope : Scope) (pos : Pos) (it acc : Value) (env : Env) :
    compTurn (.ListComp elt [⟨t0, i0, ifs0, 0⟩, ⟨t1, i1, ifs1, 0⟩, ⟨t2, i2, ifs2, 0⟩] scope pos) 0 it acc env = (do
      standAt i0.pos
      match ← pyNext it with
      | none => pure (.done .next)
      | some v =>
        letOwnedTupleGo t0 it v
        assign t0 env v
        let mut ok := true
        for c in ifs0 do
          if ok then ok ← isTrue c env (eval c env)
        if ok then (do
          let x ← eval i1 env
          standAt i1.pos
          let x ← foldedSetIterable i1 env x
          let _ ← runOwn (.compStart (.ListComp elt [⟨t0, i0, ifs0, 0⟩, ⟨t1, i1, ifs1, 0⟩, ⟨t2, i2, ifs2, 0⟩] scope pos) 1 (← holding [x] (pyIter x)) acc env) env)
        again (.compLoop (.ListComp elt [⟨t0, i0, ifs0, 0⟩, ⟨t1, i1, ifs1, 0⟩, ⟨t2, i2, ifs2, 0⟩] scope pos) 0 it acc env)) := by
  simp only [bind_assoc, pure_bind]
  rfl
theorem turn3_1 (elt t0 i0 t1 i1 t2 i2 : Expr) (ifs0 ifs1 ifs2 : List Expr) (scope : Scope) (pos : Pos) (it acc : Value) (env : Env) :
    compTurn (.ListComp elt [⟨t0, i0, ifs0, 0⟩, ⟨t1, i1, ifs1, 0⟩, ⟨t2, i2, ifs2, 0⟩] scope pos) 1 it acc env = (do
      standAt i1.pos
      match ← pyNext it with
      | none => pure (.done .next)
      | some v =>
        letOwnedTupleGo t1 it v
        assign t1 env v
        let mut ok := true
        for c in ifs1 do
          if ok then ok ← isTrue c env (eval c env)
        if ok then (do
          let x ← eval i2 env
          standAt i2.pos
          let x ← foldedSetIterable i2 env x
          let _ ← runOwn (.compStart (.ListComp elt [⟨t0, i0, ifs0, 0⟩, ⟨t1, i1, ifs1, 0⟩, ⟨t2, i2, ifs2, 0⟩] scope pos) 2 (← holding [x] (pyIter x)) acc env) env)
        again (.compLoop (.ListComp elt [⟨t0, i0, ifs0, 0⟩, ⟨t1, i1, ifs1, 0⟩, ⟨t2, i2, ifs2, 0⟩] scope pos) 1 it acc env)) := by
  simp only [bind_assoc, pure_bind]
  rfl
theorem turn3_2 (elt t0 i0 t1 i1 t2 i2 : Expr) (ifs0 ifs1 ifs2 : List Expr) (scope : Scope) (pos : Pos) (it acc : Value) (env : Env) :
    compTurn (.ListComp elt [⟨t0, i0, ifs0, 0⟩, ⟨t1, i1, ifs1, 0⟩, ⟨t2, i2, ifs2, 0⟩] scope pos) 2 it acc env = (do
      standAt i2.pos
      match ← pyNext it with
      | none => pure (.done .next)
      | some v =>
        letOwnedTupleGo t2 it v
        assign t2 env v
        let mut ok := true
        for c in ifs2 do
          if ok then ok ← isTrue c env (eval c env)
        if ok then
          (do let _ ← call (.builtin "list.append") [acc, ← eval elt env])
        again (.compLoop (.ListComp elt [⟨t0, i0, ifs0, 0⟩, ⟨t1, i1, ifs1, 0⟩, ⟨t2, i2, ifs2, 0⟩] scope pos) 2 it acc env)) := by rfl
section
variable {X : Cx}
/-- what the three loops ask -/
def tLc3 (wi : TI) (g : TG) (tt : TT) (wi1 : TI) (g1 : TG) (tt1 : TT) (wi2 : TI) (g2 : TG) (tt2 : TT) (te : TE) (vs vs1 vs2 : List Nat) : TE := fun σ H Q => wi σ H fun J H1 => ∀ D, H1 D = none →
  Lvl J (L2.wipe σ vs) g tt (fun σ2 H2 Nx => Kp (L2.wipe σ vs) (L2.wipe σ2 vs1) ∧ wi1 σ2 H2 fun J1 H3 =>
    Lvl J1 (L2.wipe σ2 vs1) g1 tt1 (fun σ3 H4 Nx1 => Kp (L2.wipe σ2 vs1) (L2.wipe σ3 vs2) ∧ wi2 σ3 H4 fun J2 H5 =>
      Lvl J2 (L2.wipe σ3 vs2) g2 tt2 (fun σ4 H6 Nx2 => te σ4 H6 fun y H7 => ∃ acc, H7 D = some (.lst acc) ∧ acc.length < sizeLine ∧ Nx2 (upd H7 D (.lst (acc ++ [y])))) Nx1 H5) Nx H3) (Q (.ref D)) (upd H1 D (.lst []))
variable {elt tg iter tg1 iter1 tg2 iter2 : Expr} {ifs ifs1 ifs2 : List Expr} {scope : Scope} {own : List (Str × Nat)} {vs1 vs2 : List Nat} {pos pos' : Pos} {wi wi1 wi2 : TI} {g g1 g2 : TG} {tt tt1 tt2 : TT} {te : TE}
theorem pe_lc3 (hc : X.calm = true) (hN : X.N.Nodup) (hi : PI X tg iter wi) (ok : BlkOk X.N X.env.scope scope own)
    (hg : ∀ s H C cl fp, PG (X.blk s H scope (compEnvC scope cl C X.env) fp) tg g) (ht : ∀ s H C cl fp, PTs (X.blk s H scope (compEnvC scope cl C X.env) fp) ifs tt)
    (hi1 : ∀ s H C cl fp, PI (X.blk s H scope (compEnvC scope cl C X.env) fp) tg1 iter1 wi1) (hg1 : ∀ s H C cl fp, PG (X.blk s H scope (compEnvC scope cl C X.env) fp) tg1 g1) (ht1 : ∀ s H C cl fp, PTs (X.blk s H scope (compEnvC scope cl C X.env) fp) ifs1 tt1)
    (hi2 : ∀ s H C cl fp, PI (X.blk s H scope (compEnvC scope cl C X.env) fp) tg2 iter2 wi2) (hg2 : ∀ s H C cl fp, PG (X.blk s H scope (compEnvC scope cl C X.env) fp) tg2 g2) (ht2 : ∀ s H C cl fp, PTs (X.blk s H scope (compEnvC scope cl C X.env) fp) ifs2 tt2)
    (he : ∀ s H C cl fp, PE (X.blk s H scope (compEnvC scope cl C X.env) fp) elt te)
    (hs : ∀ x, foldedSetIterable iter X.env x = pure x := by intro _; rfl) (hs1 : ∀ env x, foldedSetIterable iter1 env x = pure x := by intro _ _; rfl) (hs2 : ∀ env x, foldedSetIterable iter2 env x = pure x := by intro _ _; rfl) :
    PE X (.ListComp elt [⟨tg, iter, ifs, 0⟩, ⟨tg1, iter1, ifs1, 0⟩, ⟨tg2, iter2, ifs2, 0⟩] scope pos) (tLc3 wi g tt wi1 g1 tt1 wi2 g2 tt2 te (own.map (·.2)) vs1 vs2) := by
  refine ⟨fun pins s σ H Q I h => ?_⟩
  rw [eval_ListComp]
  have hfree : ∀ y ∈ scope.names, y.2 = .free → ∃ c, X.env.cells.lookup y.1 = some c := fun y hy e =>
    I.ok.has _ (ok.free y hy e)
  refine wpAny_comprehension_free rfl hs (closure_ok hfree) ok.kind (fun y hy e => by rw [ok.uniq y hy, e])
    (thn (hi.run pins s σ H _ I h) fun xv s1 hx => thn hx fun itv s2 h2 => ?_)
  obtain ⟨it, fp, tn, J, H2, e, I2, T, st2, f2, q⟩ := h2
  subst e
  refine wpAny_newObj_type (newEnv_comp ?_) (by show 0 ≤ sizeLine; decide)
  generalize hD : s2.heap.objs.size = D
  have l0 := q D (I2.hok.fresh (Nat.le_of_eq hD))
  have hDn : H2 D = none := I2.hok.fresh (Nat.le_of_eq hD)
  -- the list that grows
  generalize hs3 : ({ s2 with heap := s2.heap.push { cls := .type "list", data := .seq ([] : List Value).toArray } } : Shared) = s3
  have h3 : s3.heap = s2.heap.push { cls := .type "list", data := .seq ([] : List Value).toArray } := by rw [← hs3]
  have I3 : Inv X pins σ (upd H2 D (.lst [])) s3 := by
    rw [← hs3]
    refine I2.laid (t' := s2.toks) (fun b o e => Heap.get?_push_of_some _ e) (Nat.le_of_eq hD) ⟨Nat.zero_le _, [], 0, .nil, ?_⟩
    rw [← hD]
    exact Heap.get?_push_size _ rfl
  have f3 : ∀ b ∈ fp, FpOk X pins (upd H2 D (.lst [])) b ∧ b < s3.heap.objs.size := fun b hb => by
    obtain ⟨o, e, _⟩ := T.obj _ _ st2 b hb
    have hlt := Heap.lt_size e
    refine ⟨⟨?_, (f2 b hb).2⟩, by rw [h3, Heap.size_push]; exact Nat.lt_succ_of_lt hlt⟩
    rw [upd_ne (by rw [← hD]; exact Nat.ne_of_lt hlt)]
    exact (f2 b hb).1
  have st3 : tn 0 s3.heap := T.keep _ _ _ st2 fun b _ o e => by rw [h3]; exact Heap.get?_push_of_some _ e
  have I4 := block_start I3 ok hN f3
  show codeAny _ _ (.compStart (.ListComp elt [⟨tg, iter, ifs, 0⟩, ⟨tg1, iter1, ifs1, 0⟩, ⟨tg2, iter2, ifs2, 0⟩] scope pos) 0 (.ref it) (.ref D) (compEnvC scope (cellsFrom (s3.heap.objs.size + 1) scope.names (cloFrom X.env.cells scope.names [])) s3.heap.objs.size X.env)) (compPost (model X.prog X.w) X.A X.xe none _ (.ref D) s3.heap.objs.size) { s3 with heap := pushCells (s3.heap.push { cls := .type "dict", data := .dict #[] }) scope.names }
  generalize hH3 : upd H2 D (.lst []) = H3 at I3 I4 l0 f3
  generalize hcl : cellsFrom (s3.heap.objs.size + 1) scope.names (cloFrom X.env.cells scope.names []) = cl at I4 ⊢
  obtain ⟨B, hB⟩ : ∃ B, B = X.blk s3 H3 scope (compEnvC scope cl s3.heap.objs.size X.env) fp := ⟨_, rfl⟩
  have pg := hg s3 H3 s3.heap.objs.size cl fp
  have pt := ht s3 H3 s3.heap.objs.size cl fp
  have pi1 := hi1 s3 H3 s3.heap.objs.size cl fp
  have pg1 := hg1 s3 H3 s3.heap.objs.size cl fp
  have pt1 := ht1 s3 H3 s3.heap.objs.size cl fp
  have pi2 := hi2 s3 H3 s3.heap.objs.size cl fp
  have pg2 := hg2 s3 H3 s3.heap.objs.size cl fp
  have pt2 := ht2 s3 H3 s3.heap.objs.size cl fp
  have pe := he s3 H3 s3.heap.objs.size cl fp
  generalize hs4 : ({ s3 with heap := pushCells (s3.heap.push { cls := .type "dict", data := .dict #[] }) scope.names } : Shared) = s4 at I4 ⊢
  have st4 : tn 0 s4.heap := T.keep _ _ _ st3 fun b _ o e => by rw [← hs4]; exact pushCells_keeps _ _ _ _ (Heap.get?_push_of_some _ e)
  have nfp : ∀ b ∈ fp, H3 b = none := fun b hb => (f3 b hb).1.1
  have bx : B.xe = fun _ _ => False := by rw [hB]
  have bc : B.calm = true := by rw [hB]; exact hc
  have be : B.env = compEnvC scope cl s3.heap.objs.size X.env := by rw [hB]
  have bp : B.prog = X.prog := by rw [hB]
  have bw : B.w = X.w := by rw [hB]
  have bk : B.K = X.K := by rw [hB]
  have bA : B.A = X.A := by rw [hB]
  have stat : ∀ {σ' : L2.St} {H' : Hp} {s' : Shared}, Inv B [] σ' H' s' → (∀ b ∈ fp, H' b = none) → ∀ b ∈ fp, FpOk B [] H' b := fun {σ' H' s'} I' hn b hb => by
    subst hB
    exact ⟨hn b hb, (I'.ok.exf b hb).1, I'.ok.exfs b hb, .inl hb, fun x c e => (I'.ok.exf b hb).2 x c e, fun p hp => absurd (show p ∈ ([] : List (Addr × Obj)) ++ [] from hp) (by simp)⟩
  have cL : B.env.locals = s3.heap.objs.size := by rw [be]; rfl
  rw [← hB] at I4 pg pt pi1 pg1 pt1 pi2 pg2 pt2 pe
  rw [← be, ← bA, ← bp, ← bw]
  have T' := T
  rw [← bp, ← bw, ← bk] at T'
  have loop : codeAny (model B.prog B.w) B.A (.compLoop (.ListComp elt [⟨tg, iter, ifs, 0⟩, ⟨tg1, iter1, ifs1, 0⟩, ⟨tg2, iter2, ifs2, 0⟩] scope pos) 0 (.ref it) (.ref D) B.env) (compPost (model B.prog B.w) B.A X.xe none (EP X pins σ Q) (.ref D) s3.heap.objs.size) s4 := by
    refine lvl bc bx (turn3_0 ..) pg pt T' stat ?hb ?fin I4 st4 nfp l0
    case hb =>
      intro P2 σ2 H5 s5 Nx I5 kp ⟨kw, hw⟩
      refine body_loop (k := ⟨tg1, iter1, ifs1, 0⟩) rfl rfl bx pi1 (hs1 _) I5 hw fun it1 fp1 tn1 J1 H6 s6 I6 T1 st6 ff6 l1 => ?_
      refine lvl bc bx (turn3_1 ..) pg1 pt1 T1 (fun {H' s'} _ hn b hb => ⟨hn b hb, (ff6 b hb).2⟩) ?hb1 (fun s' H' I8 nx => ⟨_, H', I8, kw, nx⟩) (I6.weak Kp.wipe.1 Kp.wipe.2) st6 (fun b hb => (ff6 b hb).1) l1
      intro P3 σ3 H7 s7 Nx1 I7 kp1 ⟨kw1, hw1⟩
      refine body_loop (k := ⟨tg2, iter2, ifs2, 0⟩) rfl rfl bx pi2 (hs2 _) I7 hw1 fun it2 fp2 tn2 J2 H8 s8 I8 T2 st8 ff8 l2 => ?_
      refine lvl bc bx (turn3_2 ..) pg2 pt2 T2 (fun {H' s'} _ hn b hb => ⟨hn b hb, (ff8 b hb).2⟩) ?hb2 (fun s' H' I10 nx => ⟨_, H', I10, kw1, nx⟩) (I8.weak Kp.wipe.1 Kp.wipe.2) st8 (fun b hb => (ff8 b hb).1) l2
      intro P4 σ4 H9 s9 Nx2 I9 kp2 hte
      have q9 := pe.run _ s9 σ4 H9 _ I9 hte
      rw [bx] at q9
      refine wpAny_bind (thnF q9 fun z s10 ⟨yv, H10, I10, r10, acc, hD10, hz10, nx⟩ => wpAny_bind ?_)
      exact app_ok I10 hD10 hz10 r10 fun s11 I11 => wpAny_pure ⟨σ4, _, I11, kp2, nx⟩
    case fin =>
      intro s' H' I6 qq
      subst hB
      have I7 : Inv X pins σ H' s' := I3.call' (ch := fp) I6.os I6.base I6.hok I6.bare fun b hb => ⟨(f3 b hb).1.2.2.2.1, (f3 b hb).1.2.1, (f3 b hb).1.2.2.2.2.1, (f3 b hb).1.2.2.2.2.2⟩
      have nC : H' s3.heap.objs.size = none := by
        rw [← cL]
        exact I6.free
      obtain ⟨m, hn, _⟩ := I6.loc
      rw [cL] at hn
      obtain ⟨f0, f1, f2, f3, f4, f5⟩ := I3.fpOk (Nat.le_refl _) nC
      exact ⟨m, hn, fun h'' sb => ⟨.ref D, H', I7.turned (t' := s'.toks) (fun b o hb e => (sb.2 b hb).trans e) f0 f1 f3 f4 f5, rfl, qq⟩⟩
  exact codeAny_compStart_list loop (T'.self B.A 0 _ _ _ st4 loop)
end
end Q
/-! LYC: the mirrors of comprehensions with many fors. -/
namespace Q
open PySem PySem.Spec PyProof.Rows L2
section
variable {m : Type → Type} [Monad m] [Eff m] {A : Type}
/-- one for: what cb makes of each element that ct takes, one behind the other -/
def lpM (un : Pv → Option A) (ct : A → m Bool) (cb : A → m (List Pv)) : List Pv → m (List Pv)
  | [] => pure []
  | x :: r => Eff.lift (un x) >>= fun a => ct a >>= fun b => if b = true then cb a >>= fun ys => lpM un ct cb r >>= fun zs => pure (ys ++ zs) else lpM un ct cb r
end
/-- what stands around a loop that adds to the list D -/
structure OutOk (K : PySem.W.Frag) (GD : Addr → Prop) (D : Addr) (ρ : List SV) (σ : L2.St) (Out : List Addr → List MO → Hp → List Pv → List V → Prop) : Prop where
  rs : ∀ {ι μ H acc accV}, Out ι μ H acc accV → RS K GD ι μ ρ σ H
  at_ : ∀ {ι μ H acc accV}, Out ι μ H acc accV → H D = some (.lst accV)
  len : ∀ {ι μ H acc accV}, Out ι μ H acc accV → acc.length = accV.length
  step : ∀ {ι μ H acc accV ι' μ' H'}, Out ι μ H acc accV → Step ι (Mx ι ρ σ) H ι' (Mx ι' ρ σ) H' → RS K GD ι' μ' ρ σ H' → Out ι' μ' H' acc accV
  app : ∀ {ι μ H acc accV y yV}, Out ι μ H acc accV → Rl (wd K GD ι ρ σ H) y yV → Out ι μ (upd H D (.lst (accV ++ [yV]))) (acc ++ [y]) (accV ++ [yV])
section
variable {K : PySem.W.Frag} {GD : Addr → Prop} {D : Addr} {ρ : List SV} {σ : L2.St} {Out : List Addr → List MO → Hp → List Pv → List V → Prop}
/-- the same under a name that is not looked into -/
theorem OutOk.opq (ok : OutOk K GD D ρ σ Out) : ∃ O' : List Addr → List MO → Hp → List Pv → List V → Prop, (∀ ι μ H acc accV, O' ι μ H acc accV ↔ Out ι μ H acc accV) ∧ OutOk K GD D ρ σ O' := ⟨Out, fun _ _ _ _ _ => Iff.rfl, ok⟩
theorem OutOk.le (ok : OutOk K GD D ρ σ Out) (hg : GD D) (W0 : Wd) : OutOk K GD D ρ σ fun ι μ H acc accV => Out ι μ H acc accV ∧ Le W0 (wd K GD ι ρ σ H) where
  rs h := ok.rs h.1
  at_ h := ok.at_ h.1
  len h := ok.len h.1
  step h st r := ⟨ok.step h.1 st r, h.2.trans st.le⟩
  app h r := ⟨ok.app h.1 r, h.2.trans ((ok.rs h.1).updG hg (ok.at_ h.1)).2⟩
theorem OutOk.block (ok : OutOk K GD D ρ σ Out) (hg : GD D) {vs : List Nat} (hv : noMl ρ vs) {ρ' : List SV} {σ' : L2.St} (hw : wipeR ρ' vs = wipeR ρ vs) (hn : noMl ρ' vs) (hwp : L2.wipe σ' vs = L2.wipe σ vs) :
    OutOk K GD D ρ' σ' fun ι μ H acc accV => Out ι μ H acc accV ∧ RS K GD ι μ ρ' σ' H where
  rs h := h.2
  at_ h := ok.at_ h.1
  len h := ok.len h.1
  step h st r := by
    obtain ⟨s, r1, _⟩ := blk_back (ok.rs h.1) hv hw hn hwp (Same.refl _) st r
    exact ⟨ok.step h.1 s r1, r⟩
  app h r := by
    obtain ⟨_, _, l⟩ := blk_back (ok.rs h.1) hv hw hn hwp (Same.refl _) Step.refl h.2
    exact ⟨ok.app h.1 (r.mono l), (h.2.updG hg (ok.at_ h.1)).1⟩
variable {m : Type → Type} [Monad m] [Eff m] {A : Type} {un : Pv → Option A} {up : List SV → A → List SV} {ct : A → m Bool} {cb : A → m (List Pv)} {g : TG} {is vs : List Nat}
theorem lvlR (ok : OutOk K GD D ρ σ Out) {W0 : Wd} (hle : ∀ {ι μ H acc accV}, Out ι μ H acc accV → Le W0 (wd K GD ι ρ σ H)) (hv : noMl ρ vs)
    (hk : ∀ G ι μ ρ σ H x v a Q, RS K G ι μ ρ σ H → Rl (wd K G ι ρ σ H) v x → un v = some a → (∀ σ', RS K G ι μ (up ρ a) σ' H → (∀ b, Mx ι (up ρ a) σ' b → Mx ι ρ σ b) → (∀ j, j ∉ is → σ'[j]? = σ[j]?) → Q σ' H) → g x σ H Q)
    (his : ∀ j ∈ is, j ∈ vs) (hw : ∀ a, wipeR (up (wipeR ρ vs) a) vs = wipeR ρ vs) (hn : ∀ a, noMl (up (wipeR ρ vs) a) vs)
    {J : It} {l : List Pv} (jk : JOk J l W0) {ι : List Addr} {μ μ' : List MO} {H : Hp} {acc ys : List Pv} {accV : List V} (h : Out ι μ H acc accV)
    (run : Eff.run (lpM un ct cb l) μ = some (ys, μ')) (hz : acc.length + ys.length ≤ sizeLine) {Bd : L2.St → Hp → (Hp → Prop) → Prop} {Fin : Hp → Prop} {tt : TT} (htt : ∀ a σ H Q, tGt K (up (wipeR ρ vs) a) (ct a) σ H Q → tt σ H Q)
    (hbd : ∀ a σ2 ι2 μ2 H2 acc2 accV2 ys2 μ3 (Nx : Hp → Prop), L2.wipe σ2 vs = L2.wipe σ vs → (Out ι2 μ2 H2 acc2 accV2 ∧ RS K GD ι2 μ2 (up (wipeR ρ vs) a) σ2 H2) → Eff.run (cb a) μ2 = some (ys2, μ3) → acc2.length + ys2.length ≤ sizeLine →
      (∀ ι3 H3 accV3, (Out ι3 μ3 H3 (acc2 ++ ys2) accV3 ∧ RS K GD ι3 μ3 (up (wipeR ρ vs) a) σ2 H3) → Nx H3) → Bd σ2 H2 Nx)
    (fin : ∀ ι' H' accV', Out ι' μ' H' (acc ++ ys) accV' → Fin H') : Lvl J (L2.wipe σ vs) g tt Bd Fin H := by
  refine ⟨fun i k H' => k = l.length - i ∧ i ≤ l.length ∧ ∃ acc1 accV1 ys1 μ1 ι1, Out ι1 μ1 H' acc1 accV1 ∧ Eff.run (lpM un ct cb (l.drop i)) μ1 = some (ys1, μ') ∧ acc1 ++ ys1 = acc ++ ys,
    ⟨l.length, by simp, Nat.zero_le _, acc, accV, ys, μ, ι, h, by simpa using run, rfl⟩, ?_⟩
  rintro i k H' ⟨rfl, hi, acc1, accV1, ys1, μ1, ι1, h1, hrun, heq⟩
  have rs1 := ok.rs h1
  obtain ⟨j1, j2⟩ := jk _ (hle h1) (Le.tracked rs1)
  by_cases hlt : i < l.length
  · obtain ⟨go, yl⟩ := j2 i l[i] (List.getElem?_eq_getElem hlt)
    rw [List.drop_eq_getElem_cons hlt] at hrun
    unfold lpM at hrun
    obtain ⟨a, μ3, k1, k2⟩ := inv_bind hrun
    obtain ⟨hun, hμ⟩ := inv_lift k1
    subst hμ
    obtain ⟨b, μ4, k3, k4⟩ := inv_bind k2
    refine .inr ⟨go, fun H3 => ∃ acc1 accV1 ys1 μ1 ι1, Out ι1 μ1 H3 acc1 accV1 ∧ Eff.run (lpM un ct cb (l.drop (i + 1))) μ1 = some (ys1, μ') ∧ acc1 ++ ys1 = acc ++ ys, fun H3 h => ⟨l.length - (i + 1), by omega, rfl, hlt, h⟩, fun x H3 hy => ?_⟩
    obtain ⟨sm, rx⟩ := yl x H3 hy
    have rs3 := rs1.same sm
    refine hk _ ι1 _ (wipeR ρ vs) (L2.wipe σ vs) H3 x _ a _ (rs3.wiped hv) (rx.mono (wipe_le hv)) hun fun σ4 rs4 hm hσ => ?_
    have hl4 : σ4.length = (L2.wipe σ vs).length := by
      rw [← rs4.len, wipe_length, ← rs1.len]
      have := congrArg List.length (hw a)
      rw [wipeR_length, wipeR_length] at this
      exact this
    have hwp : L2.wipe σ4 vs = L2.wipe σ vs := by rw [wipe_eq hl4 fun j hj => hσ j fun z => hj (his j z), wipe_wipe]
    refine ⟨by rw [← hwp]; exact Kp.wipe, htt a _ _ _ ⟨_, ι1, _, b, μ4, rs4, k3, fun H5 ι5 st5 rs5 => ?_⟩⟩
    obtain ⟨s5, r5, l5⟩ := blk_back rs1 hv (hw a) (hn a) hwp sm st5 rs5
    have h5 := ok.step h1 s5 r5
    cases b with
    | false =>
      rw [if_neg Bool.false_ne_true] at k4 ⊢
      exact ⟨acc1, accV1, ys1, μ4, ι5, h5, k4, heq⟩
    | true =>
      rw [if_pos rfl] at k4 ⊢
      obtain ⟨ys2, μ6, k5, k6⟩ := inv_bind k4
      obtain ⟨zs, μ7, k7, k8⟩ := inv_bind k6
      obtain ⟨ey, hμ⟩ := inv_pure k8
      subst hμ ey
      have hlen := congrArg List.length heq
      simp only [List.length_append] at hlen
      refine hbd a σ4 ι5 μ4 H5 acc1 accV1 ys2 μ6 _ hwp ⟨h5, rs5⟩ k5 (by omega) fun ι8 H8 accV8 ⟨h8, _⟩ => ⟨_, accV8, zs, μ6, ι8, h8, k7, by rw [List.append_assoc]; exact heq⟩
  · refine .inl ⟨j1 i (by omega), ?_⟩
    rw [List.drop_eq_nil_of_le (by omega)] at hrun
    unfold lpM at hrun
    obtain ⟨ey, hμ⟩ := inv_pure hrun
    subst hμ ey
    rw [List.append_nil] at heq
    subst heq
    exact fin ι1 H' accV1 h1
end
section
variable {m : Type → Type} [Monad m] [Eff m] {A B C : Type}
def lc3W (ci : m (List Pv)) (un : Pv → Option A) (ct : A → m Bool) (ci1 : A → m (List Pv)) (un1 : Pv → Option B) (ct1 : A → B → m Bool) (ci2 : A → B → m (List Pv)) (un2 : Pv → Option C) (ct2 : A → B → C → m Bool) (ce : A → B → C → m Pv) : m (List Pv) :=
  ci >>= fun l => lpM un ct (fun a => ci1 a >>= lpM un1 (ct1 a) fun b => ci2 a b >>= lpM un2 (ct2 a b) fun c => ce a b c >>= fun y => pure [y]) l >>= fun ys => Eff.lift (limL ys)
end
/-- the list that a comprehension lays, when nothing else changes -/
theorem base_ok {K : PySem.W.Frag} {G : Addr → Prop} {ι1 : List Addr} {ρ : List SV} {σ : L2.St} {H1 : Hp} {D : Addr} (hD : H1 D = none) :
    OutOk K (fun b => G b ∨ b = D) D ρ σ fun ι μ H acc accV => H D = some (.lst accV) ∧ Step ι1 (Mx ι1 ρ σ) H1 ι (Mx ι ρ σ) H ∧ RS K (fun b => G b ∨ b = D) ι μ ρ σ H ∧ Le (wd K G ι1 ρ σ H1) (wd K (fun b => G b ∨ b = D) ι ρ σ H) ∧ Rls (wd K (fun b => G b ∨ b = D) ι ρ σ H) acc accV where
  rs h := h.2.2.1
  at_ h := h.1
  len h := h.2.2.2.2.length
  step {ι μ H acc accV ι' μ' H'} h st r := by
    obtain ⟨eD, st2, rs2, le2, ra⟩ := h
    refine ⟨st.keep D _ eD fun z => ?_, st2.trans st, r, le2.trans st.le, ra.mono st.le⟩
    rcases z with z | ⟨j, z⟩
    · exact (rs2.g D (.inr rfl)).2 z
    · exact (rs2.ni j D z).2 (.inr rfl)
  app {ι μ H acc accV y yV} h ry := by
    obtain ⟨eD, st2, rs2, le2, ra⟩ := h
    obtain ⟨r15, l15⟩ := rs2.updG (p := D) (ys := accV ++ [yV]) (.inr rfl) eD
    refine ⟨upd_same, ⟨st2.pre, fun b ob h k => ?_, st2.new, fun b o u h => by rw [upd_ne (ne_of_none h hD)]; exact st2.frz b o u h⟩, r15, le2.trans l15, (ra.append (.cons ry .nil)).mono l15⟩
    rw [upd_ne (ne_of_none h hD)]
    exact st2.keep b ob h k
section
variable {X : Cx} {ρ : List SV} {m : Type → Type} [Monad m] [Eff m] {elt tg iter tg1 iter1 tg2 iter2 : Expr} {ifs ifs1 ifs2 : List Expr} {scope : Scope} {own : List (Str × Nat)} {pos pos' : Pos} {A B C : Type} {un : Pv → Option A} {up : List SV → A → List SV} {un1 : Pv → Option B} {up1 : List SV → B → List SV} {un2 : Pv → Option C} {up2 : List SV → C → List SV}
theorem tLc3_of {ci : m (List Pv)} {ct : A → m Bool} {ci1 : A → m (List Pv)} {ct1 : A → B → m Bool} {ci2 : A → B → m (List Pv)} {ct2 : A → B → C → m Bool} {ce : A → B → C → m Pv} {g g1 g2 : TG} {is is1 is2 vs vs1 vs2 : List Nat} (hv : noMl ρ vs)
    (hk : ∀ G ι μ ρ σ H x v a Q, RS X.K G ι μ ρ σ H → Rl (wd X.K G ι ρ σ H) v x → un v = some a → (∀ σ', RS X.K G ι μ (up ρ a) σ' H → (∀ b, Mx ι (up ρ a) σ' b → Mx ι ρ σ b) → (∀ j, j ∉ is → σ'[j]? = σ[j]?) → Q σ' H) → g x σ H Q)
    (hk1 : ∀ G ι μ ρ σ H x v a Q, RS X.K G ι μ ρ σ H → Rl (wd X.K G ι ρ σ H) v x → un1 v = some a → (∀ σ', RS X.K G ι μ (up1 ρ a) σ' H → (∀ b, Mx ι (up1 ρ a) σ' b → Mx ι ρ σ b) → (∀ j, j ∉ is1 → σ'[j]? = σ[j]?) → Q σ' H) → g1 x σ H Q)
    (hk2 : ∀ G ι μ ρ σ H x v a Q, RS X.K G ι μ ρ σ H → Rl (wd X.K G ι ρ σ H) v x → un2 v = some a → (∀ σ', RS X.K G ι μ (up2 ρ a) σ' H → (∀ b, Mx ι (up2 ρ a) σ' b → Mx ι ρ σ b) → (∀ j, j ∉ is2 → σ'[j]? = σ[j]?) → Q σ' H) → g2 x σ H Q)
    (hvv : ∀ i ∈ vs1, i ∈ vs) (hvv2 : ∀ i ∈ vs2, i ∈ vs1)
    (his : ∀ j ∈ is, j ∈ vs) (hw : ∀ a, wipeR (up (wipeR ρ vs) a) vs = wipeR ρ vs) (hn : ∀ a, noMl (up (wipeR ρ vs) a) vs)
    (his1 : ∀ j ∈ is1, j ∈ vs1) (hn0 : ∀ a, noMl (up (wipeR ρ vs) a) vs1) (hw1 : ∀ a b, wipeR (up1 (wipeR (up (wipeR ρ vs) a) vs1) b) vs1 = wipeR (up (wipeR ρ vs) a) vs1) (hn1 : ∀ a b, noMl (up1 (wipeR (up (wipeR ρ vs) a) vs1) b) vs1)
    (his2 : ∀ j ∈ is2, j ∈ vs2) (hn01 : ∀ a b, noMl (up1 (wipeR (up (wipeR ρ vs) a) vs1) b) vs2) (hw2 : ∀ a b c, wipeR (up2 (wipeR (up1 (wipeR (up (wipeR ρ vs) a) vs1) b) vs2) c) vs2 = wipeR (up1 (wipeR (up (wipeR ρ vs) a) vs1) b) vs2) (hn2 : ∀ a b c, noMl (up2 (wipeR (up1 (wipeR (up (wipeR ρ vs) a) vs1) b) vs2) c) vs2)
    {σ : L2.St} {H : Hp} {Q : VK} (q : tG X.K ρ (RN X.K ρ) (lc3W ci un ct ci1 un1 ct1 ci2 un2 ct2 ce) σ H Q) :
    tLc3 (tEi X.K ρ ci) g (fun σ H Q => ∃ a, tGt X.K (up (wipeR ρ vs) a) (ct a) σ H Q) (fun σ H R => ∃ a, tEi X.K (up (wipeR ρ vs) a) (ci1 a) σ H R) g1 (fun σ H Q => ∃ p : A × B, tGt X.K (up1 (wipeR (up (wipeR ρ vs) p.1) vs1) p.2) (ct1 p.1 p.2) σ H Q)
      (fun σ H R => ∃ p : A × B, tEi X.K (up1 (wipeR (up (wipeR ρ vs) p.1) vs1) p.2) (ci2 p.1 p.2) σ H R) g2 (fun σ H Q => ∃ p : A × B × C, tGt X.K (up2 (wipeR (up1 (wipeR (up (wipeR ρ vs) p.1) vs1) p.2.1) vs2) p.2.2) (ct2 p.1 p.2.1 p.2.2) σ H Q)
      (fun σ H Q => ∃ p : A × B × C, tG X.K (up2 (wipeR (up1 (wipeR (up (wipeR ρ vs) p.1) vs1) p.2.1) vs2) p.2.2) (RV X.K (up2 (wipeR (up1 (wipeR (up (wipeR ρ vs) p.1) vs1) p.2.1) vs2) p.2.2)) (ce p.1 p.2.1 p.2.2) σ H Q) vs vs1 vs2 σ H Q := by
  obtain ⟨G, ι, μ, o, μ', rs, hr, q⟩ := q
  obtain ⟨l0, μ1, h1, h2⟩ := inv_bind hr
  obtain ⟨o', μe, h4, h3⟩ := inv_bind h2
  obtain ⟨hlm, hμ⟩ := inv_lift h3
  subst hμ
  obtain ⟨ho', hz⟩ := limL_inv hlm
  subst ho'
  have hz := lim_le hz
  refine ⟨G, ι, μ, l0, _, rs, h1, fun J H1 ι1 st1 rs1 jk D hD => ?_⟩
  have hg : (fun b => G b ∨ b = D) D := .inr rfl
  obtain ⟨O0, e0, ok0⟩ := (base_ok (K := X.K) (G := G) (ι1 := ι1) (ρ := ρ) (σ := σ) hD).opq
  have rsD := rs1.alloc (u := .lst []) hD
  have stD : Step ι1 (Mx ι1 ρ σ) H1 ι1 (Mx ι1 ρ σ) (upd H1 D (.lst [])) := Step.same (same_upd hD) fun _ h => h
  refine lvlR ok0 (fun h => ((e0 _ _ _ _ _).mp h).2.2.2.1) hv hk his hw hn jk (acc := []) (accV := []) ((e0 _ _ _ _ _).mpr ⟨upd_same, stD, rsD, Le.alloc hD, Rls.nil⟩) h4 (by simpa using Nat.le_of_lt_succ (by omega)) (fun a _ _ _ h => ⟨a, h⟩) ?hb ?fin
  case fin =>
    intro ι2 H2 accV2 hz0
    obtain ⟨eD, st2, rs2, _, ra⟩ := (e0 _ _ _ _ _).mp hz0
    have h0 : H D = none := fresh_back rs rs1 st1 hD
    refine q (.ref D) H2 ι2 (st1.trans st2) ⟨D, accV2, rfl, h0, fun z => ?_, eD, rs2, ra⟩
    obtain ⟨ob, e, _⟩ := (rs.g D z).1
    rw [h0] at e; cases e
  case hb =>
    clear e0
    generalize hGD : (fun b => G b ∨ b = D) = GD at *
    have hg2 : GD D := by rw [← hGD]; exact .inr rfl
    intro a σ2 ι2 μ2 H2 acc2 accV2 ys2 μ3 Nx hwp hh run2 hz2 hnx
    refine ⟨Kp.sub hwp hvv, a, ?_⟩
    obtain ⟨l1, μ4, k1, k2⟩ := inv_bind run2
    refine ⟨_, ι2, μ2, l1, μ4, hh.2, k1, fun J1 H4 ι4 st4 rs4 jk1 => ?_⟩
    obtain ⟨O1, e1, ok1⟩ := (ok0.block hg2 hv (hw a) (hn a) hwp).opq
    obtain ⟨P1, f1, pk1⟩ := (ok1.le hg2 (wd X.K GD ι4 (up (wipeR ρ vs) a) σ2 H4)).opq
    have hs1 := ok1.step ((e1 _ _ _ _ _).mpr hh) st4 rs4
    refine lvlR pk1 (fun h => ((f1 _ _ _ _ _).mp h).2) (hn0 a) hk1 his1 (hw1 a) (hn1 a) jk1 ((f1 _ _ _ _ _).mpr ⟨hs1, Le.refl _⟩) k2 hz2 (fun b _ _ _ h => ⟨(a, b), h⟩) ?hb1 fun ι5 H5 accV5 h5 => hnx ι5 H5 accV5 ((e1 _ _ _ _ _).mp ((f1 _ _ _ _ _).mp h5).1)
    case hb1 =>
      clear e1 f1
      intro b σ3 ι5 μ5 H5 acc5 accV5 ys5 μ6 Nx1 hwp1 hh1 run3 hz3 hnx1
      refine ⟨Kp.sub hwp1 hvv2, (a, b), ?_⟩
      obtain ⟨l2, μ7, k3, k4⟩ := inv_bind run3
      refine ⟨_, ι5, μ5, l2, μ7, hh1.2, k3, fun J2 H7 ι7 st7 rs7 jk2 => ?_⟩
      obtain ⟨O2, e2, ok2⟩ := (pk1.block hg2 (hn0 a) (hw1 a b) (hn1 a b) hwp1).opq
      obtain ⟨P2, f2, pk2⟩ := (ok2.le hg2 (wd X.K GD ι7 (up1 (wipeR (up (wipeR ρ vs) a) vs1) b) σ3 H7)).opq
      have hs2 := ok2.step ((e2 _ _ _ _ _).mpr hh1) st7 rs7
      refine lvlR pk2 (fun h => ((f2 _ _ _ _ _).mp h).2) (hn01 a b) hk2 his2 (hw2 a b) (hn2 a b) jk2 ((f2 _ _ _ _ _).mpr ⟨hs2, Le.refl _⟩) k4 hz3 (fun c _ _ _ h => ⟨(a, b, c), h⟩) ?hb2 fun ι8 H8 accV8 h8 => hnx1 ι8 H8 accV8 ((e2 _ _ _ _ _).mp ((f2 _ _ _ _ _).mp h8).1)
      case hb2 =>
        clear e2 f2
        intro c σ4 ι8 μ8 H8 acc8 accV8 ys8 μ9 Nx2 hwp2 hh2 run4 hz4 hnx2
        obtain ⟨y, μ10, k5, k6⟩ := inv_bind run4
        obtain ⟨ey, hμ⟩ := inv_pure k6
        subst hμ ey
        obtain ⟨O3, e3, ok3⟩ := (pk2.block hg2 (hn01 a b) (hw2 a b c) (hn2 a b c) hwp2).opq
        refine ⟨(a, b, c), _, ι8, μ8, y, _, hh2.2, k5, fun yV H11 ι11 st11 z11 => ?_⟩
        have h11 := ok3.step ((e3 _ _ _ _ _).mpr hh2) st11 z11.1
        have hl := ok3.len h11
        rw [List.length_singleton] at hz4
        exact ⟨accV8, ok3.at_ h11, by omega, hnx2 ι11 _ _ ((e3 _ _ _ _ _).mp (ok3.app h11 z11.2))⟩
end
abbrev oIx (own : List (Str × Nat)) : List Nat := own.map fun q => q.2
section
variable {X : Cx} {ρ : List SV} {m : Type → Type} [Monad m] [Eff m] {elt tg iter tg1 iter1 tg2 iter2 : Expr} {ifs ifs1 ifs2 : List Expr} {scope : Scope} {own : List (Str × Nat)} {pos pos' : Pos} {A B C : Type} {un : Pv → Option A} {up : List SV → A → List SV} {un1 : Pv → Option B} {up1 : List SV → B → List SV} {un2 : Pv → Option C} {up2 : List SV → C → List SV}
theorem en_lc3 {ci : m (List Pv)} {ct : A → m Bool} {ci1 : A → m (List Pv)} {ct1 : A → B → m Bool} {ci2 : A → B → m (List Pv)} {ct2 : A → B → C → m Bool} {ce : A → B → C → m Pv} {g g1 g2 : TG} {is is1 is2 vs1 vs2 : List Nat} (hc : X.calm = true) (hN : X.N.Nodup) (hi : Ei X ρ tg iter ci) (ok : BlkOk X.N X.env.scope scope own) (hvv : ∀ i ∈ vs1, i ∈ oIx own) (hvv2 : ∀ i ∈ vs2, i ∈ vs1)
    (hg : ∀ s H C cl fp, Tg (blkX X scope s H C cl fp) tg g is un up) (ht : ∀ s H C cl fp a, Ets (blkX X scope s H C cl fp) (up (wipeR ρ (oIx own)) a) ifs (ct a))
    (hi1 : ∀ s H C cl fp a, Ei (blkX X scope s H C cl fp) (up (wipeR ρ (oIx own)) a) tg1 iter1 (ci1 a))
    (hg1 : ∀ s H C cl fp, Tg (blkX X scope s H C cl fp) tg1 g1 is1 un1 up1) (ht1 : ∀ s H C cl fp a b, Ets (blkX X scope s H C cl fp) (up1 (wipeR (up (wipeR ρ (oIx own)) a) vs1) b) ifs1 (ct1 a b))
    (hi2 : ∀ s H C cl fp a b, Ei (blkX X scope s H C cl fp) (up1 (wipeR (up (wipeR ρ (oIx own)) a) vs1) b) tg2 iter2 (ci2 a b))
    (hg2 : ∀ s H C cl fp, Tg (blkX X scope s H C cl fp) tg2 g2 is2 un2 up2) (ht2 : ∀ s H C cl fp a b c, Ets (blkX X scope s H C cl fp) (up2 (wipeR (up1 (wipeR (up (wipeR ρ (oIx own)) a) vs1) b) vs2) c) ifs2 (ct2 a b c))
    (he : ∀ s H C cl fp a b c, Ev (blkX X scope s H C cl fp) (up2 (wipeR (up1 (wipeR (up (wipeR ρ (oIx own)) a) vs1) b) vs2) c) elt (ce a b c))
    (hv : noMl ρ (oIx own)) (his : ∀ j ∈ is, j ∈ oIx own) (hw : ∀ a, wipeR (up (wipeR ρ (oIx own)) a) (oIx own) = wipeR ρ (oIx own)) (hn : ∀ a, noMl (up (wipeR ρ (oIx own)) a) (oIx own))
    (his1 : ∀ j ∈ is1, j ∈ vs1) (hn0 : ∀ a, noMl (up (wipeR ρ (oIx own)) a) vs1) (hw1 : ∀ a b, wipeR (up1 (wipeR (up (wipeR ρ (oIx own)) a) vs1) b) vs1 = wipeR (up (wipeR ρ (oIx own)) a) vs1) (hn1 : ∀ a b, noMl (up1 (wipeR (up (wipeR ρ (oIx own)) a) vs1) b) vs1)
    (his2 : ∀ j ∈ is2, j ∈ vs2) (hn01 : ∀ a b, noMl (up1 (wipeR (up (wipeR ρ (oIx own)) a) vs1) b) vs2) (hw2 : ∀ a b c, wipeR (up2 (wipeR (up1 (wipeR (up (wipeR ρ (oIx own)) a) vs1) b) vs2) c) vs2 = wipeR (up1 (wipeR (up (wipeR ρ (oIx own)) a) vs1) b) vs2) (hn2 : ∀ a b c, noMl (up2 (wipeR (up1 (wipeR (up (wipeR ρ (oIx own)) a) vs1) b) vs2) c) vs2)
    (hs : ∀ x, foldedSetIterable iter X.env x = pure x := by intro _; rfl) (hs1 : ∀ env x, foldedSetIterable iter1 env x = pure x := by intro _ _; rfl) (hs2 : ∀ env x, foldedSetIterable iter2 env x = pure x := by intro _ _; rfl) : En X ρ (.ListComp elt [⟨tg, iter, ifs, 0⟩, ⟨tg1, iter1, ifs1, 0⟩, ⟨tg2, iter2, ifs2, 0⟩] scope pos) (lc3W ci un ct ci1 un1 ct1 ci2 un2 ct2 ce) := by
  by_cases hA : ∃ (sh : Shared), True
  · obtain ⟨sh, _⟩ := hA
    refine PE.imp (pe_lc3 (vs1 := vs1) (vs2 := vs2) (g := g) (g1 := g1) (g2 := g2) (wi := tEi X.K ρ ci) (tt := fun σ H Q => ∃ a, tGt X.K (up (wipeR ρ (own.map fun q : Str × Nat => q.2)) a) (ct a) σ H Q) (wi1 := fun σ H R => ∃ a, tEi X.K (up (wipeR ρ (own.map fun q : Str × Nat => q.2)) a) (ci1 a) σ H R)
      (tt1 := fun σ H Q => ∃ p : A × B, tGt X.K (up1 (wipeR (up (wipeR ρ (own.map fun q : Str × Nat => q.2)) p.1) vs1) p.2) (ct1 p.1 p.2) σ H Q) (wi2 := fun σ H R => ∃ p : A × B, tEi X.K (up1 (wipeR (up (wipeR ρ (own.map fun q : Str × Nat => q.2)) p.1) vs1) p.2) (ci2 p.1 p.2) σ H R)
      (tt2 := fun σ H Q => ∃ p : A × B × C, tGt X.K (up2 (wipeR (up1 (wipeR (up (wipeR ρ (own.map fun q : Str × Nat => q.2)) p.1) vs1) p.2.1) vs2) p.2.2) (ct2 p.1 p.2.1 p.2.2) σ H Q) (te := fun σ H Q => ∃ p : A × B × C, tG X.K (up2 (wipeR (up1 (wipeR (up (wipeR ρ (own.map fun q : Str × Nat => q.2)) p.1) vs1) p.2.1) vs2) p.2.2) (RV X.K (up2 (wipeR (up1 (wipeR (up (wipeR ρ (own.map fun q : Str × Nat => q.2)) p.1) vs1) p.2.1) vs2) p.2.2)) (ce p.1 p.2.1 p.2.2) σ H Q)
      hc hN hi ok (fun s H Ca cl fp => (hg s H Ca cl fp).pg) (fun s H Ca cl fp => PTs_exv (ht s H Ca cl fp)) (fun s H Ca cl fp => PI_exv (hi1 s H Ca cl fp)) (fun s H Ca cl fp => (hg1 s H Ca cl fp).pg) (fun s H Ca cl fp => PTs.ex fun p : A × B => ht1 s H Ca cl fp p.1 p.2)
      (fun s H Ca cl fp => PI.ex fun p : A × B => hi2 s H Ca cl fp p.1 p.2) (fun s H Ca cl fp => (hg2 s H Ca cl fp).pg) (fun s H Ca cl fp => PTs.ex fun p : A × B × C => ht2 s H Ca cl fp p.1 p.2.1 p.2.2) (fun s H Ca cl fp => PE.ex fun p : A × B × C => he s H Ca cl fp p.1 p.2.1 p.2.2) hs hs1 hs2) fun σ H Q q => ?_
    exact tLc3_of hv (hg sh (fun _ => none) 0 [] []).ok (hg1 sh (fun _ => none) 0 [] []).ok (hg2 sh (fun _ => none) 0 [] []).ok hvv hvv2 his hw hn his1 hn0 hw1 hn1 his2 hn01 hw2 hn2 q
  · exact (hA ⟨X.s_0, trivial⟩).elim
end
end Q
/-! LYD: defs whose code is known; displays of two ints, sorted. -/
namespace Q
open PySem PySem.Spec PyProof.Rows L2
section
variable {P : Program} {w : World} {K : PySem.W.Frag} {mg : Str → Option Value} {base : Heap} {m : Type → Type} [Monad m] [Eff m]
/-- ok_def, with what is known of the def's code -/
theorem ok_defC {em : Unit → List SV} {x qual : Str} {st : Stmt} {f : Addr} {fd : FuncData} {N ps : List Str} {k : Nat} {g : List Pv → m Pv} (F : Fun K x qual st f fd) (S : FnScope N ps (defScope st))
    (hb : ∀ (cdv : Value) (A : Around) (outer : List Env) (s : Shared) (H : Hp) (args : List Pv) (E : XK), args.length = ps.length → PySem.W.kdsCode K cdv = true → Room k (A.deeper (envOfC qual (defScope st) s.heap.objs.size f cdv)) →
      ∃ c : m (Out Unit Empty), (∀ μ p, Eff.run (g args) μ = some p → Eff.run (c >>= fin) μ = some p) ∧ Ex (cxOf CX0 P w K mg base N qual (defScope st) f cdv A outer s H E).nox (ρ0 N args) (defBody st) c (oit em fun l => l.elim)) :
    FnOk P w K mg base CX0 (k + 1) f fd ps (spF K ps.length g) := by
  have hl : ∀ vs H Q E, spF K ps.length g vs H Q E → vs.length = ps.length := fun vs H Q E h => by
    obtain ⟨G, ι, μ, args, v, μ', hl, rs, ra, _⟩ := h
    rw [← ra.length]; exact hl
  obtain ⟨oc, od, kV, doc, pm, an, cdv, ct, osl, rfl, lk, hcd⟩ := F.ex
  refine fn_of lk hcd S hl fun A outer s H vs Q E hr h => ?_
  obtain ⟨G, ι, μ, args, v, μ', hl, rs, ra, hrun, q⟩ := h
  obtain ⟨c, hc, hx⟩ := hb cdv A outer s H args E hl (kdsCode_of hcd) hr
  obtain ⟨o, μ1, h1, h2⟩ := inv_bind (hc _ _ hrun)
  have rs0 := rs.begun (N := N) ra
  have no : ∀ i a, ¬ own (ρ0 N args) (L2.start N vs) i a := fun i a ho => by
    obtain ⟨⟨l, e⟩, _⟩ := ho
    unfold ρ0 at e
    by_cases hi : i < args.length
    · rw [List.getElem?_append_left (by simpa using hi), List.getElem?_map] at e
      cases q : args[i]? with
      | none => rw [q] at e; cases e
      | some u => rw [q] at e; cases e
    · rw [List.getElem?_append_right (by simpa using hi), List.getElem?_replicate] at e
      split at e <;> cases e
  have s0 : ∀ {ι' H'}, Step ι (Mx ι (ρ0 N args) (L2.start N vs)) H ι' (Mx ι' [] []) H' → Step ι (Mx ι [] []) H ι' (Mx ι' [] []) H' := fun {ι' H'} s => ⟨s.pre, fun a o h k => s.keep a o h fun z => k (z.imp id fun ⟨i, z⟩ => (no i a z).elim), fun a h => (s.new a h).imp (fun z => z.imp id fun ⟨i, z⟩ => (no i a z).elim) id, s.frz⟩
  refine ⟨_, hx.nox, G, ι, μ, o, μ1, rs0, h1, ?_⟩
  cases o with
  | nx u =>
    obtain ⟨rfl, rfl⟩ := inv_pure h2
    exact fun σ' H' ι' st r => q .non H' ι' (s0 ⟨st.pre, st.keep, fun a h => st.new a (mx_nil h), st.frz⟩) r.drop .non
  | rt v =>
    obtain ⟨rfl, rfl⟩ := inv_pure h2
    exact fun x H' ι' st r rx => q x H' ι' (s0 st) r rx
  | bk l => exact l.elim
  | ct l => exact l.elim
end
section
variable {K : PySem.W.Frag} {G : Addr → Prop} {ι : List Addr} {μ : List MO} {ρ : List SV} {σ : L2.St} {H : Hp}
/-- what stands at a forbidden place is changed -/
theorem RS.updA (r : RS K G ι μ ρ σ H) {p : Addr} {o' : HO} (hg : G p) (hu : NT o' := by intro _ z; cases z) : RS K G ι μ ρ σ (upd H p o') ∧ Le (wd K G ι ρ σ H) (wd K G ι ρ σ (upd H p o')) := by
  have np : ∀ a, Mx ι ρ σ a → a ≠ p := fun a h z => by
    subst z
    rcases h with h | ⟨i, h⟩
    · exact (r.g a hg).2 h
    · exact (r.ni i a h).2 hg
  have le : Le (wd K G ι ρ σ H) (wd K G ι ρ σ (upd H p o')) := ⟨rfl, fun _ _ h => h, fun a o h k => by
    have na : a ≠ p := fun z => k (.inl (z ▸ hg))
    exact ⟨by show upd H p _ a = _; rw [upd_ne na]; exact h, k⟩⟩
  refine ⟨⟨r.len, fun i t q => ?_, r.inj, r.ni, fun a h => ?_, r.nd, r.lm, fun n o q => ?_⟩, le⟩
  · refine SlotOk.mono le (fun l x a e1 e2 e3 => ?_) (r.sl i t q)
    subst e1 e3
    have ho : own ρ σ i a := ⟨⟨l, q⟩, by
      cases q : σ[i]? with
      | none => rw [q] at e2; cases e2
      | some u => rw [q] at e2; exact congrArg some e2⟩
    exact upd_ne (np a (.inr ⟨i, ho⟩))
  · obtain ⟨⟨o, h1, nt⟩, h2⟩ := r.g a h
    refine ⟨?_, h2⟩
    by_cases z : a = p
    · exact ⟨_, (by rw [z]; exact upd_same), hu⟩
    · exact ⟨o, (by rw [upd_ne z]; exact h1), nt⟩
  · obtain ⟨a, h1, h2⟩ := r.st n o q
    exact ⟨a, h1, MOk.mono le (upd_ne (np a (.inl (List.mem_of_getElem? h1)))) h2⟩
end
section
variable {P : Program} {w : World} {A : Around} {E : Value → Shared → Prop} {s : Shared}
theorem addR {a : Addr} {S : Int → Bool} {n : Nat} {k : Int} {tk : Tok} {Q : Bool → Shared → Prop} (R : SetR w s.heap a S n) (room : n + 1 < scanBound)
    (hQ : ∀ h' b, Heap.SameBut a s.heap h' → SetR w h' a (fun j => S j || decide (j = k)) (if S k = true then n else n + 1) → Q b { s with heap := h', toks := s.toks + 1 }) : wpAny (model P w) A (setAdd a (.int k tk)) Q E s := by
  unfold setAdd
  refine wpAny_holding (wpAny_bind ((intKind P w).pyHash (intKind_is P w k tk) ?_))
  exact setR_add_hashed (s := { s with toks := s.toks + 1 }) R room fun h' sb r => hQ h' _ sb r
theorem newR {Q : Value → Shared → Prop} (h : ∀ led, SetR w (s.heap.push { cls := .type "set", dict := none, data := .set #[] 0 (.fresh 0 0 led) }) s.heap.objs.size (fun _ => false) 0 → Q (.ref s.heap.objs.size) { s with heap := s.heap.push { cls := .type "set", dict := none, data := .set #[] 0 (.fresh 0 0 led) } }) :
    wpAny (model P w) A (newSet (.type "set")) Q E s := by
  unfold newSet setsByText
  refine wpAny_bind (wpAny_bind (wpAny_askSetting (wpAny_pure ?_)))
  dsimp only
  simp only [newObj]
  exact wpAny_bind (wpAny_alloc (wpAny_pure (h _ (setR_fresh w))))
end
section
variable {X : Cx} {e1 e2 : Expr} {t1 t2 : TE} {pos : Pos}
def tSet2 (w : World) (t1 t2 : TE) : TE := fun σ H Q => ∀ p, H p = none → t1 σ (upd H p (SetO w p (fun _ => false) 0)) fun x H1 => t2 σ H1 fun y H2 => H2 p = some (SetO w p (fun _ => false) 0) ∧ ∃ i j, x = .int i ∧ y = .int j ∧
  ∀ S n, (∀ k, S k = true ↔ k = i ∨ k = j) → n < 64 → Q (.ref p) (upd H2 p (SetO w p S n))
theorem pe_set2 (h1 : PE X e1 t1) (h2 : PE X e2 t2) (hcd : PySem.W.kdsCode X.K X.env.code = true) (k1 : PySem.W.kdsPlain e1 = true) (k2 : PySem.W.kdsPlain e2 = true) : PE X (.Set [e1, e2] 0 pos) (tSet2 X.w t1 t2) := by
  refine ⟨fun pins s σ H Q I q => ?_⟩
  have hn := I.hok.fresh (Nat.le_refl s.heap.objs.size)
  rw [arm_eval_Set]
  refine wpAny_bind (wpAny_standAt ?_)
  refine wpAny_bind (PySem.W.kds_main I.kIn hcd fun b => ?_)
  rw [PySem.W.kds_star [e1, e2] (by rw [List.all_cons, List.all_cons, k1, k2] <;> rfl), List.map_map]
  have hroad : displayRoad 0 [e1, e2] = .oneByOne := rfl
  rw [hroad]
  have hes : evalEach [e1, e2] X.env = [eval e1 X.env, eval e2 X.env] := by
    rw [arm_evalEach_cons, arm_evalEach_cons]; rfl
  unfold setDisplay
  try dsimp only
  rw [if_neg (by decide)]
  refine wpAny_bind (newR fun led R0 => ?_)
  dsimp only
  have I1 := I.laid (a := s.heap.objs.size) (o := SetO X.w s.heap.objs.size (fun _ => false) 0) (h' := s.heap.push { cls := .type "set", dict := none, data := .set #[] 0 (.fresh 0 0 led) }) (t' := s.toks) (fun _ _ e => Heap.get?_push_of_some _ e) (Nat.le_refl _) (setO_new R0)
  refine wpAny_bind (wpAny_holding ?_)
  have hall : ∀ Q', PySem.W.KdsAll (model X.prog X.w) X.A X.xe X.env [e1, e2] Q' { s with heap := s.heap.push { cls := .type "set", dict := none, data := .set #[] 0 (.fresh 0 0 led) } } → wpAny (model X.prog X.w) X.A (evalAll ([eval e1 X.env, eval e2 X.env].map fun t => do let v ← t; standAt pos; pure v)) Q' X.xe { s with heap := s.heap.push { cls := .type "set", dict := none, data := .set #[] 0 (.fresh 0 0 led) } } := fun Q' h => by
    have := PySem.W.kds_all pos [e1, e2] _ Q' h
    rw [hes] at this
    exact this
  rw [hes]
  refine wpAny_bind (thn (hall (fun vs s2 => ∃ u v i j S n, vs = [u, v] ∧ (∃ tk, u = Value.int i tk) ∧ (∃ tk, v = Value.int j tk) ∧ (∃ H2, L2.Inv X pins σ H2 s2 ∧ H2 s.heap.objs.size = some (SetO X.w s.heap.objs.size (fun _ => false) 0) ∧ (S = fun k => decide (k = i) || decide (k = j)) ∧ n = (if i = j then 1 else 2) ∧ Q (.ref s.heap.objs.size) (upd H2 s.heap.objs.size (SetO X.w s.heap.objs.size S n)))) ?_) fun vs s2 h => ?_)
  · refine thn (h1.run pins _ σ _ _ I1 (q _ hn)) fun u s1 ⟨x, H1, I2, rx, q1⟩ => thn (h2.run pins s1 σ H1 _ I2 q1) fun v s2 ⟨y, H2, I3, ry, q2⟩ => ?_
    obtain ⟨hD, i, j, rfl, rfl, qq⟩ := q2
    refine ⟨u, v, i, j, _, _, rfl, rx, ry, H2, I3, hD, rfl, rfl, qq _ _ (fun k => ?_) ?_⟩
    · simp
    · split <;> decide
  · obtain ⟨u, v, i, j, S, n, rfl, ⟨tu, rfl⟩, ⟨tv, rfl⟩, H2, I3, hD, rfl, rfl, qq⟩ := h
    refine wpAny_bind (wpAny_holding ?_)
    refine wpAny_bind ?_
    rw [List.forIn_cons]
    refine wpAny_bind (wpAny_bind (addR (setO_get I3 hD) (by decide) fun h' b1 sb1 R1 => ?_))
    try dsimp only
    refine wpAny_pure ?_
    show wpAny _ _ (forIn [Value.int j tv] PUnit.unit _) _ _ _
    rw [List.forIn_cons]
    refine wpAny_bind (wpAny_bind (addR (s := { s2 with heap := h', toks := s2.toks + 1 }) R1 (by split <;> decide) fun h2 b2 sb2 R2 => ?_))
    refine wpAny_pure ?_
    show wpAny _ _ (forIn ([] : List Value) PUnit.unit _) _ _ _
    rw [List.forIn_nil]
    refine wpAny_pure ?_
    rw [if_neg (by decide)]
    refine wpAny_pure ?_
    refine wpAny_bind ?_
    show wpAny _ _ (forIn ([] : List (Bool × Sem Value)) PUnit.unit _) _ _ _
    rw [List.forIn_nil]
    refine wpAny_pure (wpAny_pure ?_)
    have R3 : SetR X.w h2 s.heap.objs.size (fun k => decide (k = i) || decide (k = j)) (if i = j then 1 else 2) := by
      have e : (if (false || decide (j = i)) = true then (if (fun _ : Int => false) i = true then 0 else 0 + 1) else (if (fun _ : Int => false) i = true then 0 else 0 + 1) + 1) = (if i = j then 1 else 2) := by
        by_cases z : i = j
        · subst z; simp
        · have z' : ¬ j = i := fun q => z q.symm
          simp [z, z']
      rw [← e]
      exact R2.congr fun k => by simp
    have he : ∃ u, h2.get? s.heap.objs.size = some u := by
      have ⟨o, _, _, _, ho, _⟩ := R3
      exact ⟨o, ho⟩
    exact wpAny_pure ⟨.ref s.heap.objs.size, _, I3.write (e := s.heap.objs.size) (t' := s2.toks + 1 + 1) (by rw [hD]; trivial) (.inl rfl) (fun b u hb hu => (sb2.2 b hb).trans ((sb1.2 b hb).trans hu)) he (setO_new R3), rfl, qq⟩
end
/-- sorted({a, b}) of ints -/
def pSet2 : Pv → Pv → Option (List Pv)
  | .int i, .int j => some (if i = j then [.int i] else if i < j then [.int i, .int j] else [.int j, .int i])
  | _, _ => none
theorem pSet2_inv {a b : Pv} {l : List Pv} (h : pSet2 a b = some l) : ∃ i j, a = .int i ∧ b = .int j ∧ l = if i = j then [.int i] else if i < j then [.int i, .int j] else [.int j, .int i] := by
  unfold pSet2 at h
  split at h
  · cases h
    exact ⟨_, _, rfl, rfl, rfl⟩
  · cases h
theorem set2_ns {i j : Int} {ns : List Int} (h : ns.Pairwise (· < ·)) (hm : ∀ k, k ∈ ns ↔ k = i ∨ k = j) : ns = if i = j then [i] else if i < j then [i, j] else [j, i] := by
  have key : ∀ l : List Int, l.Pairwise (· < ·) → (∀ k, k ∈ l ↔ k = i ∨ k = j) → ns = l := fun l hl hm' => by
    have nd : ∀ {l : List Int}, l.Pairwise (· < ·) → l.Nodup := fun h => h.imp fun h => by omega
    refine List.Perm.eq_of_pairwise (le := fun a b : Int => a < b) (fun a b _ _ h k => by omega) h hl ((List.perm_ext_iff_of_nodup (nd h) (nd hl)).mpr fun k => (hm k).trans (hm' k).symm)
  by_cases e : i = j
  · rw [if_pos e]
    exact key _ (by simp) fun k => by subst e; simp
  · rw [if_neg e]
    by_cases l : i < j
    · rw [if_pos l]
      exact key _ (by simp [l]) fun k => by simp
    · rw [if_neg l]
      exact key _ (by simp; omega) fun k => by simp [or_comm]
section
variable {X : Cx} {ρ : List SV} {m : Type → Type} [Monad m] [Eff m] {e1 e2 : Expr} {c1 c2 : m Pv} {pos p2 p : Pos}
theorem en_sset2 (hc : X.calm = true) (hcd : PySem.W.kdsCode X.K X.env.code = true) (k1 : PySem.W.kdsPlain e1 = true) (k2 : PySem.W.kdsPlain e2 = true) (hm : X.mg "sorted" = none) (h1 : Ev X ρ e1 c1) (h2 : Ev X ρ e2 c2) (hg : Gl X "sorted" := by rfl) :
    En X ρ (.Call (.Name "sorted" p) [.Set [e1, e2] 0 p2] [] pos) (c1 >>= fun a => c2 >>= fun b => Eff.lift (pSet2 a b)) :=
  PE.imp (pe_callB (cr_sortedSet hc) hg hm (by decide +kernel) (pa_cons (pe_set2 h1 h2 hcd k1 k2) pa_nil)) fun σ H Q q => by
    obtain ⟨G, ι, μ, v, μ', rs, hr, q⟩ := q
    obtain ⟨a, μ1, r1, hr⟩ := inv_bind hr
    obtain ⟨b, μ2, r2, hr⟩ := inv_bind hr
    obtain ⟨hv, hμ⟩ := inv_lift hr
    subst hμ
    intro p hp
    have rsD := rs.alloc (u := SetO X.w p (fun _ => false) 0) hp
    refine ⟨_, ι, μ, a, μ1, rsD, r1, fun y H1 ι1 st1 z1 => ⟨_, ι1, μ1, b, _, z1.1, r2, fun y2 H2 ι2 st2 z2 => ?_⟩⟩
    have st := st1.trans st2
    have hD : H2 p = some (SetO X.w p (fun _ => false) 0) := st.keep p _ upd_same fun z => by
      rcases z with z | ⟨j, z⟩
      · exact (rsD.g p (.inr rfl)).2 z
      · exact (rsD.ni j p z).2 (.inr rfl)
    obtain ⟨i, j, rfl, rfl, rfl⟩ := pSet2_inv hv
    refine ⟨hD, i, j, z1.2.intE, z2.2.intE, fun S n hS hn => ⟨p, S, n, rfl, upd_same, hn, fun ns p' hw hm hl hp' => ?_⟩⟩
    have e := set2_ns hw fun k => (hm k).trans (hS k)
    have rA := ((z2.1.updA (p := p) (o' := SetO X.w p S n) (.inr rfl)).1).less fun a h => .inl h
    have st' : Step ι (Mx ι ρ σ) H ι2 (Mx ι2 ρ σ) (upd H2 p (SetO X.w p S n)) := by
      refine ⟨st.pre, fun b ob h k => ?_, fun b h => ?_, fun b o u h => by rw [upd_ne (ne_of_none h hp)]; exact st.frz b o u (by rw [upd_ne (ne_of_none h hp)]; exact h)⟩
      · have nb : b ≠ p := ne_of_none h hp
        rw [upd_ne nb]
        exact st.keep b ob (by rw [upd_ne nb]; exact h) k
      · rcases st.new b h with z | z
        · exact .inl z
        · right
          cases e : H b with
          | none => rfl
          | some ob => rw [upd_ne (ne_of_none e hp)] at z; rw [e] at z; cases z
    refine q (.ref p') _ ι2 (st'.trans (Step.same (same_upd hp') fun _ h => h)) ?_
    have hr : Rls (wd X.K G ι2 ρ σ (upd H2 p (SetO X.w p S n))) (ns.map Pv.int) (ns.map V.int) := Rls.ofInts ns
    have := rA.newLst hp' hr
    rw [show (if i = j then [Pv.int i] else if i < j then [.int i, .int j] else [.int j, .int i]) = ns.map Pv.int by rw [e]; split; rfl; split <;> rfl]
    exact Back.back rs rA st' this
end
end Q
/-! LYE: sorted() of any tuples, also where empty ones stand among others. -/
namespace Q
open PySem PySem.Spec PyProof.Rows L2 PySem.W PySem.SeqAt
section
variable {prog : Program} {w : World} {A : Around} {s : Shared}
theorem reads_tup {h : Heap} {v : Value} {xs : List PyData} {as : List Addr} (r : Reads h v (.tuple xs) as) : ∃ a vs bs, v = .ref a ∧ h.IsTuple a vs ∧ ReadsAll h vs.toList xs bs := by
  cases r with
  | @tuple a o vs n _ bs h1 h2 h3 h4 => exact ⟨a, vs, _, rfl, ⟨o, h1, h2, n, h3⟩, h4⟩
/-- the call of tuple's own __lt__ on data -/
theorem call_tup_lt {E : Value → Shared → Prop} {Q : Value → Shared → Prop} {l b : Addr} {vs ws : Array Value} {xs ys : List PyData} {as bs : List Addr} (hl : s.heap.IsTuple l vs) (hb : s.heap.IsTuple b ws) (ra : ReadsAll s.heap vs.toList xs as) (rb : ReadsAll s.heap ws.toList ys bs)
    (hal : alikeAll xs ys = true) (hu : A.units + min (PyData.tuple xs).depth (PyData.tuple ys).depth < cLine) (h : Q (.bool (dataLt (.tuple xs) (.tuple ys))) s) : wpAny (model prog w) A (call (.builtin "tuple.__lt__") [.ref l, .ref b]) Q E s := by
  obtain ⟨⟨cls, dd, data, sl⟩, ho, hc, n, hd⟩ := id hl
  obtain ⟨⟨cls2, dd2, data2, sl2⟩, ho2, hc2, n2, hd2⟩ := id hb
  simp only at hc hd hc2 hd2
  subst hc hd hc2 hd2
  have n1 : vs.size = xs.length := by simpa using ReadsAll.length _ _ _ ra
  have m1 : ws.size = ys.length := by simpa using ReadsAll.length _ _ _ rb
  rw [dataLt_tuple, ← firstLt_toks xs ys hal, ← n1, ← m1] at h
  refine call_meets F.slot_tuple_lt ⟨_, ho, rfl⟩ F.entry_tuple_lt (F.args_tuple_lt_2 _ _) (tuple_ltAt l b vs ws n n2 dd dd2 sl sl2 _ _) ⟨ho, ho2, fun j j1 j2 => ?_, fun j j1 j2 hj => ?_, h⟩
  · have := eqAt_alikeAll xs ys A.in1 s vs.toList ws.toList _ _ ra rb hal (room_in hu) j (by simpa using j1) (by simpa using j2)
    simpa using this
  · have := rcLt_alikeAll xs ys A.in1 s vs.toList ws.toList _ _ ra rb hal (room_in hu) j (by simpa using j1) (by simpa using j2) hj
    simpa using this
theorem first_of {v : Value} {d : PyData} {as : List Addr} {E : Value → Shared → Prop} {Q : Option Value → Shared → Prop} (r : Reads s.heap v d as) (ht : ∃ xs, d = .tuple xs) (h : ∀ o : Option Value, (o.isSome = true ↔ ∃ x r, d = .tuple (x :: r)) → Q o s) : wpAny (model prog w) A (firstOfTuple' v) Q E s := by
  obtain ⟨xs, rfl⟩ := ht
  have hL : Looks (model prog w) s.heap (typeOf v) (Value.type "tuple") := looks_reads r
  obtain ⟨a, vs, bs, rfl, ⟨o, ho, hc, n, hd⟩, r2⟩ := reads_tup r
  rw [kas_first_eq]
  refine wpAny_bind (hL.here ?_)
  have t2 : (Value.type "tuple" != Value.type "tuple") = false := by rfl
  rw [t2, if_neg Bool.false_ne_true]
  refine wpAny_bind (listItems_at ho hd ?_)
  refine wpAny_pure (h _ ?_)
  rw [← Array.getElem?_toList]
  cases hq : vs.toList with
  | nil =>
    rw [hq] at r2
    cases r2
    simp
  | cons f fr =>
    rw [hq] at r2
    cases r2
    simp
theorem firsts_of {E : Value → Shared → Prop} : ∀ {vs : List Value} {ds : List PyData} {Q : List (Option Value) → Shared → Prop}, EachIs (fun v d => ∃ as, Reads s.heap v d as) vs ds → (∀ d ∈ ds, ∃ xs, d = .tuple xs) →
    (∀ os : List (Option Value), EachIs (fun (o : Option Value) d => o.isSome = true ↔ ∃ x r, d = PyData.tuple (x :: r)) os ds → Q os s) → wpAny (model prog w) A (vs.mapM firstOfTuple') Q E s
  | _, _, _, .nil, _, h => by rw [List.mapM_nil]; exact wpAny_pure (h [] .nil)
  | _, _, Q, .cons (b := d) ⟨as, r⟩ t, ht, h => by
    rw [List.mapM_cons]
    refine wpAny_bind (first_of r (ht d (List.mem_cons_self ..)) fun o ho => ?_)
    refine wpAny_bind (firsts_of t (fun d hd => ht d (List.mem_cons_of_mem _ hd)) fun os hos => ?_)
    exact wpAny_pure (h _ (.cons ho hos))
theorem each_right {α β : Type} {R : α → β → Prop} : ∀ {as : List α} {bs : List β}, EachIs R as bs → ∀ b ∈ bs, ∃ a ∈ as, R a b
  | _, _, .nil, _, h => absurd h List.not_mem_nil
  | _, _, .cons r t, b, h => by
    rcases List.mem_cons.mp h with rfl | h
    · exact ⟨_, List.mem_cons_self .., r⟩
    · obtain ⟨a, ha, q⟩ := each_right t b h
      exact ⟨a, List.mem_cons_of_mem _ ha, q⟩
theorem SortsAt.tups {vs : List Value} {ds : List PyData} (e : EachIs (fun v d => ∃ as, Reads s.heap v d as) vs ds) (hal : AllAlike ds) (ht : ∀ d ∈ ds, ∃ xs, d = .tuple xs) (hu : ∀ d ∈ ds, A.units + d.depth < cLine) (hu0 : A.units < cLine) : SortsAt prog w A s (dataKind s.heap ds) vs := by
  have room : ∀ {d d' : PyData}, d ∈ ds → A.units + min d.depth d'.depth < cLine := fun {d d'} hd => Nat.lt_of_le_of_lt (Nat.add_le_add_left (Nat.min_le_left _ _) _) (hu d hd)
  by_cases hh : ∀ d ∈ ds, ∃ x r, d = .tuple (x :: r)
  · exact SortsAt.data e hal (.inl hh) hu
  refine ⟨fun v hv => ?_, ?_⟩
  · obtain ⟨d, hd, as, r⟩ := e.left v hv
    exact ⟨_, dataKind_some hal hd r⟩
  cases ds with
  | nil => exact absurd (fun d hd => absurd hd List.not_mem_nil) hh
  | cons d₀ ds₀ =>
    have notall : ∀ os : List (Option Value), EachIs (fun (o : Option Value) d => o.isSome = true ↔ ∃ x r, d = PyData.tuple (x :: r)) os (d₀ :: ds₀) → os.all (·.isSome) = false := fun os ho => by
      cases q : os.all (·.isSome) with
      | false => rfl
      | true =>
        exfalso
        apply hh
        intro d hd
        obtain ⟨o, hoo, hio⟩ := each_right ho d hd
        exact hio.mp (List.all_eq_true.mp q o hoo)
    by_cases h0 : ∃ x r, d₀ = .tuple (x :: r)
    · refine ⟨general', ?_, fun h2 E Q hq => ?_⟩
      · intro E x y a b Q ha hb hq
        obtain ⟨d, as, hd, ra, rfl⟩ := dataKind_inv ha
        obtain ⟨d', as', hd', rb, rfl⟩ := dataKind_inv hb
        have hn : d ≠ .none := fun z => by
          obtain ⟨xs, q⟩ := ht d hd
          rw [z] at q; cases q
        show wpAny (model prog w) A (oneLt' false x y) Q E s
        exact oneLt_alike (fun z => Bool.noConfusion z) ra rb (hal d hd d' hd') hn (room hd) hq
      · rw [keyKind'_eq, List.mapM_toArray, map_eq_pure_bind]
        refine wpAny_bind (wpAny_bind (firsts_of e ht fun os ho => wpAny_pure ?_))
        have h1 := notall os ho
        have h3 : (os.toArray.all fun x => x.isSome) = false := by rw [List.all_toArray]; exact h1
        rw [if_neg (by rw [h3]; exact Bool.false_ne_true)]
        have h2 : ((os.toArray)[0]?.bind id).isSome = true := by
          cases ho with
          | cons q _ => exact q.mpr h0
        rw [if_pos h2]
        exact wpAny_pure hq
    · refine ⟨oneType', ?_, fun h2 E Q hq => ?_⟩
      · intro E x y a b Q ha hb hq
        obtain ⟨d, as, hd, ra, rfl⟩ := dataKind_inv ha
        obtain ⟨d', as', hd', rb, rfl⟩ := dataKind_inv hb
        have hdd := hal d hd d' hd'
        have hroom := room (d' := d') hd
        obtain ⟨xs, rfl⟩ := ht d hd
        obtain ⟨ys, rfl⟩ := ht d' hd'
        obtain ⟨p, vs1, bs1, rfl, i1, r1⟩ := reads_tup ra
        obtain ⟨p', vs2, bs2, rfl, i2, r2⟩ := reads_tup rb
        rw [keyLt'_oneType, oneLt'_eq]
        simp only [if_true]
        refine wpAny_bind (wpAny_cRoomFor hu0 ?_)
        obtain ⟨o, ho, hc, _⟩ := id i1
        refine wpAny_bind (wpAny_callSpecialIfBound?_slot (T := "tuple") ⟨o, ho, hc⟩ F.slot_tuple_lt (call_tup_lt i1 i2 r1 r2 (by simpa [alike] using hdd) hroom ?_))
        exact wpAny_truthy_bool hq
      · have hL : ∀ v ∈ vs, Looks (model prog w) s.heap (typeOf v) (Value.type "tuple") := fun v hv => by
          obtain ⟨d, hd, as, r⟩ := e.left v hv
          obtain ⟨xs, rfl⟩ := ht d hd
          exact looks_reads r
        rw [keyKind'_eq, List.mapM_toArray, map_eq_pure_bind]
        refine wpAny_bind (wpAny_bind (firsts_of e ht fun os ho => wpAny_pure ?_))
        have h1 := notall os ho
        have h3 : (os.toArray.all fun x => x.isSome) = false := by rw [List.all_toArray]; exact h1
        rw [if_neg (by rw [h3]; exact Bool.false_ne_true)]
        have h4 : ¬ ((os.toArray)[0]?.bind id).isSome = true := by
          cases ho with
          | cons q _ => exact fun z => h0 (q.mp z)
        rw [if_neg h4]
        rw [oneTypeOnly'_eq, List.mapM_toArray, map_eq_pure_bind]
        refine wpAny_bind (wpAny_bind (wpAny_bind (kas_mapM (r := Value.type "tuple") _ (fun v hv Q' hq => (hL v hv).here hq) (wpAny_pure ?_))))
        have hall : ((List.map (fun _ => Value.type "tuple") vs).toArray.all fun x => x == Value.type "tuple") = true := by
          simp only [List.all_toArray, List.all_map, List.all_eq_true]
          intro _ _
          rfl
        have hz : (List.map (fun _ => Value.type "tuple") vs).toArray[0]? = some (Value.type "tuple") := by
          cases vs with
          | nil => simp at h2
          | cons v r => simp
        rw [hz]
        simp only [hall, if_true]
        exact wpAny_pure (wpAny_pure hq)
end
def isTu : Pv → Bool
  | .tup _ => true
  | _ => false
def tupsOk (l : List Pv) : Bool := rowOk l && l.all isTu
/-- sorted() of a list of any tuples -/
def pSortedA : List Pv → Option (List Pv)
  | [.lst l] => if tupsOk l then some (srt false l) else pSorted [.lst l]
  | l => pSorted l
theorem tupsOk_row {l : List Pv} (h : tupsOk l = true) : rowOk l = true := by
  unfold tupsOk at h
  rw [Bool.and_eq_true] at h
  exact h.1
section
variable {X : Cx}
theorem sorts_atA {pins : List (Addr × Obj)} {σ : L2.St} {H : Hp} {s : Shared} {W : Wd} (J : Inv X pins σ H s) {l : List Pv} {vs : List V} {us : List Value} (hu : X.A.units + 64 < cLine) (hK : W.K = X.K) (hH : W.H = H) (hok : tupsOk l = true) (hl : Rls W l vs) (hv : Vals vs us) (rev : Bool) :
    us.length = l.length ∧ SortsAt X.prog X.w X.A.in1.in1 { s with heap := sortingHeap (copyHeap s.heap us) (s.heap.objs.size + 1) us } (dataKind (sortingHeap (copyHeap s.heap us) (s.heap.objs.size + 1) us) (l.map toD)) us ∧
      ∃ out xs, sortVals (dataKind (sortingHeap (copyHeap s.heap us) (s.heap.objs.size + 1) us) (l.map toD)) rev us us = out ∧ out.length = l.length ∧ Vals xs out ∧ Rls W (srt rev l) xs := by
  have hr := tupsOk_row hok
  obtain ⟨k1, k2⟩ := each_of J hK hH (rowOk_at hr).2.1 hl hv
  have k3 : EachIs (fun v u => ∃ as, Reads (sortingHeap (copyHeap s.heap us) (s.heap.objs.size + 1) us) v (toD u) as) us l := k2.mono fun _ _ ⟨as, q⟩ => ⟨as, PyProof.Rows.Reads.keeps (fun _ _ => sorting_copy_old) q⟩
  refine ⟨k1.length, SortsAt.tups (s := { s with heap := sortingHeap (copyHeap s.heap us) (s.heap.objs.size + 1) us }) (each_map (R := fun v d => ∃ as, Reads (sortingHeap (copyHeap s.heap us) (s.heap.objs.size + 1) us) v d as) toD k3) (alike_rows hr) (fun d hd => ?_) (fun d hd => ?_) (by show X.A.units + 1 + 1 < _; omega), ?_⟩
  · obtain ⟨u, hu', rfl⟩ := List.mem_map.mp hd
    unfold tupsOk at hok
    rw [Bool.and_eq_true] at hok
    have := List.all_eq_true.mp hok.2 u hu'
    unfold isTu at this
    split at this
    · exact ⟨_, toD_tup _⟩
    · cases this
  · obtain ⟨u, hu', rfl⟩ := List.mem_map.mp hd
    have hdp := (okN_dep 60 u ((rowOk_at hr).2.1 u hu')).2
    show X.A.units + 1 + 1 + _ < _
    omega
  · obtain ⟨xs, q1, q2⟩ := rls_each (sortVals_data rev k1 k3 (alike_rows hr))
    exact ⟨_, xs, rfl, (sortVals_length rev rfl).trans k1.length, q1, q2⟩
theorem cr_sortedA (hu : X.A.units + 64 < cLine) : CallR X (.builtin "sorted") (rC X.K pSortedA (RNx X)) := by
  intro pins s σ H vs us Q J hv h
  obtain ⟨G, ι, μ, ρ, σ', ps, v, rs, rx, e, k⟩ := h
  unfold pSortedA at e
  split at e
  · rename_i l
    split at e
    · rename_i hok
      cases e
      obtain ⟨x, rfl, h⟩ := rx.one
      obtain ⟨p, ys, rfl, h1, h2⟩ := h.lstE rs
      obtain ⟨its, rv, hl, hz⟩ := J.list (.of h1)
      rw [Vals.ref1 hv]
      obtain ⟨hlen, S, out, xs, eo, k1, k2, k3⟩ := sorts_atA J hu rfl rfl hok h2 rv false
      refine PySem.W.sorted_vals hl.isList S (by rw [← rv.length]; exact hz) ?_
      rw [eo]
      obtain ⟨ep, he'⟩ := PyProof.Rows.sortedAll_at s.heap its out.toArray
      have hz2 : xs.length ≤ sizeLine := by rw [k2.length, k1]; exact lim_le (rowOk_at (tupsOk_row hok)).1
      have hf : H (s.heap.objs.size + 1) = none := J.hok.fresh (Nat.le_succ _)
      refine ⟨.ref _, upd H (s.heap.objs.size + 1) (.lst xs), J.laid (t' := s.toks) (fun _ _ => PyProof.Rows.sortedAll_old) (Nat.le_succ _) ⟨hz2, out, ep, k2, he'⟩, rfl, k _ _ (same_upd hf) (rs.newLst hf k3)⟩
    · exact cr_sorted hu pins s σ H vs us Q J hv ⟨G, ι, μ, ρ, σ', _, v, rs, rx, e, k⟩
  · exact cr_sorted hu pins s σ H vs us Q J hv ⟨G, ι, μ, ρ, σ', _, v, rs, rx, e, k⟩
end
end Q
/-! LYF: min() of a dict of the store whose keys are ints. -/
namespace Q
open PySem PySem.Spec PyProof.Rows L2
def iKeys : List (Key × Pv) → Option (List Int)
  | [] => some []
  | (.inl i, _) :: r => (iKeys r).map (i :: ·)
  | (.inr _, _) :: _ => none
theorem iKeys_map : ∀ {kvs : List (Key × Pv)} {is : List Int}, iKeys kvs = some is → kvs.map (·.1) = is.map Sum.inl
  | [], _, h => by cases h; rfl
  | (.inl i, _) :: r, _, h => by
    unfold iKeys at h
    cases e : iKeys r with
    | none => rw [e] at h; cases h
    | some l =>
      rw [e] at h; cases h
      rw [List.map_cons, List.map_cons, iKeys_map e]
  | (.inr _, _) :: _, _, h => by cases h
def dMinM (d : Pv) : M Pv := fun μ => (dkAt μ d).bind fun p => (iKeys p.2).bind fun is => match is with
  | [] => none
  | i :: r => some (.int (r.foldl min i), μ)
theorem foldMin : ∀ (r : List Int) (i : Int), r.foldl min i ∈ i :: r ∧ ∀ j ∈ i :: r, r.foldl min i ≤ j
  | [], i => ⟨List.mem_cons_self, fun j hj => by rw [List.mem_singleton] at hj; rw [hj]; exact Int.le_refl _⟩
  | a :: r, i => by
    obtain ⟨h1, h2⟩ := foldMin r (min i a)
    rw [List.foldl_cons]
    constructor
    · rcases List.mem_cons.mp h1 with h | h
      · rw [h]
        rcases Int.le_total i a with g | g
        · rw [Int.min_eq_left g]; exact List.mem_cons_self
        · rw [Int.min_eq_right g]; exact List.mem_cons_of_mem _ List.mem_cons_self
      · exact List.mem_cons_of_mem _ (List.mem_cons_of_mem _ h)
    · intro j hj
      have h0 := h2 _ List.mem_cons_self
      rcases List.mem_cons.mp hj with rfl | hj
      · exact Int.le_trans h0 (Int.min_le_left _ _)
      · rcases List.mem_cons.mp hj with rfl | hj
        · exact Int.le_trans h0 (Int.min_le_right _ _)
        · exact h2 j (List.mem_cons_of_mem _ hj)
theorem krel_keys {W : Wd} : ∀ {kvs : List (Key × Pv)} {vs : List (Key × V)}, KRel W kvs vs → vs.map (·.1) = kvs.map (·.1)
  | _, _, .nil => rfl
  | _, _, .cons r t => by rw [List.map_cons, List.map_cons, krel_keys t, r.1]
section
variable {X : Cx} {ρ : List SV} {e : Expr} {c : M Pv} {pos p : Pos}
theorem ev_minD (hc : X.calm = true) (hm : X.mg "min" = none) (h : Ev X ρ e c) (hg : Gl X "min" := by rfl) (he : starEach [e] X.env = (false, eval e X.env) :: starEach [] X.env := by rfl) : Ev X ρ (.Call (.Name "min" p) [e] [] pos) (c >>= dMinM) :=
  PE.imp (pe_callB (cr_minK hc) hg hm (by decide +kernel) (pa_cons h pa_nil he) (he := he)) fun σ H Q q => by
    obtain ⟨G, ι, μ, v, μ', rs, hr, q⟩ := q
    obtain ⟨d, μ1, r1, hr⟩ := inv_bind hr
    refine ⟨G, ι, μ, d, μ1, rs, r1, fun x H1 ι1 st1 z1 => ?_⟩
    have hr : ((dkAt μ1 d).bind fun p => (iKeys p.2).bind fun is => match is with | [] => none | i :: r => some (Pv.int (r.foldl min i), μ1)) = some (v, μ') := hr
    cases e1 : dkAt μ1 d with
    | none => rw [e1] at hr; cases hr
    | some pk =>
      obtain ⟨n, kvs⟩ := pk
      rw [e1, Option.bind_some] at hr
      cases e2 : iKeys kvs with
      | none =>
        simp only [e2] at hr
        cases hr
      | some is =>
        simp only [e2, Option.bind_some] at hr
        cases is with
        | nil => cases hr
        | cons i r =>
          cases hr
          obtain ⟨a, vs, rfl, _, h3, h4⟩ := z1.1.dk e1 z1.2
          refine ⟨a, vs, i :: r, rfl, h3, (krel_keys h4).trans (iKeys_map e2), List.cons_ne_nil _ _, fun m hm1 hm2 => ?_⟩
          obtain ⟨f1, f2⟩ := foldMin r i
          have : m = r.foldl min i := Int.le_antisymm (hm2 _ f1) (f2 m hm1)
          rw [this]
          exact q _ H1 ι1 st1 ⟨z1.1, .int⟩
end
end Q
/-! LYG: sorted() of a list of the store. -/
namespace Q
open PySem PySem.Spec PyProof.Rows L2
def srtS (d : Pv) : M (List Pv) := fun μ => (lsAt μ d).bind fun p => if sortOk p.2 = true then some (srt false p.2, μ) else none
section
variable {X : Cx} {ρ : List SV} {a : Expr} {pos p : Pos} {ca : M Pv}
theorem cr_sortedS (hu : X.A.units + 64 < cLine) : CallR X (.builtin "sorted") (fun xs H Q => ∃ (r : Addr) (vs : List V) (l : List Pv) (W : Wd), xs = [.ref r] ∧ H r = some (.lst vs) ∧ W.K = X.K ∧ W.H = H ∧ Rls W l vs ∧ sortOk l = true ∧ ∀ b ys, H b = none → Rls W (srt false l) ys → Q (.ref b) (upd H b (.lst ys))) := by
  intro pins s σ H vs us Q J hv h
  obtain ⟨p, ys, l, W, rfl, h1, hK, hH, h2, ho, k⟩ := h
  obtain ⟨its, rv, hl, hz⟩ := J.list (.of h1)
  rw [Vals.ref1 hv]
  obtain ⟨hlen, S, out, xs, eo, k1, k2, k3⟩ := sorts_at J hu hK hH ho h2 rv false
  refine PySem.W.sorted_vals hl.isList S (by rw [← rv.length]; exact hz) ?_
  rw [eo]
  obtain ⟨ep, he'⟩ := PyProof.Rows.sortedAll_at s.heap its out.toArray
  have hr : rowOk l = true := by unfold sortOk at ho; rw [Bool.and_eq_true] at ho; exact ho.1
  have hz2 : xs.length ≤ sizeLine := by rw [k2.length, k1]; exact lim_le (rowOk_at hr).1
  have hf : H (s.heap.objs.size + 1) = none := J.hok.fresh (Nat.le_succ _)
  exact ⟨.ref _, upd H (s.heap.objs.size + 1) (.lst xs), J.laid (t' := s.toks) (fun _ _ => PyProof.Rows.sortedAll_old) (Nat.le_succ _) ⟨hz2, out, ep, k2, he'⟩, rfl, k _ _ hf k3⟩
theorem en_srtS (hu : X.A.units + 64 < cLine) (hm : X.mg "sorted" = none) (ha : Ev X ρ a ca) (hg : Gl X "sorted" := by rfl) (he : starEach [a] X.env = (false, eval a X.env) :: starEach [] X.env := by rfl) : En X ρ (.Call (.Name "sorted" p) [a] [] pos) (ca >>= srtS) :=
  PE.imp (pe_callB (cr_sortedS hu) hg hm (by decide +kernel) (pa_cons ha pa_nil he) (he := he)) fun σ H Q q => by
    obtain ⟨G, ι, μ, o, μ', rs, hr, q⟩ := q
    obtain ⟨d, μ1, h1, h2⟩ := inv_bind hr
    have h2 : srtS d μ1 = some (o, μ') := h2
    unfold srtS at h2
    cases e1 : lsAt μ1 d with
    | none => rw [e1] at h2; cases h2
    | some p =>
      rw [e1, Option.bind_some] at h2
      split at h2
      · rename_i ho
        cases h2
        refine ⟨G, ι, μ, d, _, rs, h1, fun x H1 ι1 st1 z1 => ?_⟩
        obtain ⟨r, vs, rfl, hp, hH, hl⟩ := z1.1.ls e1 z1.2
        exact ⟨r, vs, p.2, _, rfl, hH, rfl, rfl, hl, ho, fun b ys hf hy => q _ _ ι1 (st1.trans (Step.same (same_upd hf) fun _ h => h)) (Back.back rs z1.1 st1 (z1.1.newLst hf hy))⟩
      · cases h2
end
end Q
/-! LYH: sorted(set(t)) of a tuple of ints. -/
namespace Q
open PySem PySem.Spec PyProof.Rows L2
def insI (x : Int) : List Int → List Int
  | [] => [x]
  | y :: r => if x < y then x :: y :: r else if x = y then y :: r else y :: insI x r
/-- each number once, ascending -/
def ssort : List Int → List Int
  | [] => []
  | x :: r => insI x (ssort r)
theorem insI_mem {x k : Int} : ∀ {l : List Int}, k ∈ insI x l ↔ k = x ∨ k ∈ l
  | [] => by simp [insI]
  | y :: r => by
    unfold insI
    split
    · simp
    · split
      · rename_i h; subst h; simp
      · simp [insI_mem (l := r)]
        constructor
        · rintro (h | h | h) <;> simp [h]
        · rintro (h | h | h) <;> simp [h]
theorem insI_pw {x : Int} : ∀ {l : List Int}, l.Pairwise (· < ·) → (insI x l).Pairwise (· < ·)
  | [], _ => by simp [insI]
  | y :: r, h => by
    unfold insI
    have h1 := List.pairwise_cons.mp h
    split
    · rename_i hx
      exact List.pairwise_cons.mpr ⟨fun z hz => by
        rcases List.mem_cons.mp hz with rfl | hz
        · exact hx
        · have := h1.1 z hz; omega, h⟩
    · split
      · exact h
      · rename_i hx hy
        exact List.pairwise_cons.mpr ⟨fun z hz => by
          rcases insI_mem.mp hz with rfl | hz
          · omega
          · exact h1.1 z hz, insI_pw h1.2⟩
theorem ssort_mem {k : Int} : ∀ {l : List Int}, k ∈ ssort l ↔ k ∈ l
  | [] => Iff.rfl
  | x :: r => by
    unfold ssort
    rw [insI_mem, ssort_mem (l := r), List.mem_cons]
theorem ssort_pw : ∀ l : List Int, (ssort l).Pairwise (· < ·)
  | [] => .nil
  | x :: r => insI_pw (ssort_pw r)
theorem ssort_eq {l ns : List Int} (h : ns.Pairwise (· < ·)) (hm : ∀ k, k ∈ ns ↔ k ∈ l) : ns = ssort l := by
  have nd : ∀ {l : List Int}, l.Pairwise (· < ·) → l.Nodup := fun h => h.imp fun h => by omega
  exact List.Perm.eq_of_pairwise (le := fun a b : Int => a < b) (fun a b _ _ h k => by omega) h (ssort_pw l) ((List.perm_ext_iff_of_nodup (nd h) (nd (ssort_pw l))).mpr fun k => (hm k).trans ssort_mem.symm)
def iVs : List Pv → Option (List Int)
  | [] => some []
  | .int i :: r => (iVs r).map (i :: ·)
  | _ :: _ => none
theorem iVs_map : ∀ {l : List Pv} {ns : List Int}, iVs l = some ns → l = ns.map .int
  | [], _, h => by cases h; rfl
  | .int i :: r, ns, h => by
    unfold iVs at h
    cases e : iVs r with
    | none => rw [e] at h; cases h
    | some q => rw [e] at h; cases h; rw [List.map_cons, iVs_map e]
  | .non :: _, _, h => by cases h
  | .bl _ :: _, _, h => by cases h
  | .str _ :: _, _, h => by cases h
  | .tup _ :: _, _, h => by cases h
  | .lst _ :: _, _, h => by cases h
  | .loc _ :: _, _, h => by cases h
  | .scr _ :: _, _, h => by cases h
def pSetS : Pv → Option (List Pv)
  | .tup l => (iVs l).bind fun ns => if ns.length < 64 then some ((ssort ns).map .int) else none
  | _ => none
theorem pSetS_inv {v : Pv} {l : List Pv} (h : pSetS v = some l) : ∃ ns : List Int, v = .tup (ns.map .int) ∧ ns.length < 64 ∧ l = (ssort ns).map .int := by
  unfold pSetS at h
  split at h
  · rename_i q
    cases e : iVs q with
    | none => rw [e] at h; cases h
    | some ns =>
      rw [e, Option.bind_some] at h
      split at h
      · rename_i hl
        cases h
        exact ⟨ns, by rw [iVs_map e], hl, rfl⟩
      · cases h
  · cases h
section
variable {X : Cx}
theorem call_setI (hc : X.calm = true) : CallR X (.type "set") (fun vs H Q => ∃ (p : Addr) (ns : List Int), vs = [.ref p] ∧ SqT X.K H p (ns.map V.int) ∧ ns.length < 64 ∧ ∀ b S n, H b = none → (∀ k, S k = true ↔ k ∈ ns) → n ≤ ns.length → Q (.ref b) (upd H b (SetO X.w b S n))) := by
  intro pins s σ H vs us Q I r h
  obtain ⟨p0, ns, rfl, hq, hl, q⟩ := h
  obtain ⟨its, rv, pt, hz⟩ := I.tuple hq
  have hi : IntsAre its.toArray.toList ns := ints_of_vals rv
  rw [Vals.ref1 r]
  refine call_set_tupI ns (I.ok.hd hc) (show s.heap.IsTuple p0 its.toArray from pt) hi (by unfold scanBound; omega) fun h' tk c R1 hcn k => ?_
  have hf : H s.heap.objs.size = none := I.hok.fresh (Nat.le_refl _)
  exact ⟨.ref _, _, I.laid (t' := tk) k (Nat.le_refl _) (setO_new R1), rfl, q _ _ _ hf (fun k => by rw [decide_eq_true_eq]) hcn⟩
variable {ρ : List SV} {m : Type → Type} [Monad m] [Eff m] {e : Expr} {c : m Pv} {pos pos2 p p2 : Pos}
theorem en_setS (hc : X.calm = true) (hm : X.mg "sorted" = none) (hm2 : X.mg "set" = none) (h : Ev X ρ e c) (hg : Gl X "sorted" := by rfl) (hg2 : Gl X "set" := by rfl)
    (he : starEach [e] X.env = (false, eval e X.env) :: starEach [] X.env := by rfl) (hpl : (backTo pos2 (starEach [] X.env)).any (·.1) = false := by rfl)
    (he2 : starEach [.Call (.Name "set" p2) [e] [] pos2] X.env = (false, eval (.Call (.Name "set" p2) [e] [] pos2) X.env) :: starEach [] X.env := by rfl) :
    En X ρ (.Call (.Name "sorted" p) [.Call (.Name "set" p2) [e] [] pos2] [] pos) (c >>= fun a => Eff.lift (pSetS a)) :=
  PE.imp (pe_callB (cr_sortedSet hc) hg hm (by decide +kernel) (pa_cons (pe_callTy (call_setI hc) hg2 hm2 (by decide +kernel) (pa_cons h pa_nil he) (by decide) (by decide) he hpl) pa_nil he2) (he := he2)) fun σ H Q q => by
    obtain ⟨G, ι, μ, v, μ', rs, hr, q⟩ := q
    obtain ⟨a, μ1, r1, hr⟩ := inv_bind hr
    obtain ⟨hv, hμ⟩ := inv_lift hr
    subst hμ
    obtain ⟨ns, rfl, hl, rfl⟩ := pSetS_inv hv
    refine ⟨G, ι, μ, _, _, rs, r1, fun x H1 ι1 st1 z1 => ?_⟩
    obtain ⟨r, ys, rfl, h1, h2⟩ := z1.2.tupE
    have h3 := h2.intsE
    subst h3
    refine ⟨r, ns, rfl, h1, hl, fun b S n hb hS hn => ⟨b, S, n, rfl, upd_same, by omega, fun out p' hw hm hl2 hp' => ?_⟩⟩
    have e := ssort_eq hw fun k => (hm k).trans (hS k)
    subst e
    have rA := z1.1.same (same_upd (o := SetO X.w b S n) hb)
    have st' := st1.trans (Step.same (same_upd (o := SetO X.w b S n) hb) fun _ h => h)
    refine q (.ref p') _ ι1 (st'.trans (Step.same (same_upd hp') fun _ h => h)) ?_
    exact Back.back rs rA st' (rA.newLst hp' (Rls.ofInts (ssort ns)))
end
end Q
/-! LYI: a test that is an if-else; x.index(k, b) on a list of the store. -/
namespace Q
open PySem PySem.Spec PyProof.Rows L2
section
variable {X : Cx} {ρ : List SV} {m : Type → Type} [Monad m] [Eff m] {t a b : Expr} {pos : Pos}
theorem pt_ifExp {tC tA tB : TT} (hc : PT X t tC) (ha : PT X a tA) (hb : PT X b tB) : PT X (.IfExp t a b pos) (fun σ H Q => tC σ H fun c H1 => if c = true then tA σ H1 Q else tB σ H1 Q) := by
  refine ⟨fun pins s σ H Q I h => ?_⟩
  refine isTrue_IfExp (thn (hc.run pins s σ H _ I h) fun d s1 ⟨H1, I1, q1⟩ => ?_)
  cases d with
  | true => exact ha.run pins s1 σ H1 Q I1 q1
  | false => exact hb.run pins s1 σ H1 Q I1 q1
theorem et_ite {c x y : m Bool} (hc : Et X ρ t c) (ha : Et X ρ a x) (hb : Et X ρ b y) : Et X ρ (.IfExp t a b pos) (iteM c x y) :=
  PT.imp (pt_ifExp hc ha hb) fun σ H Q q => by
    obtain ⟨G, ι, μ, v, μ', rs, hr, q⟩ := q
    obtain ⟨va, μ1, h1, h2⟩ := inv_bind hr
    refine ⟨G, ι, μ, va, μ1, rs, h1, fun H1 ι1 st1 z1 => ?_⟩
    cases va
    · exact ⟨G, ι1, μ1, v, μ', z1, h2, fun H2 ι2 st2 z2 => q H2 ι2 (st1.trans st2) z2⟩
    · exact ⟨G, ι1, μ1, v, μ', z1, h2, fun H2 ι2 st2 z2 => q H2 ι2 (st1.trans st2) z2⟩
end
/-- the first place from b on -/
def idxF (ns : List Int) (k : Int) (b : Nat) : Option Nat := ((ns.drop b).findIdx? fun z => decide (z = k)).map fun j => b + j
theorem idxF_some {ns : List Int} {k : Int} {b j : Nat} (h : idxF ns k b = some j) : b ≤ j ∧ ns[j]? = some k ∧ ∀ m, b ≤ m → m < j → ns[m]? ≠ some k := by
  unfold idxF at h
  cases e : (ns.drop b).findIdx? fun z => decide (z = k) with
  | none => rw [e] at h; cases h
  | some i =>
    rw [e] at h
    cases h
    obtain ⟨hj, hp1, hp2⟩ := List.findIdx?_eq_some_iff_getElem.mp e
    have hp1 := of_decide_eq_true hp1
    refine ⟨Nat.le_add_right _ _, ?_, fun m hm hl z => ?_⟩
    · rw [← List.getElem?_drop, List.getElem?_eq_getElem hj, hp1]
    · have hl : m < b + i := hl
      have := hp2 (m - b) (by omega)
      have z2 : (ns.drop b)[m - b]? = some k := by rw [List.getElem?_drop, show b + (m - b) = m by omega]; exact z
      have hml : m - b < (ns.drop b).length := by omega
      rw [List.getElem?_eq_getElem hml] at z2
      simp only [Option.some.injEq] at z2
      simp [z2] at this
def rIdx3 : V → List V → Hp → VK → Prop := fun x xs H Q => ∃ (a : Addr) (ns : List Int) (k : Int) (b j : Nat), x = V.ref a ∧ xs = [.int k, .int (b : Int)] ∧ H a = some (.lst (ns.map V.int)) ∧ idxF ns k b = some j ∧ Q (.int (j : Nat)) H
section
variable {X : Cx}
theorem mt_index3 : MtR X "list.index" rIdx3 := by
  intro pins s σ H x xs v us Q I rx rxs h
  obtain ⟨a, ns, k, b, j, rfl, rfl, hl, hj, q⟩ := h
  obtain ⟨h1, h2, h3⟩ := idxF_some hj
  cases rx
  cases rxs with
  | cons ry rt =>
    cases rt with
    | cons rb rt =>
      cases rt
      obtain ⟨t1, rfl⟩ := ry
      obtain ⟨t2, rfl⟩ := rb
      obtain ⟨its, rv, hl', hlen⟩ := I.list (.of hl)
      have hi : IntsAre its ns := ints_of_vals rv
      obtain ⟨⟨cls, dd, data, sls⟩, ho, hc, n, hdt⟩ := id hl'.isList
      simp only at hc hdt
      subst hc hdt
      have hn : its.length = ns.length := IntsAre.length hi
      obtain ⟨hjl, _⟩ := List.getElem?_eq_some_iff.mp h2
      have hsl := sizeLine_eq
      rw [List.length_map] at hlen
      have he := PySem.SeqAt.ItemsEq.ints (A := X.A.in1) (s := s) (k := k) (t := t1) hi
      refine call_meets PySem.F.slot_list_index ⟨_, ho, rfl⟩ PySem.F.entry_list_index (PySem.F.args_list_index_3 _ _ _)
        (PySem.SeqAt.list_index3_found a its.toArray n dd sls _ (fun j => decide (ns[j]? = some k)) (b : Int) _ j (by simpa [hn] using hjl) (by rw [PySem.SeqAt.searchFrom_nat]; omega) (by omega) ?_ ?_) ⟨ho, fun j hj' => ?_, ?_⟩
      · exact decide_eq_true h2
      · intro m hm hlo hlt
        rw [PySem.SeqAt.searchFrom_nat] at hlo
        exact decide_eq_false (h3 m hlo hlt)
      · have g1 : j < its.length := by simpa using hj'
        have g2 : j < ns.length := by omega
        simpa [List.getElem?_eq_getElem g2] using he.2 j g1 g2
      · exact ⟨.int (j : Nat), H, I.tok _, ⟨_, rfl⟩, q⟩
end
/-- d.index(k, b) -/
def ixSI (d k b : Pv) : M Pv := fun μ => (lsAt μ d).bind fun p => match intsP p.2, k, b with
  | some ns, .int k, .int b => if 0 ≤ b then (idxF ns k b.toNat).map fun j => (.int (j : Nat), μ) else none
  | _, _, _ => none
theorem ixSI_inv {d k b o : Pv} {μ μ' : List MO} (h : ixSI d k b μ = some (o, μ')) : ∃ (n : Nat) (ns : List Int) (i : Int) (c j : Nat), lsAt μ d = some (n, ns.map .int) ∧ k = .int i ∧ b = .int (c : Int) ∧ idxF ns i c = some j ∧ o = .int (j : Nat) ∧ μ' = μ := by
  unfold ixSI at h
  cases e1 : lsAt μ d with
  | none => rw [e1] at h; cases h
  | some p =>
    obtain ⟨n, l⟩ := p
    rw [e1, Option.bind_some] at h
    cases e2 : intsP l with
    | none => simp only [e2] at h; cases h
    | some ns =>
      simp only [e2] at h
      cases k <;> cases b <;> simp only [reduceCtorEq] at h
      rename_i i c
      split at h
      · rename_i hc
        cases e3 : idxF ns i c.toNat with
        | none => rw [e3] at h; cases h
        | some j =>
          rw [e3] at h
          cases h
          exact ⟨n, ns, i, c.toNat, j, by rw [ints_map e2], rfl, by rw [Int.toNat_of_nonneg hc], e3, rfl, rfl⟩
      · cases h
section
variable {X : Cx} {ρ : List SV} {e : Expr} {co ca cb : M Pv}
theorem ev_indexS {e : Expr} (hp : PE X e (tBM X.K "list" rIdx3 (tG X.K ρ (RV X.K ρ) co) (tCons (tG X.K ρ (RV X.K ρ) ca) (tCons (tG X.K ρ (RV X.K ρ) cb) tNil)))) :
    Ev X ρ e (co >>= fun d => lenS d >>= fun _ => ca >>= fun k => cb >>= fun b => ixSI d k b) :=
  PE.imp hp fun σ H Q q => by
    obtain ⟨G, ι, μ, o, μ', rs, hr, q⟩ := q
    obtain ⟨d, μ1, h1, h2⟩ := inv_bind hr
    obtain ⟨u, μ2, h3, h4⟩ := inv_bind h2
    obtain ⟨k, μ3, h5, h6⟩ := inv_bind h4
    obtain ⟨b, μ4, h7, h8⟩ := inv_bind h6
    have h3 : lenS d μ1 = some (u, μ2) := h3
    have h8 : ixSI d k b μ4 = some (o, μ') := h8
    unfold lenS at h3
    cases e0 : lsAt μ1 d with
    | none => rw [e0] at h3; cases h3
    | some p0 =>
      obtain ⟨n0, l0⟩ := p0
      rw [e0] at h3
      cases h3
      obtain ⟨n, ns, i, c, j, e1, rfl, rfl, ej, rfl, rfl⟩ := ixSI_inv h8
      refine ⟨G, ι, μ, d, _, rs, h1, fun y H1 ι1 st1 z1 => ?_⟩
      obtain ⟨p0, vs0, rfl, hp0, hH0, hl0⟩ := z1.1.ls e0 z1.2
      refine ⟨.inl ⟨rfl, _, .of hH0⟩, G, ι1, _, _, μ3, z1.1, h5, fun z H2 ι2 st2 z2 => ⟨G, ι2, _, _, _, z2.1, h7, fun w H3 ι3 st3 z3 => ?_⟩⟩
      obtain ⟨p, vs, ep, hp, hH, hl⟩ := z3.1.ls e1 (z1.2.mono (st2.trans st3).le)
      cases ep
      rw [hl.intsE] at hH
      refine ⟨p0, ns, i, c, j, rfl, ?_, hH, ej, q _ H3 ι3 (st1.trans (st2.trans st3)) ⟨z3.1, .int⟩⟩
      rw [(z2.2.mono st3.le).intE, z3.2.intE]
end
end Q
/-! LYJ: d.setdefault(k, v) as a statement, d a dict of the store with int (or str) keys. -/
namespace Q
open PySem PySem.Spec PyProof.Rows L2
def dIsM (d : Pv) : M Unit := fun μ => (dkAt μ d).map fun _ => ((), μ)
def dSetdM (d k v : Pv) : M Unit := fun μ => (dkAt μ d).bind fun p => (toKey k).bind fun k => if p.2.length < LIM then (if (valP p.2 k).isSome = true then some ((), μ) else some ((), μ.set p.1 (.dk (putP p.2 k v)))) else none
theorem KRel.some_iff {W : Wd} {k : Key} : ∀ {kvs : List (Key × Pv)} {vs : List (Key × V)}, KRel W kvs vs → (valP kvs k).isSome = (valV vs k).isSome
  | _, _, .nil => rfl
  | p :: kvs, q :: vs, .cons r t => by
    have ih := KRel.some_iff (k := k) t
    have e : p.1 = q.1 := r.1
    unfold valP valV at ih ⊢
    rw [List.find?_cons, List.find?_cons, e]
    cases decide (q.1 = k)
    · exact ih
    · rfl
section
variable {X : Cx} {ρ : List SV} {o e f : Expr} {co ce cf : M Pv} {pos apos cpos : Pos}
theorem es_dsetd (ho : Ev X ρ o co) (he : Ev X ρ e ce) (hf : Ev X ρ f cf) (m : M2 X o "setdefault" apos e f cpos) (hs : swapsWith (.Call (.Attribute o "setdefault" apos) [e, f] [] cpos) none pos.line X.env = pure false := by rfl) :
    Es X ρ (.Expr (.Call (.Attribute o "setdefault" apos) [e, f] [] cpos) pos) (co >>= fun d => dIsM d >>= fun _ => ce >>= fun k => cf >>= fun v => dSetdM d k v) fun _ => .nx ρ :=
  PS.imp (ps_expr (pe_dsetd ho he hf m) hs) fun D σ H q => by
    obtain ⟨G, ι, μ, r, μ', rs, hr, q⟩ := q
    obtain ⟨d, μ1, h1, h2⟩ := inv_bind hr
    obtain ⟨u, μ1', h3, h4⟩ := inv_bind h2
    obtain ⟨k, μ2, h5, h6⟩ := inv_bind h4
    obtain ⟨v, μ3, h7, h8⟩ := inv_bind h6
    have h3 : dIsM d μ1 = some (u, μ1') := h3
    have h8 : dSetdM d k v μ3 = some (r, μ') := h8
    unfold dIsM at h3
    cases e0 : dkAt μ1 d with
    | none => rw [e0] at h3; cases h3
    | some p0 =>
      obtain ⟨n0, k0⟩ := p0
      rw [e0] at h3
      cases h3
      unfold dSetdM at h8
      cases e1 : dkAt μ3 d with
      | none => rw [e1] at h8; cases h8
      | some p =>
        obtain ⟨n, kvs⟩ := p
        rw [e1, Option.bind_some] at h8
        cases e2 : toKey k with
        | none => rw [e2] at h8; cases h8
        | some kk =>
          rw [e2, Option.bind_some] at h8
          refine ⟨G, ι, μ, d, _, rs, h1, fun x H1 ι1 st1 z1 => ?_⟩
          obtain ⟨a0, vs0, rfl, hp0, hH0, kr0⟩ := z1.1.dk e0 z1.2
          refine ⟨a0, rfl, .inl ⟨_, .of hH0⟩, G, ι1, _, k, μ2, z1.1, h5, fun y H2 ι2 st2 z2 => ⟨G, ι2, _, v, _, z2.1, h7, fun z H3 ι3 st3 z3 => ?_⟩⟩
          obtain ⟨a, vs, ea, ha, hH, kr⟩ := z3.1.dk e1 (z1.2.mono (st2.trans st3).le)
          cases ea
          have si := KRel.some_iff (k := kk) kr
          have hk : y = kV kk := by
            have := toKey_kV e2 (z2.2.mono st3.le)
            exact this
          split at h8
          · rename_i hz
            have hz : kvs.length < LIM := hz
            have hsz : vs.length < sizeLine := by rw [← kr.len]; have : LIM ≤ sizeLine := lim_le (Nat.le_refl _); omega
            have stA := st1.trans (st2.trans st3)
            split at h8
            · rename_i hs1
              cases h8
              refine ⟨vs, kk, hH, hk, hsz, fun v0 _ => q σ H3 ι3 stA z3.1, fun hn => ?_⟩
              have hs1 : (valP kvs kk).isSome = true := hs1
              rw [si, hn] at hs1
              cases hs1
            · rename_i hs1
              cases h8
              refine ⟨vs, kk, hH, hk, hsz, fun v0 hv => ?_, fun _ => q σ _ ι3 (stA.updS ha (nfK hH)) (z3.1.updS ha fun W hW hH => ⟨_, hH, KRel.put (z3.2.mono hW) (kr.mono hW)⟩)⟩
              have hs1 : ¬ (valP kvs kk).isSome = true := hs1
              rw [si, hv] at hs1
              exact absurd rfl hs1
          · cases h8
end
/-! ### len of a dict of the store -/
def dLenM (d : Pv) : M Pv := fun μ => (dkAt μ d).map fun p => (.int p.2.length, μ)
def dLenT (d : Pv) : M Pv := fun μ => (dtAt μ d).map fun p => (.int p.2.length, μ)
section
variable {X : Cx} {ρ : List SV} {a : Expr} {ca : M Pv} {pos p : Pos}
theorem ev_lenD (hm : X.mg "len" = none) (ha : Ev X ρ a ca) (hg : Gl X "len" := by rfl) (he : starEach [a] X.env = (false, eval a X.env) :: starEach [] X.env := by rfl) : Ev X ρ (.Call (.Name "len" p) [a] [] pos) (ca >>= dLenM) :=
  PE.imp (pe_callB call_lenD hg hm (by decide +kernel) (pa_cons ha pa_nil he) (he := he)) fun σ H Q q => by
    obtain ⟨G, ι, μ, o, μ', rs, hr, q⟩ := q
    obtain ⟨d, μ1, h1, h2⟩ := inv_bind hr
    have h2 : dLenM d μ1 = some (o, μ') := h2
    unfold dLenM at h2
    cases e1 : dkAt μ1 d with
    | none => rw [e1] at h2; cases h2
    | some p =>
      rw [e1] at h2
      cases h2
      refine ⟨G, ι, μ, d, _, rs, h1, fun x H1 ι1 st1 z1 => ?_⟩
      obtain ⟨r, vs, rfl, hp, hH, hl⟩ := z1.1.dk e1 z1.2
      exact ⟨r, vs, rfl, hH, q _ H1 ι1 st1 ⟨z1.1, by rw [← hl.len]; exact .int⟩⟩
theorem ev_lenT (hm : X.mg "len" = none) (ha : Ev X ρ a ca) (hg : Gl X "len" := by rfl) (he : starEach [a] X.env = (false, eval a X.env) :: starEach [] X.env := by rfl) : Ev X ρ (.Call (.Name "len" p) [a] [] pos) (ca >>= dLenT) :=
  PE.imp (pe_callB call_len_dT hg hm (by decide +kernel) (pa_cons ha pa_nil he) (he := he)) fun σ H Q q => by
    obtain ⟨G, ι, μ, o, μ', rs, hr, q⟩ := q
    obtain ⟨d, μ1, h1, h2⟩ := inv_bind hr
    have h2 : dLenT d μ1 = some (o, μ') := h2
    unfold dLenT at h2
    cases e1 : dtAt μ1 d with
    | none => rw [e1] at h2; cases h2
    | some p =>
      rw [e1] at h2
      cases h2
      refine ⟨G, ι, μ, d, _, rs, h1, fun x H1 ι1 st1 z1 => ?_⟩
      obtain ⟨r, vs, rfl, hp, hH, hl⟩ := z1.1.dt e1 z1.2
      exact ⟨r, vs, rfl, hH, q _ H1 ι1 st1 ⟨z1.1, by rw [← Paired.length hl]; exact .int⟩⟩
end
end Q
/-! LYK: {k: v for .. in ..} with int (or str) keys, a new dict of the store. -/
namespace Q
open PySem PySem.Spec PyProof.Rows L2
section
variable {A : Type}
def dcN (un : Pv → Option A) (ck cv : A → M Pv) : List (Key × Pv) → List Pv → M (List (Key × Pv))
  | acc, [] => pure acc
  | acc, x :: r => Eff.lift (un x) >>= fun a => ck a >>= fun k => cv a >>= fun v => Eff.lift (toKey k) >>= fun kk => dcN un ck cv (putP acc kk v) r
def dNewK (kvs : List (Key × Pv)) : M Pv := fun μ => some (.loc μ.length, μ ++ [.dk kvs])
def dcM (ci : M (List Pv)) (un : Pv → Option A) (ck cv : A → M Pv) : M Pv := ci >>= fun l => Eff.lift (limL l) >>= fun l => dcN un ck cv [] l >>= fun kvs => dNewK kvs
end
section
variable {X : Cx} {ρ : List SV} {A : Type} {kx vx tg iter : Expr} {scope : Scope} {own : List (Str × Nat)} {pos : Pos} {un : Pv → Option A} {up : List SV → A → List SV}
theorem tDc_of {ci : M (List Pv)} {ck cv : A → M Pv} {g : TG} {is vs : List Nat} (hv : noMl ρ vs)
    (hk : ∀ G ι μ ρ σ H x v a Q, RS X.K G ι μ ρ σ H → Rl (wd X.K G ι ρ σ H) v x → un v = some a → (∀ σ', RS X.K G ι μ (up ρ a) σ' H → (∀ b, Mx ι (up ρ a) σ' b → Mx ι ρ σ b) → (∀ j, j ∉ is → σ'[j]? = σ[j]?) → Q σ' H) → g x σ H Q)
    (his : ∀ j ∈ is, j ∈ vs) (hw : ∀ a, wipeR (up (wipeR ρ vs) a) vs = wipeR ρ vs) (hn : ∀ a, noMl (up (wipeR ρ vs) a) vs) {σ : L2.St} {H : Hp} {Q : VK} (q : tG X.K ρ (RV X.K ρ) (dcM ci un ck cv) σ H Q) :
    tDc (tEi X.K ρ ci) g (fun σ H Q => ∃ a, tGt X.K (up (wipeR ρ vs) a) (pure true : M Bool) σ H Q) (fun σ H Q => ∃ a, tG X.K (up (wipeR ρ vs) a) (RV X.K (up (wipeR ρ vs) a)) (ck a) σ H Q) (fun σ H Q => ∃ a, tG X.K (up (wipeR ρ vs) a) (RV X.K (up (wipeR ρ vs) a)) (cv a) σ H Q) vs σ H Q := by
  obtain ⟨G, ι, μ, o, μ', rs, hr, q⟩ := q
  obtain ⟨l0, μ1, h1, h2⟩ := inv_bind hr
  obtain ⟨l, μ1', h3, h4⟩ := inv_bind h2
  obtain ⟨hlm, rfl⟩ := inv_lift h3
  obtain ⟨rfl, hz⟩ := limL_inv hlm
  obtain ⟨fin, μF, h4a, h5⟩ := inv_bind h4
  have h5 : some (Pv.loc μF.length, μF ++ [MO.dk fin]) = some (o, μ') := h5
  cases h5
  refine ⟨G, ι, μ, l0, _, rs, h1, fun J H1 ι1 st1 rs1 jk D hD => ?_⟩
  have rsD := rs1.alloc (u := .dK []) hD
  have stD : Step ι1 (Mx ι1 ρ σ) H1 ι1 (Mx ι1 ρ σ) (upd H1 D (.dK [])) := Step.same (same_upd hD) fun _ h => h
  refine ⟨fun i k H' => k = l0.length - i ∧ i ≤ l0.length ∧ ∃ acc accV μ2 ι2, H' D = some (.dK accV) ∧ Step ι1 (Mx ι1 ρ σ) H1 ι2 (Mx ι2 ρ σ) H' ∧ RS X.K (fun b => G b ∨ b = D) ι2 μ2 ρ σ H' ∧ Le (wd X.K (fun b => G b ∨ b = D) ι1 ρ σ (upd H1 D (.dK []))) (wd X.K (fun b => G b ∨ b = D) ι2 ρ σ H') ∧
      KRel (wd X.K (fun b => G b ∨ b = D) ι2 ρ σ H') acc accV ∧ acc.length ≤ i ∧ Eff.run (dcN un ck cv acc (l0.drop i)) μ2 = some (fin, μF),
    ⟨l0.length, by simp, Nat.zero_le _, [], [], _, ι1, upd_same, stD, rsD, Le.refl _, .nil, Nat.zero_le _, by simpa using h4a⟩, ?_⟩
  rintro i k H' ⟨rfl, hi, acc, accV, μ2, ι2, eD, st2, rs2, le2, ra, hacc, hrun⟩
  have lej : Le (wd X.K G ι1 ρ σ H1) (wd X.K (fun b => G b ∨ b = D) ι2 ρ σ H') := (Le.alloc hD).trans le2
  obtain ⟨j1, j2⟩ := jk _ lej (Le.tracked rs2)
  by_cases hlt : i < l0.length
  · obtain ⟨go, yl⟩ := j2 i l0[i] (List.getElem?_eq_getElem hlt)
    rw [List.drop_eq_getElem_cons hlt] at hrun
    unfold dcN at hrun
    obtain ⟨a, μ3, k1, k2⟩ := inv_bind hrun
    obtain ⟨hun, rfl⟩ := inv_lift k1
    obtain ⟨kv, μ4, k3, k4⟩ := inv_bind k2
    obtain ⟨vv, μ5', k5, k6⟩ := inv_bind k4
    obtain ⟨kk, μ6', k7, k8⟩ := inv_bind k6
    obtain ⟨hkk, rfl⟩ := inv_lift k7
    refine .inr ⟨go, fun H3 => ∃ acc accV μ5 ι3, H3 D = some (.dK accV) ∧ Step ι1 (Mx ι1 ρ σ) H1 ι3 (Mx ι3 ρ σ) H3 ∧ RS X.K (fun b => G b ∨ b = D) ι3 μ5 ρ σ H3 ∧ Le (wd X.K (fun b => G b ∨ b = D) ι1 ρ σ (upd H1 D (.dK []))) (wd X.K (fun b => G b ∨ b = D) ι3 ρ σ H3) ∧
      KRel (wd X.K (fun b => G b ∨ b = D) ι3 ρ σ H3) acc accV ∧ acc.length ≤ i + 1 ∧ Eff.run (dcN un ck cv acc (l0.drop (i + 1))) μ5 = some (fin, μF), fun H3 h => ⟨l0.length - (i + 1), by omega, rfl, hlt, h⟩, fun x H3 hy => ?_⟩
    obtain ⟨sm, rx⟩ := yl x H3 hy
    have rs3 := rs2.same sm
    refine hk _ ι2 _ (wipeR ρ vs) (wipe σ vs) H3 x _ a _ (rs3.wiped hv) (rx.mono (wipe_le hv)) hun fun σ4 rs4 hm hσ => ?_
    have hl4 : σ4.length = (wipe σ vs).length := by
      rw [← rs4.len, wipe_length, ← rs.len]
      have := congrArg List.length (hw a)
      rw [wipeR_length, wipeR_length] at this
      exact this
    have hwp : wipe σ4 vs = wipe σ vs := by rw [wipe_eq hl4 fun j hj => hσ j fun z => hj (his j z), wipe_wipe]
    refine ⟨hwp, ?_⟩
    -- the block's state, seen as the def's
    have back : ∀ {ι5 μ5 H5}, Step ι2 (Mx ι2 (up (wipeR ρ vs) a) σ4) H3 ι5 (Mx ι5 (up (wipeR ρ vs) a) σ4) H5 → RS X.K (fun b => G b ∨ b = D) ι5 μ5 (up (wipeR ρ vs) a) σ4 H5 →
        Step ι2 (Mx ι2 ρ σ) H' ι5 (Mx ι5 ρ σ) H5 ∧ RS X.K (fun b => G b ∨ b = D) ι5 μ5 ρ σ H5 ∧ Le (wd X.K (fun b => G b ∨ b = D) ι5 (up (wipeR ρ vs) a) σ4 H5) (wd X.K (fun b => G b ∨ b = D) ι5 ρ σ H5) := fun {ι5 μ5 H5} st rs5 => by
      have mx1 : ∀ ι b, Mx ι ρ σ b ↔ Mx ι (up (wipeR ρ vs) a) σ4 b := fun ι b => by
        rw [← wipe_mx (ρ := up (wipeR ρ vs) a) (hn a), hw a, hwp, wipe_mx hv]
      have s1 : Step ι2 (Mx ι2 ρ σ) H' ι5 (Mx ι5 ρ σ) H5 := by
        refine ⟨st.pre, fun b ob h k => st.keep b ob (sm b ob h) fun z => k ((mx1 _ _).mpr z), fun b h => ?_, fun b o u h => st.frz b o u (sm b _ h)⟩
        rcases st.new b ((mx1 _ _).mp h) with z | z
        · exact .inl ((mx1 _ _).mpr z)
        · right
          cases e : H' b with
          | none => rfl
          | some ob => rw [sm b ob e] at z; cases z
      have r1 := RS.wiped (hn a) rs5
      rw [hw a, hwp] at r1
      exact ⟨s1, RS.unwipe hv rs2 s1 r1, ⟨rfl, fun _ _ h => h, fun b o h k => ⟨h, fun z => k (Or.imp (fun q => q) (mx1 _ _).mp z)⟩⟩⟩
    have keepD : ∀ {ι5 H5}, Step ι2 (Mx ι2 ρ σ) H' ι5 (Mx ι5 ρ σ) H5 → H5 D = some (.dK accV) := fun {ι5 H5} st => st.keep D _ eD fun z => by
      rcases z with z | ⟨j, z⟩
      · exact (rs2.g D (.inr rfl)).2 z
      · exact (rs2.ni j D z).2 (.inr rfl)
    refine ⟨a, _, ι2, _, true, _, rs4, rfl, fun H5 ι5 st5 rs5 => ?_⟩
    dsimp only
    rw [if_pos rfl]
    refine ⟨a, _, ι5, _, kv, μ4, rs5, k3, fun yV H6 ι6 st6 z6 => ⟨a, _, ι6, _, vv, _, z6.1, k5, fun zV H7 ι7 st7 z7 => ?_⟩⟩
    obtain ⟨s6, r6, l6⟩ := back ((st5.trans st6).trans st7) z7.1
    have ra6 := ra.mono (s6.le (K := X.K) (G := fun b => G b ∨ b = D))
    obtain ⟨r7, l7⟩ := r6.updA (p := D) (o' := .dK (putK accV kk zV)) (.inr rfl)
    refine ⟨accV, kk, toKey_kV hkk z6.2, keepD s6, ?_, putP acc kk vv, putK accV kk zV, _, ι7, upd_same, ?_, r7, (le2.trans s6.le).trans l7, (KRel.put (z7.2.mono l6) ra6).mono l7, ?_, k8⟩
    · rw [← ra.len]
      have := lim_le hz
      omega
    · have s7 := st2.trans s6
      refine ⟨s7.pre, fun b ob h k => ?_, s7.new, fun b o u h => by rw [upd_ne (ne_of_none h hD)]; exact s7.frz b o u h⟩
      have nb : b ≠ D := ne_of_none h hD
      rw [upd_ne nb]
      exact s7.keep b ob h k
    · unfold putP
      split
      · rw [List.length_map]; omega
      · rw [List.length_append]; simp; omega
  · refine .inl ⟨j1 i (by omega), ?_⟩
    rw [List.drop_eq_nil_of_le (by omega)] at hrun
    unfold dcN at hrun
    obtain ⟨rfl, rfl⟩ := inv_pure hrun
    have h0 : H D = none := fresh_back rs rs1 st1 hD
    have ng : ¬ G D := fun z => by
      obtain ⟨ob, e, _⟩ := (rs.g D z).1
      rw [h0] at e; cases e
    have stA := st1.trans st2
    have e1 : upd H' D (.dK accV) = H' := funext fun b => by
      by_cases hb : b = D
      · subst hb; rw [upd_same, eD]
      · rw [upd_ne hb]
    have ad := RS.adopt (o := .dK accV) (mo := .dk fin) rs2 ng fun W hW hH => ⟨_, hH, ra.mono hW⟩
    rw [e1] at ad
    have st' : Step ι (Mx ι ρ σ) H (ι2 ++ [D]) (Mx (ι2 ++ [D]) ρ σ) H' := by
      refine ⟨fun n a h => ?_, stA.keep, fun b h => ?_, stA.frz⟩
      · rw [List.getElem?_append_left (List.getElem?_eq_some_iff.mp (stA.pre n a h)).1]; exact stA.pre n a h
      · have h' : Mx ι2 ρ σ b ∨ b = D := by
          rcases h with h | h
          · rcases List.mem_append.mp h with h | h
            · exact .inl (.inl h)
            · exact .inr (by simpa using h)
          · exact .inl (.inr h)
        rcases h' with h' | h'
        · exact stA.new b h'
        · rw [h']; exact .inr h0
    refine q (.ref D) H' (ι2 ++ [D]) st' ⟨ad, ?_⟩
    unfold Rl
    exact ⟨D, by show (ι2 ++ [D])[_]? = some D; rw [← rs2.lm]; simp, rfl⟩
theorem ev_dc {ci : M (List Pv)} {ck cv : A → M Pv} {g : TG} {is : List Nat} (hc : X.calm = true) (hN : X.N.Nodup) (hi : Ei X ρ tg iter ci) (ok : BlkOk X.N X.env.scope scope own)
    (hg : ∀ s H C cl fp, Tg (blkX X scope s H C cl fp) tg g is un up) (hk : ∀ s H C cl fp a, Ev (blkX X scope s H C cl fp) (up (wipeR ρ (own.map (·.2))) a) kx (ck a)) (he : ∀ s H C cl fp a, Ev (blkX X scope s H C cl fp) (up (wipeR ρ (own.map (·.2))) a) vx (cv a))
    (hv : noMl ρ (own.map (·.2))) (his : ∀ j ∈ is, j ∈ own.map (·.2)) (hw : ∀ a, wipeR (up (wipeR ρ (own.map (·.2))) a) (own.map (·.2)) = wipeR ρ (own.map (·.2))) (hn : ∀ a, noMl (up (wipeR ρ (own.map (·.2))) a) (own.map (·.2)))
    (hs : ∀ x, foldedSetIterable iter X.env x = pure x := by intro _; rfl) : Ev X ρ (.DictComp kx vx [⟨tg, iter, [], 0⟩] scope pos) (dcM ci un ck cv) := by
  refine PE.imp (pe_dc (g := g) (tt := fun σ H Q => ∃ a, tGt X.K (up (wipeR ρ (own.map fun p => p.2)) a) (pure true : M Bool) σ H Q) (tk := fun σ H Q => ∃ a, tG X.K (up (wipeR ρ (own.map fun p => p.2)) a) (RV X.K (up (wipeR ρ (own.map fun p => p.2)) a)) (ck a) σ H Q) (tv := fun σ H Q => ∃ a, tG X.K (up (wipeR ρ (own.map fun p => p.2)) a) (RV X.K (up (wipeR ρ (own.map fun p => p.2)) a)) (cv a) σ H Q) hc hN hi ok (fun s H C cl fp => (hg s H C cl fp).pg) (fun s H C cl fp => PTs_exv fun _ => ets_nil) (fun s H C cl fp => PE_exv (hk s H C cl fp)) (fun s H C cl fp => PE_exv (he s H C cl fp)) hs) fun σ H Q q => ?_
  exact tDc_of hv (hg X.s_0 (fun _ => none) 0 [] []).ok his hw hn q
end
end Q
/-! LYL: d.setdefault(k, v) as a statement, d a dict of the store with tuple keys. -/
namespace Q
open PySem PySem.Spec PyProof.Rows L2
section
variable {X : Cx} {pins : List (Addr × Obj)} {σ : L2.St} {H : Hp} {s : Shared} {a b : Addr} {r : Value} {v : V} {k : List Key} {A : Around} {E : Value → Shared → Prop}
theorem call_sdT {kvs : List (List Key × V)} {Q : Value → Shared → Prop} (hu : A.units + 1 < cLine) (J : Inv X pins σ H s) (ha : H a = some (.dT kvs)) (hb : H b = some (.tup (k.map kV))) (rv : RelV v r) (hlen : kvs.length < sizeLine)
    (h1 : ∀ x, valV kvs k = some x → ∀ (u' : Value) (s' : Shared), Inv X pins σ H s' → RelV x u' → Q u' s') (h2 : valV kvs k = none → ∀ (s' : Shared), Inv X pins σ (upd H a (.dT (putK kvs k v))) s' → Q r s') :
    wpAny (model X.prog X.w) A (call (.builtin "dict.setdefault") [.ref a, .ref b, r]) Q E s := by
  obtain ⟨z, hsys, ys, kt, dct⟩ := dt_of J.hok ha
  have hys : ys.length ≤ sizeLine := by rw [← Paired.length kt]; exact z
  refine call_setdefault_heap (hsz := hys) (tupleKind_room_in1 hu) (key_of J.hok hb) hsys dct (fun p hp => ?_) (fun hnone h' d2 same => ?_)
  · have rr := kt.val k
    rw [hp] at rr
    cases q0 : valV kvs k with
    | none => rw [q0] at rr; exact absurd rr (fun z => z)
    | some x => rw [q0] at rr; exact h1 x q0 _ _ (J.tok _) rr
  · have rr := kt.val k
    rw [hnone] at rr
    cases q0 : valV kvs k with
    | some x => rw [q0] at rr; exact absurd rr (fun z => z)
    | none =>
      have hl2 : (putK kvs k v).length ≤ sizeLine := by have := length_putK kvs k v; omega
      obtain ⟨ob, es, ep, g1, g2, g3, g4, _, g5⟩ := d2
      refine h2 q0 _ (d_write J (by rw [ha]; exact True.intro) same ⟨ob, g1⟩ ⟨hl2, hsys, _, (kt.put k hb rv).keeps fun c zs ec => ?_, ob, es, ep, g1, g2, g3, g4, g5⟩)
      have nc : c ≠ a := ne_of ec ha (fun z => nomatch z)
      rw [upd_ne nc]
      exact ec
end
def tSdT (td ty tx : TE) : TE := fun σ H Q => td σ H fun x H1 => ∃ a, x = .ref a ∧ IsD H1 a ∧ ty σ H1 fun y H2 => tx σ H2 fun z H3 => ∃ (kvs : List (List Key × V)) (k : List Key) (b : Addr), H3 a = some (.dT kvs) ∧ y = .ref b ∧ H3 b = some (.tup (k.map kV)) ∧ kvs.length < sizeLine ∧
  (∀ v, valV kvs k = some v → Q v H3) ∧ (valV kvs k = none → Q z (upd H3 a (.dT (putK kvs k z))))
section
variable {X : Cx} {o e f : Expr} {td ty tx : TE} {apos cpos : Pos}
theorem pe_sdT (hu : X.A.units + 2 < cLine) (ho : PE X o td) (he : PE X e ty) (hf : PE X f tx) (m : M2 X o "setdefault" apos e f cpos) : PE X (.Call (.Attribute o "setdefault" apos) [e, f] [] cpos) (tSdT td ty tx) := by
  refine ⟨fun pins s σ H Q J h => ?_⟩
  refine wpAny_Call_method m.base m.few m.line PySem.F.plainAttrs_dict PySem.F.slot_dict_setdefault PySem.F.type_dict_setdefault
    (thn (ho.run pins s σ H _ J h) fun u s1 ⟨x, H1, J1, rx, a, ex, isd, q1⟩ => ?_)
  subst ex
  obtain rfl : u = Value.ref a := rx
  obtain ⟨ty1, ty2, _⟩ := isD_at J1 isd
  refine ⟨ty1, ty2, ?_⟩
  rw [m.trees]
  refine Calls.callWith_builtin rfl (Calls.evalArgs_plain (Calls.spliced_cons
    (thn (he.run pins s1 σ H1 _ J1 q1) fun kv s2 ⟨y, H2, J2, ry, q2⟩ => Calls.spliced_cons
      (thn (hf.run pins s2 σ H2 _ J2 q2) fun fv s3 ⟨z, H3, J3, rz, kvs, k, b, ea, ey, eb, hl, q3, q4⟩ => Calls.spliced_nil ?_))))
  subst ey
  obtain rfl : kv = Value.ref b := ry
  exact call_sdT (by first | omega | (show _ < _; simp; omega)) J3 ea eb rz hl (fun x hx u' s4 J4 ru => ⟨x, _, J4, ru, q3 x hx⟩) fun hn s4 J4 => ⟨z, _, J4, rz, q4 hn⟩
end
def dIsT (d : Pv) : M Unit := fun μ => (dtAt μ d).map fun _ => ((), μ)
def dSetdT (d k v : Pv) : M Unit := fun μ => (dtAt μ d).bind fun p => (toKeyT k).bind fun k => if p.2.length < LIM then (if (valT p.2 k).isSome = true then some ((), μ) else some ((), μ.set p.1 (.dt (putT p.2 k v)))) else none
section
variable {X : Cx} {ρ : List SV} {o e f : Expr} {co ce cf : M Pv} {pos apos cpos : Pos}
theorem es_dsetdT (hu : X.A.units + 2 < cLine) (ho : Ev X ρ o co) (he : Ev X ρ e ce) (hf : Ev X ρ f cf) (m : M2 X o "setdefault" apos e f cpos) (hs : swapsWith (.Call (.Attribute o "setdefault" apos) [e, f] [] cpos) none pos.line X.env = pure false := by rfl) :
    Es X ρ (.Expr (.Call (.Attribute o "setdefault" apos) [e, f] [] cpos) pos) (co >>= fun d => dIsT d >>= fun _ => ce >>= fun k => cf >>= fun v => dSetdT d k v) fun _ => .nx ρ :=
  PS.imp (ps_expr (pe_sdT hu ho he hf m) hs) fun D σ H q => by
    obtain ⟨G, ι, μ, r, μ', rs, hr, q⟩ := q
    obtain ⟨d, μ1, h1, h2⟩ := inv_bind hr
    obtain ⟨u, μ1', h3, h4⟩ := inv_bind h2
    obtain ⟨k, μ2, h5, h6⟩ := inv_bind h4
    obtain ⟨v, μ3, h7, h8⟩ := inv_bind h6
    have h3 : dIsT d μ1 = some (u, μ1') := h3
    have h8 : dSetdT d k v μ3 = some (r, μ') := h8
    unfold dIsT at h3
    cases e0 : dtAt μ1 d with
    | none => rw [e0] at h3; cases h3
    | some p0 =>
      obtain ⟨n0, k0⟩ := p0
      rw [e0] at h3
      cases h3
      unfold dSetdT at h8
      cases e1 : dtAt μ3 d with
      | none => rw [e1] at h8; cases h8
      | some p =>
        obtain ⟨n, kvs⟩ := p
        rw [e1, Option.bind_some] at h8
        cases e2 : toKeyT k with
        | none => rw [e2] at h8; cases h8
        | some kk =>
          rw [e2, Option.bind_some] at h8
          refine ⟨G, ι, μ, d, _, rs, h1, fun x H1 ι1 st1 z1 => ?_⟩
          obtain ⟨a0, vs0, rfl, hp0, hH0, kr0⟩ := z1.1.dt e0 z1.2
          refine ⟨a0, rfl, .inr ⟨_, .of hH0⟩, G, ι1, _, k, μ2, z1.1, h5, fun y H2 ι2 st2 z2 => ⟨G, ι2, _, v, _, z2.1, h7, fun z H3 ι3 st3 z3 => ?_⟩⟩
          obtain ⟨a, vs, ea, ha, hH, kr⟩ := z3.1.dt e1 (z1.2.mono (st2.trans st3).le)
          cases ea
          have si := TRel.isS (k := kk) kr
          obtain ⟨b, rfl, hb⟩ := toKeyT_V e2 (z2.2.mono st3.le)
          split at h8
          · rename_i hz
            have hz : kvs.length < LIM := hz
            have hsz : vs.length < sizeLine := by rw [← kr.len]; have : LIM ≤ sizeLine := lim_le (Nat.le_refl _); omega
            have stA := st1.trans (st2.trans st3)
            split at h8
            · rename_i hs1
              cases h8
              refine ⟨vs, kk, b, hH, rfl, hb, hsz, fun v0 _ => q σ H3 ι3 stA z3.1, fun hn => ?_⟩
              have hs1 : (valT kvs kk).isSome = true := hs1
              rw [si, hn] at hs1
              cases hs1
            · rename_i hs1
              cases h8
              refine ⟨vs, kk, b, hH, rfl, hb, hsz, fun v0 hv => ?_, fun _ => q σ _ ι3 (stA.updS ha (nfT hH)) (z3.1.updS ha fun W hW hH => ⟨_, hH, TRel.put (z3.2.mono hW) (kr.mono hW)⟩)⟩
              have hs1 : ¬ (valT kvs kk).isSome = true := hs1
              rw [si, hv] at hs1
              exact absurd rfl hs1
          · cases h8
end
theorem hu2 {k : Nat} {A : Around} (h : Room k A) : A.units + 2 < cLine := by have := h.un; omega
end Q
/-! LYM: len({e for .. in ..}), e an int. -/
namespace Q
open PySem PySem.Spec PyProof.Rows L2
section
variable {X : Cx}
/-- a set of ints at D gets a member -/
def GetsI (w : World) (D : Addr) (Nx : Hp → Prop) (y : V) (H4 : Hp) : Prop := ∃ (c : Int) (S : Int → Bool) (n : Nat), y = .int c ∧ H4 D = some (SetO w D S n) ∧ n + 1 < scanBound ∧ Nx (upd H4 D (SetO w D (fun j => S j || decide (j = c)) (if S c = true then n else n + 1)))
def tScI (w : World) (wi : TI) (g : TG) (te : TE) (vs : List Nat) : TE := fun σ H Q => wi σ H fun J H1 => ∀ D, H1 D = none → ∃ W : Nat → Nat → Hp → Prop, (∃ m, W 0 m (upd H1 D (SetO w D (fun _ => false) 0))) ∧ ∀ i m H, W i m H →
  (J.stop i H ∧ Q (.ref D) H) ∨ (J.go i H ∧ ∃ Nx : Hp → Prop, (∀ H', Nx H' → ∃ m', m' < m ∧ W (i + 1) m' H') ∧ ∀ x H', J.yld i H x H' → g x (wipe σ vs) H' fun σ2 H2 => wipe σ2 vs = wipe σ vs ∧ te σ2 H2 fun y H4 => GetsI w D Nx y H4)
theorem pe_scI {elt tg iter : Expr} {scope : Scope} {own : List (Str × Nat)} {pos : Pos} {wi : TI} {g : TG} {te : TE} (hc : X.calm = true) (hN : X.N.Nodup) (hi : PI X tg iter wi) (ok : BlkOk X.N X.env.scope scope own)
    (hg : ∀ s H C cl fp, PG (blkX X scope s H C cl fp) tg g) (he : ∀ s H C cl fp, PE (blkX X scope s H C cl fp) elt te) (hs : ∀ x, foldedSetIterable iter X.env x = pure x) :
    PE X (.SetComp elt [⟨tg, iter, [], 0⟩] scope pos) (tScI X.w wi g te (own.map (·.2))) := by
  refine ⟨fun pins s σ H Q I h => ?_⟩
  rw [PpSet.eval_SetComp]
  have cells : ∀ p ∈ scope.names, p.2 = .free → ∃ c, X.env.cells.lookup p.1 = some c := fun p hp e => (ok.free p hp e).elim (fun k => I.ok.has _ (.inl k)) fun k => I.ok.has _ (.inr k)
  refine wpAny_comprehension_free (use := none) rfl hs (closure_ok cells) ok.kind (fun p hp e => by rw [ok.uniq p hp, e]) (thn (hi.run pins s σ H _ I h) fun xv sa hx => thn hx fun iv sb hb => ?_)
  obtain ⟨it, fp, tn, J, Hb, rfl, Ib, T, stb, fb, q⟩ := hb
  refine PpSet.newSet_ok (newEnv_comp ?_)
  obtain ⟨D, hD⟩ : ∃ D, sb.heap.objs.size = D := ⟨_, rfl⟩
  rw [hD]
  obtain ⟨W, ⟨m0, w0⟩, turn⟩ := q D (Ib.hok.fresh (Nat.le_of_eq hD))
  obtain ⟨sc, hsc⟩ : ∃ sc : Shared, sc = { sb with heap := sb.heap.push { cls := .type "set", dict := none, data := .set #[] 0 (.fresh 0 0 (!X.w.params.followText "set-order")) } } := ⟨_, rfl⟩
  rw [← hsc]
  have hck : ∀ b o, sb.heap.get? b = some o → sc.heap.get? b = some o := fun b o e => by rw [hsc]; exact Heap.get?_push_of_some _ e
  have hcs : sb.heap.objs.size < sc.heap.objs.size := by rw [hsc]; show _ < (sb.heap.push _).objs.size; rw [Heap.size_push]; exact Nat.lt_succ_self _
  obtain ⟨Hc, hHc⟩ : ∃ Hc, Hc = upd Hb D (SetO X.w D (fun _ => false) 0) := ⟨_, rfl⟩
  rw [← hHc] at w0
  have Ic : Inv X pins σ Hc sc := by
    have R := setR_fresh (h := sb.heap) X.w
    rw [hD] at R
    rw [hsc, hHc]
    exact Ib.laid (t' := sb.toks) (fun b o e => Heap.get?_push_of_some _ e) (Nat.le_of_eq hD) (setO_new R)
  have low : ∀ b ∈ fp, b < sb.heap.objs.size := fun b hb => (T.obj _ _ stb b hb).elim fun o z => Heap.lt_size z.1
  have fc : ∀ b ∈ fp, FpOk X pins Hc b ∧ b < sc.heap.objs.size := fun b hb => by
    refine ⟨⟨?_, (fb b hb).2⟩, Nat.lt_trans (low b hb) hcs⟩
    have nb : b ≠ D := by rw [← hD]; exact Nat.ne_of_lt (low b hb)
    rw [hHc, upd_ne nb]
    exact (fb b hb).1
  have stc : tn 0 sc.heap := T.keep _ _ _ stb fun b _ o e => hck b o e
  have Id := block_start Ic ok hN fc
  have pg : PG (X.blk sc Hc scope (compEnvC scope (cellsFrom (sc.heap.objs.size + 1) scope.names (cloFrom X.env.cells scope.names [])) sc.heap.objs.size X.env) fp) tg g := hg sc Hc sc.heap.objs.size (cellsFrom (sc.heap.objs.size + 1) scope.names (cloFrom X.env.cells scope.names [])) fp
  have pe : PE (X.blk sc Hc scope (compEnvC scope (cellsFrom (sc.heap.objs.size + 1) scope.names (cloFrom X.env.cells scope.names [])) sc.heap.objs.size X.env) fp) elt te := he sc Hc sc.heap.objs.size (cellsFrom (sc.heap.objs.size + 1) scope.names (cloFrom X.env.cells scope.names [])) fp
  show codeAny _ _ (.compStart (.SetComp elt [⟨tg, iter, [], 0⟩] scope pos) 0 (.ref it) (.ref D) (compEnvC scope (cellsFrom (sc.heap.objs.size + 1) scope.names (cloFrom X.env.cells scope.names [])) sc.heap.objs.size X.env)) (compPost _ _ _ none _ (.ref D) sc.heap.objs.size) { sc with heap := pushCells (sc.heap.push { cls := .type "dict", data := .dict #[] }) scope.names }
  have gone : ∀ b ∈ fp, Hc b = none := fun b hb => (fc b hb).1.1
  generalize hce : compEnvC scope (cellsFrom (sc.heap.objs.size + 1) scope.names (cloFrom X.env.cells scope.names [])) sc.heap.objs.size X.env = ce at Id pg pe ⊢
  have cl : ce.locals = sc.heap.objs.size := by rw [← hce]; rfl
  obtain ⟨sd, hsd⟩ : ∃ sd : Shared, sd = { sc with heap := pushCells (sc.heap.push { cls := .type "dict", data := .dict #[] }) scope.names } := ⟨_, rfl⟩
  rw [← hsd] at Id ⊢
  have std : tn 0 sd.heap := T.keep _ _ _ stc fun b _ o e => by rw [hsd]; exact pushCells_keeps _ _ _ _ (Heap.get?_push_of_some _ e)
  have stat : ∀ {τ : L2.St} {G : Hp} {t : Shared}, Inv (X.blk sc Hc scope ce fp) [] τ G t → (∀ b ∈ fp, G b = none) → ∀ b ∈ fp, FpOk (X.blk sc Hc scope ce fp) [] G b := fun {τ G t} J' hn b hb =>
    ⟨hn b hb, (J'.ok.exf b hb).1, J'.ok.exfs b hb, .inl hb, fun x c e => (J'.ok.exf b hb).2 x c e, fun p hp => by simp at hp⟩
  have loop : codeAny (model X.prog X.w) X.A (.compLoop (.SetComp elt [⟨tg, iter, [], 0⟩] scope pos) 0 (.ref it) (.ref D) ce) (compPost (model X.prog X.w) X.A X.xe none (EP X pins σ Q) (.ref D) sc.heap.objs.size) sd := by
    refine PpSet.compLoopS_any (fun n t => ∃ i G, Inv (X.blk sc Hc scope ce fp) [] (wipe σ (own.map (·.2))) G t ∧ tn i t.heap ∧ (∀ b ∈ fp, G b = none) ∧ W i n G) ?_ m0 ⟨0, Hc, Id, std, gone, w0⟩
    rintro n se ⟨i, He, Ie, ste, ne, we⟩
    rcases turn i n He we with ⟨stop, qq⟩ | ⟨go, Nx, hNx, step⟩
    · refine thnF (T.done (X.blk sc Hc scope ce fp) rfl rfl rfl hc i [] se _ He (fun _ _ => False) Ie (stat Ie ne) ste stop) fun r sf ⟨hr, If⟩ => ?_
      cases hr
      have Ig : Inv X pins σ He sf := Ic.call' (ch := fp) If.os If.base If.hok If.bare fun b hb => ⟨(fc b hb).1.2.2.2.1, (fc b hb).1.2.1, (fc b hb).1.2.2.2.2.1, (fc b hb).1.2.2.2.2.2⟩
      have nC : He sc.heap.objs.size = none := by rw [← cl]; exact If.free
      obtain ⟨m, hm, _⟩ := If.loc
      have hm' : sf.heap.Ns sc.heap.objs.size m := by rw [← cl]; exact hm
      obtain ⟨f0, f1, f2, f3, f4, f5⟩ := Ic.fpOk (Nat.le_refl _) nC
      exact ⟨m, hm', fun h'' sm => ⟨.ref D, He, Ig.turned (t' := sf.toks) (fun b o hb e => (sm.2 b hb).trans e) f0 f1 f3 f4 f5, rfl, qq⟩⟩
    · refine thnF (T.item (X.blk sc Hc scope ce fp) rfl rfl rfl hc i [] se _ He (fun _ _ => False) Ie (stat Ie ne) ste go) fun r sf ⟨u, hr, hu⟩ => ?_
      cases hr
      refine thnF hu fun _ sg ⟨x, Hg, Ig, rg, yg, stg, ng⟩ => ?_
      refine thnF (pg.run _ sg _ Hg x u _ (Ig.pinned (stat Ig ng) (T.obj _ _ stg)) rg (step x Hg yg)) fun _ sh ⟨τ, Hh, Ih, hw, qh⟩ => ?_
      refine thnF ((pts_nil (X := X.blk sc Hc scope ce fp)).run _ sh τ Hh (fun b G => b = true ∧ te τ G fun y H4 => GetsI X.w D Nx y H4) Ih ⟨rfl, qh⟩) fun b si ⟨Hi, Ii, qi⟩ => ?_
      obtain ⟨rfl, qi⟩ := qi
      rw [if_pos rfl]
      refine thnF (pe.run _ si τ Hi _ Ii qi) fun z sj ⟨yv, Hj, Ij, rj, c, S, n0, ey, hDj, hz, nx⟩ => ?_
      subst ey
      refine thnF (mt_sadd _ sj τ Hj (.ref D) [.int c] (.ref D) [z] (fun _ G => Nx G) Ij rfl (.cons rj .nil) ⟨D, c, S, n0, rfl, rfl, hDj, hz, nx⟩) fun _ sk ⟨_, Hk, Ik, _, nk⟩ => ?_
      have pin : ∀ b ∈ fp, ∀ o, sg.heap.get? b = some o → sk.heap.get? b = some o ∧ Hk b = none := fun b hb o e => (Ik.pin (b, o) (List.mem_append_right _ (List.mem_append_right _ (mem_pinsAt hb e)))).imp id fun k => k.1
      have hl : (wipe σ (own.map (·.2))).length = τ.length := by rw [← hw, wipe_length]
      obtain ⟨m', hlt, w'⟩ := hNx Hk nk
      exact ⟨m', hlt, i + 1, Hk, (Ik.unpinned (pins := [])).weak hl fun j v e => by rw [← hw] at e; exact (wipe_some e).1, T.keep _ _ _ stg fun b hb o e => (pin b hb o e).1, fun b hb => (T.obj _ _ stg b hb).elim fun o z => (pin b hb o z.1).2, w'⟩
  exact PpSet.codeAny_compStart_set loop (T.self X.A 0 _ _ _ std loop)
theorem call_lenO : CallR X (.builtin "len") (fun vs H Q => ∃ a S n, vs = [.ref a] ∧ H a = some (SetO X.w a S n) ∧ Q (.int n) H) := by
  intro pins s σ H vs us Q I r h
  obtain ⟨a, S, n, rfl, ha, q⟩ := h
  obtain ⟨o, es, ep, t, ho, hex, hd, g, nd, hm, hb, hf, hn, hr, hl⟩ := setO_get I ha
  rw [Vals.ref1 r]
  have hb' : es.size < 4096 := hb
  exact call_len_set ho hex hd hf (by omega) ⟨.int n, H, I.tok _, ⟨_, by rw [hn]⟩, q⟩
end
end Q
namespace Q
open PySem PySem.Spec PyProof.Rows L2
theorem insI_len {x : Int} : ∀ {l : List Int}, x ∉ l → (insI x l).length = l.length + 1
  | [], _ => rfl
  | y :: r, h => by
    unfold insI
    have h1 : ¬ x = y := fun z => h (by rw [z]; exact List.mem_cons_self)
    split
    · rfl
    · rw [List.length_cons, List.length_cons, insI_len fun z => h (List.mem_cons_of_mem _ z)]
theorem ssort_snoc (l : List Int) (c : Int) : (ssort (l ++ [c])).length = if c ∈ l then (ssort l).length else (ssort l).length + 1 := by
  by_cases h : c ∈ l
  · rw [if_pos h, ← ssort_eq (ssort_pw l) (l := l ++ [c]) fun k => by
      rw [ssort_mem, List.mem_append, List.mem_singleton]
      exact ⟨.inl, fun z => z.elim id fun e => e ▸ h⟩]
  · rw [if_neg h, ← ssort_eq (ns := insI c (ssort l)) (insI_pw (ssort_pw l)) (l := l ++ [c]) fun k => by
      rw [insI_mem, ssort_mem, List.mem_append, List.mem_singleton, or_comm]]
    exact insI_len fun z => h (ssort_mem.mp z)
theorem ssort_le : ∀ l : List Int, (ssort l).length ≤ l.length
  | [] => Nat.le_refl _
  | x :: r => by
    have key : ∀ m : List Int, (insI x m).length ≤ m.length + 1 := fun m => by
      induction m with
      | nil => exact Nat.le_refl _
      | cons y m ih =>
        unfold insI
        split
        · exact Nat.le_refl _
        · split
          · exact Nat.le_succ _
          · rw [List.length_cons, List.length_cons]; omega
    exact Nat.le_trans (key _) (Nat.succ_le_succ (ssort_le r))
/-- how many different ones -/
def cntS (vs : List Pv) : Option Pv := (iVs vs).bind fun ns => if ns.length < 64 then some (.int (ssort ns).length) else none
theorem cntS_inv {vs : List Pv} {v : Pv} (h : cntS vs = some v) : ∃ ns : List Int, vs = ns.map .int ∧ ns.length < 64 ∧ v = .int (ssort ns).length := by
  unfold cntS at h
  cases e : iVs vs with
  | none => rw [e] at h; cases h
  | some ns =>
    rw [e, Option.bind_some] at h
    split at h
    · rename_i hl
      cases h
      exact ⟨ns, iVs_map e, hl, rfl⟩
    · cases h
section
variable {A : Type} {m : Type → Type} [Monad m] [Eff m]
def scM (ci : m (List Pv)) (un : Pv → Option A) (ce : A → m Pv) : m Pv := ci >>= fun l => Eff.lift (limL l) >>= fun l => lcN un ce l >>= fun vs => Eff.lift (cntS vs)
end
section
variable {X : Cx} {ρ : List SV} {m : Type → Type} [Monad m] [Eff m] {elt tg iter : Expr} {scope : Scope} {own : List (Str × Nat)} {pos pos' : Pos} {A : Type} {un : Pv → Option A} {up : List SV → A → List SV}
theorem tSc_of {ci : m (List Pv)} {ce : A → m Pv} {g : TG} {is vs : List Nat} (hv : noMl ρ vs)
    (hk : ∀ G ι μ ρ σ H x v a Q, RS X.K G ι μ ρ σ H → Rl (wd X.K G ι ρ σ H) v x → un v = some a → (∀ σ', RS X.K G ι μ (up ρ a) σ' H → (∀ b, Mx ι (up ρ a) σ' b → Mx ι ρ σ b) → (∀ j, j ∉ is → σ'[j]? = σ[j]?) → Q σ' H) → g x σ H Q)
    (his : ∀ j ∈ is, j ∈ vs) (hw : ∀ a, wipeR (up (wipeR ρ vs) a) vs = wipeR ρ vs) (hn : ∀ a, noMl (up (wipeR ρ vs) a) vs) {σ : L2.St} {H : Hp} {Q : VK} {Q' : VK} (hQ : ∀ D S n H', H' D = some (SetO X.w D S n) → Q (.int n) H' → Q' (.ref D) H') (q : tG X.K ρ (RV X.K ρ) (scM ci un ce) σ H Q) :
    tScI X.w (tEi X.K ρ ci) g (fun σ H Q => ∃ a, tG X.K (up (wipeR ρ vs) a) (RV X.K (up (wipeR ρ vs) a)) (ce a) σ H Q) vs σ H Q' := by
  obtain ⟨G, ι, μ, o, μ', rs, hr, q⟩ := q
  obtain ⟨l0, μ1, h1, h2⟩ := inv_bind hr
  obtain ⟨l, μ1', h3, h4⟩ := inv_bind h2
  obtain ⟨hlm, rfl⟩ := inv_lift h3
  obtain ⟨rfl, hz⟩ := limL_inv hlm
  obtain ⟨all, μF, h5, h6⟩ := inv_bind h4
  obtain ⟨hcn, rfl⟩ := inv_lift h6
  obtain ⟨ns, rfl, hlt64, rfl⟩ := cntS_inv hcn
  refine ⟨G, ι, μ, l0, _, rs, h1, fun J H1 ι1 st1 rs1 jk D hD => ?_⟩
  have h0 : H D = none := fresh_back rs rs1 st1 hD
  have rsD := rs1.alloc (u := SetO X.w D (fun _ => false) 0) hD
  have stD : Step ι1 (Mx ι1 ρ σ) H1 ι1 (Mx ι1 ρ σ) (upd H1 D (SetO X.w D (fun _ => false) 0)) := Step.same (same_upd hD) fun _ h => h
  refine ⟨fun i k H' => k = l0.length - i ∧ i ≤ l0.length ∧ ∃ (acc : List Int) (S : Int → Bool) (ys : List Pv) (μ2 : List MO) (ι2 : List Addr), H' D = some (SetO X.w D S (ssort acc).length) ∧ (∀ k, S k = true ↔ k ∈ acc) ∧ Step ι1 (Mx ι1 ρ σ) H1 ι2 (Mx ι2 ρ σ) H' ∧ RS X.K (fun b => G b ∨ b = D) ι2 μ2 ρ σ H' ∧
      Le (wd X.K (fun b => G b ∨ b = D) ι1 ρ σ (upd H1 D (SetO X.w D (fun _ => false) 0))) (wd X.K (fun b => G b ∨ b = D) ι2 ρ σ H') ∧ Eff.run (lcN un ce (l0.drop i)) μ2 = some (ys, μ') ∧ ns.map Pv.int = acc.map Pv.int ++ ys,
    ⟨l0.length, by simp, Nat.zero_le _, [], _, _, _, ι1, upd_same, by simp, stD, rsD, Le.refl _, by simpa using h5, rfl⟩, ?_⟩
  rintro i k H' ⟨rfl, hi, acc, S, ys, μ2, ι2, eD, hS, st2, rs2, le2, hrun, hall⟩
  have lej : Le (wd X.K G ι1 ρ σ H1) (wd X.K (fun b => G b ∨ b = D) ι2 ρ σ H') := (Le.alloc hD).trans le2
  obtain ⟨j1, j2⟩ := jk _ lej (Le.tracked rs2)
  by_cases hlt : i < l0.length
  · obtain ⟨go, yl⟩ := j2 i l0[i] (List.getElem?_eq_getElem hlt)
    rw [List.drop_eq_getElem_cons hlt] at hrun
    unfold lcN at hrun
    obtain ⟨a, μ3, k1, k2⟩ := inv_bind hrun
    obtain ⟨hun, rfl⟩ := inv_lift k1
    obtain ⟨y, μ4, k3, k4⟩ := inv_bind k2
    obtain ⟨ys', μ5, k5, k6⟩ := inv_bind k4
    obtain ⟨rfl, rfl⟩ := inv_pure k6
    -- the value is an int
    obtain ⟨c, rfl, hns⟩ : ∃ c : Int, y = .int c ∧ acc.length + 1 ≤ ns.length := by
      have e1 := congrArg (fun l : List Pv => l[acc.length]?) hall
      have e2 := congrArg List.length hall
      simp only [List.length_map, List.length_append, List.length_cons] at e2
      simp only [List.getElem?_append_right (show (acc.map Pv.int).length ≤ acc.length by simp), List.length_map, Nat.sub_self, List.getElem?_cons_zero, List.getElem?_map] at e1
      cases e3 : ns[acc.length]? with
      | none => rw [e3] at e1; cases e1
      | some c => rw [e3] at e1; exact ⟨c, (Option.some.inj e1).symm, by omega⟩
    refine .inr ⟨go, fun H3 => ∃ (acc : List Int) (S : Int → Bool) (ys : List Pv) (μ5 : List MO) (ι3 : List Addr), H3 D = some (SetO X.w D S (ssort acc).length) ∧ (∀ k, S k = true ↔ k ∈ acc) ∧ Step ι1 (Mx ι1 ρ σ) H1 ι3 (Mx ι3 ρ σ) H3 ∧ RS X.K (fun b => G b ∨ b = D) ι3 μ5 ρ σ H3 ∧
      Le (wd X.K (fun b => G b ∨ b = D) ι1 ρ σ (upd H1 D (SetO X.w D (fun _ => false) 0))) (wd X.K (fun b => G b ∨ b = D) ι3 ρ σ H3) ∧ Eff.run (lcN un ce (l0.drop (i + 1))) μ5 = some (ys, μ') ∧ ns.map Pv.int = acc.map Pv.int ++ ys, fun H3 h => ⟨l0.length - (i + 1), by omega, rfl, hlt, h⟩, fun x H3 hy => ?_⟩
    obtain ⟨sm, rx⟩ := yl x H3 hy
    have rs3 := rs2.same sm
    refine hk _ ι2 _ (wipeR ρ vs) (wipe σ vs) H3 x _ a _ (rs3.wiped hv) (rx.mono (wipe_le hv)) hun fun σ4 rs4 hm hσ => ?_
    have hl4 : σ4.length = (wipe σ vs).length := by
      rw [← rs4.len, wipe_length, ← rs.len]
      have := congrArg List.length (hw a)
      rw [wipeR_length, wipeR_length] at this
      exact this
    have hwp : wipe σ4 vs = wipe σ vs := by rw [wipe_eq hl4 fun j hj => hσ j fun z => hj (his j z), wipe_wipe]
    refine ⟨hwp, ?_⟩
    have back : ∀ {ι5 μ5 H5}, Step ι2 (Mx ι2 (up (wipeR ρ vs) a) σ4) H3 ι5 (Mx ι5 (up (wipeR ρ vs) a) σ4) H5 → RS X.K (fun b => G b ∨ b = D) ι5 μ5 (up (wipeR ρ vs) a) σ4 H5 →
        Step ι2 (Mx ι2 ρ σ) H' ι5 (Mx ι5 ρ σ) H5 ∧ RS X.K (fun b => G b ∨ b = D) ι5 μ5 ρ σ H5 := fun {ι5 μ5 H5} st rs5 => by
      have mx1 : ∀ ι b, Mx ι ρ σ b ↔ Mx ι (up (wipeR ρ vs) a) σ4 b := fun ι b => by
        rw [← wipe_mx (ρ := up (wipeR ρ vs) a) (hn a), hw a, hwp, wipe_mx hv]
      have s1 : Step ι2 (Mx ι2 ρ σ) H' ι5 (Mx ι5 ρ σ) H5 := by
        refine ⟨st.pre, fun b ob h k => st.keep b ob (sm b ob h) fun z => k ((mx1 _ _).mpr z), fun b h => ?_, fun b o u h => st.frz b o u (sm b _ h)⟩
        rcases st.new b ((mx1 _ _).mp h) with z | z
        · exact .inl ((mx1 _ _).mpr z)
        · right
          cases e : H' b with
          | none => rfl
          | some ob => rw [sm b ob e] at z; cases z
      have r1 := RS.wiped (hn a) rs5
      rw [hw a, hwp] at r1
      exact ⟨s1, RS.unwipe hv rs2 s1 r1⟩
    have keepD : ∀ {ι5 H5}, Step ι2 (Mx ι2 ρ σ) H' ι5 (Mx ι5 ρ σ) H5 → H5 D = some (SetO X.w D S (ssort acc).length) := fun {ι5 H5} st => st.keep D _ eD fun z => by
      rcases z with z | ⟨j, z⟩
      · exact (rs2.g D (.inr rfl)).2 z
      · exact (rs2.ni j D z).2 (.inr rfl)
    refine ⟨a, _, ι2, _, _, μ4, rs4, k3, fun yV H6 ι6 st6 z6 => ?_⟩
    obtain ⟨s6, r6⟩ := back st6 z6.1
    obtain ⟨r7, l7⟩ := r6.updA (p := D) (o' := SetO X.w D (fun j => S j || decide (j = c)) (if S c = true then (ssort acc).length else (ssort acc).length + 1)) (.inr rfl)
    have hb := ssort_le acc
    refine ⟨c, S, _, z6.2.intE, keepD s6, by unfold scanBound; omega, acc ++ [c], fun j => S j || decide (j = c), ys', μ4, ι6, ?_, fun k => ?_, ?_, r7, (le2.trans s6.le).trans l7, k5, by rw [hall]; simp⟩
    · rw [upd_same, ssort_snoc]
      by_cases e : c ∈ acc
      · rw [if_pos e, if_pos ((hS c).mpr e)]
      · rw [if_neg e, if_neg fun z => e ((hS c).mp z)]
    · rw [Bool.or_eq_true, hS, decide_eq_true_eq, List.mem_append, List.mem_singleton]
    · have s7 := st2.trans s6
      refine ⟨s7.pre, fun b ob h k => ?_, s7.new, fun b o u h => by rw [upd_ne (ne_of_none h hD)]; exact s7.frz b o u h⟩
      have nb : b ≠ D := ne_of_none h hD
      rw [upd_ne nb]
      exact s7.keep b ob h k
  · refine .inl ⟨j1 i (by omega), ?_⟩
    rw [List.drop_eq_nil_of_le (by omega)] at hrun
    unfold lcN at hrun
    obtain ⟨rfl, rfl⟩ := inv_pure hrun
    rw [List.append_nil] at hall
    have e : ns = acc := by
      have := congrArg iVs hall
      have hi : ∀ l : List Int, iVs (l.map Pv.int) = some l := fun l => by
        induction l with
        | nil => rfl
        | cons x l ih => rw [List.map_cons]; unfold iVs; rw [ih]; rfl
      rw [hi, hi] at this
      exact Option.some.inj this
    subst e
    exact hQ D S _ H' eD (q _ H' ι2 (st1.trans st2) ⟨rs2.less fun a h => .inl h, Rl.int⟩)
theorem ev_lenSc {ci : m (List Pv)} {ce : A → m Pv} {g : TG} {is : List Nat} {p p2 : Pos} (hc : X.calm = true) (hN : X.N.Nodup) (hi : Ei X ρ tg iter ci) (ok : BlkOk X.N X.env.scope scope own)
    (hg : ∀ s H C cl fp, Tg (blkX X scope s H C cl fp) tg g is un up) (he : ∀ s H C cl fp a, Ev (blkX X scope s H C cl fp) (up (wipeR ρ (own.map (·.2))) a) elt (ce a))
    (hv : noMl ρ (own.map (·.2))) (his : ∀ j ∈ is, j ∈ own.map (·.2)) (hw : ∀ a, wipeR (up (wipeR ρ (own.map (·.2))) a) (own.map (·.2)) = wipeR ρ (own.map (·.2))) (hn : ∀ a, noMl (up (wipeR ρ (own.map (·.2))) a) (own.map (·.2)))
    (hm : X.mg "len" = none) (hgl : Gl X "len" := by rfl) (hs : ∀ x, foldedSetIterable iter X.env x = pure x := by intro _; rfl)
    (hst : starEach [Expr.SetComp elt [⟨tg, iter, [], 0⟩] scope pos] X.env = (false, eval (.SetComp elt [⟨tg, iter, [], 0⟩] scope pos) X.env) :: starEach [] X.env := by rfl) : Ev X ρ (.Call (.Name "len" p) [.SetComp elt [⟨tg, iter, [], 0⟩] scope pos] [] p2) (scM ci un ce) := by
  refine PE.imp (pe_callB call_lenO hgl hm PySem.boot_len (pa_cons (pe_scI (g := g) (te := fun σ H Q => ∃ a, tG X.K (up (wipeR ρ (own.map fun p => p.2)) a) (RV X.K (up (wipeR ρ (own.map fun p => p.2)) a)) (ce a) σ H Q) hc hN hi ok (fun s H C cl fp => (hg s H C cl fp).pg) (fun s H C cl fp => PE_exv (he s H C cl fp)) hs) pa_nil hst) (by decide) (by decide) hst rfl) fun σ H Q q => ?_
  exact tSc_of (X := X) (Q' := fun x H1 => ∃ a S n, [x] = [V.ref a] ∧ H1 a = some (SetO X.w a S n) ∧ Q (.int n) H1) hv (hg X.s_0 (fun _ => none) 0 [] []).ok his hw hn (fun D S n H' hD q => ⟨D, S, n, rfl, hD, q⟩) q
end
end Q
/-! LYN: x = rows.pop(); the keys of a dict with tuple keys, as a list. -/
namespace Q
open PySem PySem.Spec PyProof.Rows L2
section
variable {X : Cx} {ρ : List SV} {m : Type → Type} [Monad m] [Eff m] {e : Expr} {pos pos' : Pos} {i j : Nat} {y : Str} {l : List Pv}
def popV (l : List Pv) : Option (List Pv × Pv) := match l[l.length - 1]? with
  | none => none
  | some v => some (l.dropLast, v)
theorem es_popV (h : ρ[i]? = some (.ml l)) (hp : PE X e (tBM0 X.K "list" rPop (tVar i))) (hN : X.N.Nodup) (hi : X.N[j]? = some y := by rfl) (hx : Loc X.env.scope y := by first | exact Or.inl rfl | exact Or.inr rfl) (hs : swapsWith e (some (.Name y pos')) pos.line X.env = pure false := by rfl)
    (hf : X.fn y = true ∨ X.env.scope.names.lookup y = some .local := by first | exact .inl rfl | exact .inr rfl | assumption) :
    Es X ρ (.Assign [.Name y pos'] e pos) (Eff.lift (popV l) : m (List Pv × Pv)) fun u => .nx ((ρ.set i (.ml u.1)).set j (.val u.2)) :=
  PS.imp (ps_set hN hi hx hp hs hf) fun D σ H q => by
    obtain ⟨G, ι, μ, o, μ', rs, hr, q⟩ := q
    obtain ⟨h5, rfl⟩ := inv_lift hr
    unfold popV at h5
    cases e1 : l[l.length - 1]? with
    | none => rw [e1] at h5; cases h5
    | some v =>
      rw [e1] at h5
      cases h5
      obtain ⟨a, vs, eσ, ow, ha, hl⟩ := rs.slotM h
      obtain ⟨x, hx1, hx2⟩ := hl.get e1
      have hx1 : vs[vs.length - 1]? = some x := by rw [← hl.length]; exact hx1
      refine ⟨.ref a, eσ, .inl ⟨rfl, _, .of ha⟩, a, vs, x, rfl, rfl, ha, hx1, ?_⟩
      have st := (Step.refl (ι := ι) (M := Mx ι ρ σ) (H := H)).updMl (l' := l.dropLast) (o := .lst vs.dropLast) h eσ (nfL ha)
      have r2 := rs.updMl h eσ hl.dropLast
      have hx3 := hx2.mono (st.le (K := X.K) (G := G))
      exact q _ _ ι st.set (r2.setVal hx3)
end
def kP : Key → Pv
  | .inl i => .int i
  | .inr s => .str s
theorem Rl.key {W : Wd} : ∀ k : Key, Rl W (kP k) (kV k)
  | .inl _ => by unfold kP kV Rl; rfl
  | .inr _ => by unfold kP kV Rl; rfl
theorem Rls.keys {W : Wd} : ∀ k : List Key, Rls W (k.map kP) (k.map kV)
  | [] => Rls.nil
  | a :: k => by rw [List.map_cons, List.map_cons]; exact .cons (Rl.key a) (Rls.keys k)
/-- a dict's keys -/
def dKeysT (d : Pv) : M (List Pv) := fun μ => (dtAt μ d).bind fun p => if p.2.length ≤ LIM then some (p.2.map fun kv => .tup (kv.1.map kP), μ) else none
section
variable {K : PySem.W.Frag} {G : Addr → Prop} {ι : List Addr} {μ : List MO} {ρ : List SV} {σ : L2.St} {H : Hp}
theorem RS.tupfree (r : RS K G ι μ ρ σ H) {q : Addr} {vs : List V} (h : H q = some (.tup vs)) : ¬ (wd K G ι ρ σ H).B q := fun z => by
  rcases z with z | z | ⟨i, z⟩
  · obtain ⟨o, h1, nt⟩ := (r.g q z).1
    rw [h] at h1
    cases h1
    exact nt vs rfl
  · obtain ⟨n, e⟩ := List.mem_iff_getElem?.mp z
    have hn : n < μ.length := by rw [← r.lm]; exact (List.getElem?_eq_some_iff.mp e).1
    obtain ⟨b, e2, w⟩ := r.st n _ (List.getElem?_eq_getElem hn)
    rw [e] at e2
    cases e2
    revert w
    cases μ[n] with
    | dk kvs => rintro ⟨_, w, _⟩; exact absurd (h.symm.trans w) (by intro z; cases z)
    | ls l => rintro ⟨_, w, _⟩; exact absurd (h.symm.trans w) (by intro z; cases z)
    | dt kvs => rintro ⟨_, w, _⟩; exact absurd (h.symm.trans w) (by intro z; cases z)
    | fk kvs => rintro ⟨_, _, w, _⟩; exact absurd (h.symm.trans w) (by intro z; cases z)
  · obtain ⟨l, vs', _, w, _⟩ := r.own_lst z
    exact absurd (h.symm.trans w) (by intro z; cases z)
theorem trel_keys {W : Wd} : ∀ {kvs : List (List Key × Pv)} {vs : List (List Key × V)}, TRel W kvs vs → vs.map (·.1) = kvs.map (·.1)
  | _, _, .nil => rfl
  | _, _, .cons r t => by rw [List.map_cons, List.map_cons, trel_keys t, r.1]
end
section
variable {X : Cx} {ρ : List SV} {scope : Scope} {own : List (Str × Nat)} {i k : Nat} {x y : Str} {px py py2 pos : Pos} {d : Pv}
theorem en_keysT (hc : X.calm = true) (hN : X.N.Nodup) (hd : ρ[i]? = some (.val d)) (hpx : PE X (.Name x px) (tVar i)) (ok : BlkOk X.N X.env.scope scope own)
    (hg : ∀ s H C cl fp, PG (blkX X scope s H C cl fp) (.Name y py) (gName k)) (he : ∀ s H C cl fp, PE (blkX X scope s H C cl fp) (.Name y py2) (tVar k)) (hk : ∀ p ∈ own, p.2 = k) (hk2 : own ≠ []) (hkl : k < ρ.length)
    (hs2 : ∀ z, foldedSetIterable (.Name x px) X.env z = pure z := by intro _; rfl) : En X ρ (.ListComp (.Name y py2) [⟨.Name y py, .Name x px, [], 0⟩] scope pos) (dKeysT d) := by
  refine PE.imp (pe_lock (pe_lc (g := gName k) (tt := tYes) (te := tVar k) hc hN (pi_keys hpx) ok hg (fun _ _ _ _ _ => pts_nil) he hs2)) fun σ H Q q => ?_
  obtain ⟨G, ι, μ, o, μ', rs, hr, q⟩ := q
  have hr : ((dtAt μ d).bind fun p => if p.2.length ≤ LIM then some (p.2.map fun kv => Pv.tup (kv.1.map kP), μ) else none) = some (o, μ') := hr
  cases e1 : dtAt μ d with
  | none => rw [e1] at hr; cases hr
  | some pk =>
    obtain ⟨n, kvs⟩ := pk
    rw [e1, Option.bind_some] at hr
    split at hr
    · rename_i hz
      cases hr
      obtain ⟨xv, hx1, hx2⟩ := rs.slot hd
      obtain ⟨a, vs, rfl, hι, hH, hT⟩ := rs.dt e1 hx2
      have hkeys := trel_keys hT
      refine ⟨a, .dT vs, hH, True.intro, fun od => ?_⟩
      refine ⟨_, hx1, a, od, rfl, .inr ⟨vs, upd_same, fun D hD => ?_⟩⟩
      have hDa : D ≠ a := fun z => by rw [z, upd_same] at hD; cases hD
      have hD0 : H D = none := by rw [upd_ne hDa] at hD; exact hD
      refine ⟨fun j t H' => t = vs.length - j ∧ j ≤ vs.length ∧ ∃ accV : List V, H' = upd (upd H a (.frz od (.dT vs))) D (.lst accV) ∧ accV.length = j ∧ Rls (wd X.K G ι ρ σ H) ((vs.take j).map fun kv => .tup (kv.1.map kP)) accV, ⟨vs.length, by simp, Nat.zero_le _, [], rfl, rfl, Rls.nil⟩, ?_⟩
      rintro j t H' ⟨rfl, hj, accV, rfl, hl, hR⟩
      have gd : upd (upd H a (.frz od (.dT vs))) D (.lst accV) a = some (.frz od (.dT vs)) := by rw [upd_ne (fun z => hDa z.symm), upd_same]
      by_cases hlt : j < vs.length
      · refine .inr ⟨⟨gd, hlt⟩, fun H3 => ∃ accV : List V, H3 = upd (upd H a (.frz od (.dT vs))) D (.lst accV) ∧ accV.length = j + 1 ∧ Rls (wd X.K G ι ρ σ H) ((vs.take (j + 1)).map fun kv => .tup (kv.1.map kP)) accV, fun H3 h => ⟨vs.length - (j + 1), by omega, rfl, hlt, h⟩, ?_⟩
        rintro xk H3 ⟨rfl, key, v, p, hkv, rfl, hp⟩
        have hw : wipe ((wipe σ (own.map (·.2))).set k (some (.ref p))) (own.map (·.2)) = wipe σ (own.map (·.2)) := by
          refine (wipe_eq (σ := wipe σ (own.map (·.2))) (σ' := (wipe σ (own.map (·.2))).set k (some (.ref p))) (List.length_set ..) fun z hz => ?_).trans (wipe_wipe σ _)
          refine List.getElem?_set_ne fun e => hz ?_
          obtain ⟨w, hw⟩ := List.exists_mem_of_ne_nil own hk2
          exact List.mem_map.mpr ⟨w, hw, (hk w hw).trans e⟩
        refine ⟨hw, ?_⟩
        unfold tYes
        dsimp only
        rw [if_pos rfl]
        have hkl' : k < (wipe σ (own.map (·.2))).length := by rw [wipe_length, ← rs.len]; exact hkl
        refine ⟨.ref p, by rw [List.getElem?_set_self hkl'], accV, upd_same, ?_, accV ++ [.ref p], ?_, by rw [List.length_append, hl]; rfl, ?_⟩
        · have := lim_le (show kvs.length ≤ LIM from hz)
          have e2 := congrArg List.length hkeys
          rw [List.length_map, List.length_map] at e2
          omega
        · funext b
          by_cases hb : b = D
          · subst hb; rw [upd_same, upd_same]
          · rw [upd_ne hb, upd_ne hb, upd_ne hb]
        · rw [show vs.take (j + 1) = vs.take j ++ [(key, v)] by rw [List.take_add_one, hkv]; rfl, List.map_append]
          refine hR.append (.cons ?_ .nil)
          have hpD : p ≠ D := fun z => by rw [z, upd_same] at hp; cases hp
          have hpa : p ≠ a := fun z => by rw [z, gd] at hp; cases hp
          rw [upd_ne hpD, upd_ne hpa] at hp
          unfold Rl
          exact ⟨p, _, rfl, ⟨hp, rs.tupfree hp⟩, Rls.keys key⟩
      · refine .inl ⟨⟨gd, by omega⟩, gd, ?_⟩
        have ej : j = vs.length := by omega
        rw [ej, List.take_length] at hR
        have eH : upd (upd (upd H a (.frz od (.dT vs))) D (.lst accV)) a (.dT vs) = upd H D (.lst accV) := by
          funext b
          by_cases hb : b = a
          · subst hb; rw [upd_same, upd_ne (fun z => hDa z.symm), hH]
          · rw [upd_ne hb]
            by_cases hb2 : b = D
            · subst hb2; rw [upd_same, upd_same]
            · rw [upd_ne hb2, upd_ne hb2, upd_ne hb]
        rw [eH]
        have e3 : (vs.map fun kv => Pv.tup (kv.1.map kP)) = kvs.map fun kv => Pv.tup (kv.1.map kP) := by
          have := congrArg (List.map fun k : List Key => Pv.tup (k.map kP)) hkeys
          rw [List.map_map, List.map_map] at this
          exact this
        rw [e3] at hR
        exact q (.ref D) _ ι (Step.same (same_upd hD0) fun _ h => h) (rs.newLst hD0 hR)
    · cases hr
end
end Q
/-! LYO: [.. for x in d.values()], d a dict of the store, locked while it is walked. -/
namespace Q
open PySem PySem.Spec PyProof.Rows L2
def lkAt (μ : List MO) (n : Nat) : Option (List (Key × Pv)) := match μ[n]? with
  | some (.fk kvs) => some kvs
  | _ => none
theorem lkAt_inv {μ : List MO} {n : Nat} {kvs : List (Key × Pv)} (h : lkAt μ n = some kvs) : μ[n]? = some (.fk kvs) := by
  unfold lkAt at h
  split at h
  · rename_i k e
    cases h
    exact e
  · cases h
section
variable {A : Type}
def lcD (d : Pv) (un : Pv → Option A) (ce : A → M Pv) : M (List Pv) := fun μ => (dkAt μ d).bind fun p => if p.2.length ≤ LIM then (lcN un ce (p.2.map (·.2)) (μ.set p.1 (.fk p.2))).bind fun r => (lkAt r.2 p.1).map fun kvs => (r.1, r.2.set p.1 (.dk kvs)) else none
end
section
variable {K : PySem.W.Frag} {G : Addr → Prop} {ι : List Addr} {μ : List MO} {ρ : List SV} {σ : L2.St} {H : Hp}
/-- an object of the store is exchanged -/
theorem Le.updS {n : Nat} {a : Addr} {o : HO} (h : ι[n]? = some a) : Le (wd K G ι ρ σ H) (wd K G ι ρ σ (upd H a o)) := ⟨rfl, fun _ _ h => h, fun b u hb k => by
  have nb : b ≠ a := fun z => k (.inr (.inl (z ▸ List.mem_of_getElem? h)))
  exact ⟨by show upd H a o b = _; rw [upd_ne nb]; exact hb, k⟩⟩
end
theorem kr_get {W : Wd} : ∀ {kvs : List (Key × Pv)} {vs : List (Key × V)} {i : Nat} {k : Key} {x : V}, KRel W kvs vs → vs[i]? = some (k, x) → ∃ kv0, kvs[i]? = some kv0 ∧ Rl W kv0.2 x
  | _, _, i, _, _, .nil, h => by simp at h
  | p :: kvs, q :: vs, 0, k, x, .cons r t, h => by
    have h : q = (k, x) := Option.some.inj (by simpa using h)
    subst h
    exact ⟨p, rfl, r.2⟩
  | p :: kvs, q :: vs, i + 1, k, x, .cons r t, h => by
    obtain ⟨kv0, g1, g2⟩ := kr_get (i := i) (k := k) (x := x) t (by simpa using h)
    exact ⟨kv0, by simpa using g1, g2⟩
section
variable {X : Cx} {ρ : List SV} {A : Type} {elt tg : Expr} {scope : Scope} {own : List (Str × Nat)} {pos : Pos} {un : Pv → Option A} {up : List SV → A → List SV}
theorem tLcD_of {d : Pv} {i0 : Nat} {ce : A → M Pv} {g : TG} {is vs : List Nat} (hd : ρ[i0]? = some (.val d)) (hv : noMl ρ vs)
    (hk : ∀ G ι μ ρ σ H x v a Q, RS X.K G ι μ ρ σ H → Rl (wd X.K G ι ρ σ H) v x → un v = some a → (∀ σ', RS X.K G ι μ (up ρ a) σ' H → (∀ b, Mx ι (up ρ a) σ' b → Mx ι ρ σ b) → (∀ j, j ∉ is → σ'[j]? = σ[j]?) → Q σ' H) → g x σ H Q)
    (his : ∀ j ∈ is, j ∈ vs) (hw : ∀ a, wipeR (up (wipeR ρ vs) a) vs = wipeR ρ vs) (hn : ∀ a, noMl (up (wipeR ρ vs) a) vs) {σ : L2.St} {H : Hp} {Q : VK} (q : tG X.K ρ (RN X.K ρ) (lcD d un ce) σ H Q) :
    tLockE (tLc (iVals (tVar i0)) g tYes (fun σ H Q => ∃ a, tG X.K (up (wipeR ρ vs) a) (RV X.K (up (wipeR ρ vs) a)) (ce a) σ H Q) vs) σ H Q := by
  obtain ⟨G, ι, μ, o, μ', rs, hr, q⟩ := q
  have hr : ((dkAt μ d).bind fun p => if p.2.length ≤ LIM then (lcN un ce (p.2.map (·.2)) (μ.set p.1 (.fk p.2))).bind fun r => (lkAt r.2 p.1).map fun kvs => (r.1, r.2.set p.1 (MO.dk kvs)) else none) = some (o, μ') := hr
  cases e1 : dkAt μ d with
  | none => rw [e1] at hr; cases hr
  | some pk =>
    obtain ⟨n, kvs⟩ := pk
    rw [e1, Option.bind_some] at hr
    split at hr
    case isFalse => cases hr
    rename_i hz
    have hz : kvs.length ≤ LIM := hz
    cases e2 : lcN un ce (kvs.map (·.2)) (μ.set n (.fk kvs)) with
    | none => rw [e2] at hr; cases hr
    | some pr =>
      obtain ⟨ysA, μF⟩ := pr
      rw [e2, Option.bind_some] at hr
      cases e3 : lkAt μF n with
      | none => simp only [e3] at hr; cases hr
      | some kvs' =>
        simp only [e3] at hr
        cases hr
        obtain ⟨xv, hx1, hx2⟩ := rs.slot hd
        obtain ⟨a, vsV, rfl, hι, hH, kr⟩ := rs.dk e1 hx2
        have hlen : vsV.length = kvs.length := kr.len.symm
        refine ⟨a, .dK vsV, hH, True.intro, fun od => ?_⟩
        have rsL := rs.updS (o := .frz od (.dK vsV)) (mo := .fk kvs) hι fun W hW hH' => ⟨od, vsV, hH', kr.mono hW⟩
        have krL : KRel (wd X.K G ι ρ σ (upd H a (.frz od (.dK vsV)))) kvs vsV := kr.mono (Le.updS hι)
        have hLa : upd H a (.frz od (.dK vsV)) a = some (.frz od (.dK vsV)) := upd_same
        have hLb : ∀ b, b ≠ a → upd H a (.frz od (.dK vsV)) b = H b := fun b hb => upd_ne hb
        generalize upd H a (.frz od (.dK vsV)) = HL at rsL krL hLa hLb ⊢
        refine ⟨_, hx1, a, od, vsV, rfl, hLa, fun D hD => ?_⟩
        have hDa : D ≠ a := fun z => by rw [z, hLa] at hD; cases hD
        have h0 : H D = none := by rw [← hLb D hDa]; exact hD
        have rsD := rsL.alloc (u := .lst []) hD
        have stD : Step ι (Mx ι ρ σ) HL ι (Mx ι ρ σ) (upd HL D (.lst [])) := Step.same (same_upd hD) fun _ h => h
        refine ⟨fun i k H' => k = vsV.length - i ∧ i ≤ vsV.length ∧ ∃ (acc : List Pv) (accV : List V) (ys : List Pv) (μ2 : List MO) (ι2 : List Addr), H' D = some (.lst accV) ∧ Step ι (Mx ι ρ σ) HL ι2 (Mx ι2 ρ σ) H' ∧ RS X.K (fun b => G b ∨ b = D) ι2 μ2 ρ σ H' ∧
            Le (wd X.K (fun b => G b ∨ b = D) ι ρ σ (upd HL D (.lst []))) (wd X.K (fun b => G b ∨ b = D) ι2 ρ σ H') ∧ Rls (wd X.K (fun b => G b ∨ b = D) ι2 ρ σ H') acc accV ∧ acc.length ≤ i ∧ Eff.run (lcN un ce ((kvs.map (·.2)).drop i)) μ2 = some (ys, μF) ∧ o = acc ++ ys,
          ⟨vsV.length, by simp, Nat.zero_le _, [], [], o, _, ι, upd_same, stD, rsD, Le.refl _, Rls.nil, Nat.zero_le _, by rw [List.drop_zero]; exact e2, rfl⟩, ?_⟩
        rintro i k H' ⟨rfl, hi, acc, accV, ys, μ2, ι2, eD, st2, rs2, le2, ra, hacc, hrun, ho⟩
        have hFa := st2.frz a _ _ hLa
        by_cases hlt : i < vsV.length
        · have hltk : i < kvs.length := by omega
          have hltm : i < (kvs.map (·.2)).length := by rw [List.length_map]; exact hltk
          rw [List.drop_eq_getElem_cons hltm] at hrun
          unfold lcN at hrun
          obtain ⟨a1, μ3, k1, k2⟩ := inv_bind hrun
          obtain ⟨hun, rfl⟩ := inv_lift k1
          obtain ⟨y, μ4, k3, k4⟩ := inv_bind k2
          obtain ⟨ys', μ5, k5, k6⟩ := inv_bind k4
          obtain ⟨rfl, rfl⟩ := inv_pure k6
          refine .inr ⟨⟨hFa, hlt⟩, fun H3 => ∃ (acc : List Pv) (accV : List V) (ys : List Pv) (μ5 : List MO) (ι3 : List Addr), H3 D = some (.lst accV) ∧ Step ι (Mx ι ρ σ) HL ι3 (Mx ι3 ρ σ) H3 ∧ RS X.K (fun b => G b ∨ b = D) ι3 μ5 ρ σ H3 ∧
            Le (wd X.K (fun b => G b ∨ b = D) ι ρ σ (upd HL D (.lst []))) (wd X.K (fun b => G b ∨ b = D) ι3 ρ σ H3) ∧ Rls (wd X.K (fun b => G b ∨ b = D) ι3 ρ σ H3) acc accV ∧ acc.length ≤ i + 1 ∧ Eff.run (lcN un ce ((kvs.map (·.2)).drop (i + 1))) μ5 = some (ys, _) ∧ o = acc ++ ys, fun H3 h => ⟨vsV.length - (i + 1), by omega, rfl, hlt, h⟩, ?_⟩
          rintro x H3 ⟨rfl, key, hkx⟩
          have rx : Rl (wd X.K (fun b => G b ∨ b = D) ι2 ρ σ H3) ((kvs.map (·.2))[i]) x := by
            obtain ⟨kv0, g1, g2⟩ := kr_get krL hkx
            rw [List.getElem_map]
            have : kvs[i] = kv0 := by
              have := List.getElem?_eq_getElem hltk
              rw [this] at g1
              exact Option.some.inj g1
            rw [this]
            exact (g2.mono (Le.alloc (u := .lst []) hD)).mono le2
          refine hk _ ι2 _ (wipeR ρ vs) (wipe σ vs) H3 x _ a1 _ (rs2.wiped hv) (rx.mono (wipe_le hv)) hun fun σ4 rs4 hm hσ => ?_
          have hl4 : σ4.length = (wipe σ vs).length := by
            rw [← rs4.len, wipe_length, ← rs.len]
            have := congrArg List.length (hw a1)
            rw [wipeR_length, wipeR_length] at this
            exact this
          have hwp : wipe σ4 vs = wipe σ vs := by rw [wipe_eq hl4 fun j hj => hσ j fun z => hj (his j z), wipe_wipe]
          refine ⟨hwp, ?_⟩
          unfold tYes
          dsimp only
          rw [if_pos rfl]
          have back : ∀ {ι5 μ5 H5}, Step ι2 (Mx ι2 (up (wipeR ρ vs) a1) σ4) H3 ι5 (Mx ι5 (up (wipeR ρ vs) a1) σ4) H5 → RS X.K (fun b => G b ∨ b = D) ι5 μ5 (up (wipeR ρ vs) a1) σ4 H5 →
              Step ι2 (Mx ι2 ρ σ) H3 ι5 (Mx ι5 ρ σ) H5 ∧ RS X.K (fun b => G b ∨ b = D) ι5 μ5 ρ σ H5 ∧ Le (wd X.K (fun b => G b ∨ b = D) ι5 (up (wipeR ρ vs) a1) σ4 H5) (wd X.K (fun b => G b ∨ b = D) ι5 ρ σ H5) := fun {ι5 μ5 H5} st rs5 => by
            have mx1 : ∀ ι b, Mx ι ρ σ b ↔ Mx ι (up (wipeR ρ vs) a1) σ4 b := fun ι b => by
              rw [← wipe_mx (ρ := up (wipeR ρ vs) a1) (hn a1), hw a1, hwp, wipe_mx hv]
            have s1 : Step ι2 (Mx ι2 ρ σ) H3 ι5 (Mx ι5 ρ σ) H5 := by
              refine ⟨st.pre, fun b ob h k => st.keep b ob h fun z => k ((mx1 _ _).mpr z), fun b h => ?_, st.frz⟩
              rcases st.new b ((mx1 _ _).mp h) with z | z
              · exact .inl ((mx1 _ _).mpr z)
              · exact .inr z
            have r1 := RS.wiped (hn a1) rs5
            rw [hw a1, hwp] at r1
            exact ⟨s1, RS.unwipe hv rs2 s1 r1, ⟨rfl, fun _ _ h => h, fun b o h k => ⟨h, fun z => k (Or.imp (fun q => q) (mx1 _ _).mp z)⟩⟩⟩
          have keepD : ∀ {ι5 H5}, Step ι2 (Mx ι2 ρ σ) H3 ι5 (Mx ι5 ρ σ) H5 → H5 D = some (.lst accV) := fun {ι5 H5} st => st.keep D _ eD fun z => by
            rcases z with z | ⟨j, z⟩
            · exact (rs2.g D (.inr rfl)).2 z
            · exact (rs2.ni j D z).2 (.inr rfl)
          refine ⟨a1, _, ι2, _, y, μ4, rs4, k3, fun yV H6 ι6 st6 z6 => ?_⟩
          obtain ⟨s6, r6, l6⟩ := back st6 z6.1
          have ra6 := ra.mono (s6.le (K := X.K) (G := fun b => G b ∨ b = D))
          obtain ⟨r7, l7⟩ := r6.updG (p := D) (ys := accV ++ [yV]) (.inr rfl) (keepD s6)
          refine ⟨accV, keepD s6, ?_, acc ++ [y], accV ++ [yV], ys', μ4, ι6, upd_same, ?_, r7, (le2.trans s6.le).trans l7, (ra6.append (.cons (z6.2.mono l6) .nil)).mono l7, by rw [List.length_append]; simp; omega, k5, by rw [ho]; simp⟩
          · rw [← ra.length]
            have := lim_le hz
            omega
          · have s7 := st2.trans s6
            refine ⟨s7.pre, fun b ob h k => ?_, s7.new, fun b o u h => by rw [upd_ne (ne_of_none h hD)]; exact s7.frz b o u h⟩
            have nb : b ≠ D := ne_of_none h hD
            rw [upd_ne nb]
            exact s7.keep b ob h k
        · refine .inl ⟨⟨hFa, by omega⟩, hFa, ?_⟩
          rw [List.drop_eq_nil_of_le (by rw [List.length_map]; omega)] at hrun
          unfold lcN at hrun
          obtain ⟨rfl, rfl⟩ := inv_pure hrun
          rw [List.append_nil] at ho
          subst ho
          have hι2 := st2.pre n a hι
          obtain ⟨a', g1, g2⟩ := rs2.st n _ (lkAt_inv e3)
          rw [hι2] at g1
          cases g1
          obtain ⟨o', vs', g3, g4⟩ := g2
          have g3 : H' a = some (.frz o' (.dK vs')) := g3
          rw [hFa] at g3
          cases g3
          have rsU := rs2.updS (o := .dK vsV) (mo := .dk kvs') hι2 fun W hW hH' => ⟨vsV, hH', g4.mono hW⟩
          have aι : a ∈ ι := List.mem_of_getElem? hι
          refine q (.ref D) _ ι2 ⟨st2.pre, fun b ob h k => ?_, fun b h => ?_, fun b ob u h => ?_⟩ ⟨D, accV, rfl, h0, fun z => ?_, by rw [upd_ne hDa]; exact eD, rsU, ra.mono (Le.updS hι2)⟩
          · have nb : b ≠ a := fun z => k (.inl (z ▸ aι))
            rw [upd_ne nb]
            exact st2.keep b ob (by rw [hLb b nb]; exact h) k
          · rcases st2.new b h with z | z
            · exact .inl z
            · right
              have nb : b ≠ a := fun e => by rw [e, hLa] at z; cases z
              rw [← hLb b nb]; exact z
          · have nb : b ≠ a := fun z => by rw [z, hH] at h; cases h
            rw [upd_ne nb]
            exact st2.frz b ob u (by rw [hLb b nb]; exact h)
          · obtain ⟨ob, e, _⟩ := (rs.g D z).1
            rw [h0] at e; cases e
theorem en_lcD {i : Nat} {x : Str} {px apos cpos : Pos} {d : Pv} {ce : A → M Pv} {g : TG} {is : List Nat} (hc : X.calm = true) (hN : X.N.Nodup) (hd : ρ[i]? = some (.val d)) (hpx : PE X (.Name x px) (tVar i)) (ok : BlkOk X.N X.env.scope scope own)
    (hg : ∀ s H C cl fp, Tg (blkX X scope s H C cl fp) tg g is un up) (he : ∀ s H C cl fp a, Ev (blkX X scope s H C cl fp) (up (wipeR ρ (own.map (·.2))) a) elt (ce a))
    (hv : noMl ρ (own.map (·.2))) (his : ∀ j ∈ is, j ∈ own.map (·.2)) (hw : ∀ a, wipeR (up (wipeR ρ (own.map (·.2))) a) (own.map (·.2)) = wipeR ρ (own.map (·.2))) (hn : ∀ a, noMl (up (wipeR ρ (own.map (·.2))) a) (own.map (·.2)))
    (hbase : attributeBase (.Name x px) "values" X.env (eval (.Name x px) X.env) = eval (.Name x px) X.env := by rfl) (hline : (apos.endLine == cpos.line) = true := by rfl)
    (hs : ∀ z, foldedSetIterable (.Call (.Attribute (.Name x px) "values" apos) [] [] cpos) X.env z = pure z := by intro _; rfl) : En X ρ (.ListComp elt [⟨tg, .Call (.Attribute (.Name x px) "values" apos) [] [] cpos, [], 0⟩] scope pos) (lcD d un ce) := by
  refine PE.imp (pe_lock (pe_lc (g := g) (tt := tYes) (te := fun σ H Q => ∃ a, tG X.K (up (wipeR ρ (own.map fun p => p.2)) a) (RV X.K (up (wipeR ρ (own.map fun p => p.2)) a)) (ce a) σ H Q) hc hN (pi_values hpx hbase hline) ok (fun s H C cl fp => (hg s H C cl fp).pg) (fun _ _ _ _ _ => pts_nil) (fun s H C cl fp => PE_exv (he s H C cl fp)) hs)) fun σ H Q q => ?_
  exact tLcD_of hd hv (hg X.s_0 (fun _ => none) 0 [] []).ok his hw hn q
end
end Q
/-! MA: reckoning with the mirrors. -/
namespace Q
open PySem PySem.Spec PyProof.Rows L2

/-! ### monads -/
@[simp] theorem lift_opt {α : Type} (x : Option α) : (Eff.lift (m := Option) x) = x := rfl
@[simp] theorem run_opt {α : Type} (x : Option α) (μ : List MO) : Eff.run (m := Option) x μ = x.map fun a => (a, μ) := rfl
@[simp] theorem lift_M_some {α : Type} (v : α) : (Eff.lift (some v) : M α) = pure v := rfl
@[simp] theorem run_M {α : Type} (x : M α) (μ : List MO) : Eff.run x μ = x μ := rfl
theorem lift_M_app {α : Type} (x : Option α) (μ : List MO) : (Eff.lift x : M α) μ = x.map fun a => (a, μ) := rfl
theorem M_bind {α β : Type} (x : M α) (f : α → M β) (μ : List MO) : (x >>= f) μ = (x μ).bind fun p => f p.1 p.2 := by
  show (StateT.bind x f) μ = _
  unfold StateT.bind
  cases x μ <;> rfl
theorem M_pure {α : Type} (v : α) (μ : List MO) : (pure v : M α) μ = some (v, μ) := rfl
section
variable {m : Type → Type} [Monad m] [Eff m] {S L L' : Type}
@[simp] theorem at_nx (s : S) {S' : Type} (k : S → m (Out S' L)) : (Out.nx s : Out S L).andThen k = k s := rfl
@[simp] theorem at_rt (v : Pv) {S' : Type} (k : S → m (Out S' L)) : (Out.rt v : Out S L).andThen k = pure (.rt v) := rfl
@[simp] theorem at_bk (l : L) {S' : Type} (k : S → m (Out S' L)) : (Out.bk l : Out S L).andThen k = pure (.bk l) := rfl
@[simp] theorem at_ct (l : L) {S' : Type} (k : S → m (Out S' L)) : (Out.ct l : Out S L).andThen k = pure (.ct l) := rfl
@[simp] theorem fin_rt (v : Pv) : (fin (.rt v) : m Pv) = pure v := rfl
@[simp] theorem fin_nx (u : Unit) : (fin (.nx u) : m Pv) = pure .non := rfl
@[simp] theorem outS_nx (s : S) : (outS (.nx s) : m S) = pure s := rfl
@[simp] theorem asB_bl (b : Bool) : asB (.bl b) = some b := rfl
@[simp] theorem asI_int (i : Int) : asI (.int i) = some (some i) := rfl
end

/-! ### tuples and lists of ints -/
def T (ns : List Int) : Pv := .tup (ns.map .int)
def L (ns : List Int) : Pv := .lst (ns.map .int)
@[simp] theorem items_T (ns : List Int) : items (T ns) = some (ns.map .int) := rfl
@[simp] theorem items_L (ns : List Int) : items (L ns) = some (ns.map .int) := rfl
@[simp] theorem pLen_T (ns : List Int) : pLen [T ns] = some (.int ns.length) := by simp [pLen, T]
@[simp] theorem pLen_L (ns : List Int) : pLen [L ns] = some (.int ns.length) := by simp [pLen, L]
@[simp] theorem pTuple_L (ns : List Int) : pTuple [L ns] = some (T ns) := rfl
@[simp] theorem pTuple_T (ns : List Int) : pTuple [T ns] = some (T ns) := rfl
@[simp] theorem pTuple_lst (l : List Pv) : pTuple [.lst l] = some (.tup l) := rfl
@[simp] theorem pLen_lst (l : List Pv) : pLen [.lst l] = some (.int l.length) := rfl
@[simp] theorem pLen_tup (l : List Pv) : pLen [.tup l] = some (.int l.length) := rfl
@[simp] theorem pList_T (ns : List Int) : pList [T ns] = some (ns.map .int) := rfl
@[simp] theorem pList_L (ns : List Int) : pList [L ns] = some (ns.map .int) := rfl
theorem atI_map {α β : Type} (f : α → β) (l : List α) (i : Int) : atI (l.map f) i = (atI l i).map f := by
  unfold L2.atI
  rw [List.length_map]
  cases ixN l.length i with
  | none => rfl
  | some j => show (l.map f)[j]? = _; rw [List.getElem?_map]; rfl
@[simp] theorem pIx_T (ns : List Int) (i : Int) : pIx (T ns) (.int i) = (atI ns i).map .int := atI_map _ _ _
@[simp] theorem pIx_L (ns : List Int) (i : Int) : pIx (L ns) (.int i) = (atI ns i).map .int := atI_map _ _ _
@[simp] theorem pIx_tup (l : List Pv) (i : Int) : pIx (.tup l) (.int i) = atI l i := rfl
@[simp] theorem pIx_lst (l : List Pv) (i : Int) : pIx (.lst l) (.int i) = atI l i := rfl
theorem atI_of {α : Type} {l : List α} {i : Int} {v : α} (h0 : 0 ≤ i) (h : l[i.toNat]? = some v) : atI l i = some v := by
  have := atI_nat h
  rwa [Int.toNat_of_nonneg h0] at this
theorem ixN_of {n : Nat} {i : Int} (h0 : 0 ≤ i) (h : i < n) : ixN n i = some i.toNat := by unfold L2.ixN; rw [if_pos h0, if_pos h]
def cut (ns : List Int) (lo hi : Option Int) : List Int := (ns.drop (HT.sIx ns.length 0 lo)).take (HT.sIx ns.length ns.length hi - HT.sIx ns.length 0 lo)
theorem cutP_map (ns : List Int) (lo hi : Option Int) : cutP (ns.map .int) lo hi = (cut ns lo hi).map .int := by
  unfold cutP cut
  rw [List.length_map, List.map_take, List.map_drop]
@[simp] theorem pSl_T (ns : List Int) (lo hi : Option Int) : pSl (T ns) lo hi = some (T (cut ns lo hi)) := by show some (Pv.tup (cutP (ns.map .int) lo hi)) = _; rw [cutP_map]; rfl
@[simp] theorem pSl_L (ns : List Int) (lo hi : Option Int) : pSl (L ns) lo hi = some (L (cut ns lo hi)) := by show some (Pv.lst (cutP (ns.map .int) lo hi)) = _; rw [cutP_map]; rfl
@[simp] theorem pSlN_L (ns : List Int) (lo hi : Option Int) : pSlN (L ns) lo hi = some ((cut ns lo hi).map .int) := by show some (cutP (ns.map .int) lo hi) = _; rw [cutP_map]
theorem cut_to (ns : List Int) (k : Nat) : cut ns none (some (k : Int)) = ns.take k := by
  unfold cut
  rw [HT.sIx_none, HT.sIx_nat, List.drop_zero, Nat.sub_zero]
  by_cases h : k ≤ ns.length
  · rw [Nat.min_eq_left h]
  · rw [Nat.min_eq_right (by omega), List.take_length, List.take_of_length_le (by omega)]
theorem cut_from (ns : List Int) (k : Nat) : cut ns (some (k : Int)) none = ns.drop k := by
  unfold cut
  rw [HT.sIx_none, HT.sIx_nat]
  by_cases h : k ≤ ns.length
  · rw [Nat.min_eq_left h, List.take_of_length_le (by rw [List.length_drop]; omega)]
  · rw [Nat.min_eq_right (by omega), List.drop_length, List.drop_eq_nil_of_le (by omega)]; simp
theorem cut_to' {ns : List Int} {i : Int} (h : 0 ≤ i) : cut ns none (some i) = ns.take i.toNat := by
  have := cut_to ns i.toNat
  rwa [Int.toNat_of_nonneg h] at this
theorem cut_from' {ns : List Int} {i : Int} (h : 0 ≤ i) : cut ns (some i) none = ns.drop i.toNat := by
  have := cut_from ns i.toNat
  rwa [Int.toNat_of_nonneg h] at this
@[simp] theorem pAdd_int (i j : Int) : pAdd (.int i) (.int j) = some (.int (i + j)) := rfl
@[simp] theorem pSub_int (i j : Int) : pSub (.int i) (.int j) = some (.int (i - j)) := rfl
@[simp] theorem pAddI_int (i j : Int) : pAddI (.int i) (.int j) = some (.int (i + j)) := rfl
@[simp] theorem pNeg_int (i : Int) : pNeg (.int i) = some (.int (-i)) := rfl
@[simp] theorem pAbs_int (i : Int) : pAbs [.int i] = some (.int (if i < 0 then -i else i)) := rfl
@[simp] theorem pInt_int (i : Int) : pInt [.int i] = some (.int i) := rfl
@[simp] theorem pCmp_int (f : Int → Int → Bool) (i j : Int) : pCmp f (.int i) (.int j) = some (.bl (f i j)) := rfl
theorem pMod_int {i j : Int} (h : 0 < j) : pMod (.int i) (.int j) = some (.int (i % j)) := by simp [pMod, h]
theorem pDiv_int {i j : Int} (h : 0 < j) (h2 : j.natAbs.log2 < 9000) : pDiv (.int i) (.int j) = some (.int (i / j)) := by simp [pDiv, h, h2]
theorem pMul_int {i j : Int} (h : mulOk i j = true) : pMul (.int i) (.int j) = some (.int (i * j)) := by simp [pMul, h]
theorem mulOk_l {i j : Int} (h : -18446744073709551616 < i) (h2 : i < 18446744073709551616) : mulOk i j = true := by
  unfold mulOk
  have : i.natAbs < 2 ^ 64 := by omega
  simp [this]
theorem mulOk_r {i j : Int} (h : -18446744073709551616 < j) (h2 : j < 18446744073709551616) : mulOk i j = true := by
  unfold mulOk
  have : j.natAbs < 2 ^ 64 := by omega
  simp [this]
theorem pAdd_T {a b : List Int} (h : a.length + b.length ≤ LIM) : pAdd (T a) (T b) = some (T (a ++ b)) := by
  simp [pAdd, T, h]
theorem pAdd_L {a b : List Int} (h : a.length + b.length ≤ LIM) : pAdd (L a) (L b) = some (L (a ++ b)) := by
  simp [pAdd, L, h]
theorem pCat_L {a b : List Int} (h : a.length + b.length ≤ LIM) : pCat (L a) (L b) = some ((a ++ b).map .int) := by
  simp [pCat, L, h]
theorem okN_ints (n : Nat) (ns : List Int) : (ns.map Pv.int).all (okN n) = true := by
  rw [List.all_map]
  exact List.all_eq_true.mpr fun x _ => by cases n <;> rfl
@[simp] theorem okE_T (ns : List Int) : okE (T ns) = true := okN_ints 59 ns
@[simp] theorem okE_L (ns : List Int) : okE (L ns) = true := okN_ints 59 ns
@[simp] theorem okE_int (i : Int) : okE (.int i) = true := rfl
@[simp] theorem okE_bl (i : Bool) : okE (.bl i) = true := rfl
@[simp] theorem okE_non : okE .non = true := rfl
theorem toDs_ints : ∀ a b : List Int, PyData.eqvAll (toDs (a.map .int)) (toDs (b.map .int)) = decide (a = b)
  | [], [] => by simp [toDs, PyData.eqvAll]
  | [], _ :: _ => by simp [toDs, PyData.eqvAll]
  | _ :: _, [] => by simp [toDs, PyData.eqvAll]
  | x :: a, y :: b => by
    have ih := toDs_ints a b
    simp only [List.map_cons, toDs, toD, PyData.eqvAll, PyData.eqv, ih]
    by_cases h : x = y
    · subst h; simp
    · simp [h]
@[simp] theorem peq_T (a b : List Int) : peq (T a) (T b) = decide (a = b) := by
  unfold peq T
  rw [toD_tup, toD_tup]
  unfold PyData.eqv
  exact toDs_ints a b
@[simp] theorem peq_L (a b : List Int) : peq (L a) (L b) = decide (a = b) := by
  unfold peq L
  rw [toD_lst, toD_lst]
  unfold PyData.eqv
  exact toDs_ints a b
@[simp] theorem peq_int (a b : Int) : peq (.int a) (.int b) = decide (a = b) := by
  unfold peq toD PyData.eqv
  by_cases h : a = b
  · subst h; simp
  · simp [h]
@[simp] theorem peq_bl (a b : Bool) : peq (.bl a) (.bl b) = decide (a = b) := by
  unfold peq toD PyData.eqv
  cases a <;> cases b <;> rfl
@[simp] theorem pEq_int (a b : Int) : pEq (.int a) (.int b) = some (.bl (decide (a = b))) := by simp [pEq]
@[simp] theorem pNe_int (a b : Int) : pNe (.int a) (.int b) = some (.bl (!decide (a = b))) := by simp [pNe]
@[simp] theorem pEq_bl (a b : Bool) : pEq (.bl a) (.bl b) = some (.bl (decide (a = b))) := by simp [pEq]
@[simp] theorem pNe_bl (a b : Bool) : pNe (.bl a) (.bl b) = some (.bl (!decide (a = b))) := by simp [pNe]
@[simp] theorem pEq_T (a b : List Int) : pEq (T a) (T b) = some (.bl (decide (a = b))) := by simp [pEq]
@[simp] theorem pNe_T (a b : List Int) : pNe (T a) (T b) = some (.bl (!decide (a = b))) := by simp [pNe]
@[simp] theorem pEq_L (a b : List Int) : pEq (L a) (L b) = some (.bl (decide (a = b))) := by simp [pEq]
@[simp] theorem pNe_L (a b : List Int) : pNe (L a) (L b) = some (.bl (!decide (a = b))) := by simp [pNe]
@[simp] theorem pTru_bl (b : Bool) : pTru (.bl b) = some b := rfl
@[simp] theorem pTru_L (ns : List Int) : pTru (L ns) = some (!ns.isEmpty) := by cases ns <;> rfl
@[simp] theorem pTru_T (ns : List Int) : pTru (T ns) = some (!ns.isEmpty) := by cases ns <;> rfl
@[simp] theorem pRevd_T (ns : List Int) : pRevd (T ns) = some (ns.reverse.map .int) := by simp [pRevd, T]
@[simp] theorem pRevd_L (ns : List Int) : pRevd (L ns) = some (ns.reverse.map .int) := by simp [pRevd, L]
theorem L_nil : Pv.lst [] = L [] := rfl
theorem lst_ints (ns : List Int) : Pv.lst (ns.map .int) = L ns := rfl
theorem tup_ints (ns : List Int) : Pv.tup (ns.map .int) = T ns := rfl
theorem pLim_ok {α : Type} {f : List Pv → α} {l : List Pv} (h : l.length ≤ LIM) : pLim f l = some (f l) := by simp [pLim, h]
@[simp] theorem pLim_0 {α : Type} {f : List Pv → α} : pLim f [] = some (f []) := pLim_ok (by show (0 : Nat) ≤ LIM; decide)
@[simp] theorem pLim_1 {α : Type} {f : List Pv → α} {a : Pv} : pLim f [a] = some (f [a]) := pLim_ok (by show (1 : Nat) ≤ LIM; decide)
@[simp] theorem pLim_2 {α : Type} {f : List Pv → α} {a b : Pv} : pLim f [a, b] = some (f [a, b]) := pLim_ok (by show (2 : Nat) ≤ LIM; decide)
@[simp] theorem pLim_3 {α : Type} {f : List Pv → α} {a b c : Pv} : pLim f [a, b, c] = some (f [a, b, c]) := pLim_ok (by show (3 : Nat) ≤ LIM; decide)
@[simp] theorem pLim_4 {α : Type} {f : List Pv → α} {a b c d : Pv} : pLim f [a, b, c, d] = some (f [a, b, c, d]) := pLim_ok (by show (4 : Nat) ≤ LIM; decide)
@[simp] theorem pLim_5 {α : Type} {f : List Pv → α} {a b c d e : Pv} : pLim f [a, b, c, d, e] = some (f [a, b, c, d, e]) := pLim_ok (by show (5 : Nat) ≤ LIM; decide)
@[simp] theorem pIsN_ (a : Pv) : pIsN a .non = some (.bl (decide (a = .non))) := by simp [pIsN]
@[simp] theorem pNotN_ (a : Pv) : pNotN a .non = some (.bl (!decide (a = .non))) := by simp [pNotN]
@[simp] theorem T_non (ns : List Int) : (T ns = .non) = False := by simp [T]
@[simp] theorem L_non (ns : List Int) : (L ns = .non) = False := by simp [L]
@[simp] theorem pIsi_T (n : String) (ns : List Int) : pIsi n (T ns) = some (.bl ("tuple" == n || ("tuple" == "bool" && n == "int"))) := rfl
@[simp] theorem pIsi_L (n : String) (ns : List Int) : pIsi n (L ns) = some (.bl ("list" == n || ("list" == "bool" && n == "int"))) := rfl
@[simp] theorem pIsi_tup (n : String) (ns : List Pv) : pIsi n (.tup ns) = some (.bl ("tuple" == n || ("tuple" == "bool" && n == "int"))) := rfl
@[simp] theorem pIsi_lst (n : String) (ns : List Pv) : pIsi n (.lst ns) = some (.bl ("list" == n || ("list" == "bool" && n == "int"))) := rfl
@[simp] theorem pIsi_int (n : String) (i : Int) : pIsi n (.int i) = some (.bl ("int" == n || ("int" == "bool" && n == "int"))) := rfl
@[simp] theorem pIsi_bl (n : String) (i : Bool) : pIsi n (.bl i) = some (.bl ("bool" == n || ("bool" == "bool" && n == "int"))) := rfl
@[simp] theorem pIsi_str (n : String) (i : Str) : pIsi n (.str i) = some (.bl ("str" == n || ("str" == "bool" && n == "int"))) := rfl
theorem peq_str (s t : Str) : peq (.str s) (.str t) = decide (s = t) := by
  unfold peq toD PyData.eqv
  by_cases h : s = t
  · subst h; simp
  · simp [h]
@[simp] theorem pIsi_non (n : String) : pIsi n .non = some (.bl ("NoneType" == n || ("NoneType" == "bool" && n == "int"))) := rfl
theorem pRange1_int {j : Int} (h : -1000000000 ≤ j) (h2 : j ≤ 1000000000) : pRange1 [.int j] = some (rangeP 0 j) := by
  show (if inR j = true then _ else _) = _
  rw [if_pos (inR_iff.mpr ⟨h, h2⟩)]
theorem pRange2_int {i j : Int} (h : -1000000000 ≤ i) (h2 : i ≤ 1000000000) (h3 : -1000000000 ≤ j) (h4 : j ≤ 1000000000) : pRange2 [.int i, .int j] = some (rangeP i j) := by
  show (if inR i = true ∧ inR j = true then _ else _) = _
  rw [if_pos ⟨inR_iff.mpr ⟨h, h2⟩, inR_iff.mpr ⟨h3, h4⟩⟩]
theorem rangeP_map (lo hi : Int) : rangeP lo hi = ((List.range (hi - lo).toNat).map fun k => lo + ((k : Nat) : Int)).map .int := by
  unfold rangeP
  rw [List.map_map]; rfl
theorem rangeP_len (lo hi : Int) : (rangeP lo hi).length = (hi - lo).toNat := by unfold rangeP; simp
theorem rangeP_at {lo hi : Int} {i : Nat} {v : Pv} (h : (rangeP lo hi)[i]? = some v) : i < (hi - lo).toNat ∧ v = .int (lo + i) := by
  have hi' := (List.getElem?_eq_some_iff.mp h).1
  rw [rangeP_len] at hi'
  refine ⟨hi', ?_⟩
  unfold rangeP at h
  rw [List.getElem?_map, List.getElem?_range hi'] at h
  cases h; rfl

/-! ### loops -/
section
variable {A S R : Type} {un : Pv → Option A} {cb : S → A → Option S}
/-- a loop that falls through, by an invariant over the turn -/
theorem forS_inv {l : List Pv} {s0 : S} (I : Nat → S → Prop) (h0 : I 0 s0) (hs : ∀ (i : Nat) x s, l[i]? = some x → I i s → ∃ a s', un x = some a ∧ cb s a = some s' ∧ I (i + 1) s') :
    ∃ s, forS un cb s0 l = some s ∧ I l.length s := by
  induction l generalizing I s0 with
  | nil => exact ⟨s0, rfl, h0⟩
  | cons x r ih =>
    obtain ⟨a, s', h1, h2, h3⟩ := hs 0 x s0 rfl h0
    obtain ⟨s, h4, h5⟩ := ih (fun i s => I (i + 1) s) h3 fun i y t hy ht => hs (i + 1) y t (by simpa using hy) ht
    refine ⟨s, ?_, h5⟩
    unfold forS
    simp only [lift_opt, h1, h2, h4, Option.bind_eq_bind, Option.bind_some]
/-- .. as a fold over the items -/
theorem forS_fold {α : Type} {g : S → α → S} {f : α → Pv} (l : List α) (s0 : S) (hs : ∀ x s, x ∈ l → ∃ a, un (f x) = some a ∧ cb s a = some (g s x)) : forS un cb s0 (l.map f) = some (l.foldl g s0) := by
  induction l generalizing s0 with
  | nil => rfl
  | cons x r ih =>
    obtain ⟨a, h1, h2⟩ := hs x s0 List.mem_cons_self
    rw [List.map_cons]
    unfold forS
    simp only [lift_opt, h1, h2, Option.bind_eq_bind, Option.bind_some]
    exact ih _ fun y s hy => hs y s (List.mem_cons_of_mem _ hy)
end
section
variable {A α : Type} {m : Type → Type} [Monad m] [LawfulMonad m] [Eff m] {un : Pv → Option A}
theorem limL_ok {l : List Pv} (h : l.length ≤ LIM) : limL l = some l := by simp [limL, h]
end
section
variable {A α β : Type} {un : Pv → Option A}
theorem lcN_map {ce : A → Option Pv} {f : α → Pv} {g : α → Pv} : ∀ (l : List α), (∀ x ∈ l, ∃ a, un (f x) = some a ∧ ce a = some (g x)) → lcN un ce (l.map f) = some (l.map g)
  | [], _ => rfl
  | x :: r, h => by
    obtain ⟨a, h1, h2⟩ := h x List.mem_cons_self
    have ih := lcN_map (ce := ce) (f := f) (g := g) r fun y hy => h y (List.mem_cons_of_mem _ hy)
    rw [List.map_cons]
    unfold lcN
    simp only [lift_opt, h1, h2, ih, Option.bind_eq_bind, Option.bind_some, Option.pure_def, List.map_cons]
/-- [e for x in l] where each item's value is told -/
theorem lcV_map {ce : A → Option Pv} {f g : α → Pv} {l : List α} (hl : l.length ≤ LIM) (h : ∀ x ∈ l, ∃ a, un (f x) = some a ∧ ce a = some (g x)) : lcV (some (l.map f)) un ce = some (l.map g) := by
  unfold lcV
  simp only [lift_opt, Option.bind_eq_bind, Option.bind_some]
  rw [limL_ok (by simpa using hl)]
  exact lcN_map l h
theorem lcM_map {ct : A → Option Bool} {ce : A → Option Pv} {f : α → Pv} {g : α → Pv} {c : α → Bool} : ∀ (l : List α), (∀ x ∈ l, ∃ a, un (f x) = some a ∧ ct a = some (c x) ∧ (c x = true → ce a = some (g x))) → lcM un ct ce (l.map f) = some ((l.filter c).map g)
  | [], _ => rfl
  | x :: r, h => by
    obtain ⟨a, h1, h2, h3⟩ := h x List.mem_cons_self
    have ih := lcM_map (ct := ct) (ce := ce) (f := f) (g := g) (c := c) r fun y hy => h y (List.mem_cons_of_mem _ hy)
    rw [List.map_cons]
    unfold lcM
    simp only [lift_opt, h1, h2, ih, Option.bind_eq_bind, Option.bind_some, Option.pure_def]
    cases e : c x with
    | true =>
      rw [if_pos rfl, h3 e, List.filter_cons_of_pos e]
      rfl
    | false =>
      rw [if_neg Bool.false_ne_true, List.filter_cons_of_neg (by rw [e]; exact Bool.false_ne_true)]
theorem lcW_map {ct : A → Option Bool} {ce : A → Option Pv} {f g : α → Pv} {c : α → Bool} {l : List α} (hl : l.length ≤ LIM) (h : ∀ x ∈ l, ∃ a, un (f x) = some a ∧ ct a = some (c x) ∧ (c x = true → ce a = some (g x))) : lcW (some (l.map f)) un ct ce = some ((l.filter c).map g) := by
  unfold lcW
  simp only [lift_opt, Option.bind_eq_bind, Option.bind_some]
  rw [limL_ok (by simpa using hl)]
  exact lcM_map l h
end

/-! ### the draws -/
def Dr (ds : List Int) (k : Int) : MO := .dk [(.inr "draws", L ds), (.inr "at", .int k)]
def Sd (μ : List MO) : Prop := ∃ ds k r, 0 ≤ k ∧ μ = Dr ds k :: r
/-- c ends from each state of draws, in one, with what Q says -/
def Tri {α : Type} (c : M α) (Q : α → Prop) : Prop := ∀ μ, Sd μ → ∃ v μ', c μ = some (v, μ') ∧ Sd μ' ∧ Q v
section
variable {α β : Type}
theorem Tri.pure {v : α} {Q : α → Prop} (h : Q v) : Tri (Pure.pure v) Q := fun μ s => ⟨v, μ, rfl, s, h⟩
theorem Tri.lift {x : Option α} {v : α} {Q : α → Prop} (e : x = some v) (h : Q v) : Tri (Eff.lift x) Q := fun μ s => ⟨v, μ, by rw [e]; rfl, s, h⟩
theorem Tri.liftE {x : Option α} {Q : α → Prop} (h : ∃ v, x = some v ∧ Q v) : Tri (Eff.lift x) Q := let ⟨_, e, q⟩ := h; Tri.lift e q
theorem Tri.bind {c : M α} {f : α → M β} {Q : α → Prop} {R : β → Prop} (h : Tri c Q) (k : ∀ v, Q v → Tri (f v) R) : Tri (c >>= f) R := fun μ s => by
  obtain ⟨v, μ1, e1, s1, q1⟩ := h μ s
  obtain ⟨u, μ2, e2, s2, q2⟩ := k v q1 μ1 s1
  exact ⟨u, μ2, by rw [M_bind, e1]; exact e2, s2, q2⟩
theorem Tri.mono {c : M α} {Q R : α → Prop} (h : Tri c Q) (k : ∀ v, Q v → R v) : Tri c R := fun μ s => let ⟨v, μ1, e, s1, q⟩ := h μ s; ⟨v, μ1, e, s1, k v q⟩
variable {A S L' : Type} {un : Pv → Option A}
theorem Tri.forS {cb : S → A → M S} {l : List Pv} {s0 : S} (I : Nat → S → Prop) (h0 : I 0 s0) (hs : ∀ (i : Nat) x s, l[i]? = some x → I i s → ∃ a, un x = some a ∧ Tri (cb s a) (I (i + 1))) :
    Tri (forS un cb s0 l) (I l.length) := by
  induction l generalizing I s0 with
  | nil => exact Tri.pure h0
  | cons x r ih =>
    obtain ⟨a, h1, h2⟩ := hs 0 x s0 rfl h0
    unfold Q.forS
    rw [h1, lift_M_some, pure_bind]
    exact h2.bind fun s' h3 => ih (fun i s => I (i + 1) s) h3 fun i y t hy ht => hs (i + 1) y t (by simpa using hy) ht
/-- a loop that does not return -/
theorem Tri.forO {cb : S → A → M (Out S S)} {l : List Pv} {s0 : S} (I : Nat → S → Prop) (J : S → Prop) (h0 : I 0 s0) (hs : ∀ (i : Nat) x s, l[i]? = some x → I i s → ∃ a, un x = some a ∧ Tri (cb s a) fun o => match o with
      | .nx s' => I (i + 1) s'
      | .ct s' => I (i + 1) s'
      | .bk s' => J s'
      | .rt _ => False) (hj : ∀ s, I l.length s → J s) :
    Tri (forO un cb s0 l : M (Out S L')) fun o => ∃ s, o = .nx s ∧ J s := by
  induction l generalizing I s0 with
  | nil => exact Tri.pure ⟨s0, rfl, hj _ h0⟩
  | cons x r ih =>
    obtain ⟨a, h1, h2⟩ := hs 0 x s0 rfl h0
    unfold Q.forO
    rw [h1, lift_M_some, pure_bind]
    refine h2.bind fun o h3 => ?_
    have go : ∀ s', I 1 s' → Tri (Q.forO un cb s' r : M (Out S L')) fun o => ∃ s, o = .nx s ∧ J s := fun s' h => ih (fun i s => I (i + 1) s) h (fun i y t hy ht => hs (i + 1) y t (by simpa using hy) ht) hj
    cases o with
    | nx s' => exact go s' h3
    | ct s' => exact go s' h3
    | bk s' => exact Tri.pure ⟨s', rfl, h3⟩
    | rt v => exact h3.elim
theorem Tri.lcN {ce : A → M Pv} {l : List Pv} {P : Pv → Prop} (h : ∀ x ∈ l, ∃ a, un x = some a ∧ Tri (ce a) P) : Tri (lcN un ce l) fun ys => ys.length = l.length ∧ ∀ y ∈ ys, P y := by
  induction l with
  | nil => exact Tri.pure ⟨rfl, fun y hy => by cases hy⟩
  | cons x r ih =>
    obtain ⟨a, h1, h2⟩ := h x List.mem_cons_self
    unfold Q.lcN
    rw [h1, lift_M_some, pure_bind]
    refine h2.bind fun y hy => (ih fun z hz => h z (List.mem_cons_of_mem _ hz)).bind fun ys ⟨e, k⟩ => Tri.pure ⟨by rw [List.length_cons, List.length_cons, e], fun z hz => ?_⟩
    rcases List.mem_cons.mp hz with rfl | hz
    · exact hy
    · exact k z hz
theorem Tri.lcV {ci : M (List Pv)} {ce : A → M Pv} {P : Pv → Prop} {C : List Pv → Prop} (hc : Tri ci fun l => C l ∧ l.length ≤ LIM) (h : ∀ l, C l → ∀ x ∈ l, ∃ a, un x = some a ∧ Tri (ce a) P) : Tri (lcV ci un ce) fun ys => ∃ l, C l ∧ ys.length = l.length ∧ ∀ y ∈ ys, P y := by
  unfold Q.lcV
  refine hc.bind fun l ⟨c, hl⟩ => ?_
  rw [limL_ok hl, lift_M_some, pure_bind]
  exact (Tri.lcN (h l c)).mono fun ys h => ⟨l, c, h⟩
end
theorem ints_exist {ys : List Pv} {P : Int → Prop} (h : ∀ y ∈ ys, ∃ i, y = .int i ∧ P i) : ∃ ns : List Int, ys = ns.map .int ∧ ns.length = ys.length ∧ ∀ n ∈ ns, P n := by
  induction ys with
  | nil => exact ⟨[], rfl, rfl, fun n hn => by cases hn⟩
  | cons y r ih =>
    obtain ⟨i, rfl, p⟩ := h y List.mem_cons_self
    obtain ⟨ns, rfl, e, k⟩ := ih fun z hz => h z (List.mem_cons_of_mem _ hz)
    exact ⟨i :: ns, rfl, by rw [List.length_cons, List.length_cons, e], fun n hn => by
      rcases List.mem_cons.mp hn with rfl | hn
      · exact p
      · exact k n hn⟩

/-! ### the same with no store -/
def Wp {α : Type} (c : Option α) (Q : α → Prop) : Prop := ∃ v, c = some v ∧ Q v
section
variable {α β : Type}
theorem Wp.some {v : α} {Q : α → Prop} (h : Q v) : Wp (some v) Q := ⟨v, rfl, h⟩
theorem Wp.pure {v : α} {Q : α → Prop} (h : Q v) : Wp (Pure.pure v) Q := ⟨v, rfl, h⟩
theorem Wp.of {c : Option α} {v : α} {Q : α → Prop} (e : c = .some v) (h : Q v) : Wp c Q := ⟨v, e, h⟩
theorem Wp.bind {c : Option α} {f : α → Option β} {Q : α → Prop} {R : β → Prop} (h : Wp c Q) (k : ∀ v, Q v → Wp (f v) R) : Wp (c >>= f) R := by
  obtain ⟨v, rfl, q⟩ := h
  exact k v q
theorem Wp.obind {c : Option α} {f : α → Option β} {Q : α → Prop} {R : β → Prop} (h : Wp c Q) (k : ∀ v, Q v → Wp (f v) R) : Wp (c.bind f) R := by
  obtain ⟨v, rfl, q⟩ := h
  exact k v q
theorem Wp.mono {c : Option α} {Q R : α → Prop} (h : Wp c Q) (k : ∀ v, Q v → R v) : Wp c R := let ⟨v, e, q⟩ := h; ⟨v, e, k v q⟩
theorem Wp.lift {c : Option α} {Q : α → Prop} (h : Wp c Q) : Tri (Eff.lift c) Q := let ⟨_, e, q⟩ := h; Tri.lift e q
variable {A S L' : Type} {un : Pv → Option A}
theorem Wp.forS {cb : S → A → Option S} {l : List Pv} {s0 : S} (I : Nat → S → Prop) (h0 : I 0 s0) (hs : ∀ (i : Nat) x s, l[i]? = .some x → I i s → ∃ a, un x = .some a ∧ Wp (cb s a) (I (i + 1))) : Wp (forS un cb s0 l) (I l.length) := by
  refine forS_inv I h0 fun i x s hx hi => ?_
  obtain ⟨a, h1, s', h2, h3⟩ := hs i x s hx hi
  exact ⟨a, s', h1, h2, h3⟩
theorem Wp.forO {cb : S → A → Option (Out S S)} {l : List Pv} {s0 : S} (I : Nat → S → Prop) (J : S → Prop) (h0 : I 0 s0) (hs : ∀ (i : Nat) x s, l[i]? = .some x → I i s → ∃ a, un x = .some a ∧ Wp (cb s a) fun o => match o with
      | .nx s' => I (i + 1) s'
      | .ct s' => I (i + 1) s'
      | .bk s' => J s'
      | .rt _ => False) (hj : ∀ s, I l.length s → J s) :
    Wp (forO un cb s0 l : Option (Out S L')) fun o => ∃ s, o = .nx s ∧ J s := by
  induction l generalizing I s0 with
  | nil => exact Wp.some ⟨s0, rfl, hj _ h0⟩
  | cons x r ih =>
    obtain ⟨a, h1, h2⟩ := hs 0 x s0 rfl h0
    unfold Q.forO
    rw [h1]
    refine Wp.bind (Wp.some (Q := fun b => b = a) rfl) fun b hb => ?_
    subst hb
    refine h2.bind fun o h3 => ?_
    have go : ∀ s', I 1 s' → Wp (Q.forO un cb s' r : Option (Out S L')) fun o => ∃ s, o = .nx s ∧ J s := fun s' h => ih (fun i s => I (i + 1) s) h (fun i y t hy ht => hs (i + 1) y t (by simpa using hy) ht) hj
    cases o with
    | nx s' => exact go s' h3
    | ct s' => exact go s' h3
    | bk s' => exact Wp.some ⟨s', rfl, h3⟩
    | rt v => exact h3.elim
/-- .. that may return: Rr says what -/
theorem Wp.forR {cb : S → A → Option (Out S S)} {l : List Pv} {s0 : S} (I : Nat → S → Prop) (J : S → Prop) (Rr : Pv → Prop) (h0 : I 0 s0) (hs : ∀ (i : Nat) x s, l[i]? = .some x → I i s → ∃ a, un x = .some a ∧ Wp (cb s a) fun o => match o with
      | .nx s' => I (i + 1) s'
      | .ct s' => I (i + 1) s'
      | .bk s' => J s'
      | .rt v => Rr v) (hj : ∀ s, I l.length s → J s) :
    Wp (Q.forO un cb s0 l : Option (Out S L')) fun o => (∃ s, o = .nx s ∧ J s) ∨ ∃ v, o = .rt v ∧ Rr v := by
  induction l generalizing I s0 with
  | nil => exact Wp.some (.inl ⟨s0, rfl, hj _ h0⟩)
  | cons x r ih =>
    obtain ⟨a, h1, h2⟩ := hs 0 x s0 rfl h0
    unfold Q.forO
    rw [h1]
    refine Wp.bind (Wp.some (Q := fun b => b = a) rfl) fun b hb => ?_
    subst hb
    refine h2.bind fun o h3 => ?_
    have go : ∀ s', I 1 s' → Wp (Q.forO un cb s' r : Option (Out S L')) fun o => (∃ s, o = .nx s ∧ J s) ∨ ∃ v, o = .rt v ∧ Rr v := fun s' h => ih (fun i s => I (i + 1) s) h (fun i y t hy ht => hs (i + 1) y t (by simpa using hy) ht) hj
    cases o with
    | nx s' => exact go s' h3
    | ct s' => exact go s' h3
    | bk s' => exact Wp.some (.inl ⟨s', rfl, h3⟩)
    | rt v => exact Wp.some (.inr ⟨v, rfl, h3⟩)
end
theorem Wp.ite {α : Type} {c : Prop} [Decidable c] {x y : Option α} {Q : α → Prop} (h1 : c → Wp x Q) (h2 : ¬ c → Wp y Q) : Wp (if c then x else y) Q := by
  by_cases h : c
  · rw [if_pos h]; exact h1 h
  · rw [if_neg h]; exact h2 h
theorem Tri.ite {α : Type} {c : Prop} [Decidable c] {x y : M α} {Q : α → Prop} (h1 : c → Tri x Q) (h2 : ¬ c → Tri y Q) : Tri (if c then x else y) Q := by
  by_cases h : c
  · rw [if_pos h]; exact h1 h
  · rw [if_neg h]; exact h2 h
theorem snoc_ind {α : Type} {P : List α → Prop} (nil : P []) (snoc : ∀ w x, P w → P (w ++ [x])) (w : List α) : P w := by
  rw [← List.reverse_reverse w]
  induction w.reverse with
  | nil => exact nil
  | cons x r ih => rw [List.reverse_cons]; exact snoc _ x ih
section
variable {A α : Type} {un : Pv → Option A}
theorem Tri.lcM_map {ct : A → M Bool} {ce : A → M Pv} {f : α → Pv} {g : α → Pv} {c : α → Bool} : ∀ (l : List α), (∀ x ∈ l, ∃ a, un (f x) = some a ∧ Tri (ct a) (fun b => b = c x) ∧ (c x = true → Tri (ce a) fun v => v = g x)) → Tri (lcM un ct ce (l.map f)) fun r => r = (l.filter c).map g
  | [], _ => Tri.pure rfl
  | x :: r, h => by
    obtain ⟨a, h1, h2, h3⟩ := h x List.mem_cons_self
    have ih := Tri.lcM_map (ct := ct) (ce := ce) (f := f) (g := g) (c := c) r fun y hy => h y (List.mem_cons_of_mem _ hy)
    rw [List.map_cons]
    unfold lcM
    rw [h1, lift_M_some, pure_bind]
    refine h2.bind fun b hb => ?_
    subst hb
    cases e : c x with
    | true =>
      rw [if_pos rfl, List.filter_cons_of_pos e]
      refine (h3 e).bind fun v hv => ih.bind fun ys hys => Tri.pure ?_
      rw [hv, hys]; rfl
    | false =>
      rw [if_neg Bool.false_ne_true, List.filter_cons_of_neg (by rw [e]; exact Bool.false_ne_true)]
      exact ih
theorem Tri.lcW_map {ct : A → M Bool} {ce : A → M Pv} {f g : α → Pv} {c : α → Bool} {l : List α} (hl : l.length ≤ LIM) (h : ∀ x ∈ l, ∃ a, un (f x) = some a ∧ Tri (ct a) (fun b => b = c x) ∧ (c x = true → Tri (ce a) fun v => v = g x)) : Tri (lcW (Pure.pure (l.map f)) un ct ce) fun r => r = (l.filter c).map g := by
  unfold Q.lcW
  rw [pure_bind, limL_ok (by simpa using hl), lift_M_some, pure_bind]
  exact Tri.lcM_map l h
end
section
variable {A S L' : Type} {un : Pv → Option A}
/-- a loop that may return: Rr says what -/
theorem Tri.forR {cb : S → A → M (Out S S)} {l : List Pv} {s0 : S} (I : Nat → S → Prop) (J : S → Prop) (Rr : Pv → Prop) (h0 : I 0 s0) (hs : ∀ (i : Nat) x s, l[i]? = some x → I i s → ∃ a, un x = some a ∧ Tri (cb s a) fun o => match o with
      | .nx s' => I (i + 1) s'
      | .ct s' => I (i + 1) s'
      | .bk s' => J s'
      | .rt v => Rr v) (hj : ∀ s, I l.length s → J s) :
    Tri (Q.forO un cb s0 l : M (Out S L')) fun o => (∃ s, o = .nx s ∧ J s) ∨ ∃ v, o = .rt v ∧ Rr v := by
  induction l generalizing I s0 with
  | nil => exact Tri.pure (.inl ⟨s0, rfl, hj _ h0⟩)
  | cons x r ih =>
    obtain ⟨a, h1, h2⟩ := hs 0 x s0 rfl h0
    unfold Q.forO
    rw [h1, lift_M_some, pure_bind]
    refine h2.bind fun o h3 => ?_
    have go : ∀ s', I 1 s' → Tri (Q.forO un cb s' r : M (Out S L')) fun o => (∃ s, o = .nx s ∧ J s) ∨ ∃ v, o = .rt v ∧ Rr v := fun s' h => ih (fun i s => I (i + 1) s) h (fun i y t hy ht => hs (i + 1) y t (by simpa using hy) ht) hj
    cases o with
    | nx s' => exact go s' h3
    | ct s' => exact go s' h3
    | bk s' => exact Tri.pure (.inl ⟨s', rfl, h3⟩)
    | rt v => exact Tri.pure (.inr ⟨v, rfl, h3⟩)
end
/-! ### big ints -/
def Bk (k : Nat) (i : Int) : Prop := i.natAbs < 2 ^ k
theorem Bk.mono {k l : Nat} {i : Int} (h : Bk k i) (hl : k ≤ l) : Bk l i := Nat.lt_of_lt_of_le h (Nat.pow_le_pow_right (by decide) hl)
theorem Bk.mul {k l : Nat} {i j : Int} (h : Bk k i) (g : Bk l j) : Bk (k + l) (i * j) := by
  unfold Bk at *
  rw [Int.natAbs_mul, Nat.pow_add]
  exact Nat.mul_lt_mul'' h g
theorem Bk.add {k l : Nat} {i j : Int} (h : Bk k i) (g : Bk l j) : Bk (max k l + 1) (i + j) := by
  have h1 := h.mono (Nat.le_max_left k l)
  have g1 := g.mono (Nat.le_max_right k l)
  unfold Bk at *
  have := Int.natAbs_add_le i j
  rw [Nat.pow_succ]
  omega
theorem Bk.neg {k : Nat} {i : Int} (h : Bk k i) : Bk k (-i) := by
  unfold Bk at *
  rw [Int.natAbs_neg]; exact h
theorem Bk.log {k : Nat} {i : Int} (h : Bk k i) : i.natAbs.log2 ≤ k := by
  by_cases h0 : i.natAbs = 0
  · rw [h0]; exact Nat.zero_le _
  · exact Nat.le_of_lt ((Nat.log2_lt h0).mpr h)
theorem mulOk_of {k l : Nat} {i j : Int} (h : Bk k i) (g : Bk l j) (hl : k + l ≤ 900000) : mulOk i j = true := by
  have h1 := h.log
  have g1 := g.log
  unfold mulOk
  have : i.natAbs.log2 + j.natAbs.log2 < 1000000 := by omega
  simp [this]
theorem Bk.of {k : Nat} {i b : Int} (h : -b < i) (h2 : i < b) (hb : b ≤ 2 ^ k) : Bk k i := by
  unfold Bk
  have : ((2 ^ k : Nat) : Int) = 2 ^ k := by simp
  omega
section
variable {S L' : Type}
/-- a while: I tells the measure -/
theorem Wp.whR {cc : S → Option Bool} {cb : S → Option (Out S S)} (I : Nat → S → Prop) (J : S → Prop) (Rr : Pv → Prop)
    (hs : ∀ m s, I m s → Wp (cc s) fun b => (b = false → J s) ∧ (b = true → Wp (cb s) fun o => match o with
      | .nx s' => ∃ m', m' < m ∧ I m' s'
      | .ct s' => ∃ m', m' < m ∧ I m' s'
      | .bk s' => J s'
      | .rt v => Rr v)) : ∀ (n m : Nat) (s : S), I m s → m < n → Wp (whO cc cb n s : Option (Out S L')) fun o => (∃ s, o = .nx s ∧ J s) ∨ ∃ v, o = .rt v ∧ Rr v
  | 0, m, s, _, h => absurd h (Nat.not_lt_zero m)
  | n + 1, m, s, hi, h => by
    unfold whO
    refine (hs m s hi).bind fun b ⟨h1, h2⟩ => ?_
    cases b with
    | false => exact Wp.some (.inl ⟨s, rfl, h1 rfl⟩)
    | true =>
      rw [if_pos rfl]
      refine (h2 rfl).bind fun o h3 => ?_
      cases o with
      | nx s' => obtain ⟨m', l, i'⟩ := h3; exact Wp.whR I J Rr hs n m' s' i' (by omega)
      | ct s' => obtain ⟨m', l, i'⟩ := h3; exact Wp.whR I J Rr hs n m' s' i' (by omega)
      | bk s' => exact Wp.some (.inl ⟨s', rfl, h3⟩)
      | rt v => exact Wp.some (.inr ⟨v, rfl, h3⟩)
theorem Wp.whS {cc : S → Option Bool} {cb : S → Option S} (I : Nat → S → Prop) (J : S → Prop)
    (hs : ∀ m s, I m s → Wp (cc s) fun b => (b = false → J s) ∧ (b = true → Wp (cb s) fun s' => ∃ m', m' < m ∧ I m' s')) : ∀ (n m : Nat) (s : S), I m s → m < n → Wp (Q.whS cc cb n s) J
  | 0, m, s, _, h => absurd h (Nat.not_lt_zero m)
  | n + 1, m, s, hi, h => by
    unfold Q.whS
    refine (hs m s hi).bind fun b ⟨h1, h2⟩ => ?_
    cases b with
    | false => exact Wp.some (h1 rfl)
    | true =>
      rw [if_pos rfl]
      refine (h2 rfl).bind fun s' ⟨m', l, i'⟩ => ?_
      exact Wp.whS I J hs n m' s' i' (by omega)
end
@[simp] theorem pCmpD_int (f : Int → Int → Bool) (g : PyData → PyData → Bool) (i j : Int) : pCmpD f g (.int i) (.int j) = some (.bl (f i j)) := rfl
@[simp] theorem pMulA_int (i j : Int) : pMulA (.int i) (.int j) = pMul (.int i) (.int j) := rfl
@[simp] theorem pRev_T (a : List Int) : pRev (T a) = some (T a.reverse) := by simp [pRev, T]
/-! ### the order of rows of ints -/
theorem toDs_int : ∀ ns : List Int, toDs (ns.map .int) = ns.map PyData.int
  | [] => rfl
  | n :: ns => by simp only [List.map_cons, toDs, toD, toDs_int ns]
theorem toD_T (ns : List Int) : toD (T ns) = .tuple (ns.map PyData.int) := by unfold T; rw [toD_tup, toDs_int]
theorem alike_T (a b : List Int) : PySem.W.alike (toD (T a)) (toD (T b)) = true := by
  rw [toD_T, toD_T]
  unfold PySem.W.alike
  exact PySem.W.alike_ints a b
theorem dataLt_T (a b : List Int) : PySem.W.dataLt (toD (T a)) (toD (T b)) = decide (a < b) := by
  rw [toD_T, toD_T, PySem.W.dataLt_tuple]
  exact PySem.W.dataLt_ints a b
theorem ordOk_T (a b : List Int) : ordOk (T a) (T b) = true := by
  unfold ordOk
  rw [alike_T, okE_T, okE_T]; rfl
theorem pCmpD_T (f : Int → Int → Bool) (g : PyData → PyData → Bool) (a b : List Int) : pCmpD f g (T a) (T b) = some (.bl (g (toD (T a)) (toD (T b)))) := by
  show (if ordOk (T a) (T b) then _ else none) = _
  rw [if_pos (ordOk_T a b)]
@[simp] theorem pLt_T (a b : List Int) : pCmpD fLt gLt (T a) (T b) = some (.bl (decide (a < b))) := by rw [pCmpD_T]; unfold gLt; rw [dataLt_T]
@[simp] theorem pGt_T (a b : List Int) : pCmpD fGt gGt (T a) (T b) = some (.bl (decide (b < a))) := by rw [pCmpD_T]; unfold gGt; rw [dataLt_T]
@[simp] theorem pLe_T (a b : List Int) : pCmpD fLe gLe (T a) (T b) = some (.bl (!decide (b < a))) := by rw [pCmpD_T]; unfold gLe; rw [dataLt_T]
@[simp] theorem pGe_T (a b : List Int) : pCmpD fGe gGe (T a) (T b) = some (.bl (!decide (a < b))) := by rw [pCmpD_T]; unfold gGe; rw [dataLt_T]
theorem lst_tri {a b : List Int} (h : ¬ a < b) (g : ¬ b < a) : a = b := List.le_antisymm (as := a) (bs := b) (List.not_lt.mp g) (List.not_lt.mp h)
/-- the first that fits -/
theorem forO_find {A α L' : Type} {un : Pv → Option A} {cb : Unit → A → Option (Out Unit Unit)} {f : α → Pv} {g : α → Pv} {c : α → Bool} : ∀ (l : List α), (∀ x ∈ l, ∃ a, un (f x) = some a ∧ cb () a = some (if c x then .rt (g x) else .nx ())) → (Q.forO un cb () (l.map f) : Option (Out Unit L')) = some (match l.find? c with
    | some x => .rt (g x)
    | none => .nx ())
  | [], _ => rfl
  | x :: r, h => by
    obtain ⟨a, h1, h2⟩ := h x List.mem_cons_self
    rw [List.map_cons]
    unfold Q.forO
    simp only [lift_opt, h1, h2, Option.bind_eq_bind, Option.bind_some]
    rw [List.find?_cons]
    cases c x with
    | true => rfl
    | false => exact forO_find r fun y hy => h y (List.mem_cons_of_mem _ hy)
theorem srt_perm (b : Bool) (l : List Pv) : (srt b l).Perm l := List.mergeSort_perm _ _
theorem srt_pw (l : List Pv) : (srt false l).Pairwise fun x y => PySem.W.dataLt (toD y) (toD x) = false :=
  (PySem.W.sort_pairwise (PySem.W.sortLe_total (PyProof.Rows.listOrd PyProof.Rows.itemOrd) false fun b => PySem.W.keyToks (toD b)) l).imp fun {x y} h => by
    have h : (!PySem.W.dataLt (toD y) (toD x)) = true := h
    simpa using h
theorem dataLt_self (u : Pv) : PySem.W.dataLt (toD u) (toD u) = false := by
  have h := (PySem.W.sortLe_total (PyProof.Rows.listOrd PyProof.Rows.itemOrd) false fun b => PySem.W.keyToks (toD b)).total u u
  have h : (!PySem.W.dataLt (toD u) (toD u)) = true := h.elim id id
  simpa using h
/-- the first of a sorted list is no greater than any -/
theorem srt_head {l : List Pv} {x : Pv} {r : List Pv} (h : srt false l = x :: r) : x ∈ l ∧ ∀ y ∈ l, PySem.W.dataLt (toD y) (toD x) = false := by
  have hp := srt_perm false l
  have hw := srt_pw l
  rw [h] at hp hw
  refine ⟨hp.mem_iff.mp List.mem_cons_self, fun y hy => ?_⟩
  rcases List.mem_cons.mp (hp.mem_iff.mpr hy) with e | hy
  · rw [e]; exact dataLt_self x
  · exact (List.pairwise_cons.mp hw).1 y hy
theorem pEq_nil {f : List Pv} (h : okE (.lst f) = true) : pEq (.lst f) (.lst []) = some (.bl (decide (f = []))) := by
  unfold pEq
  rw [h]
  cases f with
  | nil => rfl
  | cons a f => rfl
theorem pNe_nil {f : List Pv} (h : okE (.lst f) = true) : pNe (.lst f) (.lst []) = some (.bl (!decide (f = []))) := by
  unfold pNe
  rw [h]
  cases f with
  | nil => rfl
  | cons a f => rfl
theorem okE_nats (l : List Nat) (f : Nat → Int) : okE (.lst (l.map fun k => Pv.int (f k))) = true := by
  rw [show (fun k : Nat => Pv.int (f k)) = Pv.int ∘ f from rfl, ← List.map_map]
  exact okE_L _
theorem get_take {α : Type} {l : List α} {i : Nat} {x : α} (h : l[i]? = some x) : l.take (i + 1) = l.take i ++ [x] := by
  rw [List.take_add_one, h]; rfl
theorem dataLt_trans {u v w : Pv} (h : PySem.W.dataLt (toD v) (toD u) = false) (g : PySem.W.dataLt (toD w) (toD v) = false) : PySem.W.dataLt (toD w) (toD u) = false := by
  have t := (PySem.W.sortLe_total (PyProof.Rows.listOrd PyProof.Rows.itemOrd) false fun b => PySem.W.keyToks (toD b)).trans u v w
  have h' : (!PySem.W.dataLt (toD v) (toD u)) = true := by rw [h]; rfl
  have g' : (!PySem.W.dataLt (toD w) (toD v)) = true := by rw [g]; rfl
  have r : (!PySem.W.dataLt (toD w) (toD u)) = true := t h' g'
  simpa using r
theorem minP_spec : ∀ (l : List Pv) (x : Pv), minP x l ∈ x :: l ∧ ∀ y ∈ x :: l, PySem.W.dataLt (toD y) (toD (minP x l)) = false
  | [], x => ⟨List.mem_cons_self, fun y hy => by
      rcases List.mem_cons.mp hy with rfl | hy
      · exact dataLt_self _
      · exact (List.not_mem_nil hy).elim⟩
  | z :: l, x => by
    have e : minP x (z :: l) = minP (if PySem.W.dataLt (toD z) (toD x) then z else x) l := rfl
    obtain ⟨h1, h2⟩ := minP_spec l (if PySem.W.dataLt (toD z) (toD x) then z else x)
    rw [e]
    have hs := h2 _ List.mem_cons_self
    constructor
    · rcases List.mem_cons.mp h1 with h | h
      · rw [h]
        split
        · exact List.mem_cons_of_mem _ List.mem_cons_self
        · exact List.mem_cons_self
      · exact List.mem_cons_of_mem _ (List.mem_cons_of_mem _ h)
    · intro y hy
      rcases List.mem_cons.mp hy with rfl | hy
      · by_cases hl : PySem.W.dataLt (toD z) (toD y) = true
        · rw [if_pos hl] at hs ⊢
          refine dataLt_trans hs ?_
          cases hb : PySem.W.dataLt (toD y) (toD z) with
          | false => rfl
          | true =>
            have t := (PySem.W.sortLe_total (PyProof.Rows.listOrd PyProof.Rows.itemOrd) false fun b => PySem.W.keyToks (toD b)).total y z
            have t : (!PySem.W.dataLt (toD z) (toD y)) = true ∨ (!PySem.W.dataLt (toD y) (toD z)) = true := t
            rw [hl, hb] at t
            simp at t
        · rw [if_neg hl] at hs ⊢
          exact hs
      · rcases List.mem_cons.mp hy with rfl | hy
        · by_cases hl : PySem.W.dataLt (toD y) (toD x) = true
          · rw [if_pos hl] at hs ⊢; exact hs
          · rw [if_neg hl] at hs ⊢
            exact dataLt_trans hs (by simpa using hl)
        · exact h2 y (List.mem_cons_of_mem _ hy)
end Q
/-! MB: things as values: rows, pairs; their equality and order. -/
namespace Q
open PySem PySem.Spec PyProof.Rows L2
def nI (k : Nat) : Pv := .int (k : Int)
def Tm {α : Type} (f : α → Pv) (l : List α) : Pv := .tup (l.map f)
def Lm {α : Type} (f : α → Pv) (l : List α) : Pv := .lst (l.map f)
def P2 {α β : Type} (f : α → Pv) (g : β → Pv) (p : α × β) : Pv := .tup [f p.1, g p.2]
def P3 {α β γ : Type} (f : α → Pv) (g : β → Pv) (h : γ → Pv) (p : α × β × γ) : Pv := .tup [f p.1, g p.2.1, h p.2.2]
def ltP (u v : Pv) : Bool := PySem.W.dataLt (toD u) (toD v)
theorem okN_mono : ∀ {d : Nat} {v : Pv}, okN d v = true → okN (d + 1) v = true
  | d, .non, _ => by cases d <;> rfl
  | d, .bl _, _ => by cases d <;> rfl
  | d, .int _, _ => by cases d <;> rfl
  | d, .str s, h => by cases d <;> exact h
  | d, .loc _, h => by cases d <;> cases h
  | d, .scr _, h => by cases d <;> cases h
  | 0, .tup _, h => by cases h
  | 0, .lst _, h => by cases h
  | d + 1, .tup l, h => by
    have h : l.all (okN d) = true := h
    show l.all (okN (d + 1)) = true
    exact List.all_eq_true.mpr fun x hx => okN_mono (List.all_eq_true.mp h x hx)
  | d + 1, .lst l, h => by
    have h : l.all (okN d) = true := h
    show l.all (okN (d + 1)) = true
    exact List.all_eq_true.mpr fun x hx => okN_mono (List.all_eq_true.mp h x hx)
theorem okN_le {d e : Nat} {v : Pv} (h : okN d v = true) (hl : d ≤ e) : okN e v = true := by
  induction hl with
  | refl => exact h
  | step _ ih => exact okN_mono ih
class Ec (d : outParam Nat) {α : Type} (f : α → Pv) : Prop where
  ok : ∀ a, okN d (f a) = true
  eq : ∀ a b, peq (f a) (f b) = true → a = b
  rf : ∀ a, peq (f a) (f a) = true
  al : ∀ a b, PySem.W.alike (toD (f a)) (toD (f b)) = true
  an : ∀ a b, ltP (f a) (f b) = false → ltP (f b) (f a) = false → a = b
  nn : ∀ a, notNon (f a) = true
instance : Ec 0 Pv.int where
  ok _ := rfl
  eq a b h := by simpa using h
  rf a := by simp
  al _ _ := rfl
  an a b h g := by
    have e : ∀ x y : Int, ltP (.int x) (.int y) = decide (x < y) := fun x y => by
      have h := congrFun (congrFun (PySem.W.dataLe_int (fun z : Int => z)) y) x
      rw [PySem.W.dataLe_eq] at h
      have h : (!PySem.W.dataLt (PyData.int x) (PyData.int y)) = decide (y ≤ x) := h
      unfold ltP
      simp only [toD]
      cases q : PySem.W.dataLt (PyData.int x) (PyData.int y) with
      | true =>
        rw [q] at h
        have := of_decide_eq_false h.symm
        rw [decide_eq_true (by omega)]
      | false =>
        rw [q] at h
        have := of_decide_eq_true h.symm
        rw [decide_eq_false (by omega)]
    rw [e, decide_eq_false_iff_not] at h g
    omega
  nn _ := rfl
theorem Ec.comp {d : Nat} {α β : Type} {f : α → Pv} (h : Ec d f) {k : β → α} (hk : ∀ a b, k a = k b → a = b) : Ec d fun b => f (k b) where
  ok b := h.ok _
  eq a b e := hk a b (h.eq _ _ e)
  rf a := h.rf _
  al _ _ := h.al _ _
  an a b e g := hk a b (h.an _ _ e g)
  nn _ := h.nn _
instance : Ec 0 nI := Ec.comp (f := Pv.int) inferInstance (k := fun k : Nat => (k : Int)) fun a b h => by omega
section
variable {d : Nat} {α : Type} {f : α → Pv} [E : Ec d f]
include E
theorem eqvAll_map : ∀ a b : List α, PyData.eqvAll (toDs (a.map f)) (toDs (b.map f)) = true → a = b
  | [], [], _ => rfl
  | [], _ :: _, h => by simp [toDs, PyData.eqvAll] at h
  | _ :: _, [], h => by simp [toDs, PyData.eqvAll] at h
  | x :: a, y :: b, h => by
    simp only [List.map_cons, toDs, PyData.eqvAll, Bool.and_eq_true] at h
    rw [Ec.eq (f := f) x y h.1, eqvAll_map a b h.2]
theorem eqvAll_rf : ∀ a : List α, PyData.eqvAll (toDs (a.map f)) (toDs (a.map f)) = true
  | [] => by simp [toDs, PyData.eqvAll]
  | x :: a => by
    simp only [List.map_cons, toDs, PyData.eqvAll, Bool.and_eq_true]
    exact ⟨Ec.rf (f := f) x, eqvAll_rf a⟩
theorem alikeAll_map : ∀ a b : List α, PySem.W.alikeAll (toDs (a.map f)) (toDs (b.map f)) = true
  | [], _ => by simp [toDs, PySem.W.alikeAll]
  | x :: a, [] => by simp [toDs, PySem.W.alikeAll]
  | x :: a, y :: b => by
    simp only [List.map_cons, toDs, PySem.W.alikeAll, Bool.and_eq_true]
    exact ⟨Ec.al (f := f) x y, alikeAll_map a b⟩
theorem lex_map : ∀ a b : List α, PyProof.Rows.lexLt PyProof.Rows.itemOrd (PySem.W.keyToksAll (toDs (a.map f))) (PySem.W.keyToksAll (toDs (b.map f))) = false → PyProof.Rows.lexLt PyProof.Rows.itemOrd (PySem.W.keyToksAll (toDs (b.map f))) (PySem.W.keyToksAll (toDs (a.map f))) = false → a = b
  | [], [], _, _ => rfl
  | [], y :: b, h, _ => by
    exfalso
    simp only [List.map_nil, List.map_cons, toDs] at h
    rw [PySem.W.toks_all_cons] at h
    simp [PySem.W.keyToksAll, PyProof.Rows.lexLt] at h
    exact absurd h.1 (by decide)
  | x :: a, [], _, h => by
    exfalso
    simp only [List.map_nil, List.map_cons, toDs] at h
    rw [PySem.W.toks_all_cons] at h
    simp [PySem.W.keyToksAll, PyProof.Rows.lexLt] at h
    exact absurd h.1 (by decide)
  | x :: a, y :: b, h, g => by
    simp only [List.map_cons, toDs] at h g
    rw [PySem.W.dataLt_cons (Ec.al (f := f) x y)] at h
    rw [PySem.W.dataLt_cons (Ec.al (f := f) y x)] at g
    by_cases e : PyData.eqv (toD (f x)) (toD (f y)) = true
    · have : x = y := Ec.eq (f := f) x y e
      subst this
      rw [if_pos e] at h g
      rw [lex_map a b h g]
    · have e' : ¬ PyData.eqv (toD (f y)) (toD (f x)) = true := by rw [PySem.W.eqv_comm]; exact e
      rw [if_neg e] at h
      rw [if_neg e'] at g
      have : x = y := Ec.an (f := f) x y h g
      subst this
      exact absurd (Ec.rf (f := f) x) e
instance : Ec (d + 1) (Tm f) where
  ok l := by
    show (l.map f).all (okN d) = true
    rw [List.all_map]
    exact List.all_eq_true.mpr fun x _ => Ec.ok (f := f) x
  eq a b h := by
    unfold peq Tm at h
    rw [toD_tup, toD_tup] at h
    unfold PyData.eqv at h
    exact eqvAll_map (f := f) a b h
  rf a := by
    unfold peq Tm
    rw [toD_tup]
    unfold PyData.eqv
    exact eqvAll_rf (f := f) a
  al a b := by
    unfold Tm
    rw [toD_tup, toD_tup]
    unfold PySem.W.alike
    exact alikeAll_map (f := f) a b
  an a b h g := by
    unfold ltP Tm at h g
    rw [toD_tup, toD_tup, PySem.W.dataLt_tuple] at h g
    exact lex_map (f := f) a b h g
  nn _ := rfl
end
section
variable {d e : Nat} {α β : Type} {f : α → Pv} {g : β → Pv} [E : Ec d f] [E2 : Ec e g]
instance : Ec (max d e + 1) (P2 f g) where
  ok p := by
    show ([f p.1, g p.2]).all (okN (max d e)) = true
    simp only [List.all_cons, List.all_nil, Bool.and_true, Bool.and_eq_true]
    exact ⟨okN_le (Ec.ok (f := f) p.1) (Nat.le_max_left _ _), okN_le (Ec.ok (f := g) p.2) (Nat.le_max_right _ _)⟩
  eq a b h := by
    unfold peq P2 at h
    rw [toD_tup, toD_tup] at h
    simp only [toDs, PyData.eqv, PyData.eqvAll, Bool.and_eq_true] at h
    exact Prod.ext (Ec.eq (f := f) _ _ h.1) (Ec.eq (f := g) _ _ h.2.1)
  rf a := by
    unfold peq P2
    rw [toD_tup]
    simp only [toDs, PyData.eqv, PyData.eqvAll, Bool.and_eq_true]
    exact ⟨Ec.rf (f := f) _, Ec.rf (f := g) _, trivial⟩
  al a b := by
    unfold P2
    rw [toD_tup, toD_tup]
    simp only [toDs, PySem.W.alike, PySem.W.alikeAll, Bool.and_eq_true]
    exact ⟨Ec.al (f := f) _ _, Ec.al (f := g) _ _, trivial⟩
  an a b h k := by
    unfold ltP P2 at h k
    rw [toD_tup, toD_tup] at h k
    simp only [toDs] at h k
    rw [PySem.W.dataLt_pair (Ec.al (f := f) _ _) (Ec.al (f := g) _ _)] at h
    rw [PySem.W.dataLt_pair (Ec.al (f := f) _ _) (Ec.al (f := g) _ _)] at k
    by_cases e1 : PyData.eqv (toD (f a.1)) (toD (f b.1)) = true
    · have h1 : a.1 = b.1 := Ec.eq (f := f) _ _ e1
      rw [if_pos e1] at h
      rw [if_pos (by rw [PySem.W.eqv_comm]; exact e1)] at k
      by_cases e2 : PyData.eqv (toD (g a.2)) (toD (g b.2)) = true
      · exact Prod.ext h1 (Ec.eq (f := g) _ _ e2)
      · rw [if_neg e2] at h
        rw [if_neg (by rw [PySem.W.eqv_comm]; exact e2)] at k
        exact Prod.ext h1 (Ec.an (f := g) _ _ h k)
    · rw [if_neg e1] at h
      rw [if_neg (by rw [PySem.W.eqv_comm]; exact e1)] at k
      have := Ec.an (f := f) _ _ h k
      rw [this] at e1
      exact absurd (Ec.rf (f := f) _) e1
  nn _ := rfl
end
/-! ### what follows for values -/
section
variable {d : Nat} {α : Type} {f : α → Pv} [E : Ec d f]
include E
theorem ec_okE (hd : d ≤ 60) (a : α) : okE (f a) = true := okN_le (Ec.ok (f := f) a) hd
theorem ec_peq [DecidableEq α] (a b : α) : peq (f a) (f b) = decide (a = b) := by
  by_cases h : a = b
  · subst h; rw [decide_eq_true rfl]; exact Ec.rf (f := f) a
  · rw [decide_eq_false h]
    cases e : peq (f a) (f b) with
    | false => rfl
    | true => exact absurd (Ec.eq (f := f) _ _ e) h
theorem ec_pEq [DecidableEq α] (hd : d ≤ 60) (a b : α) : pEq (f a) (f b) = some (.bl (decide (a = b))) := by
  unfold pEq
  rw [ec_okE hd, ec_okE hd, ec_peq]; rfl
theorem ec_pNe [DecidableEq α] (hd : d ≤ 60) (a b : α) : pNe (f a) (f b) = some (.bl (!decide (a = b))) := by
  unfold pNe
  rw [ec_okE hd, ec_okE hd, ec_peq]; rfl
theorem any_peq [DecidableEq α] (a : α) : ∀ l : List α, ((l.map f).any fun z => peq z (f a)) = decide (a ∈ l)
  | [] => by simp
  | b :: l => by
    rw [List.map_cons, List.any_cons, any_peq a l, ec_peq]
    by_cases h : a = b
    · subst h; simp
    · have : ¬ b = a := fun z => h z.symm
      simp [h, this]
theorem all_ok (hd : d ≤ 59) (l : List α) : okE (Lm f l) = true := by
  show (l.map f).all (okN 59) = true
  rw [List.all_map]
  exact List.all_eq_true.mpr fun x _ => okN_le (Ec.ok (f := f) x) hd
theorem all_okT (hd : d ≤ 59) (l : List α) : okE (Tm f l) = true := all_ok (f := f) hd l
theorem ec_pIn [DecidableEq α] (hd : d ≤ 59) (a : α) (l : List α) : pIn (f a) (Lm f l) = some (.bl (decide (a ∈ l))) := by
  show (if okE (f a) && okE (Lm f l) then _ else none) = _
  rw [ec_okE (Nat.le_succ_of_le hd), all_ok hd]
  show some (Pv.bl ((l.map f).any _)) = _
  rw [any_peq]
theorem ec_pInT [DecidableEq α] (hd : d ≤ 59) (a : α) (l : List α) : pIn (f a) (Tm f l) = some (.bl (decide (a ∈ l))) := by
  show (if okE (f a) && okE (Tm f l) then _ else none) = _
  rw [ec_okE (Nat.le_succ_of_le hd), all_okT hd]
  show some (Pv.bl ((l.map f).any _)) = _
  rw [any_peq]
theorem ec_pNotIn [DecidableEq α] (hd : d ≤ 59) (a : α) (l : List α) : pNotIn (f a) (Lm f l) = some (.bl (!decide (a ∈ l))) := by
  unfold pNotIn
  rw [ec_pIn hd]
theorem ec_pNotInT [DecidableEq α] (hd : d ≤ 59) (a : α) (l : List α) : pNotIn (f a) (Tm f l) = some (.bl (!decide (a ∈ l))) := by
  unfold pNotIn
  rw [ec_pInT hd]
theorem ec_ordOk (hd : d ≤ 60) (a b : α) : ordOk (f a) (f b) = true := by
  unfold ordOk
  rw [Ec.al (f := f), ec_okE hd, ec_okE hd, Ec.nn (f := f)]; rfl
theorem ec_alike : ∀ u ∈ ([] : List Pv), True := fun _ _ => trivial
theorem ec_rowOk (hd : d ≤ 60) {l : List α} (hl : l.length ≤ LIM) : rowOk (l.map f) = true := by
  unfold rowOk
  simp only [Bool.and_eq_true, decide_eq_true_eq, List.all_eq_true]
  refine ⟨⟨by rw [List.length_map]; exact hl, fun u hu => ?_⟩, fun u hu v hv => ?_⟩
  · obtain ⟨a, _, rfl⟩ := List.mem_map.mp hu
    exact ec_okE hd a
  · obtain ⟨a, _, rfl⟩ := List.mem_map.mp hu
    obtain ⟨b, _, rfl⟩ := List.mem_map.mp hv
    exact Ec.al (f := f) a b
/-- sorted: the same things, in order -/
theorem ec_srt (l : List α) : ∃ m : List α, srt false (l.map f) = m.map f ∧ m.Perm l ∧ m.Pairwise fun x y => ltP (f y) (f x) = false := by
  have hp := srt_perm false (l.map f)
  have hw := srt_pw (l.map f)
  have key : ∀ us : List Pv, (∀ u ∈ us, ∃ a, u = f a) → ∃ m : List α, us = m.map f := by
    intro us
    induction us with
    | nil => exact fun _ => ⟨[], rfl⟩
    | cons u us ih =>
      intro h
      obtain ⟨a, rfl⟩ := h u List.mem_cons_self
      obtain ⟨m, rfl⟩ := ih fun v hv => h v (List.mem_cons_of_mem _ hv)
      exact ⟨a :: m, rfl⟩
  obtain ⟨m, e⟩ := key (srt false (l.map f)) fun u hu => by
    obtain ⟨a, _, rfl⟩ := List.mem_map.mp (hp.mem_iff.mp hu)
    exact ⟨a, rfl⟩
  rw [e] at hp hw
  refine ⟨m, e, ?_, List.pairwise_map.mp hw⟩
  have inj : ∀ a b : α, f a = f b → a = b := fun a b h => Ec.eq (f := f) a b (by rw [h]; exact Ec.rf (f := f) b)
  exact perm_map_inj inj hp
where
  perm_map_inj (inj : ∀ a b : α, f a = f b → a = b) : ∀ {m l : List α}, (m.map f).Perm (l.map f) → m.Perm l := by
    intro m l h
    classical
    refine List.perm_iff_count.mpr fun a => ?_
    have hc := List.perm_iff_count.mp (h.map fun v => decide (v = f a)) true
    rw [List.map_map, List.map_map] at hc
    have cnt : ∀ l : List α, (l.map ((fun v => decide (v = f a)) ∘ f)).count true = l.count a := by
      intro l
      induction l with
      | nil => rfl
      | cons x l ih =>
        rw [List.map_cons, List.count_cons, List.count_cons, ih]
        congr 1
        by_cases hx : x = a
        · subst hx; simp
        · have : ¬ f x = f a := fun z => hx (inj _ _ z)
          simp [hx, this]
    rwa [cnt, cnt] at hc
end
@[simp] theorem items_Tm {α : Type} (f : α → Pv) (l : List α) : items (Tm f l) = some (l.map f) := rfl
@[simp] theorem items_Lm {α : Type} (f : α → Pv) (l : List α) : items (Lm f l) = some (l.map f) := rfl
@[simp] theorem pLen_Tm {α : Type} (f : α → Pv) (l : List α) : pLen [Tm f l] = some (.int l.length) := by simp [pLen, Tm]
@[simp] theorem pLen_Lm {α : Type} (f : α → Pv) (l : List α) : pLen [Lm f l] = some (.int l.length) := by simp [pLen, Lm]
@[simp] theorem pTuple_Lm {α : Type} (f : α → Pv) (l : List α) : pTuple [Lm f l] = some (Tm f l) := rfl
@[simp] theorem pTuple_Tm {α : Type} (f : α → Pv) (l : List α) : pTuple [Tm f l] = some (Tm f l) := rfl
theorem pIx_Tm {α : Type} {f : α → Pv} {l : List α} {i : Nat} {a : α} (h : l[i]? = some a) : pIx (Tm f l) (.int (i : Int)) = some (f a) := atI_nat (by rw [List.getElem?_map, h]; rfl)
theorem pIx_Lm {α : Type} {f : α → Pv} {l : List α} {i : Nat} {a : α} (h : l[i]? = some a) : pIx (Lm f l) (.int (i : Int)) = some (f a) := atI_nat (by rw [List.getElem?_map, h]; rfl)
theorem pIx_TmD {α : Type} {f : α → Pv} {l : List α} {i : Nat} (a : α) (h : i < l.length) : pIx (Tm f l) (.int (i : Int)) = some (f (l.getD i a)) := pIx_Tm (by rw [List.getD_eq_getElem?_getD, List.getElem?_eq_getElem h]; rfl)
theorem pIx_LmD {α : Type} {f : α → Pv} {l : List α} {i : Nat} (a : α) (h : i < l.length) : pIx (Lm f l) (.int (i : Int)) = some (f (l.getD i a)) := pIx_Lm (by rw [List.getD_eq_getElem?_getD, List.getElem?_eq_getElem h]; rfl)
theorem pAdd_Tm {α : Type} {f : α → Pv} {a b : List α} (h : a.length + b.length ≤ LIM) : pAdd (Tm f a) (Tm f b) = some (Tm f (a ++ b)) := by simp [pAdd, Tm, h]
theorem pCat_Lm {α : Type} {f : α → Pv} {a b : List α} (h : a.length + b.length ≤ LIM) : pCat (Lm f a) (Lm f b) = some ((a ++ b).map f) := by simp [pCat, Lm, h]
theorem rangeP_nI (n : Nat) : rangeP 0 (n : Int) = (List.range n).map nI := by
  unfold rangeP nI
  rw [show ((n : Int) - 0).toNat = n by omega]
  exact List.map_congr_left fun k _ => by rw [Int.zero_add]
theorem pRange1_nI {n : Nat} (h : n ≤ 1000000000) : pRange1 [.int (n : Int)] = some ((List.range n).map nI) := by
  rw [pRange1_int (by omega) (by omega), rangeP_nI]
theorem lst_Lm {α : Type} (f : α → Pv) (l : List α) : Pv.lst (l.map f) = Lm f l := rfl
theorem tup_Tm {α : Type} (f : α → Pv) (l : List α) : Pv.tup (l.map f) = Tm f l := rfl
/-! ### slices -/
def cutA {α : Type} (l : List α) (lo hi : Option Int) : List α := (l.drop (HT.sIx l.length 0 lo)).take (HT.sIx l.length l.length hi - HT.sIx l.length 0 lo)
theorem cutP_mapA {α : Type} (f : α → Pv) (l : List α) (lo hi : Option Int) : cutP (l.map f) lo hi = (cutA l lo hi).map f := by
  unfold cutP cutA
  rw [List.length_map, List.map_take, List.map_drop]
@[simp] theorem pSl_Tm {α : Type} (f : α → Pv) (l : List α) (lo hi : Option Int) : pSl (Tm f l) lo hi = some (Tm f (cutA l lo hi)) := by show some (Pv.tup (cutP (l.map f) lo hi)) = _; rw [cutP_mapA]; rfl
@[simp] theorem pSl_Lm {α : Type} (f : α → Pv) (l : List α) (lo hi : Option Int) : pSl (Lm f l) lo hi = some (Lm f (cutA l lo hi)) := by show some (Pv.lst (cutP (l.map f) lo hi)) = _; rw [cutP_mapA]; rfl
theorem pSlN_Lm {α : Type} (f : α → Pv) (l : List α) (lo hi : Option Int) : pSlN (Lm f l) lo hi = some ((cutA l lo hi).map f) := by show some (cutP (l.map f) lo hi) = _; rw [cutP_mapA]
theorem cutA_to {α : Type} (l : List α) (k : Nat) : cutA l none (some (k : Int)) = l.take k := by
  unfold cutA
  rw [HT.sIx_none, HT.sIx_nat, List.drop_zero, Nat.sub_zero]
  by_cases h : k ≤ l.length
  · rw [Nat.min_eq_left h]
  · rw [Nat.min_eq_right (by omega), List.take_length, List.take_of_length_le (by omega)]
theorem cutA_from {α : Type} (l : List α) (k : Nat) : cutA l (some (k : Int)) none = l.drop k := by
  unfold cutA
  rw [HT.sIx_none, HT.sIx_nat]
  by_cases h : k ≤ l.length
  · rw [Nat.min_eq_left h, List.take_of_length_le (by rw [List.length_drop]; omega)]
  · rw [Nat.min_eq_right (by omega), List.drop_length, List.drop_eq_nil_of_le (by omega)]; simp
theorem cutA_mid {α : Type} (l : List α) (a b : Nat) : cutA l (some (a : Int)) (some (b : Int)) = (l.drop a).take (b - a) := by
  unfold cutA
  rw [HT.sIx_nat, HT.sIx_nat]
  by_cases h : a ≤ l.length
  · rw [Nat.min_eq_left h]
    by_cases g : b ≤ l.length
    · rw [Nat.min_eq_left g]
    · rw [Nat.min_eq_right (by omega), List.take_of_length_le (by rw [List.length_drop]; omega), List.take_of_length_le (by rw [List.length_drop]; omega)]
  · rw [Nat.min_eq_right (show l.length ≤ a by omega), List.drop_length, List.drop_eq_nil_of_le (by omega)]; simp
/-! ### comprehensions in M whose parts do not change the store -/
section
variable {A α : Type} {un : Pv → Option A}
theorem lcN_pureM {ce : A → M Pv} {f g : α → Pv} : ∀ (l : List α), (∀ x ∈ l, ∃ a, un (f x) = some a ∧ ce a = pure (g x)) → lcN un ce (l.map f) = (pure (l.map g) : M (List Pv))
  | [], _ => rfl
  | x :: r, h => by
    obtain ⟨a, h1, h2⟩ := h x List.mem_cons_self
    have ih := lcN_pureM (ce := ce) (f := f) (g := g) r fun y hy => h y (List.mem_cons_of_mem _ hy)
    rw [List.map_cons]
    unfold lcN
    rw [h1, lift_M_some, pure_bind, h2, pure_bind, ih, pure_bind]
    rfl
theorem lcV_pureM {ce : A → M Pv} {f g : α → Pv} {l : List α} (hl : l.length ≤ LIM) (h : ∀ x ∈ l, ∃ a, un (f x) = some a ∧ ce a = pure (g x)) : lcV (pure (l.map f)) un ce = (pure (l.map g) : M (List Pv)) := by
  unfold lcV
  rw [pure_bind, limL_ok (by simpa using hl), lift_M_some, pure_bind]
  exact lcN_pureM l h
theorem lcM_pureM {ct : A → M Bool} {ce : A → M Pv} {f g : α → Pv} {c : α → Bool} : ∀ (l : List α), (∀ x ∈ l, ∃ a, un (f x) = some a ∧ ct a = pure (c x) ∧ (c x = true → ce a = pure (g x))) → lcM un ct ce (l.map f) = (pure ((l.filter c).map g) : M (List Pv))
  | [], _ => rfl
  | x :: r, h => by
    obtain ⟨a, h1, h2, h3⟩ := h x List.mem_cons_self
    have ih := lcM_pureM (ct := ct) (ce := ce) (f := f) (g := g) (c := c) r fun y hy => h y (List.mem_cons_of_mem _ hy)
    rw [List.map_cons]
    unfold lcM
    rw [h1, lift_M_some, pure_bind, h2, pure_bind]
    cases e : c x with
    | true =>
      rw [if_pos rfl, h3 e, pure_bind, ih, pure_bind, List.filter_cons_of_pos e]
      rfl
    | false => rw [if_neg Bool.false_ne_true, ih, List.filter_cons_of_neg (by rw [e]; exact Bool.false_ne_true)]
theorem lcW_pureM {ct : A → M Bool} {ce : A → M Pv} {f g : α → Pv} {c : α → Bool} {l : List α} (hl : l.length ≤ LIM) (h : ∀ x ∈ l, ∃ a, un (f x) = some a ∧ ct a = pure (c x) ∧ (c x = true → ce a = pure (g x))) : lcW (pure (l.map f)) un ct ce = (pure ((l.filter c).map g) : M (List Pv)) := by
  unfold lcW
  rw [pure_bind, limL_ok (by simpa using hl), lift_M_some, pure_bind]
  exact lcM_pureM l h
end
/-! ### min, sorted -/
section
variable {d : Nat} {α : Type} {f : α → Pv} [E : Ec d f]
include E
theorem ec_best (hd : d ≤ 60) {l : List α} (hl : l.length ≤ LIM) : bestOk (l.map f) = true := by
  unfold bestOk
  rw [ec_rowOk hd hl]
  refine List.all_eq_true.mpr fun y hy => ?_
  obtain ⟨z, _, rfl⟩ := List.mem_map.mp hy
  exact Ec.nn (f := f) z
theorem ec_min (hd : d ≤ 60) {l : List α} (hl : l.length ≤ LIM) (hne : l ≠ []) : ∃ a ∈ l, pMin [.lst (l.map f)] = some (f a) ∧ pMin [.tup (l.map f)] = some (f a) ∧ ∀ b ∈ l, ltP (f b) (f a) = false := by
  obtain ⟨x, r, rfl⟩ := List.exists_cons_of_ne_nil hne
  obtain ⟨h1, h2⟩ := minP_spec (r.map f) (f x)
  have hb := ec_best (f := f) hd hl
  rw [List.map_cons] at hb
  rw [← List.map_cons] at h1 h2
  obtain ⟨a, ha, e⟩ := List.mem_map.mp h1
  refine ⟨a, ha, ?_, ?_, fun b hb => ?_⟩
  · rw [e]; exact if_pos hb
  · rw [e]; exact if_pos hb
  · have := h2 (f b) (List.mem_map.mpr ⟨b, hb, rfl⟩)
    rw [← e] at this
    exact this
theorem ec_sorted (hd : d ≤ 60) {l : List α} (hl : l.length ≤ LIM) (hh : (l.map f).all headed = true ∨ (l.map f).all plain = true) : ∃ m : List α, pSorted [.lst (l.map f)] = some (m.map f) ∧ pSorted [.tup (l.map f)] = some (m.map f) ∧ m.Perm l ∧ m.Pairwise fun x y => ltP (f y) (f x) = false := by
  obtain ⟨m, e, hp, hw⟩ := ec_srt (f := f) l
  have hs : sortOk (l.map f) = true := by
    unfold sortOk
    rw [ec_rowOk hd hl, Bool.true_and, Bool.or_eq_true]
    exact hh
  refine ⟨m, ?_, ?_, hp, hw⟩
  · rw [← e]; exact if_pos hs
  · rw [← e]; exact if_pos hs
/-- the first of a sorted list is a least one -/
theorem pw_head {m : List α} {x : α} {r : List α} (h : m.Pairwise fun x y => ltP (f y) (f x) = false) (e : m = x :: r) : ∀ y ∈ m, ltP (f y) (f x) = false := by
  subst e
  intro y hy
  rcases List.mem_cons.mp hy with rfl | hy
  · exact dataLt_self _
  · exact (List.pairwise_cons.mp h).1 y hy
end
theorem P2_lt {d e : Nat} {α β : Type} {f : α → Pv} {g : β → Pv} [Ec d f] [Ec e g] {x y : α × β} (h : ltP (P2 f g x) (P2 f g y) = false) : ltP (f x.1) (f y.1) = false := by
  unfold ltP P2 at h
  rw [toD_tup, toD_tup] at h
  simp only [toDs] at h
  rw [PySem.W.dataLt_pair (Ec.al (f := f) _ _) (Ec.al (f := g) _ _)] at h
  by_cases e1 : PyData.eqv (toD (f x.1)) (toD (f y.1)) = true
  · have h1 : x.1 = y.1 := Ec.eq (f := f) _ _ e1
    rw [h1]
    exact dataLt_self _
  · rw [if_neg e1] at h
    exact h
end Q
/-! MC: turns of places. -/
namespace Q
open PySem PySem.Spec PyProof.Rows L2
def gN (p : List Nat) (i : Nat) : Nat := p.getD i 0
theorem gN_get {p : List Nat} {i : Nat} (h : i < p.length) : gN p i = p[i] := by
  unfold gN
  rw [List.getD_eq_getElem?_getD, List.getElem?_eq_getElem h]; rfl
theorem gN_get? {p : List Nat} {i : Nat} (h : i < p.length) : p[i]? = some (gN p i) := by rw [gN_get h, List.getElem?_eq_getElem h]
theorem gN_ext {p q : List Nat} (hl : p.length = q.length) (h : ∀ i, i < p.length → gN p i = gN q i) : p = q := by
  refine List.ext_getElem hl fun i h1 h2 => ?_
  have := h i h1
  rwa [gN_get h1, gN_get h2] at this
theorem gN_map {α : Type} (l : List α) (f : α → Nat) {i : Nat} (h : i < l.length) : gN (l.map f) i = f l[i] := by
  rw [gN_get (by rw [List.length_map]; exact h), List.getElem_map]
theorem gN_range {n : Nat} (f : Nat → Nat) {i : Nat} (h : i < n) : gN ((List.range n).map f) i = f i := by
  rw [gN_map _ _ (by rw [List.length_range]; exact h), List.getElem_range]
theorem nodup_le : ∀ (l m : List Nat), l.Nodup → (∀ x ∈ l, x ∈ m) → l.length ≤ m.length
  | [], _, _, _ => Nat.zero_le _
  | x :: l, m, h, hs => by
    have hx := hs x List.mem_cons_self
    have hn := List.nodup_cons.mp h
    have ih := nodup_le l (m.erase x) hn.2 fun y hy => by
      have : y ≠ x := fun e => hn.1 (e ▸ hy)
      exact (List.mem_erase_of_ne this).mpr (hs y (List.mem_cons_of_mem _ hy))
    rw [List.length_erase_of_mem hx] at ih
    have := List.length_pos_of_mem hx
    rw [List.length_cons]
    omega
structure Pm (n : Nat) (p : List Nat) : Prop where
  len : p.length = n
  rng : ∀ x ∈ p, x < n
  nd : p.Nodup
section
variable {n : Nat} {p q : List Nat}
theorem Pm.lt (h : Pm n p) {i : Nat} (hi : i < n) : gN p i < n := by
  rw [gN_get (by rw [h.len]; exact hi)]
  exact h.rng _ (List.getElem_mem _)
theorem Pm.inj (h : Pm n p) {i j : Nat} (hi : i < n) (hj : j < n) (e : gN p i = gN p j) : i = j := by
  have h1 : i < p.length := by rw [h.len]; exact hi
  have h2 : j < p.length := by rw [h.len]; exact hj
  rw [gN_get h1, gN_get h2] at e
  have hp := List.pairwise_iff_getElem.mp h.nd
  rcases Nat.lt_trichotomy i j with l | l | l
  · exact absurd e (hp i j h1 h2 l)
  · exact l
  · exact absurd e.symm (hp j i h2 h1 l)
theorem Pm.mem (h : Pm n p) {k : Nat} (hk : k < n) : k ∈ p := by
  refine Classical.byContradiction fun hn => ?_
  have := nodup_le (k :: p) (List.range n) (List.nodup_cons.mpr ⟨hn, h.nd⟩) fun x hx => by
    rcases List.mem_cons.mp hx with rfl | hx
    · exact List.mem_range.mpr hk
    · exact List.mem_range.mpr (h.rng x hx)
  rw [List.length_cons, h.len, List.length_range] at this
  omega
theorem Pm.surj (h : Pm n p) {k : Nat} (hk : k < n) : ∃ i, i < n ∧ gN p i = k := by
  obtain ⟨i, hi, e⟩ := List.mem_iff_getElem.mp (h.mem hk)
  exact ⟨i, by rw [← h.len]; exact hi, by rw [gN_get hi, e]⟩
theorem nodup_map_range {f : Nat → Nat} (h : ∀ i j, i < n → j < n → f i = f j → i = j) : ((List.range n).map f).Nodup := by
  refine List.pairwise_iff_getElem.mpr fun i j hi hj hij e => ?_
  rw [List.length_map, List.length_range] at hi hj
  rw [List.getElem_map, List.getElem_map, List.getElem_range, List.getElem_range] at e
  have := h i j hi hj e
  omega
theorem Pm.of (f : Nat → Nat) (h1 : ∀ i, i < n → f i < n) (h2 : ∀ i j, i < n → j < n → f i = f j → i = j) : Pm n ((List.range n).map f) :=
  ⟨by rw [List.length_map, List.length_range], fun x hx => by
    obtain ⟨i, hi, rfl⟩ := List.mem_map.mp hx
    exact h1 i (List.mem_range.mp hi), nodup_map_range h2⟩
/-- undone -/
def bk (p : List Nat) : List Nat := (List.range p.length).map fun k => p.idxOf k
theorem bk_at (h : Pm n p) {k : Nat} (hk : k < n) : gN (bk p) k = p.idxOf k := by
  unfold bk
  rw [h.len, gN_range _ hk]
theorem Pm.ix (h : Pm n p) {k : Nat} (hk : k < n) : gN (bk p) k < n ∧ gN p (gN (bk p) k) = k := by
  have hm := h.mem hk
  have hl := List.idxOf_lt_length_of_mem hm
  rw [bk_at h hk]
  exact ⟨by rw [← h.len]; exact hl, by rw [gN_get hl]; exact List.getElem_idxOf hl⟩
theorem Pm.xi (h : Pm n p) {i : Nat} (hi : i < n) : gN (bk p) (gN p i) = i :=
  h.inj (h.ix (h.lt hi)).1 hi (h.ix (h.lt hi)).2
theorem Pm.bk (h : Pm n p) : Pm n (bk p) := by
  have e : Q.bk p = (List.range n).map fun k => gN (Q.bk p) k := gN_ext (by unfold Q.bk; simp [h.len]) fun i hi => by
    have hi : i < n := by unfold Q.bk at hi; simpa [h.len] using hi
    rw [gN_range _ hi]
  rw [e]
  exact Pm.of _ (fun i hi => (h.ix hi).1) fun i j hi hj e => by rw [← (h.ix hi).2, e, (h.ix hj).2]
/-- one, then the other -/
def th (p q : List Nat) : List Nat := p.map (gN q)
theorem th_at (h : Pm n p) {i : Nat} (hi : i < n) : gN (th p q) i = gN q (gN p i) := by
  have hl : i < p.length := by rw [h.len]; exact hi
  unfold th
  rw [gN_map _ _ hl, gN_get hl]
theorem Pm.th (h : Pm n p) (g : Pm n q) : Pm n (th p q) := by
  have e : Q.th p q = (List.range n).map fun k => gN q (gN p k) := gN_ext (by unfold Q.th; simp [h.len]) fun i hi => by
    have hi : i < n := by unfold Q.th at hi; simpa [h.len] using hi
    rw [gN_range _ hi, th_at h hi]
  rw [e]
  exact Pm.of _ (fun i hi => g.lt (h.lt hi)) fun i j hi hj e => h.inj hi hj (g.inj (h.lt hi) (h.lt hj) e)
theorem Pm.ext (h : Pm n p) (g : Pm n q) (e : ∀ i, i < n → gN p i = gN q i) : p = q := gN_ext (by rw [h.len, g.len]) fun i hi => e i (by rw [← h.len]; exact hi)
theorem bk_th (h : Pm n p) (g : Pm n q) {k : Nat} (hk : k < n) : gN (bk (th p q)) k = gN (bk p) (gN (bk q) k) := by
  have ht := h.th g
  have h1 := (g.ix hk).1
  refine ht.inj (ht.ix hk).1 (h.ix h1).1 ?_
  rw [(ht.ix hk).2, th_at h (h.ix h1).1, (h.ix h1).2, (g.ix hk).2]
theorem bk_bk (h : Pm n p) : bk (bk p) = p := h.bk.bk.ext h fun i hi => by
  refine h.bk.inj (h.bk.ix hi).1 (h.lt hi) ?_
  rw [(h.bk.ix hi).2, h.xi hi]
def idN (n : Nat) : List Nat := List.range n
theorem idN_at {i : Nat} (hi : i < n) : gN (idN n) i = i := by unfold idN; rw [gN_get (by rw [List.length_range]; exact hi), List.getElem_range]
theorem Pm.id : Pm n (idN n) := ⟨List.length_range, fun x hx => List.mem_range.mp hx, List.nodup_range⟩
theorem th_bk (h : Pm n p) : th p (bk p) = idN n := (h.th h.bk).ext .id fun i hi => by rw [th_at h hi, h.xi hi, idN_at hi]
theorem bk_thp (h : Pm n p) : th (bk p) p = idN n := (h.bk.th h).ext .id fun i hi => by rw [th_at h.bk hi, (h.ix hi).2, idN_at hi]
end
/-! ### all of few places -/
def PL (n : Nat) : List (List Nat) := (pmAll n).map (·.1)
def pmB (n : Nat) (p : List Nat) : Bool := (p.length == n) && p.all (fun x => Nat.blt x n) && decide p.Nodup
theorem pmB_iff {n : Nat} {p : List Nat} : pmB n p = true ↔ Pm n p := by
  unfold pmB
  simp only [Bool.and_eq_true, beq_iff_eq, List.all_eq_true, Nat.blt_eq, decide_eq_true_eq]
  exact ⟨fun h => ⟨h.1.1, h.1.2, h.2⟩, fun h => ⟨⟨h.len, h.rng⟩, h.nd⟩⟩
theorem rowsIn (n : Nat) : ∀ (k : Nat) (p : List Nat), p.length = k → (∀ x ∈ p, x < n) → p ∈ (Nat.rec [[]] (fun _ r => (List.range n).flatMap fun x => r.map (x :: ·)) k : List (List Nat))
  | 0, p, h, _ => by
    have : p = [] := List.eq_nil_of_length_eq_zero h
    subst this
    exact List.mem_cons_self
  | k + 1, [], h, _ => by cases h
  | k + 1, x :: p, h, hx => by
    refine List.mem_flatMap.mpr ⟨x, List.mem_range.mpr (hx x List.mem_cons_self), List.mem_map.mpr ⟨p, rowsIn n k p (by simpa using h) fun y hy => hx y (List.mem_cons_of_mem _ hy), rfl⟩⟩
theorem PL_all (n : Nat) (hn : n ≤ 4) : ((PL n).all (pmB n) && (Nat.rec [[]] (fun _ r => (List.range n).flatMap fun x => r.map (x :: ·)) n : List (List Nat)).all fun p => !pmB n p || (PL n).contains p) = true := by
  have : n = 0 ∨ n = 1 ∨ n = 2 ∨ n = 3 ∨ n = 4 := by omega
  rcases this with rfl | rfl | rfl | rfl | rfl <;> decide +kernel
theorem mem_PL {n : Nat} (hn : n ≤ 4) {p : List Nat} : p ∈ PL n ↔ Pm n p := by
  have h := PL_all n hn
  rw [Bool.and_eq_true, List.all_eq_true, List.all_eq_true] at h
  constructor
  · exact fun hp => pmB_iff.mp (h.1 p hp)
  · intro hp
    have := h.2 p (rowsIn n n p hp.len hp.rng)
    rw [pmB_iff.mpr hp] at this
    simpa using this
theorem pPerm_nI {n : Nat} (hn : n ≤ 4) : pPerm (.int (n : Int)) = some ((PL n).map (Tm nI)) := by
  have e : (if decide (0 ≤ (n : Int)) && Nat.ble (n : Int).natAbs 6 && (Nat.blt (pmAll (n : Int).natAbs).length 1000 && (pmAll (n : Int).natAbs).all (sqOk (n : Int).natAbs)) then some ((pmAll (n : Int).natAbs).map fun p => Pv.tup (p.1.map fun k : Nat => .int k)) else none) = some ((PL n).map (Tm nI)) := by
    have : n = 0 ∨ n = 1 ∨ n = 2 ∨ n = 3 ∨ n = 4 := by omega
    rw [if_pos (by rcases this with rfl | rfl | rfl | rfl | rfl <;> decide +kernel)]
    unfold PL
    rw [List.map_map]
    rfl
  exact e
theorem PL_len {n : Nat} (hn : n ≤ 4) : (PL n).length ≤ 24 ∧ PL n ≠ [] := by
  have : n = 0 ∨ n = 1 ∨ n = 2 ∨ n = 3 ∨ n = 4 := by omega
  rcases this with rfl | rfl | rfl | rfl | rfl <;> decide +kernel
/-! ### things that are moved -/
section
variable {α : Type} {n : Nat} {act : List Nat → α → α} {ok : α → Prop}
/-- turns do with things -/
structure Act (n : Nat) (ok : α → Prop) (act : List Nat → α → α) : Prop where
  keep : ∀ p x, Pm n p → ok x → ok (act p x)
  then_ : ∀ p q x, Pm n p → Pm n q → ok x → act q (act p x) = act (th p q) x
  id_ : ∀ x, ok x → act (idN n) x = x
theorem Act.undo (A : Act n ok act) {p : List Nat} {x : α} (hp : Pm n p) (hx : ok x) : act (bk p) (act p x) = x := by
  rw [A.then_ p _ x hp hp.bk hx, th_bk hp, A.id_ x hx]
/-- over a common thing -/
theorem Act.over (A : Act n ok act) {p q : List Nat} {x y : α} (hp : Pm n p) (hq : Pm n q) (hx : ok x) (hy : ok y) (e : act p x = act q y) : act (th p (bk q)) x = y := by
  rw [← A.then_ p _ x hp hq.bk hx, e, A.undo hq hy]
/-- least ones of alike things are one -/
theorem Act.least (A : Act n ok act) {lt : α → α → Bool} (an : ∀ a b, lt a b = false → lt b a = false → a = b) {x y a b : α} {p q : List Nat} (hx : ok x) (hy : ok y) (hp : Pm n p) (hq : Pm n q) (ea : act p x = a) (eb : act q y = b)
    (la : ∀ r, Pm n r → lt (act r x) a = false) (lb : ∀ r, Pm n r → lt (act r y) b = false) : a = b ↔ ∃ r, Pm n r ∧ act r x = y := by
  constructor
  · intro e
    exact ⟨th p (bk q), hp.th hq.bk, A.over hp hq hx hy (by rw [ea, eb, e])⟩
  · rintro ⟨r, hr, e⟩
    refine an a b ?_ ?_
    · rw [← ea]
      have : act p x = act (th (bk r) p) y := by
        rw [← A.then_ _ _ y hr.bk hp hy, ← e, A.undo hr hx]
      rw [this]
      exact lb _ (hr.bk.th hp)
    · rw [← eb, ← e, A.then_ r q x hr hq hx]
      exact la _ (hr.th hq)
end
end Q
/-! MD: reckoning with the store. -/
namespace Q
open PySem PySem.Spec PyProof.Rows L2
/-- c from a state ends, with what Q says -/
def Hs {α : Type} (c : M α) (μ : List MO) (Q : α → List MO → Prop) : Prop := ∃ v μ', c μ = some (v, μ') ∧ Q v μ'
section
variable {α β : Type}
theorem Hs.pure {v : α} {μ : List MO} {Q : α → List MO → Prop} (h : Q v μ) : Hs (Pure.pure v) μ Q := ⟨v, μ, rfl, h⟩
theorem Hs.of {c : M α} {v : α} {μ μ' : List MO} {Q : α → List MO → Prop} (e : c μ = some (v, μ')) (h : Q v μ') : Hs c μ Q := ⟨v, μ', e, h⟩
theorem Hs.lift {x : Option α} {v : α} {μ : List MO} {Q : α → List MO → Prop} (e : x = some v) (h : Q v μ) : Hs (Eff.lift x) μ Q := ⟨v, μ, by rw [e]; rfl, h⟩
theorem Hs.wp {x : Option α} {μ : List MO} {Q : α → List MO → Prop} (h : Wp x fun v => Q v μ) : Hs (Eff.lift x) μ Q := let ⟨_, e, q⟩ := h; Hs.lift e q
theorem Hs.bind {c : M α} {f : α → M β} {μ : List MO} {Q : α → List MO → Prop} {R : β → List MO → Prop} (h : Hs c μ Q) (k : ∀ v μ', Q v μ' → Hs (f v) μ' R) : Hs (c >>= f) μ R := by
  obtain ⟨v, μ1, e1, q1⟩ := h
  obtain ⟨u, μ2, e2, q2⟩ := k v μ1 q1
  exact ⟨u, μ2, by rw [M_bind, e1]; exact e2, q2⟩
theorem Hs.mono {c : M α} {μ : List MO} {Q R : α → List MO → Prop} (h : Hs c μ Q) (k : ∀ v μ', Q v μ' → R v μ') : Hs c μ R := let ⟨v, μ1, e, q⟩ := h; ⟨v, μ1, e, k v μ1 q⟩
theorem Hs.ite {c : Prop} [Decidable c] {x y : M α} {μ : List MO} {Q : α → List MO → Prop} (h1 : c → Hs x μ Q) (h2 : ¬ c → Hs y μ Q) : Hs (if c then x else y) μ Q := by
  by_cases h : c
  · rw [if_pos h]; exact h1 h
  · rw [if_neg h]; exact h2 h
variable {A S L' : Type} {un : Pv → Option A}
theorem Hs.forS {cb : S → A → M S} {l : List Pv} {s0 : S} {μ : List MO} (I : Nat → S → List MO → Prop) (h0 : I 0 s0 μ) (hs : ∀ (i : Nat) x s μ, l[i]? = some x → I i s μ → ∃ a, un x = some a ∧ Hs (cb s a) μ (I (i + 1))) : Hs (forS un cb s0 l) μ (I l.length) := by
  induction l generalizing I s0 μ with
  | nil => exact Hs.pure h0
  | cons x r ih =>
    obtain ⟨a, h1, h2⟩ := hs 0 x s0 μ rfl h0
    unfold Q.forS
    rw [h1, lift_M_some, pure_bind]
    exact h2.bind fun s' μ' h3 => ih (fun i s => I (i + 1) s) h3 fun i y t μ hy ht => hs (i + 1) y t μ (by simpa using hy) ht
theorem Hs.lcN {ce : A → M Pv} {l : List Pv} {μ : List MO} (I : Nat → List Pv → List MO → Prop) (h0 : I 0 [] μ) (hs : ∀ (i : Nat) x ys μ, l[i]? = some x → I i ys μ → ∃ a, un x = some a ∧ Hs (ce a) μ fun y μ' => I (i + 1) (ys ++ [y]) μ') : Hs (lcN un ce l) μ fun ys μ' => I l.length ys μ' := by
  have key : ∀ (l : List Pv) (I : Nat → List Pv → List MO → Prop) (acc : List Pv) (μ : List MO), I 0 acc μ → (∀ (i : Nat) x ys μ, l[i]? = some x → I i ys μ → ∃ a, un x = some a ∧ Hs (ce a) μ fun y μ' => I (i + 1) (ys ++ [y]) μ') → Hs (Q.lcN un ce l) μ fun ys μ' => I l.length (acc ++ ys) μ' := by
    intro l
    induction l with
    | nil => intro I acc μ h0 _; exact Hs.pure (by rw [List.append_nil]; exact h0)
    | cons x r ih =>
      intro I acc μ h0 hs
      obtain ⟨a, h1, h2⟩ := hs 0 x acc μ rfl h0
      unfold Q.lcN
      rw [h1, lift_M_some, pure_bind]
      refine h2.bind fun y μ1 h3 => ?_
      refine (ih (fun i s => I (i + 1) s) (acc ++ [y]) μ1 h3 fun i z t μ hz ht => hs (i + 1) z t μ (by simpa using hz) ht).bind fun ys μ2 h4 => Hs.pure ?_
      rw [List.append_assoc] at h4
      exact h4
  have := key l I [] μ h0 hs
  simpa using this
theorem Hs.lcV {ce : A → M Pv} {l : List Pv} {μ : List MO} (hl : l.length ≤ LIM) (I : Nat → List Pv → List MO → Prop) (h0 : I 0 [] μ) (hs : ∀ (i : Nat) x ys μ, l[i]? = some x → I i ys μ → ∃ a, un x = some a ∧ Hs (ce a) μ fun y μ' => I (i + 1) (ys ++ [y]) μ') : Hs (lcV (Pure.pure l) un ce) μ fun ys μ' => I l.length ys μ' := by
  unfold Q.lcV
  rw [pure_bind, limL_ok hl, lift_M_some, pure_bind]
  exact Hs.lcN I h0 hs
end
/-- v, and nothing of the store is changed but that something is laid behind -/
def Ug {α : Type} (c : M α) (v : α) : Prop := ∀ μ, ∃ g, c μ = some (v, μ ++ g)
theorem Tri.ug {α : Type} {c : M α} {v : α} {Q : α → Prop} (h : Ug c v) (q : Q v) : Tri c Q := fun μ ⟨ds, k, r, hk, e⟩ => by
  obtain ⟨g, e1⟩ := h μ
  exact ⟨v, _, e1, ⟨ds, k, r ++ g, hk, by rw [e]; rfl⟩, q⟩
theorem Ug.hs {α : Type} {c : M α} {v : α} {μ : List MO} {Q : α → List MO → Prop} (h : Ug c v) (q : ∀ g, Q v (μ ++ g)) : Hs c μ Q := by
  obtain ⟨g, e⟩ := h μ
  exact ⟨v, _, e, q g⟩
theorem Ug.of {α : Type} {c : M α} {v : α} (h : ∀ μ, Hs c μ fun u μ' => u = v ∧ ∃ g, μ' = μ ++ g) : Ug c v := fun μ => by
  obtain ⟨u, μ', e, rfl, g, rfl⟩ := h μ
  exact ⟨g, e⟩
theorem Ug.pure {α : Type} {v : α} : Ug (Pure.pure v) v := fun μ => ⟨[], by rw [List.append_nil]; rfl⟩
theorem Ug.lift {α : Type} {x : Option α} {v : α} (e : x = some v) : Ug (Eff.lift x) v := fun μ => ⟨[], by rw [List.append_nil, e]; rfl⟩
theorem Ug.bind {α β : Type} {c : M α} {f : α → M β} {v : α} {u : β} (h : Ug c v) (k : Ug (f v) u) : Ug (c >>= f) u := fun μ => by
  obtain ⟨g, e⟩ := h μ
  obtain ⟨g', e'⟩ := k (μ ++ g)
  exact ⟨g ++ g', by rw [M_bind, e, ← List.append_assoc]; exact e'⟩
section
variable {A α : Type} {un : Pv → Option A}
theorem Ug.lcN {ce : A → M Pv} {f g : α → Pv} : ∀ (l : List α), (∀ x ∈ l, ∃ a, un (f x) = some a ∧ Ug (ce a) (g x)) → Ug (lcN un ce (l.map f)) (l.map g)
  | [], _ => Ug.pure
  | x :: r, h => by
    obtain ⟨a, h1, h2⟩ := h x List.mem_cons_self
    have ih := Ug.lcN (ce := ce) (f := f) (g := g) r fun y hy => h y (List.mem_cons_of_mem _ hy)
    rw [List.map_cons]
    unfold Q.lcN
    rw [h1, lift_M_some, pure_bind]
    exact h2.bind (ih.bind Ug.pure)
theorem Ug.lcV {ce : A → M Pv} {f g : α → Pv} {l : List α} (hl : l.length ≤ LIM) (h : ∀ x ∈ l, ∃ a, un (f x) = some a ∧ Ug (ce a) (g x)) : Ug (lcV (Pure.pure (l.map f)) un ce) (l.map g) := by
  unfold Q.lcV
  rw [pure_bind, limL_ok (by simpa using hl), lift_M_some, pure_bind]
  exact Ug.lcN l h
theorem Ug.lcM {ct : A → M Bool} {ce : A → M Pv} {f g : α → Pv} {c : α → Bool} : ∀ (l : List α), (∀ x ∈ l, ∃ a, un (f x) = some a ∧ Ug (ct a) (c x) ∧ (c x = true → Ug (ce a) (g x))) → Ug (lcM un ct ce (l.map f)) ((l.filter c).map g)
  | [], _ => Ug.pure
  | x :: r, h => by
    obtain ⟨a, h1, h2, h3⟩ := h x List.mem_cons_self
    have ih := Ug.lcM (ct := ct) (ce := ce) (f := f) (g := g) (c := c) r fun y hy => h y (List.mem_cons_of_mem _ hy)
    rw [List.map_cons]
    unfold Q.lcM
    rw [h1, lift_M_some, pure_bind]
    cases e : c x with
    | true =>
      rw [e] at h2
      rw [List.filter_cons_of_pos e]
      refine h2.bind ?_
      rw [if_pos rfl]
      exact (h3 e).bind (ih.bind Ug.pure)
    | false =>
      rw [e] at h2
      rw [List.filter_cons_of_neg (by rw [e]; exact Bool.false_ne_true)]
      refine h2.bind ?_
      rw [if_neg Bool.false_ne_true]
      exact ih
theorem Ug.lcW {ct : A → M Bool} {ce : A → M Pv} {f g : α → Pv} {c : α → Bool} {l : List α} (hl : l.length ≤ LIM) (h : ∀ x ∈ l, ∃ a, un (f x) = some a ∧ Ug (ct a) (c x) ∧ (c x = true → Ug (ce a) (g x))) : Ug (lcW (Pure.pure (l.map f)) un ct ce) ((l.filter c).map g) := by
  unfold Q.lcW
  rw [pure_bind, limL_ok (by simpa using hl), lift_M_some, pure_bind]
  exact Ug.lcM l h
/-- over a list of the store that is not changed -/
theorem lcSF_same {ct : A → M Bool} {ce : A → M Pv} {f g : α → Pv} {c : α → Bool} {d : Pv} {n : Nat} {l : List α} {μ : List MO} (hd : lsAt μ d = some (n, l.map f)) (h : ∀ x ∈ l, ∃ a, un (f x) = some a ∧ ct a μ = some (c x, μ) ∧ (c x = true → ce a μ = some (g x, μ))) :
    ∀ (k i : Nat), i ≤ l.length → l.length < k + i → lcSF un ct ce d k i μ = some (((l.drop i).filter c).map g, μ)
  | 0, i, hi, hk => absurd hk (by omega)
  | k + 1, i, hi, hk => by
    have e0 : itS d i μ = some ((l.map f)[i]?, μ) := by
      unfold itS
      rw [hd]; rfl
    unfold lcSF
    rw [M_bind, e0, Option.bind_some]
    by_cases hlt : i < l.length
    · have e1 : (l.map f)[i]? = some (f l[i]) := by rw [List.getElem?_map, List.getElem?_eq_getElem hlt]; rfl
      obtain ⟨a, h1, h2, h3⟩ := h l[i] (List.getElem_mem hlt)
      have ih := lcSF_same hd h k (i + 1) hlt (by omega)
      rw [e1]
      show (Eff.lift (un (f l[i])) >>= _ : M (List Pv)) μ = _
      rw [h1, lift_M_some, pure_bind, M_bind, h2, Option.bind_some, List.drop_eq_getElem_cons hlt]
      cases e : c l[i] with
      | true =>
        rw [List.filter_cons_of_pos e]
        show (ce a >>= _ : M (List Pv)) μ = _
        rw [M_bind, h3 e, Option.bind_some, M_bind, ih, Option.bind_some]
        rfl
      | false =>
        rw [List.filter_cons_of_neg (by rw [e]; exact Bool.false_ne_true)]
        exact ih
    · have e1 : (l.map f)[i]? = none := List.getElem?_eq_none (by rw [List.length_map]; omega)
      rw [e1, List.drop_eq_nil_of_le (by omega)]
      rfl
theorem lcS_same {ct : A → M Bool} {ce : A → M Pv} {f g : α → Pv} {c : α → Bool} {d : Pv} {n : Nat} {l : List α} {μ : List MO} (hl : l.length < SFUEL) (hd : lsAt μ d = some (n, l.map f)) (h : ∀ x ∈ l, ∃ a, un (f x) = some a ∧ ct a μ = some (c x, μ) ∧ (c x = true → ce a μ = some (g x, μ))) :
    lcS (pure d) un ct ce μ = some ((l.filter c).map g, μ) := by
  unfold lcS
  rw [pure_bind]
  exact lcSF_same hd h SFUEL 0 (Nat.zero_le _) hl
end
theorem lsAt_of {μ : List MO} {n : Nat} {l : List Pv} (h : μ[n]? = some (.ls l)) : lsAt μ (.loc n) = some (n, l) := by
  unfold lsAt
  simp only [h]
/-! ### a table in the store: rows first, then the list of the rows -/
def matS (μ0 : List MO) (m n : Nat) (F : Nat → Nat → Pv) : List MO := μ0 ++ (List.range m).map (fun i => MO.ls ((List.range n).map (F i))) ++ [.ls ((List.range m).map fun i => .loc (μ0.length + i))]
def put2 (F : Nat → Nat → Pv) (i k : Nat) (v : Pv) : Nat → Nat → Pv := fun a b => if a = i ∧ b = k then v else F a b
section
variable {μ0 : List MO} {m n : Nat} {F : Nat → Nat → Pv}
theorem matS_row {i : Nat} (hi : i < m) : (matS μ0 m n F)[μ0.length + i]? = some (.ls ((List.range n).map (F i))) := by
  unfold matS
  rw [List.getElem?_append_left (by simp; omega), List.getElem?_append_right (by omega), Nat.add_sub_cancel_left, List.getElem?_map, List.getElem?_range hi]; rfl
theorem matS_top : (matS μ0 m n F)[μ0.length + m]? = some (.ls ((List.range m).map fun i => .loc (μ0.length + i))) := by
  unfold matS
  rw [List.getElem?_append_right (by simp)]
  simp
theorem matS_lsRow {i : Nat} (hi : i < m) : lsAt (matS μ0 m n F) (.loc (μ0.length + i)) = some (μ0.length + i, (List.range n).map (F i)) := by
  exact lsAt_of (matS_row hi)
theorem matS_lsTop : lsAt (matS μ0 m n F) (.loc (μ0.length + m)) = some (μ0.length + m, (List.range m).map fun i => .loc (μ0.length + i)) := by
  exact lsAt_of matS_top
theorem matS_ix {i : Nat} (hi : i < m) : pIxS (.loc (μ0.length + m)) (.int (i : Int)) (matS μ0 m n F) = some (.loc (μ0.length + i), matS μ0 m n F) := by
  unfold pIxS
  rw [matS_lsTop, Option.bind_some]
  show (L2.atI _ _).map _ = _
  rw [atI_nat (v := Pv.loc (μ0.length + i)) (by rw [List.getElem?_map, List.getElem?_range hi]; rfl)]; rfl
theorem matS_get {i k : Nat} (hi : i < m) (hk : k < n) : pIxS (.loc (μ0.length + i)) (.int (k : Int)) (matS μ0 m n F) = some (F i k, matS μ0 m n F) := by
  unfold pIxS
  rw [matS_lsRow hi, Option.bind_some]
  show (L2.atI _ _).map _ = _
  rw [atI_nat (v := F i k) (by rw [List.getElem?_map, List.getElem?_range hk]; rfl)]; rfl
theorem set_rangeA {α : Type} {n x : Nat} {g : Nat → α} {b : α} : ((List.range n).map g).set x b = (List.range n).map fun v => if v = x then b else g v := by
  refine List.ext_getElem (by simp) fun i h1 h2 => ?_
  rw [List.getElem_set, List.getElem_map, List.getElem_map, List.getElem_range]
  by_cases e : x = i
  · subst e; simp
  · rw [if_neg e, if_neg fun z => e z.symm]
theorem matS_set {i k : Nat} {v : Pv} (hi : i < m) (hk : k < n) : setS (.loc (μ0.length + i)) (.int (k : Int)) v (matS μ0 m n F) = some ((), matS μ0 m n (put2 F i k v)) := by
  unfold setS
  rw [matS_lsRow hi, Option.bind_some]
  show (ixN _ (k : Int)).map _ = _
  rw [ixN_of (by omega) (by simp; omega), Option.map_some, Int.toNat_natCast, set_rangeA]
  congr 2
  unfold matS
  rw [List.set_append_left _ _ (by simp; omega), List.set_append_right _ _ (by omega), Nat.add_sub_cancel_left, set_rangeA]
  congr 2
  refine List.map_congr_left fun a _ => ?_
  by_cases e : a = i
  · subst e
    rw [if_pos rfl]
    congr 1
    refine List.map_congr_left fun b _ => ?_
    unfold put2
    by_cases e2 : b = k
    · rw [if_pos e2, if_pos ⟨rfl, e2⟩]
    · rw [if_neg e2, if_neg fun z => e2 z.2]
  · rw [if_neg e]
    congr 1
    refine List.map_congr_left fun b _ => ?_
    unfold put2
    rw [if_neg fun z => e z.1]
theorem matS_tup {i : Nat} (hi : i < m) : tupS (.loc (μ0.length + i)) (matS μ0 m n F) = some (.tup ((List.range n).map (F i)), matS μ0 m n F) := by
  unfold tupS
  rw [matS_lsRow hi]; rfl
/-- [[z for k in range(n)] for i in range(m)], in the store -/
theorem matS_new {z : Pv} {cr : Pv → M (List Pv)} {l : List Pv} (hl : l.length = m) (hm : m ≤ LIM) (hc : ∀ x, cr x = pure ((List.range n).map fun _ => z)) :
    (lcV (pure l) some (fun a => cr a >>= nlM) >>= fun rows => nlM rows : M Pv) μ0 = some (.loc (μ0.length + m), matS μ0 m n fun _ _ => z) := by
  have key : Hs (lcV (pure l) some fun a => cr a >>= nlM) μ0 fun ys μ => ys = (List.range l.length).map (fun i => Pv.loc (μ0.length + i)) ∧ μ = μ0 ++ (List.range l.length).map (fun _ => MO.ls ((List.range n).map fun _ => z)) := by
    refine Hs.lcV (by omega) (fun i ys μ => ys = (List.range i).map (fun i => Pv.loc (μ0.length + i)) ∧ μ = μ0 ++ (List.range i).map (fun _ => MO.ls ((List.range n).map fun _ => z))) ⟨rfl, by simp⟩ fun i x ys μ hx ⟨e1, e2⟩ => ⟨x, rfl, ?_⟩
    rw [hc, pure_bind]
    refine Hs.of (v := .loc μ.length) (μ' := μ ++ [.ls ((List.range n).map fun _ => z)]) rfl ⟨?_, ?_⟩
    · rw [e1, e2, List.range_succ, List.map_append]
      simp
    · rw [e2, List.range_succ, List.map_append, List.append_assoc]
      rfl
  obtain ⟨ys, μ, e, rfl, rfl⟩ := key
  rw [M_bind, e, Option.bind_some]
  subst hl
  show some (Pv.loc _, _) = _
  rw [List.length_append, List.length_map, List.length_range]
  rfl
end
end Q
/-! ME: pieces of an M block that do nothing to the store, as plain options. -/
namespace Q
open PySem PySem.Spec PyProof.Rows L2
variable {α β : Type}
/-- c only lifts x -/
def Lf (c : M α) (x : Option α) : Prop := c = Eff.lift x
theorem Lf.lift {x : Option α} : Lf (Eff.lift x) x := rfl
theorem Lf.pure {v : α} : Lf (Pure.pure v) (some v) := rfl
theorem Lf.bind {c : M α} {x : Option α} {f : α → M β} {g : α → Option β} (h : Lf c x) (k : ∀ a, Lf (f a) (g a)) : Lf (c >>= f) (x.bind g) := by
  unfold Lf at h
  subst h
  cases x with
  | none => rfl
  | some a => exact k a
theorem Lf.ite {p : Prop} [Decidable p] {c d : M α} {x y : Option α} (h : Lf c x) (k : Lf d y) : Lf (if p then c else d) (if p then x else y) := by
  by_cases hp : p
  · rw [if_pos hp, if_pos hp]; exact h
  · rw [if_neg hp, if_neg hp]; exact k
variable {A S L S' L' : Type} {un : Pv → Option A}
theorem Lf.lcM {ct : A → M Bool} {ce : A → M Pv} {ct' : A → Option Bool} {ce' : A → Option Pv} (h : ∀ a, Lf (ct a) (ct' a)) (k : ∀ a, Lf (ce a) (ce' a)) : ∀ l, Lf (Q.lcM un ct ce l) (Q.lcM un ct' ce' l)
  | [] => rfl
  | _ :: r => Lf.bind Lf.lift fun a => Lf.bind (h a) fun _ => Lf.ite (Lf.bind (k a) fun _ => Lf.bind (Lf.lcM h k r) fun _ => Lf.pure) (Lf.lcM h k r)
theorem Lf.lcN {ce : A → M Pv} {ce' : A → Option Pv} (k : ∀ a, Lf (ce a) (ce' a)) : ∀ l, Lf (Q.lcN un ce l) (Q.lcN un ce' l)
  | [] => rfl
  | _ :: r => Lf.bind Lf.lift fun a => Lf.bind (k a) fun _ => Lf.bind (Lf.lcN k r) fun _ => Lf.pure
theorem Lf.lcW {ci : M (List Pv)} {ci' : Option (List Pv)} {ct : A → M Bool} {ce : A → M Pv} {ct' : A → Option Bool} {ce' : A → Option Pv} (g : Lf ci ci') (h : ∀ a, Lf (ct a) (ct' a)) (k : ∀ a, Lf (ce a) (ce' a)) : Lf (Q.lcW ci un ct ce) (Q.lcW ci' un ct' ce') :=
  Lf.bind g fun _ => Lf.bind Lf.lift fun _ => Lf.lcM h k _
theorem Lf.lcV {ci : M (List Pv)} {ci' : Option (List Pv)} {ce : A → M Pv} {ce' : A → Option Pv} (g : Lf ci ci') (k : ∀ a, Lf (ce a) (ce' a)) : Lf (Q.lcV ci un ce) (Q.lcV ci' un ce') :=
  Lf.bind g fun _ => Lf.bind Lf.lift fun _ => Lf.lcN k _
theorem Lf.at_ {o : Out S L} {k : S → M (Out S' L)} {k' : S → Option (Out S' L)} (h : ∀ s, Lf (k s) (k' s)) : Lf (o.andThen k) (o.andThen k') := by
  cases o with
  | nx s => exact h s
  | ct l => rfl
  | bk l => rfl
  | rt v => rfl
theorem Lf.forO {cb : S → A → M (Out S S)} {cb' : S → A → Option (Out S S)} (h : ∀ s a, Lf (cb s a) (cb' s a)) : ∀ l s, Lf (Q.forO un cb s l : M (Out S L)) (Q.forO un cb' s l)
  | [], _ => rfl
  | _ :: r, s => Lf.bind Lf.lift fun a => Lf.bind (h s a) fun o => by
      cases o with
      | nx s' => exact Lf.forO h r s'
      | ct s' => exact Lf.forO h r s'
      | bk s' => rfl
      | rt v => rfl
theorem Lf.forS {cb : S → A → M S} {cb' : S → A → Option S} (h : ∀ s a, Lf (cb s a) (cb' s a)) : ∀ l s, Lf (Q.forS un cb s l) (Q.forS un cb' s l)
  | [], _ => rfl
  | _ :: r, s => Lf.bind Lf.lift fun a => Lf.bind (h s a) fun s' => Lf.forS h r s'
theorem Lf.tri {c : M α} {x : Option α} {v : α} {Q : α → Prop} (h : Lf c x) (e : x = some v) (q : Q v) : Tri c Q := by
  unfold Lf at h
  subst h e
  exact Tri.pure q
theorem Lf.triB {c : M α} {x : Option α} {v : α} {K : α → M β} {Q : β → Prop} (h : Lf c x) (e : x = some v) (t : Tri (K v) Q) : Tri (c >>= K) Q := by
  unfold Lf at h
  subst h e
  exact t
theorem Lf.ug {c : M α} {x : Option α} {v : α} (h : Lf c x) (e : x = some v) : Ug c v := by
  unfold Lf at h
  subst h
  exact Ug.lift e
end Q
namespace Q
open PySem PySem.Spec PyProof.Rows L2
def topS (i : Nat) : Stmt := PySem.Challenge.pw_oneform_k06_counts_of_words_alike.main.body.getD i (.Pass ⟨0, 0, 0, 0⟩)
structure Tops (K : PySem.W.Frag) (mg : Str → Option Value) where
  a__law_alike : Addr
  fd__law_alike : FuncData
  F__law_alike : Fun K "_law_alike" "_law_alike" (topS 9) a__law_alike fd__law_alike
  g__law_alike : mg "_law_alike" = some (.ref a__law_alike)
  b__law_alike : Binds K fd__law_alike ["told", "due"] []
  a__law_draws : Addr
  fd__law_draws : FuncData
  F__law_draws : Fun K "_law_draws" "_law_draws" (topS 6) a__law_draws fd__law_draws
  g__law_draws : mg "_law_draws" = some (.ref a__law_draws)
  b__law_draws : Binds K fd__law_draws ["script", "many"] []
  a__law_next : Addr
  fd__law_next : FuncData
  F__law_next : Fun K "_law_next" "_law_next" (topS 7) a__law_next fd__law_next
  g__law_next : mg "_law_next" = some (.ref a__law_next)
  b__law_next : Binds K fd__law_next ["w", "many"] []
  a__law_free : Addr
  fd__law_free : FuncData
  F__law_free : Fun K "_law_free" "_law_free" (topS 10) a__law_free fd__law_free
  g__law_free : mg "_law_free" = some (.ref a__law_free)
  b__law_free : Binds K fd__law_free ["w"] []
  a__law_is_free : Addr
  fd__law_is_free : FuncData
  F__law_is_free : Fun K "_law_is_free" "_law_is_free" (topS 11) a__law_is_free fd__law_is_free
  g__law_is_free : mg "_law_is_free" = some (.ref a__law_is_free)
  b__law_is_free : Binds K fd__law_is_free ["free", "a", "b"] []
  a__law_lots : Addr
  fd__law_lots : FuncData
  F__law_lots : Fun K "_law_lots" "_law_lots" (topS 12) a__law_lots fd__law_lots
  g__law_lots : mg "_law_lots" = some (.ref a__law_lots)
  b__law_lots : Binds K fd__law_lots ["word", "free"] []
  a__law_ways : Addr
  fd__law_ways : FuncData
  F__law_ways : Fun K "_law_ways" "_law_ways" (topS 13) a__law_ways fd__law_ways
  g__law_ways : mg "_law_ways" = some (.ref a__law_ways)
  b__law_ways : Binds K fd__law_ways ["amounts"] []
  a__are_free : Addr
  fd__are_free : FuncData
  F__are_free : Fun K "_are_free" "_are_free" (topS 1) a__are_free fd__are_free
  g__are_free : mg "_are_free" = some (.ref a__are_free)
  b__are_free : Binds K fd__are_free ["a", "b", "free"] []
  a__first_letters : Addr
  fd__first_letters : FuncData
  F__first_letters : Fun K "_first_letters" "_first_letters" (topS 2) a__first_letters fd__first_letters
  g__first_letters : mg "_first_letters" = some (.ref a__first_letters)
  b__first_letters : Binds K fd__first_letters ["word", "free"] []
  a__count : Addr
  fd__count : FuncData
  F__count : Fun K "_count" "_count" (topS 4) a__count fd__count
  g__count : mg "_count" = some (.ref a__count)
  b__count : Binds K fd__count ["word", "free", "known"] []
  a_count_alike : Addr
  fd_count_alike : FuncData
  F_count_alike : Fun K "count_alike" "count_alike" (topS 3) a_count_alike fd_count_alike
  g_count_alike : mg "count_alike" = some (.ref a_count_alike)
  b_count_alike : Binds K fd_count_alike ["word", "free"] []
  a_law : Addr
  fd_law : FuncData
  F_law : Fun K "law" "law" (topS 14) a_law fd_law
  g_law : mg "law" = some (.ref a_law)
  b_law : Binds K fd_law ["script"] []
  z_abs : mg "abs" = none
  z_all : mg "all" = none
  z_bool : mg "bool" = none
  z_int : mg "int" = none
  z_isinstance : mg "isinstance" = none
  z_len : mg "len" = none
  z_max : mg "max" = none
  z_min : mg "min" = none
  z_range : mg "range" = none
  z_str : mg "str" = none
  z_sum : mg "sum" = none
  z_tuple : mg "tuple" = none
section
variable {P : Program} {w : World} {K : PySem.W.Frag} {mg : Str → Option Value} {base : Heap}
/-! ### _law_alike -/
theorem sc__law_alike : FnScope ["told", "due", "k"] ["told", "due"] (defScope (topS 9)) := ⟨rfl, rfl, rfl, by decide +kernel, rfl, by decide +kernel, by decide +kernel⟩
def b__law_alike (self_ : List Pv → Option Pv) (told0 due0 : Pv) : Option (Out Unit Empty) :=
  ((iteM (b1 pTru (b1 (pIsi "tuple") (pure due0))) (((iteM (tOrM ((b1 pTru (b1 (pIsi "tuple") (pure told0)) >>= fun b => pure (!b))) (b1 asB (b2 pNe (bL pLen (consM (pure told0) (pure []))) (bL pLen (consM (pure due0) (pure [])))))) ((pure (.bl false) >>= fun v => pure (.rt v))) (pure (.nx ())) : Option (Out (Unit) (Empty))) >>= fun o => o.andThen fun s2 =>
  (b2 pEq ((lcW (bL pRange1 (consM (bL pLen (consM (pure due0) (pure []))) (pure []))) some (fun a3 => (b1 pTru ((consM (b2 pIx (pure told0) (pure a3)) (consM (b2 pIx (pure due0) (pure a3)) (pure [])) >>= self_)) >>= fun b => pure (!b))) (fun a3 => pure a3) >>= fun l => pure (.lst l))) (((pure [] >>= fun l => Eff.lift (pLim (fun x => x) l)) >>= fun l => pure (.lst l))) >>= fun v => pure (.rt v)))) (pure (.nx ())) : Option (Out (Unit) (Empty))) >>= fun o => o.andThen fun s1 =>
  ((iteM (b1 asB (b2 pIsN (pure due0) (pure .non))) ((b2 pIsN (pure told0) (pure .non) >>= fun v => pure (.rt v))) (pure (.nx ())) : Option (Out (Unit) (Empty))) >>= fun o => o.andThen fun s4 =>
  ((iteM (b1 pTru (b1 (pIsi "bool") (pure due0))) ((andV (b1 (pIsi "bool") (pure told0)) (b2 pEq (pure told0) (pure due0)) >>= fun v => pure (.rt v))) (pure (.nx ())) : Option (Out (Unit) (Empty))) >>= fun o => o.andThen fun s5 =>
  ((iteM (b1 pTru (b1 (pIsi "int") (pure due0))) ((andV (b1 (pIsi "int") (pure told0)) (andV (notB (b1 (pIsi "bool") (pure told0))) (b2 pEq (pure told0) (pure due0))) >>= fun v => pure (.rt v))) (pure (.nx ())) : Option (Out (Unit) (Empty))) >>= fun o => o.andThen fun s6 =>
  (andV (b1 (pIsi "str") (pure told0)) (b2 pEq (pure told0) (pure due0)) >>= fun v => pure (.rt v))))))
def m__law_alikeF : Nat → List Pv → Option Pv
  | 0, _ => Eff.lift none
  | d + 1, [told0, due0] => b__law_alike (m__law_alikeF d) told0 due0 >>= fin
  | _ + 1, _ => Eff.lift none
def m__law_alike : List Pv → Option Pv := m__law_alikeF 40
theorem ok__law_alikeF (T : Tops K mg) : ∀ d, FnOk P w K mg base CX0 (0 + d) T.a__law_alike T.fd__law_alike ["told", "due"] (spF K 2 (m__law_alikeF d))
  | 0 => ok_none
  | d + 1 => by
    have ih := ok__law_alikeF T d
    have sc := sc__law_alike
    refine ok_def (k := 0 + d) (em := fun _ => [.none, .none, .none]) T.F__law_alike sc fun cdv A outer s H args E hl hr => ?_
    match args, hl with
    | [told0, due0], _ =>
    exact ⟨b__law_alike (m__law_alikeF d) told0 due0, fun _ _ h => h, (show Ex _ _ _ (b__law_alike (m__law_alikeF d) told0 due0) (oit (fun _ => [.none, .none, .none]) fun l => l.elim) from
  x_seqO (e1 := (fun s1 : Unit => [.val told0, .val due0, .none])) (es_if (et_tru (Ev.ek (ev_isi (n := "tuple") (Ev.ek (ev_var (i := 1) rfl)) T.z_isinstance T.z_tuple (by decide +kernel) isi_tuple (by decide +kernel)))) (x_seqO (e1 := (fun s2 : Unit => [.val told0, .val due0, .none])) (es_if (Ew.et (ew_or (et_not (et_tru (Ev.ek (ev_isi (n := "tuple") (Ev.ek (ev_var (i := 0) rfl)) T.z_isinstance T.z_tuple (by decide +kernel) isi_tuple (by decide +kernel))))) (ew_or1 (et_cmp (oc_ne hr.units) (Ev.ek (ev_blt cb_len T.z_len PySem.boot_len (eka_cons (Ev.ek (ev_var (i := 0) rfl)) (eka_nil)))) (Ev.ek (ev_blt cb_len T.z_len PySem.boot_len (eka_cons (Ev.ek (ev_var (i := 1) rfl)) (eka_nil)))))))) (x_ret (Ev.ek (ev_bl))) (x_nil (.k (.k (.k .n))))) fun s2 =>
  x_ret (Ev.ek (ev_cmp (oc_eq hr.units) (Ev.ek (En.ev (en_lcW (own := [("k", 2)]) rfl sc.nd (ei_range1 T.z_range (ea_cons (ev_blt cb_len T.z_len PySem.boot_len (eka_cons (Ev.ek (ev_var (i := 1) rfl)) (eka_nil))) (ea_nil))) (blkOk_by (by kernel_rfl)) (fun _ _ _ _ _ => tg_name (i := 2) sc.nd) (fun _ _ _ _ _ a3 => ets_one (et_not (et_tru (Ev.ek (ev_call ih hr T.g__law_alike T.F__law_alike.kp T.b__law_alike (ea_cons (ev_ix (Ev.ek (ev_var (i := 0) rfl)) (Ev.ek (ev_var (i := 2) rfl))) (ea_cons (ev_ix (Ev.ek (ev_var (i := 1) rfl)) (Ev.ek (ev_var (i := 2) rfl))) (ea_nil))) rfl (hlen := (len_cons (len_cons len_nil)))))))) (fun _ _ _ _ _ a3 => ev_var (i := 2) rfl) (noMl_of rfl) (by decide) (fun _ => rfl) (fun _ => noMl_of rfl)))) (Ev.ek (En.ev (en_lst (ea_nil))))))) (x_nil (.k (.k (.k .n))))) fun s1 =>
  x_seqO (e1 := (fun s4 : Unit => [.val told0, .val due0, .none])) (es_if (et_cmp oc_isN (Ev.ek (ev_var (i := 1) rfl)) (Ev.ek (ev_non))) (x_ret (Ev.ek (ev_cmp oc_isN (Ev.ek (ev_var (i := 0) rfl)) (Ev.ek (ev_non))))) (x_nil (.k (.k (.k .n))))) fun s4 =>
  x_seqO (e1 := (fun s5 : Unit => [.val told0, .val due0, .none])) (es_if (et_tru (Ev.ek (ev_isi (n := "bool") (Ev.ek (ev_var (i := 1) rfl)) T.z_isinstance T.z_bool (by decide +kernel) isi_bool (by decide +kernel)))) (x_ret (Ev.ek (ev_and (ev_isi (n := "bool") (Ev.ek (ev_var (i := 0) rfl)) T.z_isinstance T.z_bool (by decide +kernel) isi_bool (by decide +kernel)) (ev_b1 (ev_cmp (oc_eq hr.units) (Ev.ek (ev_var (i := 0) rfl)) (Ev.ek (ev_var (i := 1) rfl))))))) (x_nil (.k (.k (.k .n))))) fun s5 =>
  x_seqO (e1 := (fun s6 : Unit => [.val told0, .val due0, .none])) (es_if (et_tru (Ev.ek (ev_isi (n := "int") (Ev.ek (ev_var (i := 1) rfl)) T.z_isinstance T.z_int (by decide +kernel) isi_int (by decide +kernel)))) (x_ret (Ev.ek (ev_and (ev_isi (n := "int") (Ev.ek (ev_var (i := 0) rfl)) T.z_isinstance T.z_int (by decide +kernel) isi_int (by decide +kernel)) (ev_and (ev_notB (ev_isi (n := "bool") (Ev.ek (ev_var (i := 0) rfl)) T.z_isinstance T.z_bool (by decide +kernel) isi_bool (by decide +kernel))) (ev_b1 (ev_cmp (oc_eq hr.units) (Ev.ek (ev_var (i := 0) rfl)) (Ev.ek (ev_var (i := 1) rfl)))))))) (x_nil (.k (.k (.k .n))))) fun s6 =>
  x_ret (Ev.ek (ev_and (ev_isi (n := "str") (Ev.ek (ev_var (i := 0) rfl)) T.z_isinstance T.z_str (by decide +kernel) isi_str (by decide +kernel)) (ev_b1 (ev_cmp (oc_eq hr.units) (Ev.ek (ev_var (i := 0) rfl)) (Ev.ek (ev_var (i := 1) rfl)))))))⟩
theorem ok__law_alike (T : Tops K mg) : FnOk P w K mg base CX0 40 T.a__law_alike T.fd__law_alike ["told", "due"] (spF K 2 m__law_alike) := ok__law_alikeF T 40
/-! ### _law_draws -/
theorem sc__law_draws : FnScope ["script", "many", "draws", "mixed", "k", "cell", "rest", "turn"] ["script", "many"] (defScope (topS 6)) := ⟨rfl, rfl, rfl, by decide +kernel, rfl, by decide +kernel, by decide +kernel⟩
def b__law_draws (script0 many0 : Pv) : Option (Out Unit Empty) :=
  ((pure [] >>= fun l => Eff.lift (pLim (fun x => x) l)) >>= fun draws_1 =>
  (pure (.int 7) >>= fun mixed_2 =>
  ((bL pRange1 (consM (bL pLen (consM (pure script0) (pure []))) (pure [])) >>= fun l => forS some (fun (s3 : Pv × List Pv) a4 =>
    (bL pAbs (consM (bL pInt (consM (b2 pIx (pure script0) (pure a4)) (pure []))) (pure [])) >>= fun cell_5 =>
  (b2 pMod (bL pInt (consM (b2 pAdd (b2 pAdd (b2 pMulA (pure s3.1) (pure (.int 48271))) (b2 pMod (pure cell_5) (pure (.int 1000003)))) (pure a4)) (pure []))) (pure (.int 65537)) >>= fun mixed_6 =>
  (pure (.int 0) >>= fun rest_7 =>
  (iteM (b1 asB (b2 (pCmpD fGe gGe) (pure cell_5) (b2 pPow (pure (.int 10)) (pure (.int 18))))) ((pure cell_5 >>= fun rest_9 =>
  pure (rest_9, s3.2))) ((b1 (capP s3.2) (b2 pMod (bL pInt (consM (pure cell_5) (pure []))) (pure (.int 997))) >>= fun draws_10 =>
  (b1 (capP draws_10) (b2 pMod (b2 pMod (bL pInt (consM (b2 pAdd (b2 pMulA (pure mixed_6) (pure (.int 69621))) (pure (.int 5))) (pure []))) (pure (.int 65521))) (pure (.int 997))) >>= fun draws_11 =>
  pure (rest_7, draws_11)))) >>= fun s8 =>
  ((bL pRange1 (consM (pure (.int 60)) (pure [])) >>= fun l => forS some (fun (s12 : List Pv × Pv) a13 =>
    (iteM (b1 asB (b2 (pCmpD fGt gGt) (pure s12.2) (pure (.int 0)))) ((b1 (capP s12.1) (b2 pMod (bL pInt (consM (pure s12.2) (pure []))) (pure (.int 997))) >>= fun draws_15 =>
  (b2 pDiv (pure s12.2) (pure (.int 997)) >>= fun rest_16 =>
  pure (draws_15, rest_16)))) (pure (s12.1, s12.2)) >>= fun s14 =>
  pure (s14.1, s14.2))) (s8.2, s8.1) l) >>= fun s12 =>
  pure (mixed_6, s12.1))))))) (mixed_2, draws_1) l) >>= fun s3 =>
  ((bL pRange1 (consM (pure many0) (pure [])) >>= fun l => forS some (fun (s17 : Pv × List Pv) a18 =>
    (b2 pMod (bL pInt (consM (b2 pAdd (b2 pAdd (b2 pMulA (pure s17.1) (pure (.int 16807))) (pure a18)) (pure (.int 1))) (pure []))) (pure (.int 65537)) >>= fun mixed_19 =>
  (b1 (capP s17.2) (b2 pMod (bL pInt (consM (pure mixed_19) (pure []))) (pure (.int 997))) >>= fun draws_20 =>
  pure (mixed_19, draws_20)))) (s3.1, s3.2) l) >>= fun s17 =>
  (b3 pSl (pure (.lst s17.2)) (pure none) (b1 asI (pure many0)) >>= fun v => pure (.rt v))))))
def m__law_draws : List Pv → Option Pv
  | [script0, many0] => b__law_draws script0 many0 >>= fin
  | _ => Eff.lift none
theorem ok__law_draws (T : Tops K mg) : FnOk P w K mg base CX0 1 T.a__law_draws T.fd__law_draws ["script", "many"] (spF K 2 m__law_draws) := by
  have sc := sc__law_draws
  refine ok_def (em := fun _ => [.none, .none, .none, .none, .none, .none, .none, .none]) T.F__law_draws sc fun cdv A outer s H args E hl hr => ?_
  match args, hl with
  | [script0, many0], _ =>
  exact ⟨b__law_draws script0 many0, fun _ _ h => h, (show Ex _ _ _ (b__law_draws script0 many0) (oit (fun _ => [.none, .none, .none, .none, .none, .none, .none, .none]) fun l => l.elim) from
  x_seq (es_setM (i := 2) (en_lst (ea_nil)) sc.nd) fun draws_1 =>
  x_seq (es_set (i := 3) (ev_int) sc.nd) fun mixed_2 =>
  x_seq (f := (fun s3 : Pv × List Pv => [.val script0, .val many0, .ml s3.2, .val s3.1, .none, .none, .none, .none])) (es_forS (emb := (fun s3 : Pv × List Pv => [.val script0, .val many0, .ml s3.2, .val s3.1, .none, .none, .none, .none])) PassesOwn.never rfl (ei_range1 T.z_range (ea_cons (ev_blt cb_len T.z_len PySem.boot_len (eka_cons (Ev.ek (ev_var (i := 0) rfl)) (eka_nil))) (ea_nil))) (tg_name (i := 4) sc.nd) (.k (.k (.k (.k (.k (.k (.k (.k .n)))))))) (fun s3 a4 =>
    x_seq (es_set (i := 5) (ev_blt cb_abs T.z_abs (by decide +kernel) (eka_cons (Ev.ek (ev_ty cb_int T.z_int (by decide +kernel) (eka_cons (Ev.ek (ev_ix (Ev.ek (ev_var (i := 0) rfl)) (Ev.ek (ev_var (i := 4) rfl)))) (eka_nil)))) (eka_nil))) sc.nd) fun cell_5 =>
  x_seq (es_set (i := 3) (ev_bin ob_mod (Ev.ek (ev_ty cb_int T.z_int (by decide +kernel) (eka_cons (Ev.ek (ev_bin ob_add (Ev.ek (ev_bin ob_add (Ev.ek (ev_bin ob_mulA (Ev.ek (ev_var (i := 3) rfl)) (Ev.ek (ev_int)))) (Ev.ek (ev_bin ob_mod (Ev.ek (ev_var (i := 5) rfl)) (Ev.ek (ev_int)))))) (Ev.ek (ev_var (i := 4) rfl)))) (eka_nil)))) (Ev.ek (ev_int))) sc.nd) fun mixed_6 =>
  x_seq (es_set (i := 6) (ev_int) sc.nd) fun rest_7 =>
  x_seq (f := (fun s8 : Pv × List Pv => [.val script0, .val many0, .ml s8.2, .val mixed_6, .val a4, .val cell_5, .val s8.1, .none])) (es_if (et_cmp (oc_geD hr.units) (Ev.ek (ev_var (i := 5) rfl)) (Ev.ek (ev_bin ob_pow (Ev.ek (ev_int)) (Ev.ek (ev_int))))) (x_seq (es_set (i := 6) (ev_var (i := 5) rfl) sc.nd) fun rest_9 =>
  x_end (.k (.k (.k (.k (.k (.k (.k (.k .n))))))))) (x_seq (es_append (i := 2) rfl (pe_bm PySem.F.plainAttrs_list PySem.F.slot_list_append PySem.F.type_list_append mt_append (pv 2) (pa_cons (ev_bin ob_mod (Ev.ek (ev_ty cb_int T.z_int (by decide +kernel) (eka_cons (Ev.ek (ev_var (i := 5) rfl)) (eka_nil)))) (Ev.ek (ev_int))) pa_nil))) fun draws_10 =>
  x_seq (es_append (i := 2) rfl (pe_bm PySem.F.plainAttrs_list PySem.F.slot_list_append PySem.F.type_list_append mt_append (pv 2) (pa_cons (ev_bin ob_mod (Ev.ek (ev_bin ob_mod (Ev.ek (ev_ty cb_int T.z_int (by decide +kernel) (eka_cons (Ev.ek (ev_bin ob_add (Ev.ek (ev_bin ob_mulA (Ev.ek (ev_var (i := 3) rfl)) (Ev.ek (ev_int)))) (Ev.ek (ev_int)))) (eka_nil)))) (Ev.ek (ev_int)))) (Ev.ek (ev_int))) pa_nil))) fun draws_11 =>
  x_end (.k (.k (.k (.k (.k (.k (.k (.k .n)))))))))) fun s8 =>
  x_seq (f := (fun s12 : List Pv × Pv => [.val script0, .val many0, .ml s12.1, .val mixed_6, .val a4, .val cell_5, .val s12.2, .none])) (es_forS (emb := (fun s12 : List Pv × Pv => [.val script0, .val many0, .ml s12.1, .val mixed_6, .val a4, .val cell_5, .val s12.2, .none])) PassesOwn.never rfl (ei_range1 T.z_range (ea_cons (ev_int) (ea_nil))) (tg_name (i := 7) sc.nd) (.k (.k (.k (.k (.k (.k (.k (.k .n)))))))) (fun s12 a13 =>
    x_seq (f := (fun s14 : List Pv × Pv => [.val script0, .val many0, .ml s14.1, .val mixed_6, .val a4, .val cell_5, .val s14.2, .val a13])) (es_if (et_cmp (oc_gtD hr.units) (Ev.ek (ev_var (i := 6) rfl)) (Ev.ek (ev_int))) (x_seq (es_append (i := 2) rfl (pe_bm PySem.F.plainAttrs_list PySem.F.slot_list_append PySem.F.type_list_append mt_append (pv 2) (pa_cons (ev_bin ob_mod (Ev.ek (ev_ty cb_int T.z_int (by decide +kernel) (eka_cons (Ev.ek (ev_var (i := 6) rfl)) (eka_nil)))) (Ev.ek (ev_int))) pa_nil))) fun draws_15 =>
  x_seq (es_set (i := 6) (ev_bin ob_div (Ev.ek (ev_var (i := 6) rfl)) (Ev.ek (ev_int))) sc.nd) fun rest_16 =>
  x_end (.k (.k (.k (.k (.k (.k (.k (.k .n))))))))) (x_end (.k (.k (.k (.k (.k (.k (.k (.k .n)))))))))) fun s14 =>
  x_end (.k (.k (.k (.k (.k (.k (.k (.d .n)))))))))) fun s12 =>
  x_end (.k (.k (.k (.k (.d (.d (.d (.k .n)))))))))) fun s3 =>
  x_seq (f := (fun s17 : Pv × List Pv => [.val script0, .val many0, .ml s17.2, .val s17.1, .none, .none, .none, .none])) (es_forS (emb := (fun s17 : Pv × List Pv => [.val script0, .val many0, .ml s17.2, .val s17.1, .none, .none, .none, .none])) PassesOwn.never rfl (ei_range1 T.z_range (ea_cons (ev_var (i := 1) rfl) (ea_nil))) (tg_name (i := 4) sc.nd) (.k (.k (.k (.k (.k (.k (.k (.k .n)))))))) (fun s17 a18 =>
    x_seq (es_set (i := 3) (ev_bin ob_mod (Ev.ek (ev_ty cb_int T.z_int (by decide +kernel) (eka_cons (Ev.ek (ev_bin ob_add (Ev.ek (ev_bin ob_add (Ev.ek (ev_bin ob_mulA (Ev.ek (ev_var (i := 3) rfl)) (Ev.ek (ev_int)))) (Ev.ek (ev_var (i := 4) rfl)))) (Ev.ek (ev_int)))) (eka_nil)))) (Ev.ek (ev_int))) sc.nd) fun mixed_19 =>
  x_seq (es_append (i := 2) rfl (pe_bm PySem.F.plainAttrs_list PySem.F.slot_list_append PySem.F.type_list_append mt_append (pv 2) (pa_cons (ev_bin ob_mod (Ev.ek (ev_ty cb_int T.z_int (by decide +kernel) (eka_cons (Ev.ek (ev_var (i := 3) rfl)) (eka_nil)))) (Ev.ek (ev_int))) pa_nil))) fun draws_20 =>
  x_end (.k (.k (.k (.k (.d (.k (.k (.k .n)))))))))) fun s17 =>
  x_ret (Ev.ek (ev_sl (ek_var (i := 2) rfl) (eo_none) (eo_some (Ev.ek (ev_var (i := 1) rfl))))))⟩
/-! ### _law_next -/
theorem sc__law_next : FnScope ["w", "many"] ["w", "many"] (defScope (topS 7)) := ⟨rfl, rfl, rfl, by decide +kernel, rfl, by decide +kernel, by decide +kernel⟩
def b__law_next (w0 many0 : Pv) : M (Out Unit Empty) :=
  ((pure w0 >>= fun d => pure (.str "at") >>= fun k => dAugM (fun i j => i + j) d k (pure (.int 1))) >>= fun _ =>
  ((iteM (b1 asB (b2 (pCmpD fGt gGt) ((pure w0 >>= fun d => pure (.str "at") >>= fun k => dGetM d k)) (bL pLen (consM ((pure w0 >>= fun d => pure (.str "draws") >>= fun k => dGetM d k)) (pure []))))) ((pure (.int 0) >>= fun v => pure (.rt v))) (pure (.nx ())) : M (Out (Unit) (Empty))) >>= fun o => o.andThen fun s1 =>
  (b2 pMod (bL pInt (consM (b2 pIx ((pure w0 >>= fun d => pure (.str "draws") >>= fun k => dGetM d k)) (b2 pSub ((pure w0 >>= fun d => pure (.str "at") >>= fun k => dGetM d k)) (pure (.int 1)))) (pure []))) (pure many0) >>= fun v => pure (.rt v))))
def m__law_next : List Pv → M Pv
  | [w0, many0] => b__law_next w0 many0 >>= fin
  | _ => Eff.lift none
theorem ok__law_next (T : Tops K mg) : FnOk P w K mg base CX0 1 T.a__law_next T.fd__law_next ["w", "many"] (spF K 2 m__law_next) := by
  have sc := sc__law_next
  refine ok_def (em := fun _ => [.none, .none]) T.F__law_next sc fun cdv A outer s H args E hl hr => ?_
  match args, hl with
  | [w0, many0], _ =>
  exact ⟨b__law_next w0 many0, fun _ _ h => h, (show Ex _ _ _ (b__law_next w0 many0) (oit (fun _ => [.none, .none]) fun l => l.elim) from
  x_seq (es_daug (ps_daug (hu1 hr) (ev_var (i := 0) rfl) (ev_str) (ev_int) in_add (fun _ _ _ => rfl))) fun _ =>
  x_seqO (e1 := (fun s1 : Unit => [.val w0, .val many0])) (es_if (et_cmp (oc_gtD hr.units) (Ev.ek (ev_dget (hu1 hr) (ev_var (i := 0) rfl) (ev_str))) (Ev.ek (ev_blt cb_len T.z_len PySem.boot_len (eka_cons (Ev.ek (ev_dget (hu1 hr) (ev_var (i := 0) rfl) (ev_str))) (eka_nil))))) (x_ret (Ev.ek (ev_int))) (x_nil (.k (.k .n)))) fun s1 =>
  x_ret (Ev.ek (ev_bin ob_mod (Ev.ek (ev_ty cb_int T.z_int (by decide +kernel) (eka_cons (Ev.ek (ev_ix (Ev.ek (ev_dget (hu1 hr) (ev_var (i := 0) rfl) (ev_str))) (Ev.ek (ev_bin ob_sub (Ev.ek (ev_dget (hu1 hr) (ev_var (i := 0) rfl) (ev_str))) (Ev.ek (ev_int)))))) (eka_nil)))) (Ev.ek (ev_var (i := 1) rfl)))))⟩
/-! ### _law_free -/
theorem sc__law_free : FnScope ["w", "found", "a", "b"] ["w"] (defScope (topS 10)) := ⟨rfl, rfl, rfl, by decide +kernel, rfl, by decide +kernel, by decide +kernel⟩
def b__law_free (w0 : Pv) : M (Out Unit Empty) :=
  (((pure [] >>= fun l => Eff.lift (pLim (fun x => x) l)) >>= fun l => pure (.lst l)) >>= fun found_1 =>
  ((bL pRange1 (consM (pure (.int 4)) (pure [])) >>= fun l => forS some (fun (s2 : Pv) a3 =>
    ((b2 pCat (pure s2) ((lcW (bL pRange2 (consM (b2 pAdd (pure a3) (pure (.int 1))) (consM (pure (.int 4)) (pure [])))) some (fun a5 => b1 asB (b2 pEq ((consM (pure w0) (consM (pure (.int 2)) (pure [])) >>= m__law_next)) (pure (.int 0)))) (fun a5 => (consM (pure a3) (consM (pure a5) (pure [])) >>= fun l => Eff.lift (pLim .tup l))) >>= fun l => pure (.lst l))) >>= fun l => pure (.lst l)) >>= fun found_4 =>
  pure found_4)) found_1 l) >>= fun s2 =>
  (bL pTuple (consM (pure s2) (pure [])) >>= fun v => pure (.rt v))))
def m__law_free : List Pv → M Pv
  | [w0] => b__law_free w0 >>= fin
  | _ => Eff.lift none
theorem ok__law_free (T : Tops K mg) : FnOk P w K mg base CX0 2 T.a__law_free T.fd__law_free ["w"] (spF K 1 m__law_free) := by
  have sc := sc__law_free
  refine ok_def (em := fun _ => [.none, .none, .none, .none]) T.F__law_free sc fun cdv A outer s H args E hl hr => ?_
  match args, hl with
  | [w0], _ =>
  exact ⟨b__law_free w0, fun _ _ h => h, (show Ex _ _ _ (b__law_free w0) (oit (fun _ => [.none, .none, .none, .none]) fun l => l.elim) from
  x_seq (es_set (i := 1) (En.ev (en_lst (ea_nil))) sc.nd) fun found_1 =>
  x_seq (f := (fun s2 : Pv => [.val w0, .val s2, .none, .none])) (es_forS (emb := (fun s2 : Pv => [.val w0, .val s2, .none, .none])) PassesOwn.never rfl (ei_range1 T.z_range (ea_cons (ev_int) (ea_nil))) (tg_name (i := 2) sc.nd) (.k (.k (.k (.k .n)))) (fun s2 a3 =>
    x_seq (es_set (i := 1) (En.ev (en_bin ob_cat (Ev.ek (ev_var (i := 1) rfl)) (Ev.ek (En.ev (en_lcW (own := [("b", 3)]) rfl sc.nd (ei_range2 T.z_range (ea_cons (ev_bin ob_add (Ev.ek (ev_var (i := 2) rfl)) (Ev.ek (ev_int))) (ea_cons (ev_int) (ea_nil)))) (blkOk_by (by kernel_rfl)) (fun _ _ _ _ _ => tg_name (i := 3) sc.nd) (fun _ _ _ _ _ a5 => ets_one (et_cmp (oc_eq hr.units) (Ev.ek (ev_call (ok__law_next T) (hr.mono (by decide)) T.g__law_next T.F__law_next.kp T.b__law_next (ea_cons (ev_var (i := 0) rfl) (ea_cons (ev_int) (ea_nil))) rfl (hlen := (len_cons (len_cons len_nil))))) (Ev.ek (ev_int)))) (fun _ _ _ _ _ a5 => ev_tup (ea_cons (ev_var (i := 2) rfl) (ea_cons (ev_var (i := 3) rfl) (ea_nil)))) (noMl_of rfl) (by decide) (fun _ => rfl) (fun _ => noMl_of rfl)))))) sc.nd) fun found_4 =>
  x_end (.k (.k (.d (.k .n)))))) fun s2 =>
  x_ret (Ev.ek (ev_ty cb_tuple T.z_tuple (by decide +kernel) (eka_cons (Ev.ek (ev_var (i := 1) rfl)) (eka_nil)))))⟩
/-! ### _law_is_free -/
theorem sc__law_is_free : FnScope ["free", "a", "b"] ["free", "a", "b"] (defScope (topS 11)) := ⟨rfl, rfl, rfl, by decide +kernel, rfl, by decide +kernel, by decide +kernel⟩
def b__law_is_free (free0 a0 b0 : Pv) : Option (Out Unit Empty) :=
  (orV (b2 pIn ((consM (pure a0) (consM (pure b0) (pure [])) >>= fun l => Eff.lift (pLim .tup l))) (pure free0)) (b2 pIn ((consM (pure b0) (consM (pure a0) (pure [])) >>= fun l => Eff.lift (pLim .tup l))) (pure free0)) >>= fun v => pure (.rt v))
def m__law_is_free : List Pv → Option Pv
  | [free0, a0, b0] => b__law_is_free free0 a0 b0 >>= fin
  | _ => Eff.lift none
theorem ok__law_is_free (T : Tops K mg) : FnOk P w K mg base CX0 1 T.a__law_is_free T.fd__law_is_free ["free", "a", "b"] (spF K 3 m__law_is_free) := by
  have sc := sc__law_is_free
  refine ok_def (em := fun _ => [.none, .none, .none]) T.F__law_is_free sc fun cdv A outer s H args E hl hr => ?_
  match args, hl with
  | [free0, a0, b0], _ =>
  exact ⟨b__law_is_free free0 a0 b0, fun _ _ h => h, (show Ex _ _ _ (b__law_is_free free0 a0 b0) (oit (fun _ => [.none, .none, .none]) fun l => l.elim) from
  x_ret (Ev.ek (ev_or (ev_cmp (oc_in (hu65 hr)) (Ev.ek (ev_tup (ea_cons (ev_var (i := 1) rfl) (ea_cons (ev_var (i := 2) rfl) (ea_nil))))) (Ev.ek (ev_var (i := 0) rfl))) (ev_b1 (ev_cmp (oc_in (hu65 hr)) (Ev.ek (ev_tup (ea_cons (ev_var (i := 2) rfl) (ea_cons (ev_var (i := 1) rfl) (ea_nil))))) (Ev.ek (ev_var (i := 0) rfl)))))))⟩
/-! ### _law_lots -/
theorem sc__law_lots : FnScope ["word", "free", "found", "at", "one", "k", "other"] ["word", "free"] (defScope (topS 12)) := ⟨rfl, rfl, rfl, by decide +kernel, rfl, by decide +kernel, by decide +kernel⟩
def b__law_lots (word0 free0 : Pv) : Option (Out Unit Empty) :=
  ((consM (pure word0) (pure []) >>= fun l => Eff.lift (pLim (fun x => x) l)) >>= fun found_1 =>
  (pure (.int 0) >>= fun at_2 =>
  ((whS (fun (s3 : List Pv × Pv) => b1 asB (b2 (pCmpD fLt gLt) (pure s3.2) (bL pLen (consM (pure (.lst s3.1)) (pure []))))) (fun (s3 : List Pv × Pv) =>
    (b2 pIx (pure (.lst s3.1)) (pure s3.2) >>= fun one_4 =>
  ((bL pRange1 (consM (b2 pSub (bL pLen (consM (pure one_4) (pure []))) (pure (.int 1))) (pure [])) >>= fun l => forS some (fun (s5 : List Pv) a6 =>
    (b2 pAdd (b2 pAdd (b3 pSl (pure one_4) (pure none) (b1 asI (pure a6))) ((consM (b2 pIx (pure one_4) (b2 pAdd (pure a6) (pure (.int 1)))) (consM (b2 pIx (pure one_4) (pure a6)) (pure [])) >>= fun l => Eff.lift (pLim .tup l)))) (b3 pSl (pure one_4) (b1 asI (b2 pAdd (pure a6) (pure (.int 2)))) (pure none)) >>= fun other_7 =>
  (iteM (tAndM (b1 pTru ((consM (pure free0) (consM (b2 pIx (pure one_4) (pure a6)) (consM (b2 pIx (pure one_4) (b2 pAdd (pure a6) (pure (.int 1)))) (pure []))) >>= m__law_is_free))) (b1 asB (b2 pNotIn (pure other_7) (pure (.lst s5))))) ((b1 (capP s5) (pure other_7) >>= fun found_9 =>
  pure found_9)) (pure s5) >>= fun s8 =>
  pure s8))) s3.1 l) >>= fun s5 =>
  ((pure (.int 1) >>= fun y => Eff.lift (pAddI s3.2 y)) >>= fun at_10 =>
  pure (s5, at_10))))) 100000 (found_1, at_2)) >>= fun s3 =>
  (pure (.lst s3.1) >>= fun v => pure (.rt v)))))
def m__law_lots : List Pv → Option Pv
  | [word0, free0] => b__law_lots word0 free0 >>= fin
  | _ => Eff.lift none
theorem ok__law_lots (T : Tops K mg) : FnOk P w K mg base CX0 2 T.a__law_lots T.fd__law_lots ["word", "free"] (spF K 2 m__law_lots) := by
  have sc := sc__law_lots
  refine ok_def (em := fun _ => [.none, .none, .none, .none, .none, .none, .none]) T.F__law_lots sc fun cdv A outer s H args E hl hr => ?_
  match args, hl with
  | [word0, free0], _ =>
  exact ⟨b__law_lots word0 free0, fun _ _ h => h, (show Ex _ _ _ (b__law_lots word0 free0) (oit (fun _ => [.none, .none, .none, .none, .none, .none, .none]) fun l => l.elim) from
  x_seq (es_setM (i := 2) (en_lst (ea_cons (ev_var (i := 0) rfl) (ea_nil))) sc.nd) fun found_1 =>
  x_seq (es_set (i := 3) (ev_int) sc.nd) fun at_2 =>
  x_seq (f := (fun s3 : List Pv × Pv => [.val word0, .val free0, .ml s3.1, .val s3.2, .none, .none, .none])) (es_whS (emb := (fun s3 : List Pv × Pv => [.val word0, .val free0, .ml s3.1, .val s3.2, .none, .none, .none])) 100000 PassesOwn.never (.k (.k (.k (.k (.k (.k (.k .n))))))) (fun s3 => et_cmp (oc_ltD hr.units) (Ev.ek (ev_var (i := 3) rfl)) (Ev.ek (ev_blt cb_len T.z_len PySem.boot_len (eka_cons (ek_var (i := 2) rfl) (eka_nil))))) (fun s3 =>
    x_seq (es_set (i := 4) (ev_ix (ek_var (i := 2) rfl) (Ev.ek (ev_var (i := 3) rfl))) sc.nd) fun one_4 =>
  x_seq (f := (fun s5 : List Pv => [.val word0, .val free0, .ml s5, .val s3.2, .val one_4, .none, .none])) (es_forS (emb := (fun s5 : List Pv => [.val word0, .val free0, .ml s5, .val s3.2, .val one_4, .none, .none])) PassesOwn.never rfl (ei_range1 T.z_range (ea_cons (ev_bin ob_sub (Ev.ek (ev_blt cb_len T.z_len PySem.boot_len (eka_cons (Ev.ek (ev_var (i := 4) rfl)) (eka_nil)))) (Ev.ek (ev_int))) (ea_nil))) (tg_name (i := 5) sc.nd) (.k (.k (.k (.k (.k (.k (.k .n))))))) (fun s5 a6 =>
    x_seq (es_set (i := 6) (ev_bin ob_add (Ev.ek (ev_bin ob_add (Ev.ek (ev_sl (Ev.ek (ev_var (i := 4) rfl)) (eo_none) (eo_some (Ev.ek (ev_var (i := 5) rfl))))) (Ev.ek (ev_tup (ea_cons (ev_ix (Ev.ek (ev_var (i := 4) rfl)) (Ev.ek (ev_bin ob_add (Ev.ek (ev_var (i := 5) rfl)) (Ev.ek (ev_int))))) (ea_cons (ev_ix (Ev.ek (ev_var (i := 4) rfl)) (Ev.ek (ev_var (i := 5) rfl))) (ea_nil))))))) (Ev.ek (ev_sl (Ev.ek (ev_var (i := 4) rfl)) (eo_some (Ev.ek (ev_bin ob_add (Ev.ek (ev_var (i := 5) rfl)) (Ev.ek (ev_int))))) (eo_none)))) sc.nd) fun other_7 =>
  x_seq (f := (fun s8 : List Pv => [.val word0, .val free0, .ml s8, .val s3.2, .val one_4, .val a6, .val other_7])) (es_if (Ew.et (ew_and (et_tru (Ev.ek (ev_call (ok__law_is_free T) (hr.mono (by decide)) T.g__law_is_free T.F__law_is_free.kp T.b__law_is_free (ea_cons (ev_var (i := 1) rfl) (ea_cons (ev_ix (Ev.ek (ev_var (i := 4) rfl)) (Ev.ek (ev_var (i := 5) rfl))) (ea_cons (ev_ix (Ev.ek (ev_var (i := 4) rfl)) (Ev.ek (ev_bin ob_add (Ev.ek (ev_var (i := 5) rfl)) (Ev.ek (ev_int))))) (ea_nil)))) rfl (hlen := (len_cons (len_cons (len_cons len_nil))))))) (ew_and1 (et_cmp (oc_notIn (hu65 hr)) (Ev.ek (ev_var (i := 6) rfl)) (ek_var (i := 2) rfl))))) (x_seq (es_append (i := 2) rfl (pe_bm PySem.F.plainAttrs_list PySem.F.slot_list_append PySem.F.type_list_append mt_append (pv 2) (pa_cons (ev_var (i := 6) rfl) pa_nil))) fun found_9 =>
  x_end (.k (.k (.k (.k (.k (.k (.k .n)))))))) (x_end (.k (.k (.k (.k (.k (.k (.k .n))))))))) fun s8 =>
  x_end (.k (.k (.k (.k (.k (.d (.d .n))))))))) fun s5 =>
  x_seq (es_aug (i := 3) oi_add rfl (ev_int) sc.nd) fun at_10 =>
  x_end (.k (.k (.k (.k (.d (.k (.k .n))))))))) fun s3 =>
  x_ret (ek_var (i := 2) rfl))⟩
/-! ### _law_ways -/
theorem sc__law_ways : FnScope ["amounts", "found", "many", "amount", "k"] ["amounts"] (defScope (topS 13)) := ⟨rfl, rfl, rfl, by decide +kernel, rfl, by decide +kernel, by decide +kernel⟩
def b__law_ways (amounts0 : Pv) : Option (Out Unit Empty) :=
  (pure (.int 1) >>= fun found_1 =>
  (pure (.int 0) >>= fun many_2 =>
  ((b1 items (pure amounts0) >>= fun l => forS some (fun (s3 : Pv × Pv) a4 =>
    ((bL pRange1 (consM (pure a4) (pure [])) >>= fun l => forS some (fun (s5 : Pv × Pv) a6 =>
    ((pure (.int 1) >>= fun y => Eff.lift (pAddI s5.1 y)) >>= fun many_7 =>
  (b2 pDiv (b2 pMulA (pure s5.2) (pure many_7)) (b2 pAdd (pure a6) (pure (.int 1))) >>= fun found_8 =>
  pure (many_7, found_8)))) (s3.1, s3.2) l) >>= fun s5 =>
  pure (s5.1, s5.2))) (many_2, found_1) l) >>= fun s3 =>
  (pure s3.2 >>= fun v => pure (.rt v)))))
def m__law_ways : List Pv → Option Pv
  | [amounts0] => b__law_ways amounts0 >>= fin
  | _ => Eff.lift none
theorem ok__law_ways (T : Tops K mg) : FnOk P w K mg base CX0 1 T.a__law_ways T.fd__law_ways ["amounts"] (spF K 1 m__law_ways) := by
  have sc := sc__law_ways
  refine ok_def (em := fun _ => [.none, .none, .none, .none, .none]) T.F__law_ways sc fun cdv A outer s H args E hl hr => ?_
  match args, hl with
  | [amounts0], _ =>
  exact ⟨b__law_ways amounts0, fun _ _ h => h, (show Ex _ _ _ (b__law_ways amounts0) (oit (fun _ => [.none, .none, .none, .none, .none]) fun l => l.elim) from
  x_seq (es_set (i := 1) (ev_int) sc.nd) fun found_1 =>
  x_seq (es_set (i := 2) (ev_int) sc.nd) fun many_2 =>
  x_seq (f := (fun s3 : Pv × Pv => [.val amounts0, .val s3.2, .val s3.1, .none, .none])) (es_forS (emb := (fun s3 : Pv × Pv => [.val amounts0, .val s3.2, .val s3.1, .none, .none])) PassesOwn.never rfl (ei_val (ev_var (i := 0) rfl)) (tg_name (i := 3) sc.nd) (.k (.k (.k (.k (.k .n))))) (fun s3 a4 =>
    x_seq (f := (fun s5 : Pv × Pv => [.val amounts0, .val s5.2, .val s5.1, .val a4, .none])) (es_forS (emb := (fun s5 : Pv × Pv => [.val amounts0, .val s5.2, .val s5.1, .val a4, .none])) PassesOwn.never rfl (ei_range1 T.z_range (ea_cons (ev_var (i := 3) rfl) (ea_nil))) (tg_name (i := 4) sc.nd) (.k (.k (.k (.k (.k .n))))) (fun s5 a6 =>
    x_seq (es_aug (i := 2) oi_add rfl (ev_int) sc.nd) fun many_7 =>
  x_seq (es_set (i := 1) (ev_bin ob_div (Ev.ek (ev_bin ob_mulA (Ev.ek (ev_var (i := 1) rfl)) (Ev.ek (ev_var (i := 2) rfl)))) (Ev.ek (ev_bin ob_add (Ev.ek (ev_var (i := 4) rfl)) (Ev.ek (ev_int))))) sc.nd) fun found_8 =>
  x_end (.k (.k (.k (.k (.d .n))))))) fun s5 =>
  x_end (.k (.k (.k (.d (.k .n))))))) fun s3 =>
  x_ret (Ev.ek (ev_var (i := 1) rfl)))⟩
/-! ### _are_free -/
theorem sc__are_free : FnScope ["a", "b", "free"] ["a", "b", "free"] (defScope (topS 1)) := ⟨rfl, rfl, rfl, by decide +kernel, rfl, by decide +kernel, by decide +kernel⟩
def b__are_free (a0 b0 free0 : Pv) : Option (Out Unit Empty) :=
  (andV (b2 pIn ((consM (bL pMin2 (consM (pure a0) (consM (pure b0) (pure [])))) (consM (bL pMax2 (consM (pure a0) (consM (pure b0) (pure [])))) (pure [])) >>= fun l => Eff.lift (pLim .tup l))) (pure free0)) (b2 pNe (pure a0) (pure b0)) >>= fun v => pure (.rt v))
def m__are_free : List Pv → Option Pv
  | [a0, b0, free0] => b__are_free a0 b0 free0 >>= fin
  | _ => Eff.lift none
theorem ok__are_free (T : Tops K mg) : FnOk P w K mg base CX0 1 T.a__are_free T.fd__are_free ["a", "b", "free"] (spF K 3 m__are_free) := by
  have sc := sc__are_free
  refine ok_def (em := fun _ => [.none, .none, .none]) T.F__are_free sc fun cdv A outer s H args E hl hr => ?_
  match args, hl with
  | [a0, b0, free0], _ =>
  exact ⟨b__are_free a0 b0 free0, fun _ _ h => h, (show Ex _ _ _ (b__are_free a0 b0 free0) (oit (fun _ => [.none, .none, .none]) fun l => l.elim) from
  x_ret (Ev.ek (ev_and (ev_cmp (oc_in (hu65 hr)) (Ev.ek (ev_tup (ea_cons (ev_blt (cb_min2 rfl) T.z_min (by decide +kernel) (eka_cons (Ev.ek (ev_var (i := 0) rfl)) (eka_cons (Ev.ek (ev_var (i := 1) rfl)) (eka_nil)))) (ea_cons (ev_blt (cb_max2 rfl) T.z_max (by decide +kernel) (eka_cons (Ev.ek (ev_var (i := 0) rfl)) (eka_cons (Ev.ek (ev_var (i := 1) rfl)) (eka_nil)))) (ea_nil))))) (Ev.ek (ev_var (i := 2) rfl))) (ev_b1 (ev_cmp (oc_ne hr.units) (Ev.ek (ev_var (i := 0) rfl)) (Ev.ek (ev_var (i := 1) rfl)))))))⟩
/-! ### _first_letters -/
theorem sc__first_letters : FnScope ["word", "free", "found", "k", "other"] ["word", "free"] (defScope (topS 2)) := ⟨rfl, rfl, rfl, by decide +kernel, rfl, by decide +kernel, by decide +kernel⟩
def b__first_letters (word0 free0 : Pv) : M (Out Unit Empty) :=
  (dNew0 >>= fun found_1 =>
  ((bL pRange1 (consM (bL pLen (consM (pure word0) (pure []))) (pure [])) >>= fun l => forS some (fun (s2 : Pv) a3 =>
    (iteM (tAndM (b1 asB (b2 pIx (pure word0) (pure a3) >>= fun k => pure s2 >>= fun d => dHasN d k)) (b1 pTru (bL pAll (consM ((lcV (b1 items (b3 pSl (pure word0) (pure none) (b1 asI (pure a3)))) some (fun a4 => (consM (b2 pIx (pure word0) (pure a3)) (consM (pure a4) (consM (pure free0) (pure []))) >>= (fun a => Eff.lift (m__are_free a)))) >>= fun l => pure (.lst l))) (pure []))))) (((pure a3 >>= fun v => pure s2 >>= fun d => b2 pIx (pure word0) (pure a3) >>= fun k => dPutM d k v) >>= fun _ =>
  pure s2)) (pure s2) >>= fun s5 =>
  pure s5)) found_1 l) >>= fun s2 =>
  (pure s2 >>= fun v => pure (.rt v))))
def m__first_letters : List Pv → M Pv
  | [word0, free0] => b__first_letters word0 free0 >>= fin
  | _ => Eff.lift none
theorem ok__first_letters (T : Tops K mg) : FnOk P w K mg base CX0 2 T.a__first_letters T.fd__first_letters ["word", "free"] (spF K 2 m__first_letters) := by
  have sc := sc__first_letters
  refine ok_def (em := fun _ => [.none, .none, .none, .none, .none]) T.F__first_letters sc fun cdv A outer s H args E hl hr => ?_
  match args, hl with
  | [word0, free0], _ =>
  exact ⟨b__first_letters word0 free0, fun _ _ h => h, (show Ex _ _ _ (b__first_letters word0 free0) (oit (fun _ => [.none, .none, .none, .none, .none]) fun l => l.elim) from
  x_seq (es_set (i := 2) (ev_dnew0) sc.nd) fun found_1 =>
  x_seq (f := (fun s2 : Pv => [.val word0, .val free0, .val s2, .none, .none])) (es_forS (emb := (fun s2 : Pv => [.val word0, .val free0, .val s2, .none, .none])) PassesOwn.never rfl (ei_range1 T.z_range (ea_cons (ev_blt cb_len T.z_len PySem.boot_len (eka_cons (Ev.ek (ev_var (i := 0) rfl)) (eka_nil))) (ea_nil))) (tg_name (i := 3) sc.nd) (.k (.k (.k (.k (.k .n))))) (fun s2 a3 =>
    x_seq (f := (fun s5 : Pv => [.val word0, .val free0, .val s5, .val a3, .none])) (es_if (Ew.et (ew_and (et_dnotin (hu1 hr) (ev_ix (Ev.ek (ev_var (i := 0) rfl)) (Ev.ek (ev_var (i := 3) rfl))) (ev_var (i := 2) rfl)) (ew_and1 (et_tru (Ev.ek (ev_blt (cb_all rfl) T.z_all (by decide +kernel) (eka_cons (Ev.ek (En.ev (en_lcV (own := [("other", 4)]) rfl sc.nd (ei_val (ev_sl (Ev.ek (ev_var (i := 0) rfl)) (eo_none) (eo_some (Ev.ek (ev_var (i := 3) rfl))))) (blkOk_by (by kernel_rfl)) (fun _ _ _ _ _ => tg_name (i := 4) sc.nd) (fun _ _ _ _ _ a4 => ev_call (ok_lift (ok__are_free T)) (hr.mono (by decide)) T.g__are_free T.F__are_free.kp T.b__are_free (ea_cons (ev_ix (Ev.ek (ev_var (i := 0) rfl)) (Ev.ek (ev_var (i := 3) rfl))) (ea_cons (ev_var (i := 4) rfl) (ea_cons (ev_var (i := 1) rfl) (ea_nil)))) rfl (hlen := (len_cons (len_cons (len_cons len_nil))))) (noMl_of rfl) (by decide) (fun _ => rfl) (fun _ => noMl_of rfl)))) (eka_nil)))))))) (x_seq (es_dput (hu1 hr) (ev_var (i := 2) rfl) (ev_ix (Ev.ek (ev_var (i := 0) rfl)) (Ev.ek (ev_var (i := 3) rfl))) (ev_var (i := 3) rfl)) fun _ =>
  x_end (.k (.k (.k (.k (.k .n)))))) (x_end (.k (.k (.k (.k (.k .n))))))) fun s5 =>
  x_end (.k (.k (.k (.d (.k .n))))))) fun s2 =>
  x_ret (Ev.ek (ev_var (i := 2) rfl)))⟩
/-! ### _count -/
theorem sc__count : FnScope ["word", "free", "known", "first", "k"] ["word", "free", "known"] (defScope (topS 4)) := ⟨rfl, rfl, rfl, by decide +kernel, rfl, by decide +kernel, by decide +kernel⟩
def b__count (self_ : List Pv → M Pv) (word0 free0 known0 : Pv) : M (Out Unit Empty) :=
  (iteM (b1 asB (pure word0 >>= fun k => pure known0 >>= fun d => dHasNT d k)) (((consM (pure word0) (consM (pure free0) (pure [])) >>= m__first_letters) >>= fun first_2 =>
  ((bL pSumA (consM ((lcD first_2 some (fun a3 => (consM (b2 pAdd (b3 pSl (pure word0) (pure none) (b1 asI (pure a3))) (b3 pSl (pure word0) (b1 asI (b2 pAdd (pure a3) (pure (.int 1)))) (pure none))) (consM (pure free0) (consM (pure known0) (pure []))) >>= self_)) >>= fun l => pure (.lst l))) (pure [])) >>= fun v => pure known0 >>= fun d => pure word0 >>= fun k => dPutT d k v) >>= fun _ =>
  pure known0))) (pure known0) >>= fun s1 =>
  ((pure s1 >>= fun d => pure word0 >>= fun k => dGetT d k) >>= fun v => pure (.rt v)))
def m__countF : Nat → List Pv → M Pv
  | 0, _ => Eff.lift none
  | d + 1, [word0, free0, known0] => b__count (m__countF d) word0 free0 known0 >>= fin
  | _ + 1, _ => Eff.lift none
def m__count : List Pv → M Pv := m__countF 20
theorem ok__countF (T : Tops K mg) : ∀ d, FnOk P w K mg base CX0 (2 + d) T.a__count T.fd__count ["word", "free", "known"] (spF K 3 (m__countF d))
  | 0 => ok_none
  | d + 1 => by
    have ih := ok__countF T d
    have sc := sc__count
    refine ok_def (k := 2 + d) (em := fun _ => [.none, .none, .none, .none, .none]) T.F__count sc fun cdv A outer s H args E hl hr => ?_
    match args, hl with
    | [word0, free0, known0], _ =>
    exact ⟨b__count (m__countF d) word0 free0 known0, fun _ _ h => h, (show Ex _ _ _ (b__count (m__countF d) word0 free0 known0) (oit (fun _ => [.none, .none, .none, .none, .none]) fun l => l.elim) from
  x_seq (f := (fun s1 : Pv => [.val word0, .val free0, .val s1, .none, .none])) (es_if (et_dnotinT (hu1 hr) (ev_var (i := 0) rfl) (ev_var (i := 2) rfl)) (x_seq (es_set (i := 3) (ev_call (ok__first_letters T) (hr.mono (by omega)) T.g__first_letters T.F__first_letters.kp T.b__first_letters (ea_cons (ev_var (i := 0) rfl) (ea_cons (ev_var (i := 1) rfl) (ea_nil))) rfl (hlen := (len_cons (len_cons len_nil)))) sc.nd) fun first_2 =>
  x_seq (es_dputT (hu1 hr) (ev_var (i := 2) rfl) (ev_var (i := 0) rfl) (ev_blt (cb_sumA rfl) T.z_sum (by decide +kernel) (eka_cons (Ev.ek (En.ev (en_lcD (i := 3) (own := [("k", 4)]) rfl sc.nd rfl (pv 3) (blkOk_by (by kernel_rfl)) (fun _ _ _ _ _ => tg_name (i := 4) sc.nd) (fun _ _ _ _ _ a3 => ev_call ih hr T.g__count T.F__count.kp T.b__count (ea_cons (ev_bin ob_add (Ev.ek (ev_sl (Ev.ek (ev_var (i := 0) rfl)) (eo_none) (eo_some (Ev.ek (ev_var (i := 4) rfl))))) (Ev.ek (ev_sl (Ev.ek (ev_var (i := 0) rfl)) (eo_some (Ev.ek (ev_bin ob_add (Ev.ek (ev_var (i := 4) rfl)) (Ev.ek (ev_int))))) (eo_none)))) (ea_cons (ev_var (i := 1) rfl) (ea_cons (ev_var (i := 2) rfl) (ea_nil)))) rfl (hlen := (len_cons (len_cons (len_cons len_nil))))) (noMl_of rfl) (by decide) (fun _ => rfl) (fun _ => noMl_of rfl)))) (eka_nil)))) fun _ =>
  x_end (.k (.k (.k (.d (.k .n)))))) (x_end (.k (.k (.k (.k (.k .n))))))) fun s1 =>
  x_ret (Ev.ek (ev_dgetT (hu1 hr) (ev_var (i := 2) rfl) (ev_var (i := 0) rfl))))⟩
theorem ok__count (T : Tops K mg) : FnOk P w K mg base CX0 22 T.a__count T.fd__count ["word", "free", "known"] (spF K 3 m__count) := ok__countF T 20
/-! ### count_alike -/
theorem sc_count_alike : FnScope ["word", "free"] ["word", "free"] (defScope (topS 3)) := ⟨rfl, rfl, rfl, by decide +kernel, rfl, by decide +kernel, by decide +kernel⟩
def b_count_alike (word0 free0 : Pv) : M (Out Unit Empty) :=
  ((consM (pure word0) (consM (pure free0) (consM (dNewT1 ((pure [] >>= fun l => Eff.lift (pLim .tup l))) (pure (.int 1))) (pure []))) >>= m__count) >>= fun v => pure (.rt v))
def m_count_alike : List Pv → M Pv
  | [word0, free0] => b_count_alike word0 free0 >>= fin
  | _ => Eff.lift none
theorem ok_count_alike (T : Tops K mg) : FnOk P w K mg base CX0 23 T.a_count_alike T.fd_count_alike ["word", "free"] (spF K 2 m_count_alike) := by
  have sc := sc_count_alike
  refine ok_def (em := fun _ => [.none, .none]) T.F_count_alike sc fun cdv A outer s H args E hl hr => ?_
  match args, hl with
  | [word0, free0], _ =>
  exact ⟨b_count_alike word0 free0, fun _ _ h => h, (show Ex _ _ _ (b_count_alike word0 free0) (oit (fun _ => [.none, .none]) fun l => l.elim) from
  x_ret (Ev.ek (ev_call (ok__count T) (hr.mono (by decide)) T.g__count T.F__count.kp T.b__count (ea_cons (ev_var (i := 0) rfl) (ea_cons (ev_var (i := 1) rfl) (ea_cons (ev_dispT (hu1 hr) (ev_tup (ea_nil)) (ev_int)) (ea_nil)))) rfl (hlen := (len_cons (len_cons (len_cons len_nil)))))))⟩
/-! ### law -/
theorem sc_law : FnScope ["script", "w", "turn", "every", "amounts", "word", "free", "k"] ["script"] (defScope (topS 14)) := ⟨rfl, rfl, rfl, by decide +kernel, rfl, by decide +kernel, by decide +kernel⟩
def b_law (script0 : Pv) : M (Out Unit Empty) :=
  (dNewM2 "draws" "at" ((consM (pure script0) (consM (pure (.int 400)) (pure [])) >>= (fun a => Eff.lift (m__law_draws a)))) (pure (.int 0)) >>= fun w_1 =>
  ((bL pRange1 (consM (pure (.int 4)) (pure [])) >>= fun l => (forO some (fun (s2 : Unit) a3 =>
    ((consM (pure w_1) (pure []) >>= m__law_free) >>= fun free_4 =>
  (bL pTuple (consM ((lcV (bL pRange1 (consM ((consM (pure w_1) (consM (pure (.int 8)) (pure [])) >>= m__law_next)) (pure []))) some (fun a6 => (consM (pure w_1) (consM (pure (.int 4)) (pure [])) >>= m__law_next)) >>= fun l => pure (.lst l))) (pure [])) >>= fun word_5 =>
  ((iteM ((b1 pTru ((consM ((consM (pure word_5) (consM (pure free_4) (pure [])) >>= m_count_alike)) (consM (bL pLen (consM ((consM (pure word_5) (consM (pure free_4) (pure [])) >>= (fun a => Eff.lift (m__law_lots a)))) (pure []))) (pure [])) >>= (fun a => Eff.lift (m__law_alike a)))) >>= fun b => pure (!b))) ((pure (.bl false) >>= fun v => pure (.rt v))) (pure (.nx ())) : M (Out (Unit) (Unit))) >>= fun o => o.andThen fun s7 =>
  pure (.nx ()))))) () l : M (Out (Unit) (Empty)))) >>= fun o => o.andThen fun s2 =>
  ((consM ((consM (pure (.int 0)) (consM (pure (.int 1)) (pure [])) >>= fun l => Eff.lift (pLim .tup l))) (consM ((consM (pure (.int 0)) (consM (pure (.int 2)) (pure [])) >>= fun l => Eff.lift (pLim .tup l))) (consM ((consM (pure (.int 1)) (consM (pure (.int 2)) (pure [])) >>= fun l => Eff.lift (pLim .tup l))) (pure []))) >>= fun l => Eff.lift (pLim .tup l)) >>= fun every_8 =>
  (((consM ((consM (pure w_1) (consM (pure (.int 6)) (pure [])) >>= m__law_next)) (consM ((consM (pure w_1) (consM (pure (.int 6)) (pure [])) >>= m__law_next)) (consM ((consM (pure w_1) (consM (pure (.int 6)) (pure [])) >>= m__law_next)) (pure []))) >>= fun l => Eff.lift (pLim (fun x => x) l)) >>= fun l => pure (.lst l)) >>= fun amounts_9 =>
  (b2 pAdd (b2 pAdd (b2 pMulA ((consM (pure (.int 0)) (pure []) >>= fun l => Eff.lift (pLim .tup l))) (b2 pIx (pure amounts_9) (pure (.int 0)))) (b2 pMulA ((consM (pure (.int 2)) (pure []) >>= fun l => Eff.lift (pLim .tup l))) (b2 pIx (pure amounts_9) (pure (.int 2))))) (b2 pMulA ((consM (pure (.int 1)) (pure []) >>= fun l => Eff.lift (pLim .tup l))) (b2 pIx (pure amounts_9) (pure (.int 1)))) >>= fun word_10 =>
  (andV ((consM ((consM (pure word_10) (consM (pure every_8) (pure [])) >>= m_count_alike)) (consM ((consM (pure amounts_9) (pure []) >>= (fun a => Eff.lift (m__law_ways a)))) (pure [])) >>= (fun a => Eff.lift (m__law_alike a)))) ((consM ((consM (pure word_10) (consM ((pure [] >>= fun l => Eff.lift (pLim .tup l))) (pure [])) >>= m_count_alike)) (consM (pure (.int 1)) (pure [])) >>= (fun a => Eff.lift (m__law_alike a)))) >>= fun v => pure (.rt v)))))))
def m_law : List Pv → M Pv
  | [script0] => b_law script0 >>= fin
  | _ => Eff.lift none
theorem ok_law (T : Tops K mg) : FnOk P w K mg base CX0 41 T.a_law T.fd_law ["script"] (spF K 1 m_law) := by
  have sc := sc_law
  refine ok_def (em := fun _ => [.none, .none, .none, .none, .none, .none, .none, .none]) T.F_law sc fun cdv A outer s H args E hl hr => ?_
  match args, hl with
  | [script0], _ =>
  exact ⟨b_law script0, fun _ _ h => h, (show Ex _ _ _ (b_law script0) (oit (fun _ => [.none, .none, .none, .none, .none, .none, .none, .none]) fun l => l.elim) from
  x_seq (es_set (i := 1) (ev_disp2 (ev_call (ok_lift (ok__law_draws T)) (hr.mono (by decide)) T.g__law_draws T.F__law_draws.kp T.b__law_draws (ea_cons (ev_var (i := 0) rfl) (ea_cons (ev_int) (ea_nil))) rfl (hlen := (len_cons (len_cons len_nil)))) (ev_int)) sc.nd) fun w_1 =>
  x_seqO (e1 := (fun s2 : Unit => [.val script0, .val w_1, .none, .none, .none, .none, .none, .none])) (es_forO (emb := (fun s2 : Unit => [.val script0, .val w_1, .none, .none, .none, .none, .none, .none])) PassesOwn.never rfl (ei_range1 T.z_range (ea_cons (ev_int) (ea_nil))) (tg_name (i := 2) sc.nd) (.k (.k (.k (.k (.k (.k (.k (.k .n)))))))) (fun s2 a3 =>
    x_seq (es_set (i := 6) (ev_call (ok__law_free T) (hr.mono (by decide)) T.g__law_free T.F__law_free.kp T.b__law_free (ea_cons (ev_var (i := 1) rfl) (ea_nil)) rfl (hlen := (len_cons len_nil))) sc.nd) fun free_4 =>
  x_seq (es_set (i := 5) (ev_ty cb_tuple T.z_tuple (by decide +kernel) (eka_cons (Ev.ek (En.ev (en_lcV (own := [("k", 7)]) rfl sc.nd (ei_range1 T.z_range (ea_cons (ev_call (ok__law_next T) (hr.mono (by decide)) T.g__law_next T.F__law_next.kp T.b__law_next (ea_cons (ev_var (i := 1) rfl) (ea_cons (ev_int) (ea_nil))) rfl (hlen := (len_cons (len_cons len_nil)))) (ea_nil))) (blkOk_by (by kernel_rfl)) (fun _ _ _ _ _ => tg_name (i := 7) sc.nd) (fun _ _ _ _ _ a6 => ev_call (ok__law_next T) (hr.mono (by decide)) T.g__law_next T.F__law_next.kp T.b__law_next (ea_cons (ev_var (i := 1) rfl) (ea_cons (ev_int) (ea_nil))) rfl (hlen := (len_cons (len_cons len_nil)))) (noMl_of rfl) (by decide) (fun _ => rfl) (fun _ => noMl_of rfl)))) (eka_nil))) sc.nd) fun word_5 =>
  x_seqO (e1 := (fun s7 : Unit => [.val script0, .val w_1, .val a3, .none, .none, .val word_5, .val free_4, .none])) (es_if (et_not (et_tru (Ev.ek (ev_call (ok_lift (ok__law_alike T)) (hr.mono (by decide)) T.g__law_alike T.F__law_alike.kp T.b__law_alike (ea_cons (ev_call (ok_count_alike T) (hr.mono (by decide)) T.g_count_alike T.F_count_alike.kp T.b_count_alike (ea_cons (ev_var (i := 5) rfl) (ea_cons (ev_var (i := 6) rfl) (ea_nil))) rfl (hlen := (len_cons (len_cons len_nil)))) (ea_cons (ev_blt cb_len T.z_len PySem.boot_len (eka_cons (Ev.ek (ev_call (ok_lift (ok__law_lots T)) (hr.mono (by decide)) T.g__law_lots T.F__law_lots.kp T.b__law_lots (ea_cons (ev_var (i := 5) rfl) (ea_cons (ev_var (i := 6) rfl) (ea_nil))) rfl (hlen := (len_cons (len_cons len_nil))))) (eka_nil))) (ea_nil))) rfl (hlen := (len_cons (len_cons len_nil))))))) (x_ret (Ev.ek (ev_bl))) (x_nil (.k (.k (.k (.k (.k (.k (.k (.k .n)))))))))) fun s7 =>
  x_nil (.k (.k (.d (.k (.k (.d (.d (.k .n)))))))))) fun s2 =>
  x_seq (es_set (i := 3) (ev_tup (ea_cons (ev_tup (ea_cons (ev_int) (ea_cons (ev_int) (ea_nil)))) (ea_cons (ev_tup (ea_cons (ev_int) (ea_cons (ev_int) (ea_nil)))) (ea_cons (ev_tup (ea_cons (ev_int) (ea_cons (ev_int) (ea_nil)))) (ea_nil))))) sc.nd) fun every_8 =>
  x_seq (es_set (i := 4) (En.ev (en_lst (ea_cons (ev_call (ok__law_next T) (hr.mono (by decide)) T.g__law_next T.F__law_next.kp T.b__law_next (ea_cons (ev_var (i := 1) rfl) (ea_cons (ev_int) (ea_nil))) rfl (hlen := (len_cons (len_cons len_nil)))) (ea_cons (ev_call (ok__law_next T) (hr.mono (by decide)) T.g__law_next T.F__law_next.kp T.b__law_next (ea_cons (ev_var (i := 1) rfl) (ea_cons (ev_int) (ea_nil))) rfl (hlen := (len_cons (len_cons len_nil)))) (ea_cons (ev_call (ok__law_next T) (hr.mono (by decide)) T.g__law_next T.F__law_next.kp T.b__law_next (ea_cons (ev_var (i := 1) rfl) (ea_cons (ev_int) (ea_nil))) rfl (hlen := (len_cons (len_cons len_nil)))) (ea_nil)))))) sc.nd) fun amounts_9 =>
  x_seq (es_set (i := 5) (ev_bin ob_add (Ev.ek (ev_bin ob_add (Ev.ek (ev_bin ob_mulA (Ev.ek (ev_tup (ea_cons (ev_int) (ea_nil)))) (Ev.ek (ev_ix (Ev.ek (ev_var (i := 4) rfl)) (Ev.ek (ev_int)))))) (Ev.ek (ev_bin ob_mulA (Ev.ek (ev_tup (ea_cons (ev_int) (ea_nil)))) (Ev.ek (ev_ix (Ev.ek (ev_var (i := 4) rfl)) (Ev.ek (ev_int)))))))) (Ev.ek (ev_bin ob_mulA (Ev.ek (ev_tup (ea_cons (ev_int) (ea_nil)))) (Ev.ek (ev_ix (Ev.ek (ev_var (i := 4) rfl)) (Ev.ek (ev_int))))))) sc.nd) fun word_10 =>
  x_ret (Ev.ek (ev_and (ev_call (ok_lift (ok__law_alike T)) (hr.mono (by decide)) T.g__law_alike T.F__law_alike.kp T.b__law_alike (ea_cons (ev_call (ok_count_alike T) (hr.mono (by decide)) T.g_count_alike T.F_count_alike.kp T.b_count_alike (ea_cons (ev_var (i := 5) rfl) (ea_cons (ev_var (i := 3) rfl) (ea_nil))) rfl (hlen := (len_cons (len_cons len_nil)))) (ea_cons (ev_call (ok_lift (ok__law_ways T)) (hr.mono (by decide)) T.g__law_ways T.F__law_ways.kp T.b__law_ways (ea_cons (ev_var (i := 4) rfl) (ea_nil)) rfl (hlen := (len_cons len_nil))) (ea_nil))) rfl (hlen := (len_cons (len_cons len_nil)))) (ev_b1 (ev_call (ok_lift (ok__law_alike T)) (hr.mono (by decide)) T.g__law_alike T.F__law_alike.kp T.b__law_alike (ea_cons (ev_call (ok_count_alike T) (hr.mono (by decide)) T.g_count_alike T.F_count_alike.kp T.b_count_alike (ea_cons (ev_var (i := 5) rfl) (ea_cons (ev_tup (ea_nil)) (ea_nil))) rfl (hlen := (len_cons (len_cons len_nil)))) (ea_cons (ev_int) (ea_nil))) rfl (hlen := (len_cons (len_cons len_nil))))))))⟩
end
/-! ### what the top has written -/
def tops_mk {K : PySem.W.Frag} {h : Heap} {mg : Str → Option Value} (X : K.In h) (G : h.Ns mainGlobals mg)
    {fa__law_alike : Addr} {oc__law_alike kV__law_alike dc__law_alike pm__law_alike cd__law_alike ct__law_alike : Value} {od__law_alike an__law_alike : Option Addr} {sl__law_alike : Array (Option Value)}
    (a__law_alike : PySem.W.nsIn K mainGlobals "_law_alike" = some (some (.ref fa__law_alike))) (l__law_alike : K.lookup fa__law_alike = some ⟨oc__law_alike, od__law_alike, .func (PySem.W.fnOf "_law_alike" "_law_alike" (defArgs (topS 9)) (defBody (topS 9)) (defScope (topS 9)) .none kV__law_alike dc__law_alike pm__law_alike an__law_alike cd__law_alike ct__law_alike), sl__law_alike⟩) (c__law_alike : PySem.W.codeIn K cd__law_alike "_law_alike" = true) (k__law_alike : PySem.W.keepIn K (.ref fa__law_alike) = true)
    {fa__law_draws : Addr} {oc__law_draws kV__law_draws dc__law_draws pm__law_draws cd__law_draws ct__law_draws : Value} {od__law_draws an__law_draws : Option Addr} {sl__law_draws : Array (Option Value)}
    (a__law_draws : PySem.W.nsIn K mainGlobals "_law_draws" = some (some (.ref fa__law_draws))) (l__law_draws : K.lookup fa__law_draws = some ⟨oc__law_draws, od__law_draws, .func (PySem.W.fnOf "_law_draws" "_law_draws" (defArgs (topS 6)) (defBody (topS 6)) (defScope (topS 6)) .none kV__law_draws dc__law_draws pm__law_draws an__law_draws cd__law_draws ct__law_draws), sl__law_draws⟩) (c__law_draws : PySem.W.codeIn K cd__law_draws "_law_draws" = true) (k__law_draws : PySem.W.keepIn K (.ref fa__law_draws) = true)
    {fa__law_next : Addr} {oc__law_next kV__law_next dc__law_next pm__law_next cd__law_next ct__law_next : Value} {od__law_next an__law_next : Option Addr} {sl__law_next : Array (Option Value)}
    (a__law_next : PySem.W.nsIn K mainGlobals "_law_next" = some (some (.ref fa__law_next))) (l__law_next : K.lookup fa__law_next = some ⟨oc__law_next, od__law_next, .func (PySem.W.fnOf "_law_next" "_law_next" (defArgs (topS 7)) (defBody (topS 7)) (defScope (topS 7)) .none kV__law_next dc__law_next pm__law_next an__law_next cd__law_next ct__law_next), sl__law_next⟩) (c__law_next : PySem.W.codeIn K cd__law_next "_law_next" = true) (k__law_next : PySem.W.keepIn K (.ref fa__law_next) = true)
    {fa__law_free : Addr} {oc__law_free kV__law_free dc__law_free pm__law_free cd__law_free ct__law_free : Value} {od__law_free an__law_free : Option Addr} {sl__law_free : Array (Option Value)}
    (a__law_free : PySem.W.nsIn K mainGlobals "_law_free" = some (some (.ref fa__law_free))) (l__law_free : K.lookup fa__law_free = some ⟨oc__law_free, od__law_free, .func (PySem.W.fnOf "_law_free" "_law_free" (defArgs (topS 10)) (defBody (topS 10)) (defScope (topS 10)) .none kV__law_free dc__law_free pm__law_free an__law_free cd__law_free ct__law_free), sl__law_free⟩) (c__law_free : PySem.W.codeIn K cd__law_free "_law_free" = true) (k__law_free : PySem.W.keepIn K (.ref fa__law_free) = true)
    {fa__law_is_free : Addr} {oc__law_is_free kV__law_is_free dc__law_is_free pm__law_is_free cd__law_is_free ct__law_is_free : Value} {od__law_is_free an__law_is_free : Option Addr} {sl__law_is_free : Array (Option Value)}
    (a__law_is_free : PySem.W.nsIn K mainGlobals "_law_is_free" = some (some (.ref fa__law_is_free))) (l__law_is_free : K.lookup fa__law_is_free = some ⟨oc__law_is_free, od__law_is_free, .func (PySem.W.fnOf "_law_is_free" "_law_is_free" (defArgs (topS 11)) (defBody (topS 11)) (defScope (topS 11)) .none kV__law_is_free dc__law_is_free pm__law_is_free an__law_is_free cd__law_is_free ct__law_is_free), sl__law_is_free⟩) (c__law_is_free : PySem.W.codeIn K cd__law_is_free "_law_is_free" = true) (k__law_is_free : PySem.W.keepIn K (.ref fa__law_is_free) = true)
    {fa__law_lots : Addr} {oc__law_lots kV__law_lots dc__law_lots pm__law_lots cd__law_lots ct__law_lots : Value} {od__law_lots an__law_lots : Option Addr} {sl__law_lots : Array (Option Value)}
    (a__law_lots : PySem.W.nsIn K mainGlobals "_law_lots" = some (some (.ref fa__law_lots))) (l__law_lots : K.lookup fa__law_lots = some ⟨oc__law_lots, od__law_lots, .func (PySem.W.fnOf "_law_lots" "_law_lots" (defArgs (topS 12)) (defBody (topS 12)) (defScope (topS 12)) .none kV__law_lots dc__law_lots pm__law_lots an__law_lots cd__law_lots ct__law_lots), sl__law_lots⟩) (c__law_lots : PySem.W.codeIn K cd__law_lots "_law_lots" = true) (k__law_lots : PySem.W.keepIn K (.ref fa__law_lots) = true)
    {fa__law_ways : Addr} {oc__law_ways kV__law_ways dc__law_ways pm__law_ways cd__law_ways ct__law_ways : Value} {od__law_ways an__law_ways : Option Addr} {sl__law_ways : Array (Option Value)}
    (a__law_ways : PySem.W.nsIn K mainGlobals "_law_ways" = some (some (.ref fa__law_ways))) (l__law_ways : K.lookup fa__law_ways = some ⟨oc__law_ways, od__law_ways, .func (PySem.W.fnOf "_law_ways" "_law_ways" (defArgs (topS 13)) (defBody (topS 13)) (defScope (topS 13)) .none kV__law_ways dc__law_ways pm__law_ways an__law_ways cd__law_ways ct__law_ways), sl__law_ways⟩) (c__law_ways : PySem.W.codeIn K cd__law_ways "_law_ways" = true) (k__law_ways : PySem.W.keepIn K (.ref fa__law_ways) = true)
    {fa__are_free : Addr} {oc__are_free kV__are_free dc__are_free pm__are_free cd__are_free ct__are_free : Value} {od__are_free an__are_free : Option Addr} {sl__are_free : Array (Option Value)}
    (a__are_free : PySem.W.nsIn K mainGlobals "_are_free" = some (some (.ref fa__are_free))) (l__are_free : K.lookup fa__are_free = some ⟨oc__are_free, od__are_free, .func (PySem.W.fnOf "_are_free" "_are_free" (defArgs (topS 1)) (defBody (topS 1)) (defScope (topS 1)) .none kV__are_free dc__are_free pm__are_free an__are_free cd__are_free ct__are_free), sl__are_free⟩) (c__are_free : PySem.W.codeIn K cd__are_free "_are_free" = true) (k__are_free : PySem.W.keepIn K (.ref fa__are_free) = true)
    {fa__first_letters : Addr} {oc__first_letters kV__first_letters dc__first_letters pm__first_letters cd__first_letters ct__first_letters : Value} {od__first_letters an__first_letters : Option Addr} {sl__first_letters : Array (Option Value)}
    (a__first_letters : PySem.W.nsIn K mainGlobals "_first_letters" = some (some (.ref fa__first_letters))) (l__first_letters : K.lookup fa__first_letters = some ⟨oc__first_letters, od__first_letters, .func (PySem.W.fnOf "_first_letters" "_first_letters" (defArgs (topS 2)) (defBody (topS 2)) (defScope (topS 2)) .none kV__first_letters dc__first_letters pm__first_letters an__first_letters cd__first_letters ct__first_letters), sl__first_letters⟩) (c__first_letters : PySem.W.codeIn K cd__first_letters "_first_letters" = true) (k__first_letters : PySem.W.keepIn K (.ref fa__first_letters) = true)
    {fa__count : Addr} {oc__count kV__count dc__count pm__count cd__count ct__count : Value} {od__count an__count : Option Addr} {sl__count : Array (Option Value)}
    (a__count : PySem.W.nsIn K mainGlobals "_count" = some (some (.ref fa__count))) (l__count : K.lookup fa__count = some ⟨oc__count, od__count, .func (PySem.W.fnOf "_count" "_count" (defArgs (topS 4)) (defBody (topS 4)) (defScope (topS 4)) .none kV__count dc__count pm__count an__count cd__count ct__count), sl__count⟩) (c__count : PySem.W.codeIn K cd__count "_count" = true) (k__count : PySem.W.keepIn K (.ref fa__count) = true)
    {fa_count_alike : Addr} {oc_count_alike kV_count_alike dc_count_alike pm_count_alike cd_count_alike ct_count_alike : Value} {od_count_alike an_count_alike : Option Addr} {sl_count_alike : Array (Option Value)}
    (a_count_alike : PySem.W.nsIn K mainGlobals "count_alike" = some (some (.ref fa_count_alike))) (l_count_alike : K.lookup fa_count_alike = some ⟨oc_count_alike, od_count_alike, .func (PySem.W.fnOf "count_alike" "count_alike" (defArgs (topS 3)) (defBody (topS 3)) (defScope (topS 3)) .none kV_count_alike dc_count_alike pm_count_alike an_count_alike cd_count_alike ct_count_alike), sl_count_alike⟩) (c_count_alike : PySem.W.codeIn K cd_count_alike "count_alike" = true) (k_count_alike : PySem.W.keepIn K (.ref fa_count_alike) = true)
    {fa_law : Addr} {oc_law kV_law dc_law pm_law cd_law ct_law : Value} {od_law an_law : Option Addr} {sl_law : Array (Option Value)}
    (a_law : PySem.W.nsIn K mainGlobals "law" = some (some (.ref fa_law))) (l_law : K.lookup fa_law = some ⟨oc_law, od_law, .func (PySem.W.fnOf "law" "law" (defArgs (topS 14)) (defBody (topS 14)) (defScope (topS 14)) .none kV_law dc_law pm_law an_law cd_law ct_law), sl_law⟩) (c_law : PySem.W.codeIn K cd_law "law" = true) (k_law : PySem.W.keepIn K (.ref fa_law) = true)
    (z_abs : PySem.W.nsIn K mainGlobals "abs" = some none)
    (z_all : PySem.W.nsIn K mainGlobals "all" = some none)
    (z_bool : PySem.W.nsIn K mainGlobals "bool" = some none)
    (z_int : PySem.W.nsIn K mainGlobals "int" = some none)
    (z_isinstance : PySem.W.nsIn K mainGlobals "isinstance" = some none)
    (z_len : PySem.W.nsIn K mainGlobals "len" = some none)
    (z_max : PySem.W.nsIn K mainGlobals "max" = some none)
    (z_min : PySem.W.nsIn K mainGlobals "min" = some none)
    (z_range : PySem.W.nsIn K mainGlobals "range" = some none)
    (z_str : PySem.W.nsIn K mainGlobals "str" = some none)
    (z_sum : PySem.W.nsIn K mainGlobals "sum" = some none)
    (z_tuple : PySem.W.nsIn K mainGlobals "tuple" = some none) : Tops K mg where
  a__law_alike := fa__law_alike
  fd__law_alike := _
  F__law_alike := fun_mk l__law_alike c__law_alike k__law_alike
  g__law_alike := PySem.W.mg_of X G a__law_alike
  b__law_alike := (fun_mk (st := topS 9) l__law_alike c__law_alike k__law_alike).binds fun _ _ _ _ _ _ us hl => match us, hl with | [_, _], _ => rfl
  a__law_draws := fa__law_draws
  fd__law_draws := _
  F__law_draws := fun_mk l__law_draws c__law_draws k__law_draws
  g__law_draws := PySem.W.mg_of X G a__law_draws
  b__law_draws := (fun_mk (st := topS 6) l__law_draws c__law_draws k__law_draws).binds fun _ _ _ _ _ _ us hl => match us, hl with | [_, _], _ => rfl
  a__law_next := fa__law_next
  fd__law_next := _
  F__law_next := fun_mk l__law_next c__law_next k__law_next
  g__law_next := PySem.W.mg_of X G a__law_next
  b__law_next := (fun_mk (st := topS 7) l__law_next c__law_next k__law_next).binds fun _ _ _ _ _ _ us hl => match us, hl with | [_, _], _ => rfl
  a__law_free := fa__law_free
  fd__law_free := _
  F__law_free := fun_mk l__law_free c__law_free k__law_free
  g__law_free := PySem.W.mg_of X G a__law_free
  b__law_free := (fun_mk (st := topS 10) l__law_free c__law_free k__law_free).binds fun _ _ _ _ _ _ us hl => match us, hl with | [_], _ => rfl
  a__law_is_free := fa__law_is_free
  fd__law_is_free := _
  F__law_is_free := fun_mk l__law_is_free c__law_is_free k__law_is_free
  g__law_is_free := PySem.W.mg_of X G a__law_is_free
  b__law_is_free := (fun_mk (st := topS 11) l__law_is_free c__law_is_free k__law_is_free).binds fun _ _ _ _ _ _ us hl => match us, hl with | [_, _, _], _ => rfl
  a__law_lots := fa__law_lots
  fd__law_lots := _
  F__law_lots := fun_mk l__law_lots c__law_lots k__law_lots
  g__law_lots := PySem.W.mg_of X G a__law_lots
  b__law_lots := (fun_mk (st := topS 12) l__law_lots c__law_lots k__law_lots).binds fun _ _ _ _ _ _ us hl => match us, hl with | [_, _], _ => rfl
  a__law_ways := fa__law_ways
  fd__law_ways := _
  F__law_ways := fun_mk l__law_ways c__law_ways k__law_ways
  g__law_ways := PySem.W.mg_of X G a__law_ways
  b__law_ways := (fun_mk (st := topS 13) l__law_ways c__law_ways k__law_ways).binds fun _ _ _ _ _ _ us hl => match us, hl with | [_], _ => rfl
  a__are_free := fa__are_free
  fd__are_free := _
  F__are_free := fun_mk l__are_free c__are_free k__are_free
  g__are_free := PySem.W.mg_of X G a__are_free
  b__are_free := (fun_mk (st := topS 1) l__are_free c__are_free k__are_free).binds fun _ _ _ _ _ _ us hl => match us, hl with | [_, _, _], _ => rfl
  a__first_letters := fa__first_letters
  fd__first_letters := _
  F__first_letters := fun_mk l__first_letters c__first_letters k__first_letters
  g__first_letters := PySem.W.mg_of X G a__first_letters
  b__first_letters := (fun_mk (st := topS 2) l__first_letters c__first_letters k__first_letters).binds fun _ _ _ _ _ _ us hl => match us, hl with | [_, _], _ => rfl
  a__count := fa__count
  fd__count := _
  F__count := fun_mk l__count c__count k__count
  g__count := PySem.W.mg_of X G a__count
  b__count := (fun_mk (st := topS 4) l__count c__count k__count).binds fun _ _ _ _ _ _ us hl => match us, hl with | [_, _, _], _ => rfl
  a_count_alike := fa_count_alike
  fd_count_alike := _
  F_count_alike := fun_mk l_count_alike c_count_alike k_count_alike
  g_count_alike := PySem.W.mg_of X G a_count_alike
  b_count_alike := (fun_mk (st := topS 3) l_count_alike c_count_alike k_count_alike).binds fun _ _ _ _ _ _ us hl => match us, hl with | [_, _], _ => rfl
  a_law := fa_law
  fd_law := _
  F_law := fun_mk l_law c_law k_law
  g_law := PySem.W.mg_of X G a_law
  b_law := (fun_mk (st := topS 14) l_law c_law k_law).binds fun _ _ _ _ _ _ us hl => match us, hl with | [_], _ => rfl
  z_abs := PySem.W.mg_none_of X G z_abs
  z_all := PySem.W.mg_none_of X G z_all
  z_bool := PySem.W.mg_none_of X G z_bool
  z_int := PySem.W.mg_none_of X G z_int
  z_isinstance := PySem.W.mg_none_of X G z_isinstance
  z_len := PySem.W.mg_none_of X G z_len
  z_max := PySem.W.mg_none_of X G z_max
  z_min := PySem.W.mg_none_of X G z_min
  z_range := PySem.W.mg_none_of X G z_range
  z_str := PySem.W.mg_none_of X G z_str
  z_sum := PySem.W.mg_none_of X G z_sum
  z_tuple := PySem.W.mg_none_of X G z_tuple
end Q
namespace Q
open PySem PySem.Spec PyProof.Rows L2
theorem next_tri {n : Int} (h : 0 < n) : Tri (m__law_next [.loc 0, .int n]) fun v => ∃ i, v = .int i ∧ 0 ≤ i ∧ i < n := by
  rintro μ ⟨ds, k, r, hk, rfl⟩
  refine ⟨.int (if k + 1 > ds.length then 0 else (ds.getD k.toNat 0) % n), Dr ds (k + 1) :: r, ?_, ⟨ds, k + 1, r, by omega, rfl⟩, _, rfl, ?_⟩
  · have e1 : dAugM (fun i j => i + j) (.loc 0) (.str "at") (pure (.int 1)) (Dr ds k :: r) = some ((), Dr ds (k + 1) :: r) := rfl
    have e2 : ∀ k', dGetM (.loc 0) (.str "at") (Dr ds k' :: r) = some (.int k', Dr ds k' :: r) := fun _ => rfl
    have e3 : ∀ k', dGetM (.loc 0) (.str "draws") (Dr ds k' :: r) = some (L ds, Dr ds k' :: r) := fun _ => rfl
    unfold m__law_next b__law_next
    simp only [b1, b2, bL, consM, iteM, pure_bind, bind_assoc, M_bind, M_pure, e1, e2, e3, Option.bind_some, lift_M_app, pCmp_int, pCmpD_int, Option.map_some, asB_bl, pLen_L, fGt]
    by_cases hb : k + 1 > (ds.length : Int)
    · rw [if_pos hb]
      simp only [decide_eq_true hb, if_true, M_pure, Option.bind_some, at_rt, pure_bind, fin_rt]
    · rw [if_neg hb]
      have hlt : k.toNat < ds.length := by omega
      simp only [decide_eq_false hb, if_false, M_pure, M_bind, Option.bind_some, at_nx, Bool.false_eq_true, pure_bind, fin_rt, e2, e3, pSub_int, Option.map_some, lift_M_app, pIx_L, bind_assoc, fin_rt]
      rw [show k + 1 - 1 = k by omega, atI_of hk (List.getElem?_eq_getElem hlt)]
      simp only [Option.map_some, Option.bind_some, pInt_int, pMod_int h, fin_rt, M_pure]
      rw [List.getD_eq_getElem?_getD, List.getElem?_eq_getElem hlt]
      rfl
  · split
    · omega
    · exact ⟨Int.emod_nonneg _ (by omega), Int.emod_lt_of_pos _ h⟩
theorem next_at {n i : Pv} {R : Pv → Prop} (h : ∃ k : Int, n = .int k ∧ 0 < k) (k : ∀ i : Int, 0 ≤ i → (∀ k : Int, n = .int k → i < k) → R (.int i)) : Tri (m__law_next [.loc 0, n]) R := by
  obtain ⟨m, rfl, h0⟩ := h
  exact (next_tri h0).mono fun v ⟨i, e, h1, h2⟩ => by subst e; exact k i h1 fun k e => by cases e; exact h2
end Q
namespace Q
open PySem PySem.Spec PyProof.Rows L2
theorem cap_ints {ds : List Int} {i : Int} (h : ds.length < 999000) : capP (ds.map .int) (.int i) = some ((ds ++ [i]).map .int) := by
  unfold capP
  rw [if_pos (by rw [List.length_map]; show _ < (1000000 : Nat); omega), List.map_append]; rfl
theorem draws_ok {ns : List Int} {m : Int} (hl : ns.length ≤ 63) (hm0 : 0 ≤ m) (hm : m ≤ 100000) : Wp (m__law_draws [.scr ns, .int m]) fun v => ∃ ds, v = L ds := by
  show Wp (b__law_draws (.scr ns) (.int m) >>= fin) _
  unfold b__law_draws
  have e0 : pLen [Pv.scr ns] = some (.int ns.length) := rfl
  have e1 := pRange1_int (j := 60) (by decide) (by decide)
  have e2 := pRange1_int (j := m) (by omega) (by omega)
  have e3 := pRange1_int (j := (ns.length : Int)) (by omega) (by omega)
  simp only [parM, parM3, bD, b1, b2, b3, bL, consM, iteM, tAndM, tOrM, pure_bind, bind_assoc, lift_opt, Option.bind_eq_bind, Option.pure_def, Option.bind_some, Option.bind_assoc, Option.map_some, lift_M_some, asB_bl, asI_int, at_nx, at_rt, at_bk, at_ct, outS_nx, fin_rt, fin_nx, pCmp_int, pCmpD_int, pMulA_int, pTru_bl, decide_eq_true_eq, Bool.not_eq_true', decide_eq_false_iff_not, pLim_0, e0, e1, e2, e3]
  refine Wp.obind (Wp.forS (fun i s => ∃ (ds : List Int) (sd : Int), s = (.int sd, ds.map .int) ∧ ds.length ≤ 62 * i ∧ 0 ≤ sd ∧ sd < 65537) ⟨[], 7, rfl, by simp, by decide, by decide⟩ ?_) ?_
  · rintro i x s hx ⟨ds, sd, rfl, hd, h0, h1⟩
    obtain ⟨hi, rfl⟩ := rangeP_at hx
    have hi : i < ns.length := by omega
    refine ⟨_, rfl, ?_⟩
    have hm : mulOk sd 48271 = true := mulOk_r (by decide) (by decide)
    have hp : pPow (.int 10) (.int 18) = some (.int (10 ^ 18)) := rfl
    have hg : pIx (.scr ns) (.int (0 + (i : Int))) = some (.int ns[i]) := by
      rw [Int.zero_add]
      show (atI ns (i : Int)).map Pv.int = _
      rw [atI_nat (List.getElem?_eq_getElem hi)]; rfl
    have hn : 0 ≤ (if ns[i] < 0 then -ns[i] else ns[i]) := by split <;> omega
    simp only [parM, parM3, bD, b1, b2, b3, bL, consM, iteM, tAndM, tOrM, pure_bind, bind_assoc, lift_opt, Option.bind_eq_bind, Option.pure_def, Option.bind_some, Option.bind_assoc, Option.map_some, lift_M_some, asB_bl, asI_int, at_nx, at_rt, at_bk, at_ct, outS_nx, fin_rt, fin_nx, pCmp_int, pCmpD_int, pMulA_int, pTru_bl, decide_eq_true_eq, Bool.not_eq_true', decide_eq_false_iff_not, hg, fGe, pInt_int, pAbs_int, pMul_int hm, pAdd_int, hp, pMod_int (show (0 : Int) < 65537 by decide), pMod_int (show (0 : Int) < 997 by decide), pMod_int (show (0 : Int) < 65521 by decide), pMod_int (show (0 : Int) < 1000003 by decide)]
    generalize (if ns[i] < 0 then -ns[i] else ns[i]) = a at hn ⊢
    have hs0 := Int.emod_nonneg (sd * 48271 + a % 1000003 + (0 + (i : Int))) (show (65537 : Int) ≠ 0 by decide)
    have hs1 := Int.emod_lt_of_pos (sd * 48271 + a % 1000003 + (0 + (i : Int))) (show (0 : Int) < 65537 by decide)
    generalize (sd * 48271 + a % 1000003 + (0 + (i : Int))) % 65537 = sd' at hs0 hs1 ⊢
    have hm2 : mulOk sd' 69621 = true := mulOk_r (by decide) (by decide)
    simp only [pMul_int hm2, Option.bind_some, pAdd_int, pInt_int, pMod_int (show (0 : Int) < 997 by decide), pMod_int (show (0 : Int) < 65521 by decide)]
    refine Wp.obind (Q := fun s : Pv × List Pv => ∃ (ds : List Int) (j : Int), s = (.int j, ds.map .int) ∧ ds.length ≤ 62 * i + 2 ∧ 0 ≤ j) (Wp.ite (fun hb => Wp.some ⟨ds, a, rfl, by omega, hn⟩) fun hb => ?_) ?_
    · rw [cap_ints (by omega), Option.bind_some, cap_ints (by rw [List.length_append, List.length_singleton]; omega)]
      exact Wp.some ⟨_, 0, rfl, by simp only [List.length_append, List.length_singleton]; omega, by decide⟩
    · rintro _ ⟨ds, j, rfl, hd, hj⟩
      refine Wp.obind ((Wp.forS (fun k s => ∃ (ds : List Int) (j : Int), s = (ds.map .int, .int j) ∧ ds.length ≤ 62 * i + 2 + k ∧ 0 ≤ j) ⟨ds, j, rfl, hd, hj⟩ ?_)) ?_
      · rintro k x s hk ⟨ds, j, rfl, hd, hj⟩
        have hk := (rangeP_at hk).1
        refine ⟨x, rfl, ?_⟩
        simp only [parM, parM3, bD, b1, b2, b3, bL, consM, iteM, tAndM, tOrM, pure_bind, bind_assoc, lift_opt, Option.bind_eq_bind, Option.pure_def, Option.bind_some, Option.bind_assoc, Option.map_some, lift_M_some, asB_bl, asI_int, at_nx, at_rt, at_bk, at_ct, outS_nx, fin_rt, fin_nx, pCmp_int, pCmpD_int, pMulA_int, pTru_bl, decide_eq_true_eq, Bool.not_eq_true', decide_eq_false_iff_not, fGt, pInt_int, pMod_int (show (0 : Int) < 997 by decide), pDiv_int (show (0 : Int) < 997 by decide) (by decide)]
        refine Wp.obind (Q := fun s : List Pv × Pv => ∃ (ds : List Int) (j : Int), s = (ds.map .int, .int j) ∧ ds.length ≤ 62 * i + 2 + (k + 1) ∧ 0 ≤ j) (Wp.ite (fun hb => ?_) fun hb => Wp.some ⟨ds, j, rfl, by omega, hj⟩) ?_
        · rw [cap_ints (by omega), Option.bind_some]
          exact Wp.some ⟨_, _, rfl, by simp only [List.length_append, List.length_singleton]; omega, Int.ediv_nonneg hj (by decide)⟩
        · rintro s hs
          exact Wp.some hs
      · rintro _ ⟨ds, j, rfl, hd, hj⟩
        have h60 : (rangeP 0 60).length = 60 := by rw [rangeP_len]; rfl
        rw [h60] at hd
        exact Wp.some ⟨ds, sd', rfl, by omega, hs0, hs1⟩
  · rintro _ ⟨ds, sd, rfl, hd, h0, h1⟩
    have hd : ds.length ≤ 62 * 63 := by rw [rangeP_len] at hd; omega
    refine Wp.obind ((Wp.forS (fun k s => ∃ (ds : List Int) (sd : Int), s = (.int sd, ds.map .int) ∧ ds.length ≤ 62 * 63 + k ∧ 0 ≤ sd ∧ sd < 65537) ⟨ds, sd, rfl, hd, h0, h1⟩ ?_)) ?_
    · rintro k x s hk ⟨ds, sd, rfl, hd, h0, h1⟩
      obtain ⟨hk, rfl⟩ := rangeP_at hk
      refine ⟨_, rfl, ?_⟩
      have hm : mulOk sd 16807 = true := mulOk_r (by decide) (by decide)
      simp only [parM, parM3, bD, b1, b2, b3, bL, consM, iteM, tAndM, tOrM, pure_bind, bind_assoc, lift_opt, Option.bind_eq_bind, Option.pure_def, Option.bind_some, Option.bind_assoc, Option.map_some, lift_M_some, asB_bl, asI_int, at_nx, at_rt, at_bk, at_ct, outS_nx, fin_rt, fin_nx, pCmp_int, pCmpD_int, pMulA_int, pTru_bl, decide_eq_true_eq, Bool.not_eq_true', decide_eq_false_iff_not, pInt_int, pMul_int hm, pAdd_int, pMod_int (show (0 : Int) < 65537 by decide), pMod_int (show (0 : Int) < 997 by decide)]
      rw [cap_ints (by omega)]
      exact Wp.some ⟨_, _, rfl, by simp only [List.length_append, List.length_singleton]; omega, Int.emod_nonneg _ (by decide), Int.emod_lt_of_pos _ (by decide)⟩
    · rintro _ ⟨ds, sd, rfl, _⟩
      rw [lst_ints, pSl_L]
      exact Wp.some ⟨_, rfl⟩
end Q
namespace Q
open PySem PySem.Spec PyProof.Rows L2
/-- values of ints, flags, names and tuples of them, not too deep -/
inductive Sm : Nat → Pv → Prop
  | non (d : Nat) : Sm d .non
  | bl (d : Nat) (b : Bool) : Sm d (.bl b)
  | int (d : Nat) (i : Int) : Sm d (.int i)
  | str (d : Nat) (s : Str) : okE (.str s) = true → Sm d (.str s)
  | tup (d : Nat) (l : List Pv) : l.length ≤ 1000000 → (∀ x ∈ l, Sm d x) → Sm (d + 1) (.tup l)
theorem Sm.T {d : Nat} {ns : List Int} (h : ns.length ≤ 1000000) : Sm (d + 1) (Q.T ns) := .tup d _ (by rw [List.length_map]; exact h) fun x hx => by
  obtain ⟨i, _, rfl⟩ := List.mem_map.mp hx
  exact .int d i
theorem Sm.up {d : Nat} {v : Pv} (h : Sm d v) : Sm (d + 1) v := by
  induction h with
  | non d => exact .non _
  | bl d b => exact .bl _ b
  | int d i => exact .int _ i
  | str d s h => exact .str _ s h
  | tup d l h _ ih => exact .tup _ l h ih
theorem Sm.pair {d : Nat} {u v : Pv} (h : Sm d u) (g : Sm d v) : Sm (d + 1) (.tup [u, v]) := .tup d _ (by simp) fun x hx => by
  simp only [List.mem_cons, List.not_mem_nil, or_false] at hx
  rcases hx with rfl | rfl
  · exact h
  · exact g
theorem Sm.three {d : Nat} {u v w : Pv} (h : Sm d u) (g : Sm d v) (k : Sm d w) : Sm (d + 1) (.tup [u, v, w]) := .tup d _ (by simp) fun x hx => by
  simp only [List.mem_cons, List.not_mem_nil, or_false] at hx
  rcases hx with rfl | rfl | rfl
  · exact h
  · exact g
  · exact k
theorem alikeF_refl {d : Nat} {v : Pv} (h : Sm d v) : ∀ k, d < k → Wp (m__law_alikeF k [v, v]) fun r => r = .bl true := by
  induction h with
  | non d =>
    rintro (_ | k) hk
    · cases hk
    · exact ⟨.bl true, rfl, rfl⟩
  | bl d b =>
    rintro (_ | k) hk
    · cases hk
    · exact ⟨.bl true, by cases b <;> rfl, rfl⟩
  | int d i =>
    rintro (_ | k) hk
    · cases hk
    · refine ⟨.bl true, ?_, rfl⟩
      show b__law_alike (m__law_alikeF k) (.int i) (.int i) >>= fin = _
      unfold b__law_alike
      simp [parM, parM3, bD, b1, b2, b3, bL, consM, iteM, tAndM, tOrM, pure_bind, bind_assoc, lift_opt, Option.bind_eq_bind, Option.pure_def, Option.bind_some, Option.bind_assoc, Option.map_some, lift_M_some, asB_bl, asI_int, at_nx, at_rt, at_bk, at_ct, outS_nx, fin_rt, fin_nx, pCmp_int, pCmpD_int, pMulA_int, pTru_bl, decide_eq_true_eq, Bool.not_eq_true', decide_eq_false_iff_not, andV, notB]
  | str d s h =>
    rintro (_ | k) hk
    · cases hk
    · refine ⟨.bl true, ?_, rfl⟩
      show b__law_alike (m__law_alikeF k) (.str s) (.str s) >>= fin = _
      have e : pEq (.str s) (.str s) = some (.bl true) := by
        unfold pEq
        rw [h, peq_str, decide_eq_true rfl]
        rfl
      unfold b__law_alike
      simp [parM, parM3, bD, b1, b2, b3, bL, consM, iteM, tAndM, tOrM, pure_bind, bind_assoc, lift_opt, Option.bind_eq_bind, Option.pure_def, Option.bind_some, Option.bind_assoc, Option.map_some, lift_M_some, asB_bl, asI_int, at_nx, at_rt, at_bk, at_ct, outS_nx, fin_rt, fin_nx, pCmp_int, pCmpD_int, pMulA_int, pTru_bl, decide_eq_true_eq, Bool.not_eq_true', decide_eq_false_iff_not, andV, notB, e]
  | tup d l hl _ ih =>
    rintro (_ | k) hk
    · cases hk
    · show Wp (b__law_alike (m__law_alikeF k) (.tup l) (.tup l) >>= fin) _
      unfold b__law_alike
      have e2 := pRange1_int (j := l.length) (by omega) (by omega)
      simp [parM, parM3, bD, b1, b2, b3, bL, consM, iteM, tAndM, tOrM, pure_bind, bind_assoc, lift_opt, Option.bind_eq_bind, Option.pure_def, Option.bind_some, Option.bind_assoc, Option.map_some, lift_M_some, asB_bl, asI_int, at_nx, at_rt, at_bk, at_ct, outS_nx, fin_rt, fin_nx, pCmp_int, pCmpD_int, pMulA_int, pTru_bl, decide_eq_true_eq, Bool.not_eq_true', decide_eq_false_iff_not, e2]
      have e3 : ∀ ct : Pv → Option Bool, (∀ i : Nat, i < l.length → ct (.int i) = some false) → lcW (some (rangeP 0 (l.length : Int))) some ct (fun a => some a) = (some [] : Option (List Pv)) := by
        intro ct h
        have := lcW_map (l := List.range ((l.length : Int) - 0).toNat) (f := fun k : Nat => Pv.int (0 + k)) (g := fun k : Nat => Pv.int (0 + k)) (c := fun _ => false) (un := some) (ct := ct) (ce := fun a => some a) (by rw [List.length_range]; show _ ≤ (1000000 : Nat); omega) (fun i hi => ⟨_, rfl, by
          have hi := List.mem_range.mp hi
          rw [Int.zero_add]
          exact h i (by omega), fun h => by cases h⟩)
        rw [List.filter_eq_nil_iff.mpr fun _ _ => Bool.false_ne_true] at this
        exact this
      rw [e3 _ fun i hi => by
        have e : atI l (i : Int) = some l[i] := atI_nat (List.getElem?_eq_getElem hi)
        obtain ⟨r, e2, rfl⟩ := ih l[i] (List.getElem_mem hi) k (by omega)
        simp [e, e2]]
      exact Wp.some rfl
theorem alike_refl {d : Nat} {v : Pv} (h : Sm d v) (hd : d < 40) : m__law_alike [v, v] = some (.bl true) := by
  obtain ⟨r, e, rfl⟩ := alikeF_refl h 40 hd
  exact e
end Q
namespace Q
open PySem PySem.Spec PyProof.Rows L2
theorem dNew_app {c1 c2 : M Pv} {a b : Pv} {k1 k2 : Str} {μ : List MO} (h1 : c1 μ = some (a, μ)) (h2 : c2 μ = some (b, μ)) (hk : ¬ k1 = k2) : dNewM2 k1 k2 c1 c2 μ = some (.loc μ.length, μ ++ [.dk [(.inr k1, a), (.inr k2, b)]]) := by
  unfold dNewM2
  rw [M_bind, h1]
  show (c2 >>= _) μ = _
  rw [M_bind, h2]
  show (if k1 = k2 then none else _) = _
  rw [if_neg hk]
theorem law_start {c : M Pv} {f : Pv → M (Out Unit Empty)} {ns : List Int} {m : Int} (hl : ns.length ≤ 63) (hm0 : 0 ≤ m) (hm : m ≤ 100000) (hc : c = Eff.lift (m__law_draws [.scr ns, .int m])) (h : Tri (f (.loc 0) >>= fin) fun v => v = .bl true) :
    ∃ μ, Eff.run ((dNewM2 "draws" "at" c (pure (.int 0)) >>= f) >>= fin) [] = some (Pv.bl true, μ) := by
  obtain ⟨_, e, ds, rfl⟩ := draws_ok hl hm0 hm
  subst hc
  have e0 : dNewM2 "draws" "at" (Eff.lift (m__law_draws [.scr ns, .int m])) (pure (.int 0)) [] = some (.loc 0, [Dr ds 0]) := by
    rw [dNew_app (a := L ds) (b := .int 0) (by rw [e]; rfl) rfl (by decide)]
    rfl
  obtain ⟨v, μ, e1, _, rfl⟩ := h [Dr ds 0] ⟨ds, 0, [], by decide, rfl⟩
  refine ⟨μ, ?_⟩
  show ((dNewM2 "draws" "at" _ _ >>= f) >>= fin) [] = _
  rw [bind_assoc, M_bind, e0]
  exact e1
end Q
namespace Q
open PySem PySem.Spec PyProof.Rows L2
abbrev Nt : List Nat → Pv := Tm nI
abbrev NN : List (List Nat) → Pv := Tm Nt
def at2 (t : List (List Nat)) (i k : Nat) : Nat := gN (t.getD i []) k
structure Sq (m n : Nat) (t : List (List Nat)) : Prop where
  len : t.length = m
  row : ∀ r ∈ t, r.length = n
theorem getD_mem {α : Type} {t : List α} {i : Nat} {a : α} (h : i < t.length) : t.getD i a ∈ t := by
  rw [List.getD_eq_getElem?_getD, List.getElem?_eq_getElem h]; exact List.getElem_mem h
theorem Sq.at {m n : Nat} {t : List (List Nat)} (h : Sq m n t) {i : Nat} (hi : i < m) : (t.getD i []).length = n := h.row _ (getD_mem (by rw [h.len]; exact hi))
theorem nI_eq (k : Nat) : nI k = .int (k : Int) := rfl
theorem pIx_nT {α : Type} {f : α → Pv} {l : List α} (a : α) {i : Nat} (h : i < l.length) : pIx (Tm f l) (nI i) = some (f (l.getD i a)) := pIx_TmD a h
theorem pIx_nL {α : Type} {f : α → Pv} {l : List α} (a : α) {i : Nat} (h : i < l.length) : pIx (Lm f l) (nI i) = some (f (l.getD i a)) := pIx_LmD a h
theorem pIx_Nt {p : List Nat} {i : Nat} (h : i < p.length) : pIx (Nt p) (nI i) = some (nI (gN p i)) := pIx_nT 0 h
theorem pIx_NN {t : List (List Nat)} {i : Nat} (h : i < t.length) : pIx (NN t) (nI i) = some (Nt (t.getD i [])) := pIx_nT [] h
theorem mk_at {m n : Nat} {f : Nat → Nat → Nat} {i k : Nat} (hi : i < m) (hk : k < n) : at2 ((List.range m).map fun i => (List.range n).map fun k => f i k) i k = f i k := by
  unfold at2
  rw [List.getD_eq_getElem?_getD, List.getElem?_map, List.getElem?_range hi]
  show gN ((List.range n).map fun k => f i k) k = _
  rw [gN_range _ hk]
theorem mk_sq {m n : Nat} {f : Nat → Nat → Nat} : Sq m n ((List.range m).map fun i => (List.range n).map fun k => f i k) := ⟨by rw [List.length_map, List.length_range], fun r hr => by
  obtain ⟨i, _, rfl⟩ := List.mem_map.mp hr
  rw [List.length_map, List.length_range]⟩
theorem Sq.ext {m n : Nat} {t u : List (List Nat)} (h : Sq m n t) (g : Sq m n u) (e : ∀ i k, i < m → k < n → at2 t i k = at2 u i k) : t = u := by
  refine List.ext_getElem (by rw [h.len, g.len]) fun i h1 h2 => ?_
  have hi : i < m := by rw [← h.len]; exact h1
  have a1 : t.getD i [] = t[i] := by rw [List.getD_eq_getElem?_getD, List.getElem?_eq_getElem h1]; rfl
  have a2 : u.getD i [] = u[i] := by rw [List.getD_eq_getElem?_getD, List.getElem?_eq_getElem h2]; rfl
  refine gN_ext (by rw [← a1, ← a2, h.at hi, g.at hi]) fun k hk => ?_
  have hk : k < n := by rw [← a1, h.at hi] at hk; exact hk
  have := e i k hi hk
  unfold at2 at this
  rwa [a1, a2] at this
theorem limN {n : Nat} (h : n ≤ 1000) : n ≤ LIM := by show n ≤ (1000000 : Nat); omega
/-- [f i for i in range(n)] -/
theorem lc_range {n : Nat} {ce : Pv → Option Pv} {g : Nat → Pv} (hn : n ≤ 1000) (h : ∀ i, i < n → ce (nI i) = some (g i)) : lcV (pRange1 [.int (n : Int)]) some ce = some ((List.range n).map g) := by
  rw [pRange1_nI (by omega)]
  exact lcV_map (by rw [List.length_range]; exact limN hn) fun i hi => ⟨_, rfl, h i (List.mem_range.mp hi)⟩
theorem map_Nt {n : Nat} {g : Nat → Nat} : (List.range n).map (fun i => nI (g i)) = ((List.range n).map g).map nI := by rw [List.map_map]; rfl
theorem Tm_map {α β : Type} (f : β → Pv) (g : α → β) (l : List α) : Pv.tup (l.map fun x => f (g x)) = Tm f (l.map g) := by unfold Tm; rw [List.map_map]; rfl
theorem Lm_map {α β : Type} (f : β → Pv) (g : α → β) (l : List α) : Pv.lst (l.map fun x => f (g x)) = Lm f (l.map g) := by unfold Lm; rw [List.map_map]; rfl
end Q
namespace Q
open PySem PySem.Spec PyProof.Rows L2
theorem range_at {n i : Nat} {x : Pv} (h : ((List.range n).map nI)[i]? = some x) : i < n ∧ x = nI i := by
  rw [List.getElem?_map] at h
  have hi : i < n := by
    refine Classical.byContradiction fun z => ?_
    rw [List.getElem?_eq_none (by rw [List.length_range]; omega)] at h; cases h
  rw [List.getElem?_range hi] at h
  cases h
  exact ⟨hi, rfl⟩
theorem map_at {α : Type} {f : α → Pv} {l : List α} {i : Nat} {x : Pv} (h : (l.map f)[i]? = some x) : ∃ a, l[i]? = some a ∧ x = f a := by
  rw [List.getElem?_map] at h
  cases e : l[i]? with
  | none => rw [e] at h; cases h
  | some a => rw [e] at h; cases h; exact ⟨a, rfl, rfl⟩
theorem setP_map {n x : Nat} {g : Nat → Pv} {b : Pv} (hx : x < n) : setP ((List.range n).map g) (nI x) b = some ((List.range n).map fun v => if v = x then b else g v) := by
  show (ixN _ (x : Int)).map _ = _
  rw [ixN_of (by omega) (by rw [List.length_map, List.length_range]; omega), Option.map_some, Int.toNat_natCast, set_rangeA]
theorem rep_zero {n : Nat} (hn : n ≤ 1000) (z : Pv) : pRep (.lst [z]) (.int (n : Int)) = some ((List.range n).map fun _ => z) := by
  show (if (n : Int) ≤ 1000000 ∧ -1000000 ≤ (n : Int) ∧ 1 * (n : Int).toNat ≤ LIM then _ else _) = _
  rw [if_pos ⟨by omega, by omega, by show 1 * (n : Int).toNat ≤ (1000000 : Nat); omega⟩, Int.toNat_natCast]
  congr 1
  rw [List.flatten_replicate_singleton]
  exact List.ext_getElem (by simp) fun i h1 h2 => by simp
end Q
namespace Q
open PySem PySem.Spec PyProof.Rows L2
theorem exist_map {α : Type} {f : α → Pv} {ys : List Pv} {P : α → Prop} (h : ∀ y ∈ ys, ∃ a, y = f a ∧ P a) : ∃ l : List α, ys = l.map f ∧ l.length = ys.length ∧ ∀ a ∈ l, P a := by
  induction ys with
  | nil => exact ⟨[], rfl, rfl, fun a h => by cases h⟩
  | cons y r ih =>
    obtain ⟨a, rfl, p⟩ := h y List.mem_cons_self
    obtain ⟨l, rfl, e, k⟩ := ih fun z hz => h z (List.mem_cons_of_mem _ hz)
    exact ⟨a :: l, rfl, by rw [List.length_cons, List.length_cons, e], fun b hb => by
      rcases List.mem_cons.mp hb with rfl | hb
      · exact p
      · exact k b hb⟩
/-- tuple([.. for i in range(n)]) of things -/
theorem tri_tupRange {α : Type} {f : α → Pv} {n : Nat} {ce : Pv → M Pv} {P : α → Prop} (hn : n ≤ 1000) (h : ∀ i, i < n → Tri (ce (nI i)) fun v => ∃ a, v = f a ∧ P a) :
    Tri (lcV (pure ((List.range n).map nI)) some ce >>= fun l => Eff.lift (pTuple [.lst l])) fun v => ∃ l : List α, v = Tm f l ∧ l.length = n ∧ ∀ a ∈ l, P a := by
  refine (Tri.lcV (C := fun l => l = (List.range n).map nI) (P := fun v => ∃ a, v = f a ∧ P a) (Tri.pure ⟨rfl, by simp; exact limN hn⟩) ?_).bind ?_
  · rintro l rfl x hx
    obtain ⟨i, hi, rfl⟩ := List.mem_map.mp hx
    exact ⟨_, rfl, h i (List.mem_range.mp hi)⟩
  · rintro ys ⟨l, rfl, hl, hp⟩
    obtain ⟨as, rfl, h2, h3⟩ := exist_map hp
    rw [pTuple_lst]
    exact Tri.lift rfl ⟨as, rfl, by rw [h2, hl]; simp, h3⟩
theorem next_nat {n : Nat} (h : 0 < n) : Tri (m__law_next [.loc 0, .int (n : Int)]) fun v => ∃ k, v = nI k ∧ k < n := (next_tri (n := (n : Int)) (by omega)).mono fun v ⟨i, e, h1, h2⟩ => ⟨i.toNat, by rw [e]; unfold nI; congr 1; omega, by omega⟩
theorem tri_lcRange {α : Type} {f : α → Pv} {n : Nat} {ce : Pv → M Pv} {P : α → Prop} (hn : n ≤ 1000) (h : ∀ i, i < n → Tri (ce (nI i)) fun v => ∃ a, v = f a ∧ P a) :
    Tri (lcV (pure ((List.range n).map nI)) some ce) fun v => ∃ l : List α, v = l.map f ∧ l.length = n ∧ ∀ a ∈ l, P a := by
  refine (Tri.lcV (C := fun l => l = (List.range n).map nI) (P := fun v => ∃ a, v = f a ∧ P a) (Tri.pure ⟨rfl, by simp; exact limN hn⟩) ?_).mono ?_
  · rintro l rfl x hx
    obtain ⟨i, hi, rfl⟩ := List.mem_map.mp hx
    exact ⟨_, rfl, h i (List.mem_range.mp hi)⟩
  · rintro ys ⟨l, rfl, hl, hp⟩
    obtain ⟨as, rfl, h2, h3⟩ := exist_map hp
    exact ⟨as, rfl, by rw [h2, hl]; simp, h3⟩
end Q
namespace Q
open PySem PySem.Spec PyProof.Rows L2
theorem Wp.eq {α : Type} {x : Option α} {v : α} (h : Wp x fun u => u = v) : x = .some v := by
  obtain ⟨u, e, rfl⟩ := h
  exact e
section
variable {A α β S : Type} {un : Pv → Option A} {f g : α → Pv} {l : List α} {Z : β → Prop}
theorem Wp.lc (g : α → Pv) {ce : A → Option Pv} {K : List Pv → Option β} (hl : l.length ≤ LIM) (h : ∀ x ∈ l, ∃ a, un (f x) = .some a ∧ ce a = .some (g x)) (k : Wp (K (l.map g)) Z) : Wp ((lcV (.some (l.map f)) un ce : Option (List Pv)).bind K) Z := by
  rw [lcV_map hl h]; exact k
theorem Wp.lcw (g : α → Pv) (c : α → Bool) {ct : A → Option Bool} {ce : A → Option Pv} {K : List Pv → Option β} (hl : l.length ≤ LIM) (h : ∀ x ∈ l, ∃ a, un (f x) = .some a ∧ ct a = .some (c x) ∧ (c x = true → ce a = .some (g x))) (k : Wp (K ((l.filter c).map g)) Z) : Wp ((lcW (.some (l.map f)) un ct ce : Option (List Pv)).bind K) Z := by
  rw [lcW_map hl h]; exact k
theorem Wp.fs0 {cb : S → A → Option S} (st : Nat → S) : ∀ (l : List α), (∀ i x, l[i]? = .some x → ∃ a, un (f x) = .some a ∧ cb (st i) a = .some (st (i + 1))) → Q.forS un cb (st 0) (l.map f) = .some (st l.length) := by
  intro l
  induction l generalizing st with
  | nil => intro _; rfl
  | cons x l ih =>
    intro h
    obtain ⟨a, e, k⟩ := h 0 x rfl
    have ih := ih (fun i => st (i + 1)) fun i y hy => h (i + 1) y (by rw [List.getElem?_cons_succ]; exact hy)
    rw [List.map_cons]
    unfold Q.forS
    simp only [lift_opt, Option.bind_eq_bind, e, Option.bind_some, k]
    exact ih
theorem Wp.fs {cb : S → A → Option S} {K : S → Option β} {s0 : S} (st : Nat → S) (h0 : st 0 = s0) (h : ∀ i x, l[i]? = .some x → ∃ a, un (f x) = .some a ∧ cb (st i) a = .some (st (i + 1))) (k : Wp (K (st l.length)) Z) : Wp ((Q.forS un cb s0 (l.map f) : Option S).bind K) Z := by
  subst h0
  rw [Wp.fs0 st l h]; exact k
end
section
variable {A α β : Type} {un : Pv → Option A} {f : α → Pv} {l : List α} {Z : β → Prop}
theorem Tri.lc (g : α → Pv) {ce : A → M Pv} {K : List Pv → M β} (hl : l.length ≤ LIM) (h : ∀ x ∈ l, ∃ a, un (f x) = .some a ∧ ce a = Pure.pure (g x)) (k : Tri (K (l.map g)) Z) : Tri (Q.lcV (Pure.pure (l.map f)) un ce >>= K) Z := by
  rw [lcV_pureM hl h, pure_bind]; exact k
theorem Tri.lcw (g : α → Pv) (c : α → Bool) {ct : A → M Bool} {ce : A → M Pv} {K : List Pv → M β} (hl : l.length ≤ LIM) (h : ∀ x ∈ l, ∃ a, un (f x) = .some a ∧ ct a = Pure.pure (c x) ∧ (c x = true → ce a = Pure.pure (g x))) (k : Tri (K ((l.filter c).map g)) Z) : Tri (Q.lcW (Pure.pure (l.map f)) un ct ce >>= K) Z := by
  rw [lcW_pureM hl h, pure_bind]; exact k
theorem Tri.ugb {c : M α} {v : α} {K : α → M β} (h : Ug c v) (k : Tri (K v) Z) : Tri (c >>= K) Z := (Tri.ug (Q := fun u => u = v) h rfl).bind fun _ e => e ▸ k
end
end Q
namespace Q
open PySem PySem.Spec PyProof.Rows L2
theorem Ug.forS0 {α A S : Type} {un : Pv → Option A} {cb : S → A → M S} {f : α → Pv} : ∀ (l : List α) (st : Nat → S), (∀ i x, l[i]? = some x → ∃ a, un (f x) = some a ∧ Ug (cb (st i) a) (st (i + 1))) → Ug (Q.forS un cb (st 0) (l.map f)) (st l.length)
  | [], _, _ => Ug.pure
  | x :: l, st, h => by
    obtain ⟨a, e, k⟩ := h 0 x rfl
    have ih := Ug.forS0 l (fun i => st (i + 1)) fun i y hy => h (i + 1) y (by rw [List.getElem?_cons_succ]; exact hy)
    exact Ug.bind (Ug.lift e) (Ug.bind k ih)
theorem Ug.forSI {α A S : Type} {un : Pv → Option A} {cb : S → A → M S} {f : α → Pv} {l : List α} {s0 s1 : S} (st : Nat → S) (h0 : st 0 = s0) (h1 : st l.length = s1) (h : ∀ i x, l[i]? = some x → ∃ a, un (f x) = some a ∧ Ug (cb (st i) a) (st (i + 1))) : Ug (Q.forS un cb s0 (l.map f)) s1 := by
  subst h0 h1
  exact Ug.forS0 l st h
theorem range_get {n i x : Nat} (h : (List.range n)[i]? = some x) : i < n ∧ x = i := by
  obtain ⟨hi, e⟩ := List.getElem?_eq_some_iff.mp h
  rw [List.getElem_range] at e
  rw [List.length_range] at hi
  exact ⟨hi, e.symm⟩
theorem setP_ints {w : List Int} {i : Nat} {v : Int} (hi : i < w.length) : setP (w.map Pv.int) (nI i) (.int v) = some ((w.set i v).map Pv.int) := by
  show (ixN _ (i : Int)).map _ = _
  rw [ixN_of (by omega) (by rw [List.length_map]; omega), Option.map_some, Int.toNat_natCast, List.map_set]
end Q
namespace Q
open PySem PySem.Spec PyProof.Rows L2
theorem next_int {p : Int} (h : 0 < p) : Tri (m__law_next [.loc 0, .int p]) fun v => ∃ x, v = Pv.int x ∧ (0 ≤ x ∧ x < p) := next_tri h
end Q
namespace Q
open PySem PySem.Spec PyProof.Rows L2
section
variable {A : Type} {un : Pv → Option A}
theorem lcV_b {m : Type → Type} [Monad m] [LawfulMonad m] [Eff m] {ci : m (List Pv)} {ce : A → m Pv} : lcV ci un ce = ci >>= fun l => lcV (pure l) un ce := by unfold lcV; simp only [pure_bind]
theorem lcW_b {m : Type → Type} [Monad m] [LawfulMonad m] [Eff m] {ci : m (List Pv)} {ct : A → m Bool} {ce : A → m Pv} : lcW ci un ct ce = ci >>= fun l => lcW (pure l) un ct ce := by unfold lcW; simp only [pure_bind]
end
end Q
namespace Q
open PySem PySem.Spec PyProof.Rows L2
/-! ### letters that may change places -/
structure Fr (fr : Nat → Nat → Bool) : Prop where
  sym : ∀ a b, fr a b = fr b a
  irr : ∀ a, fr a a = false
def proj (a b : Nat) (w : List Nat) : List Nat := w.filter fun x => decide (x = a) || decide (x = b)
/-- the same letters of each two that may not change places -/
def Pj (fr : Nat → Nat → Bool) (w v : List Nat) : Prop := ∀ a b, fr a b = false → proj a b w = proj a b v
inductive Al (fr : Nat → Nat → Bool) : List Nat → List Nat → Prop
  | refl (w : List Nat) : Al fr w w
  | step {w : List Nat} {u z : List Nat} {a b : Nat} : Al fr w (u ++ a :: b :: z) → fr a b = true → Al fr w (u ++ b :: a :: z)
section
variable {fr : Nat → Nat → Bool}
theorem Al.trans {w v x : List Nat} (h : Al fr w v) (g : Al fr v x) : Al fr w x := by
  induction g with
  | refl => exact h
  | step _ hf ih => exact ih.step hf
theorem Al.cons (c : Nat) {w v : List Nat} (h : Al fr w v) : Al fr (c :: w) (c :: v) := by
  induction h with
  | refl => exact .refl _
  | @step u z a b _ hf ih => exact Al.step (u := c :: u) ih hf
theorem Al.symm (hF : Fr fr) {w v : List Nat} (h : Al fr w v) : Al fr v w := by
  induction h with
  | refl => exact .refl _
  | @step u z a b _ hf ih =>
    exact Al.trans (Al.step (u := u) (z := z) (a := b) (b := a) (.refl _) (by rw [hF.sym]; exact hf)) ih
theorem proj_app (a b : Nat) (w v : List Nat) : proj a b (w ++ v) = proj a b w ++ proj a b v := List.filter_append ..
theorem proj_cons (a b x : Nat) (w : List Nat) : proj a b (x :: w) = proj a b [x] ++ proj a b w := proj_app a b [x] w
theorem proj_swap (hF : Fr fr) {a b x y : Nat} (h : fr a b = false) (g : fr x y = true) : proj a b [x] ++ proj a b [y] = proj a b [y] ++ proj a b [x] := by
  unfold proj
  by_cases hx : (x = a ∨ x = b)
  · by_cases hy : (y = a ∨ y = b)
    · exfalso
      rcases hx with rfl | rfl <;> rcases hy with rfl | rfl
      · rw [hF.irr] at g; cases g
      · rw [h] at g; cases g
      · rw [hF.sym, h] at g; cases g
      · rw [hF.irr] at g; cases g
    · have : (decide (y = a) || decide (y = b)) = false := by simpa using hy
      simp [List.filter_cons, this]
  · have : (decide (x = a) || decide (x = b)) = false := by simpa using hx
    simp [List.filter_cons, this]
theorem Al.proj (hF : Fr fr) {w v : List Nat} (h : Al fr w v) : Pj fr w v := by
  induction h with
  | refl => exact fun _ _ _ => rfl
  | @step u z x y _ hf ih =>
    intro a b hab
    rw [ih a b hab, proj_app, proj_app, proj_cons a b x (y :: z), proj_cons a b y z, proj_cons a b y (x :: z), proj_cons a b x z, ← List.append_assoc (Q.proj a b [x]), ← List.append_assoc (Q.proj a b [y]), proj_swap hF hab hf]
/-- a letter that is free with all ahead of it comes to the front -/
theorem Al.front (hF : Fr fr) {c : Nat} (z : List Nat) : ∀ (u : List Nat), (∀ x ∈ u, fr c x = true) → Al fr (u ++ c :: z) (c :: (u ++ z))
  | [], _ => .refl _
  | x :: u, h => by
    have ih := Al.front hF z u fun y hy => h y (List.mem_cons_of_mem _ hy)
    have h1 : Al fr (x :: (u ++ c :: z)) (x :: c :: (u ++ z)) := ih.cons x
    exact Al.step (u := []) h1 (by rw [hF.sym]; exact h x List.mem_cons_self)
theorem mem_proj {a b x : Nat} {w : List Nat} : x ∈ proj a b w ↔ x ∈ w ∧ (x = a ∨ x = b) := by
  unfold proj
  rw [List.mem_filter]
  simp
theorem Pj.nil (hF : Fr fr) {w : List Nat} (h : Pj fr w []) : w = [] := by
  cases w with
  | nil => rfl
  | cons x w =>
    have := h x x (hF.irr x)
    have hx : x ∈ proj x x (x :: w) := mem_proj.mpr ⟨List.mem_cons_self, .inl rfl⟩
    rw [this] at hx
    exact absurd hx List.not_mem_nil
theorem Pj.symm {w v : List Nat} (h : Pj fr w v) : Pj fr v w := fun a b g => (h a b g).symm
theorem Pj.trans {w v x : List Nat} (h : Pj fr w v) (g : Pj fr v x) : Pj fr w x := fun a b k => (h a b k).trans (g a b k)
theorem Pj.cancel {c : Nat} {w v : List Nat} (h : Pj fr (c :: w) (c :: v)) : Pj fr w v := fun a b g => by
  have := h a b g
  rw [proj_cons, proj_cons a b c v] at this
  exact List.append_cancel_left this
/-- the first letter of a word stands in each that is alike, behind letters that it is free with -/
theorem Pj.first (hF : Fr fr) {c : Nat} {w v : List Nat} (h : Pj fr w (c :: v)) : ∃ u z, w = u ++ c :: z ∧ ∀ x ∈ u, fr c x = true := by
  have hc : c ∈ w := by
    have := h c c (hF.irr c)
    have hx : c ∈ proj c c (c :: v) := mem_proj.mpr ⟨List.mem_cons_self, .inl rfl⟩
    rw [← this] at hx
    exact (mem_proj.mp hx).1
  obtain ⟨u, z, e, hu⟩ : ∃ u z, w = u ++ c :: z ∧ c ∉ u := by
    clear h
    induction w with
    | nil => exact absurd hc List.not_mem_nil
    | cons x w ih =>
      by_cases e : x = c
      · exact ⟨[], w, by rw [e]; rfl, List.not_mem_nil⟩
      · obtain ⟨u, z, e2, hu⟩ := ih ((List.mem_cons.mp hc).resolve_left fun z => e z.symm)
        exact ⟨x :: u, z, by rw [e2]; rfl, fun hm => by
          rcases List.mem_cons.mp hm with hm | hm
          · exact e hm.symm
          · exact hu hm⟩
  refine ⟨u, z, e, fun x hx => ?_⟩
  refine Classical.byContradiction fun hn => ?_
  have hf : fr c x = false := by simpa using hn
  have h1 := h c x hf
  subst e
  rw [proj_app, proj_cons c x c v] at h1
  have hxp : x ∈ proj c x u := mem_proj.mpr ⟨hx, .inr rfl⟩
  have hcv : proj c x [c] = [c] := by simp [proj]
  rw [hcv] at h1
  cases hq : proj c x u with
  | nil => rw [hq] at hxp; exact absurd hxp List.not_mem_nil
  | cons y q =>
    rw [hq] at h1
    have hy : y = c := by injection h1
    have : y ∈ proj c x u := by rw [hq]; exact List.mem_cons_self
    exact hu (hy ▸ (mem_proj.mp this).1)
theorem Pj.al (hF : Fr fr) : ∀ {v w : List Nat}, Pj fr w v → Al fr w v
  | [], w, h => by rw [h.nil hF]; exact .refl _
  | c :: v, w, h => by
    obtain ⟨u, z, rfl, hu⟩ := h.first hF
    have h1 := Al.front hF z u hu
    have h2 : Pj fr (u ++ z) v := ((h1.proj hF).symm.trans h).cancel
    exact h1.trans ((Pj.al hF h2).cons c)
theorem al_iff (hF : Fr fr) {w v : List Nat} : Al fr w v ↔ Pj fr w v := ⟨fun h => h.proj hF, fun h => h.al hF⟩
theorem Pj.refl {w : List Nat} : Pj fr w w := fun _ _ _ => rfl
theorem Al.perm {w v : List Nat} (h : Al fr w v) : v.Perm w := by
  induction h with
  | refl => exact .refl _
  | @step u z a b _ _ ih => exact ((List.Perm.swap a b z).append_left u).trans ih
end
/-! ### levels -/
def blk (fr : Nat → Nat → Bool) (a : Nat) (l : List Nat) : Bool := l.any fun x => !fr a x
def plc (fr : Nat → Nat → Bool) (F : Nat → List Nat) (a : Nat) : Nat → Nat
  | 0 => 0
  | n + 1 => if blk fr a (F n) = true then n + 1 else plc fr F a n
def upF (F : Nat → List Nat) (p a : Nat) : Nat → List Nat := fun k => if k = p then F k ++ [a] else F k
/-- the levels and how many they are -/
def lst_ (fr : Nat → Nat → Bool) (s : (Nat → List Nat) × Nat) (a : Nat) : (Nat → List Nat) × Nat := (upF s.1 (plc fr s.1 a s.2) a, max s.2 (plc fr s.1 a s.2 + 1))
def lvls (fr : Nat → Nat → Bool) (w : List Nat) : (Nat → List Nat) × Nat := w.foldl (lst_ fr) (fun _ => [], 0)
section
variable {fr : Nat → Nat → Bool}
theorem plc_le (F : Nat → List Nat) (a : Nat) : ∀ n, plc fr F a n ≤ n
  | 0 => Nat.le_refl _
  | n + 1 => by
    unfold plc
    split
    · exact Nat.le_refl _
    · exact Nat.le_succ_of_le (plc_le F a n)
theorem plc_out (F : Nat → List Nat) (a : Nat) : ∀ n k, plc fr F a n ≤ k → k < n → blk fr a (F k) = false
  | 0, k, _, h => absurd h (Nat.not_lt_zero _)
  | n + 1, k, h1, h2 => by
    unfold plc at h1
    split at h1
    · omega
    · rename_i hb
      by_cases e : k = n
      · subst e; simpa using hb
      · exact plc_out F a n k h1 (by omega)
theorem plc_more (F : Nat → List Nat) (a : Nat) {n : Nat} (h : ∀ k, n ≤ k → blk fr a (F k) = false) : ∀ d, plc fr F a (n + d) = plc fr F a n
  | 0 => rfl
  | d + 1 => by
    show (if blk fr a (F (n + d)) = true then _ else plc fr F a (n + d)) = _
    rw [h (n + d) (by omega), if_neg Bool.false_ne_true, plc_more F a h d]
theorem plc_congr {F G : Nat → List Nat} {a : Nat} (h : ∀ k, blk fr a (F k) = blk fr a (G k)) : ∀ n, plc fr F a n = plc fr G a n
  | 0 => rfl
  | n + 1 => by unfold plc; rw [h, plc_congr h n]
/-- levels behind the last one are empty -/
def Emp (s : (Nat → List Nat) × Nat) : Prop := ∀ k, s.2 ≤ k → s.1 k = []
theorem Emp.next {s : (Nat → List Nat) × Nat} (h : Emp s) (a : Nat) : Emp (lst_ fr s a) := fun k hk => by
  have hk : max s.2 (plc fr s.1 a s.2 + 1) ≤ k := hk
  show upF s.1 (plc fr s.1 a s.2) a k = []
  unfold upF
  rw [if_neg (by omega)]
  exact h k (by omega)
theorem fold_emp (w : List Nat) : ∀ s, Emp s → Emp (w.foldl (lst_ fr) s) := by
  induction w with
  | nil => exact fun s h => h
  | cons a w ih => exact fun s h => ih _ (h.next a)
theorem lvls_emp (w : List Nat) : Emp (lvls fr w) := fold_emp w _ fun _ _ => rfl
theorem lvls_snoc (w : List Nat) (a : Nat) : lvls fr (w ++ [a]) = lst_ fr (lvls fr w) a := by unfold lvls; rw [List.foldl_append]; rfl
/-- the same levels, but for the order in each -/
def Lp (s t : (Nat → List Nat) × Nat) : Prop := s.2 = t.2 ∧ ∀ k, (s.1 k).Perm (t.1 k)
theorem blk_perm {a : Nat} {l m : List Nat} (h : l.Perm m) : blk fr a l = blk fr a m := h.any_eq
theorem Lp.next {s t : (Nat → List Nat) × Nat} (h : Lp s t) (a : Nat) : Lp (lst_ fr s a) (lst_ fr t a) := by
  have e : plc fr s.1 a s.2 = plc fr t.1 a t.2 := by rw [h.1]; exact plc_congr (fun k => blk_perm (h.2 k)) _
  have e1 : max s.2 (plc fr s.1 a s.2 + 1) = max t.2 (plc fr t.1 a t.2 + 1) := by rw [e, h.1]
  refine ⟨e1, fun k => ?_⟩
  show (upF s.1 (plc fr s.1 a s.2) a k).Perm (upF t.1 (plc fr t.1 a t.2) a k)
  rw [e]
  unfold upF
  split
  · exact (h.2 k).append_right _
  · exact h.2 k
theorem Lp.fold (w : List Nat) : ∀ {s t}, Lp s t → Lp (w.foldl (lst_ fr) s) (w.foldl (lst_ fr) t) := by
  induction w with
  | nil => exact fun h => h
  | cons a w ih => exact fun h => ih (h.next a)
theorem blk_up {F : Nat → List Nat} {p a b : Nat} (h : fr b a = true) (k : Nat) : blk fr b (upF F p a k) = blk fr b (F k) := by
  unfold upF
  split
  · unfold blk
    rw [List.any_append]
    simp [h]
  · rfl
theorem plc_next {s : (Nat → List Nat) × Nat} (hs : Emp s) {a b : Nat} (h : fr b a = true) : plc fr (lst_ fr s a).1 b (lst_ fr s a).2 = plc fr s.1 b s.2 := by
  show plc fr (upF s.1 (plc fr s.1 a s.2) a) b (max s.2 (plc fr s.1 a s.2 + 1)) = _
  rw [plc_congr (G := s.1) (fun k => blk_up h k)]
  obtain ⟨d, hd⟩ : ∃ d, max s.2 (plc fr s.1 a s.2 + 1) = s.2 + d := ⟨max s.2 (plc fr s.1 a s.2 + 1) - s.2, by omega⟩
  rw [hd]
  exact plc_more _ _ (fun k hk => by rw [hs k hk]; rfl) d
theorem Lp.comm (hF : Fr fr) {s : (Nat → List Nat) × Nat} (hs : Emp s) {a b : Nat} (h : fr a b = true) : Lp (lst_ fr (lst_ fr s a) b) (lst_ fr (lst_ fr s b) a) := by
  have e1 := plc_next (fr := fr) hs (a := a) (b := b) ((hF.sym b a).trans h)
  have e2 := plc_next (fr := fr) hs (a := b) (b := a) h
  constructor
  · show max (max s.2 (plc fr s.1 a s.2 + 1)) (plc fr (lst_ fr s a).1 b (lst_ fr s a).2 + 1) = max (max s.2 (plc fr s.1 b s.2 + 1)) (plc fr (lst_ fr s b).1 a (lst_ fr s b).2 + 1)
    rw [e1, e2]
    omega
  · intro k
    show (upF (upF s.1 (plc fr s.1 a s.2) a) (plc fr (lst_ fr s a).1 b (lst_ fr s a).2) b k).Perm (upF (upF s.1 (plc fr s.1 b s.2) b) (plc fr (lst_ fr s b).1 a (lst_ fr s b).2) a k)
    rw [e1, e2]
    unfold upF
    by_cases h1 : k = plc fr s.1 a s.2 <;> by_cases h2 : k = plc fr s.1 b s.2
    · rw [if_pos h1, if_pos h2, if_pos h1, if_pos h2, List.append_assoc, List.append_assoc]
      exact (List.Perm.swap b a []).append_left _
    · simp only [if_pos h1, if_neg h2]; exact .refl _
    · simp only [if_pos h2, if_neg h1]; exact .refl _
    · simp only [if_neg h1, if_neg h2]; exact .refl _
theorem Lp.refl {s : (Nat → List Nat) × Nat} : Lp s s := ⟨rfl, fun _ => .refl _⟩
theorem Lp.trans {s t u : (Nat → List Nat) × Nat} (h : Lp s t) (g : Lp t u) : Lp s u := ⟨h.1.trans g.1, fun k => (h.2 k).trans (g.2 k)⟩
theorem Al.lvls (hF : Fr fr) {w v : List Nat} (h : Al fr w v) : Lp (lvls fr w) (lvls fr v) := by
  induction h with
  | refl => exact .refl
  | @step u z a b _ hf ih =>
    refine ih.trans ?_
    unfold Q.lvls
    rw [List.foldl_append, List.foldl_append]
    exact Lp.fold z (Lp.comm hF (fold_emp u _ fun _ _ => rfl) hf)
/-- no level has two letters that may not change places -/
def One (fr : Nat → Nat → Bool) (s : (Nat → List Nat) × Nat) : Prop := ∀ k a b, fr a b = false → (proj a b (s.1 k)).length ≤ 1
theorem blk_proj (hF : Fr fr) {a b c : Nat} {l : List Nat} (h : blk fr c l = false) (hab : fr a b = false) (hc : c = a ∨ c = b) : proj a b l = [] := by
  unfold blk at h
  rw [List.any_eq_false] at h
  unfold proj
  rw [List.filter_eq_nil_iff]
  intro x hx z
  have hcx : fr c x = true := by simpa using h x hx
  have hx2 : x = a ∨ x = b := by simpa using z
  rcases hc with rfl | rfl <;> rcases hx2 with rfl | rfl
  · rw [hF.irr] at hcx; cases hcx
  · rw [hab] at hcx; cases hcx
  · rw [hF.sym, hab] at hcx; cases hcx
  · rw [hF.irr] at hcx; cases hcx
theorem proj_one {a b c : Nat} (hc : c = a ∨ c = b) : proj a b [c] = [c] := by
  unfold proj
  rcases hc with rfl | rfl <;> simp
theorem proj_none {a b c : Nat} (hc : ¬ (c = a ∨ c = b)) : proj a b [c] = [] := by
  have : (decide (c = a) || decide (c = b)) = false := by simpa using hc
  unfold proj
  simp [List.filter_cons, this]
theorem lst_at (s : (Nat → List Nat) × Nat) (hs : Emp s) (c : Nat) : blk fr c (s.1 (plc fr s.1 c s.2)) = false := by
  by_cases h : plc fr s.1 c s.2 < s.2
  · exact plc_out s.1 c s.2 _ (Nat.le_refl _) h
  · rw [hs _ (by omega)]; rfl
theorem One.next (hF : Fr fr) {s : (Nat → List Nat) × Nat} (hs : Emp s) (h : One fr s) (c : Nat) : One fr (lst_ fr s c) := fun k a b hab => by
  show (proj a b (upF s.1 (plc fr s.1 c s.2) c k)).length ≤ 1
  unfold upF
  split
  · rename_i e
    rw [proj_app, List.length_append]
    by_cases hc : c = a ∨ c = b
    · rw [e, blk_proj hF (lst_at s hs c) hab hc, proj_one hc]; simp
    · rw [proj_none hc]
      have := h k a b hab
      simpa using this
  · exact h k a b hab
theorem lvls_one (hF : Fr fr) (w : List Nat) : One fr (lvls fr w) := by
  have key : ∀ (w : List Nat) s, Emp s → One fr s → One fr (w.foldl (lst_ fr) s) := by
    intro w
    induction w with
    | nil => exact fun s _ h => h
    | cons a w ih => exact fun s hs h => ih _ (hs.next a) (h.next hF hs a)
  exact key w _ (fun _ _ => rfl) fun k a b _ => by show (proj a b []).length ≤ 1; simp [proj]
/-- the letters of all levels, one behind the other -/
def flt (F : Nat → List Nat) (n : Nat) : List Nat := (List.range n).flatMap F
theorem proj_flt (a b : Nat) (F : Nat → List Nat) (n : Nat) : proj a b (flt F n) = (List.range n).flatMap fun k => proj a b (F k) := by
  unfold flt proj
  rw [List.filter_flatMap]
theorem flt_more {F : Nat → List Nat} {n : Nat} (h : ∀ k, n ≤ k → F k = []) : ∀ d, flt F (n + d) = flt F n
  | 0 => rfl
  | d + 1 => by
    show flt F (n + d + 1) = _
    have e : flt F (n + d + 1) = flt F (n + d) ++ F (n + d) := by
      unfold flt
      rw [List.range_succ, List.flatMap_append]; simp
    rw [e, h (n + d) (by omega), List.append_nil, flt_more h d]
theorem flat_split {α : Type} (g g' : Nat → List α) (p n : Nat) (hp : p < n) (h : ∀ k, k ≠ p → g k = g' k) (he : ∀ k, p < k → g k = []) (x : List α) (hx : g' p = g p ++ x) : (List.range n).flatMap g' = (List.range n).flatMap g ++ x := by
  obtain ⟨d, rfl⟩ : ∃ d, n = p + 1 + d := ⟨n - (p + 1), by omega⟩
  have hz : ∀ d, (List.range (p + 1 + d)).flatMap g = (List.range (p + 1)).flatMap g := by
    intro d
    induction d with
    | zero => rfl
    | succ d ih =>
      show (List.range (p + 1 + d + 1)).flatMap g = _
      rw [List.range_succ, List.flatMap_append, ih]
      simp [he (p + 1 + d) (by omega)]
  have hz' : ∀ d, (List.range (p + 1 + d)).flatMap g' = (List.range (p + 1)).flatMap g' := by
    intro d
    induction d with
    | zero => rfl
    | succ d ih =>
      show (List.range (p + 1 + d + 1)).flatMap g' = _
      rw [List.range_succ, List.flatMap_append, ih]
      simp [← h (p + 1 + d) (by omega), he (p + 1 + d) (by omega)]
  rw [hz, hz', List.range_succ, List.flatMap_append, List.flatMap_append]
  have e1 : (List.range p).flatMap g' = (List.range p).flatMap g := by
    rw [List.flatMap_def, List.flatMap_def]
    congr 1
    exact List.map_congr_left fun k hk => (h k (by have := List.mem_range.mp hk; omega)).symm
  rw [e1]
  simp [hx]
/-- the levels tell the word, but for what may change places -/
theorem flt_pj (hF : Fr fr) (w : List Nat) : Pj fr (flt (lvls fr w).1 (lvls fr w).2) w := by
  induction w using snoc_ind with
  | nil => exact fun a b _ => rfl
  | snoc w c ih =>
    intro a b hab
    have hE := lvls_emp (fr := fr) w
    rw [lvls_snoc, proj_app, ← ih a b hab]
    generalize hs : lvls fr w = s at hE ⊢
    show proj a b (flt (upF s.1 (plc fr s.1 c s.2) c) (max s.2 (plc fr s.1 c s.2 + 1))) = _
    have em : flt s.1 (max s.2 (plc fr s.1 c s.2 + 1)) = flt s.1 s.2 := by
      obtain ⟨d, hd⟩ : ∃ d, max s.2 (plc fr s.1 c s.2 + 1) = s.2 + d := ⟨max s.2 (plc fr s.1 c s.2 + 1) - s.2, by omega⟩
      rw [hd]; exact flt_more hE d
    rw [← em, proj_flt, proj_flt]
    by_cases hc : c = a ∨ c = b
    · rw [proj_one hc]
      refine flat_split (fun k => proj a b (s.1 k)) (fun k => proj a b (upF s.1 (plc fr s.1 c s.2) c k)) (plc fr s.1 c s.2) _ (by omega) (fun k hk => by unfold upF; rw [if_neg hk]) (fun k hk => ?_) [c] ?_
      · by_cases h : k < s.2
        · exact blk_proj hF (plc_out s.1 c s.2 k (by omega) h) hab hc
        · rw [hE k (by omega)]; rfl
      · show proj a b (upF s.1 _ c _) = _
        unfold upF
        rw [if_pos rfl, proj_app, proj_one hc]
    · rw [proj_none hc, List.append_nil, List.flatMap_def, List.flatMap_def]
      congr 1
      refine List.map_congr_left fun k _ => ?_
      unfold upF
      split
      · rw [proj_app, proj_none hc, List.append_nil]
      · rfl
/-- also when each level is put in another order -/
theorem Lp.pj (hF : Fr fr) {s t : (Nat → List Nat) × Nat} (h : Lp s t) (h1 : One fr s) : Pj fr (flt s.1 s.2) (flt t.1 t.2) := fun a b hab => by
  rw [proj_flt, proj_flt, h.1, List.flatMap_def, List.flatMap_def]
  congr 1
  refine List.map_congr_left fun k _ => ?_
  have hp : (proj a b (s.1 k)).Perm (proj a b (t.1 k)) := (h.2 k).filter _
  have hl := h1 k a b hab
  cases q : proj a b (s.1 k) with
  | nil => rw [q] at hp; exact hp.symm.eq_nil.symm
  | cons x r =>
    rw [q] at hp hl
    have hr : r = [] := List.eq_nil_of_length_eq_zero (by rw [List.length_cons] at hl; omega)
    subst hr
    exact (List.perm_singleton.mp hp.symm).symm
/-- levels are the same just if the words are alike -/
theorem lvls_iff (hF : Fr fr) {w v : List Nat} : Lp (lvls fr w) (lvls fr v) ↔ Pj fr w v :=
  ⟨fun h => (flt_pj hF w).symm.trans ((h.pj hF (lvls_one hF w)).trans (flt_pj hF v)), fun h => (h.al hF).lvls hF⟩
end
end Q
namespace Q
open PySem PySem.Spec PyProof.Rows L2
abbrev p2 : Nat × Nat → Pv := P2 nI nI
abbrev Ev_ (E : List (Nat × Nat)) : Pv := Tm p2 E
def frE (E : List (Nat × Nat)) (a b : Nat) : Bool := decide ((a, b) ∈ E) || decide ((b, a) ∈ E)
structure Fe (E : List (Nat × Nat)) : Prop where
  lt : ∀ p ∈ E, p.1 < p.2
  sm : E.length ≤ 100
section
variable {E : List (Nat × Nat)}
theorem Fe.fr (h : Fe E) : Fr (frE E) := ⟨fun a b => Bool.or_comm .., fun a => by
  have : (a, a) ∉ E := fun z => Nat.lt_irrefl _ (h.lt _ z)
  unfold frE
  simp [this]⟩
theorem in_p2 (x : Nat × Nat) (l : List (Nat × Nat)) : pIn (p2 x) (Ev_ l) = some (.bl (decide (x ∈ l))) :=
  (ec_pInT (f := p2) (by decide) x l).trans (congrArg (fun b => some (Pv.bl b)) (decide_eq_decide.mpr Iff.rfl))
theorem lfree_of (a b : Nat) : m__law_is_free [Ev_ E, nI a, nI b] = some (.bl (frE E a b)) := by
  refine Wp.eq ?_
  show Wp (b__law_is_free (Ev_ E) (nI a) (nI b) >>= fin) _
  unfold b__law_is_free orV
  have l2 : ∀ a b : Pv, pLim Pv.tup [a, b] = some (.tup [a, b]) := fun _ _ => rfl
  have e1 : pIn (.tup [nI a, nI b]) (Ev_ E) = some (.bl (decide ((a, b) ∈ E))) := in_p2 (a, b) E
  have e2 : pIn (.tup [nI b, nI a]) (Ev_ E) = some (.bl (decide ((b, a) ∈ E))) := in_p2 (b, a) E
  simp only [parM, parM3, bD, b1, b2, b3, bL, consM, iteM, tAndM, tOrM, pure_bind, bind_assoc, lift_opt, Option.bind_eq_bind, Option.pure_def, Option.bind_some, Option.bind_assoc, Option.map_some, lift_M_some, asB_bl, asI_int, at_nx, at_rt, at_bk, at_ct, outS_nx, fin_rt, fin_nx, pCmp_int, pCmpD_int, pMulA_int, pTru_bl, decide_eq_true_eq, Bool.not_eq_true', decide_eq_false_iff_not, l2, e1, e2]
  unfold frE
  by_cases h : (a, b) ∈ E
  · rw [decide_eq_true h, if_pos h]; exact Wp.some rfl
  · rw [decide_eq_false h, if_neg h, Bool.false_or]; exact Wp.some rfl
theorem pfree_of (h : Fe E) (a b : Nat) : m__are_free [nI a, nI b, Ev_ E] = some (.bl (frE E a b)) := by
  refine Wp.eq ?_
  show Wp (b__are_free (nI a) (nI b) (Ev_ E) >>= fin) _
  unfold b__are_free andV
  have l2 : ∀ a b : Pv, pLim Pv.tup [a, b] = some (.tup [a, b]) := fun _ _ => rfl
  have e1 : pMin2 [nI a, nI b] = some (nI (min a b)) := by
    show some (Pv.int (if (b : Int) < a then (b : Int) else a)) = some (Pv.int ((min a b : Nat) : Int))
    congr 2
    split <;> omega
  have e2 : pMax2 [nI a, nI b] = some (nI (max a b)) := by
    show some (Pv.int (if (b : Int) > a then (b : Int) else a)) = some (Pv.int ((max a b : Nat) : Int))
    congr 2
    split <;> omega
  have e3 : pIn (.tup [nI (min a b), nI (max a b)]) (Ev_ E) = some (.bl (decide ((min a b, max a b) ∈ E))) := in_p2 (min a b, max a b) E
  simp only [parM, parM3, bD, b1, b2, b3, bL, consM, iteM, tAndM, tOrM, pure_bind, bind_assoc, lift_opt, Option.bind_eq_bind, Option.pure_def, Option.bind_some, Option.bind_assoc, Option.map_some, lift_M_some, asB_bl, asI_int, at_nx, at_rt, at_bk, at_ct, outS_nx, fin_rt, fin_nx, pCmp_int, pCmpD_int, pMulA_int, pTru_bl, decide_eq_true_eq, Bool.not_eq_true', decide_eq_false_iff_not, l2, e1, e2, e3, ec_pNe (f := nI) (show 0 ≤ 60 by decide)]
  have key : (if decide ((min a b, max a b) ∈ E) = true then !decide (a = b) else false) = frE E a b := by
    unfold frE
    by_cases e : a = b
    · subst e
      have : (a, a) ∉ E := fun z => Nat.lt_irrefl _ (h.lt _ z)
      simp [this]
    · rcases Nat.lt_or_gt_of_ne e with g | g
      · have hx : (b, a) ∉ E := fun z => by have := h.lt _ z; simp at this; omega
        rw [Nat.min_eq_left (by omega), Nat.max_eq_right (by omega)]
        simp [hx, e]
      · have hx : (a, b) ∉ E := fun z => by have := h.lt _ z; simp at this; omega
        rw [Nat.min_eq_right (by omega), Nat.max_eq_left (by omega)]
        simp [hx, e]
  rw [← key]
  by_cases hm : (min a b, max a b) ∈ E
  · rw [decide_eq_true hm, if_pos hm, if_pos rfl]; exact Wp.some rfl
  · rw [decide_eq_false hm, if_neg hm, if_neg Bool.false_ne_true]; exact Wp.some rfl
end
end Q
namespace Q
open PySem PySem.Spec PyProof.Rows L2
def sw (w : List Nat) (k : Nat) : List Nat := w.take k ++ [gN w (k + 1), gN w k] ++ w.drop (k + 2)
theorem sp {w : List Nat} {k : Nat} (h : k + 1 < w.length) : w.take k ++ gN w k :: gN w (k + 1) :: w.drop (k + 2) = w := by
  have e1 : w.drop k = gN w k :: gN w (k + 1) :: w.drop (k + 2) := by
    rw [List.drop_eq_getElem_cons (show k < w.length by omega), List.drop_eq_getElem_cons (show k + 1 < w.length by omega), gN_get (show k < w.length by omega), gN_get h]
  rw [← e1, List.take_append_drop]
section
variable {E : List (Nat × Nat)}
theorem sw_al {w : List Nat} {k : Nat} (h : k + 1 < w.length) (hf : frE E (gN w k) (gN w (k + 1)) = true) {o : List Nat} (ho : Al (frE E) o w) : Al (frE E) o (sw w k) := by
  have h1 : Al (frE E) o (w.take k ++ gN w k :: gN w (k + 1) :: w.drop (k + 2)) := by rw [sp h]; exact ho
  have := h1.step hf
  unfold sw
  rw [List.append_assoc]
  exact this
theorem sw_mid (u z : List Nat) (a b : Nat) : sw (u ++ a :: b :: z) u.length = u ++ b :: a :: z := by
  have e1 : gN (u ++ a :: b :: z) u.length = a := by
    unfold gN; rw [List.getD_eq_getElem?_getD, List.getElem?_append_right (Nat.le_refl _), Nat.sub_self]; rfl
  have e2 : gN (u ++ a :: b :: z) (u.length + 1) = b := by
    unfold gN; rw [List.getD_eq_getElem?_getD, List.getElem?_append_right (by omega), show u.length + 1 - u.length = 1 by omega]; rfl
  have e3 : (u ++ a :: b :: z).drop (u.length + 2) = z := by
    rw [List.drop_append, List.drop_eq_nil_of_le (by omega), show u.length + 2 - u.length = 2 by omega]; rfl
  have e4 : (u ++ a :: b :: z).take u.length = u := List.take_left
  unfold sw
  rw [e1, e2, e3, e4, List.append_assoc]
  rfl
def addL (E : List (Nat × Nat)) (o : List Nat) (R : List (List Nat)) (k : Nat) : List (List Nat) := if frE E (gN o k) (gN o (k + 1)) = true ∧ sw o k ∉ R then R ++ [sw o k] else R
theorem addL_pre (o : List Nat) (R : List (List Nat)) (k : Nat) : R <+: addL E o R k := by
  unfold addL
  split
  · exact List.prefix_append _ _
  · exact List.prefix_refl _
theorem foldL_pre (o : List Nat) (l : List Nat) : ∀ R, R <+: l.foldl (addL E o) R := by
  induction l with
  | nil => exact fun R => List.prefix_refl _
  | cons a l ih => exact fun R => (addL_pre o R a).trans (ih _)
theorem foldL_mem (o : List Nat) (l : List Nat) : ∀ R, ∀ k ∈ l, frE E (gN o k) (gN o (k + 1)) = true → sw o k ∈ l.foldl (addL E o) R := by
  induction l with
  | nil => exact fun _ _ h => absurd h List.not_mem_nil
  | cons b l ih =>
    intro R a ha hf
    rcases List.mem_cons.mp ha with rfl | ha
    · have h1 : sw o a ∈ addL E o R a := by
        unfold addL
        by_cases hm : sw o a ∈ R
        · rw [if_neg fun z => z.2 hm]; exact hm
        · rw [if_pos ⟨hf, hm⟩]; simp
      exact (foldL_pre o l (addL E o R a)).subset h1
    · exact ih _ a ha hf
structure Lk (E : List (Nat × Nat)) (w : List Nat) (R : List (List Nat)) : Prop where
  nd : R.Nodup
  al : ∀ v ∈ R, Al (frE E) w v
  wm : w ∈ R
theorem Lk.add {w : List Nat} {R : List (List Nat)} (h : Lk E w R) {o : List Nat} (ho : Al (frE E) w o) {k : Nat} (hk : k + 1 < o.length) : Lk E w (addL E o R k) := by
  unfold addL
  split
  · rename_i hc
    refine ⟨List.nodup_append.mpr ⟨h.nd, by simp, fun x hx y hy e => hc.2 (by rw [List.mem_singleton] at hy; rw [← hy, ← e]; exact hx)⟩, fun v hv => ?_, List.mem_append_left _ h.wm⟩
    rcases List.mem_append.mp hv with hv | hv
    · exact h.al v hv
    · rw [List.mem_singleton.mp hv]; exact sw_al hk hc.1 ho
  · exact h
theorem Lk.fold {w : List Nat} {o : List Nat} (ho : Al (frE E) w o) (l : List Nat) (hl : ∀ k ∈ l, k + 1 < o.length) : ∀ R, Lk E w R → Lk E w (l.foldl (addL E o) R) := by
  induction l with
  | nil => exact fun R g => g
  | cons a l ih => exact fun R g => ih (fun b hb => hl b (List.mem_cons_of_mem _ hb)) _ (g.add ho (hl a List.mem_cons_self))
theorem lots_all {w : List Nat} {R : List (List Nat)} (h : Lk E w R) (hc : ∀ o ∈ R, ∀ k, k + 1 < o.length → frE E (gN o k) (gN o (k + 1)) = true → sw o k ∈ R) {v : List Nat} (hv : Al (frE E) w v) : v ∈ R := by
  induction hv with
  | refl => exact h.wm
  | @step u z a b _ hf ih =>
    have hk : u.length + 1 < (u ++ a :: b :: z).length := by simp
    have e1 : gN (u ++ a :: b :: z) u.length = a := by
      unfold gN; rw [List.getD_eq_getElem?_getD, List.getElem?_append_right (Nat.le_refl _), Nat.sub_self]; rfl
    have e2 : gN (u ++ a :: b :: z) (u.length + 1) = b := by
      unfold gN; rw [List.getD_eq_getElem?_getD, List.getElem?_append_right (by omega), show u.length + 1 - u.length = 1 by omega]; rfl
    have := hc _ ih u.length hk (by rw [e1, e2]; exact hf)
    rwa [sw_mid] at this
/-! how many -/
def cdw : List Nat → Nat
  | [] => 0
  | x :: w => x + 4 * cdw w
theorem cdw_lt : ∀ w : List Nat, (∀ x ∈ w, x < 4) → cdw w < 4 ^ w.length
  | [], _ => Nat.one_pos
  | x :: w, h => by
    have h1 := cdw_lt w fun y hy => h y (List.mem_cons_of_mem _ hy)
    have h2 := h x List.mem_cons_self
    show x + 4 * cdw w < 4 ^ (w.length + 1)
    rw [Nat.pow_succ]
    omega
theorem cdw_inj : ∀ v w : List Nat, v.length = w.length → (∀ x ∈ v, x < 4) → (∀ x ∈ w, x < 4) → cdw v = cdw w → v = w
  | [], [], _, _, _, _ => rfl
  | [], _ :: _, h, _, _, _ => by cases h
  | _ :: _, [], h, _, _, _ => by cases h
  | x :: v, y :: w, h, hv, hw, e => by
    have h2 := hv x List.mem_cons_self
    have h3 := hw y List.mem_cons_self
    have e : x + 4 * cdw v = y + 4 * cdw w := e
    have e1 : x = y := by omega
    have e2 : cdw v = cdw w := by omega
    rw [e1, cdw_inj v w (by simpa using h) (fun z hz => hv z (List.mem_cons_of_mem _ hz)) (fun z hz => hw z (List.mem_cons_of_mem _ hz)) e2]
theorem Lk.len {w : List Nat} {R : List (List Nat)} (h : Lk E w R) (hw : ∀ x ∈ w, x < 4) (hl : w.length ≤ 7) : R.length ≤ 16384 := by
  have hp : ∀ v ∈ R, v.length = w.length ∧ ∀ x ∈ v, x < 4 := fun v hv => by
    have := (h.al v hv).perm
    exact ⟨this.length_eq, fun x hx => hw x (this.mem_iff.mp hx)⟩
  have hc : (R.map cdw).Nodup := by
    refine List.pairwise_map.mpr (h.nd.imp_of_mem fun {a b} ha hb hne e => hne ?_)
    exact cdw_inj a b ((hp a ha).1.trans (hp b hb).1.symm) (hp a ha).2 (hp b hb).2 e
  have := nodup_le _ (List.range 16384) hc fun x hx => by
    obtain ⟨v, hv, rfl⟩ := List.mem_map.mp hx
    have h1 := cdw_lt v (hp v hv).2
    rw [(hp v hv).1] at h1
    have h2 : 4 ^ w.length ≤ 4 ^ 7 := Nat.pow_le_pow_right (by decide) hl
    exact List.mem_range.mpr (by omega)
  rwa [List.length_map, List.length_range] at this
theorem notIn_Nt (x : List Nat) (l : List (List Nat)) [Decidable (x ∈ l)] : pNotIn (Nt x) (.lst (l.map Nt)) = some (.bl (!decide (x ∈ l))) :=
  (ec_pNotIn (f := Nt) (by decide) x l).trans (congrArg (fun b => some (Pv.bl (!b))) (decide_eq_decide.mpr Iff.rfl))
theorem lots_of {w : List Nat} (hw : ∀ x ∈ w, x < 4) (hl : w.length ≤ 7) : ∃ R, m__law_lots [Nt w, Ev_ E] = some (.lst (R.map Nt)) ∧ Lk E w R ∧ R.length ≤ 16384 ∧ ∀ v, Al (frE E) w v → v ∈ R := by
  suffices Wp (m__law_lots [Nt w, Ev_ E]) fun r => ∃ R, r = .lst (R.map Nt) ∧ Lk E w R ∧ R.length ≤ 16384 ∧ ∀ v, Al (frE E) w v → v ∈ R by
    obtain ⟨_, e, R, rfl, q⟩ := this
    exact ⟨R, e, q⟩
  show Wp (b__law_lots (Nt w) (Ev_ E) >>= fin) _
  unfold b__law_lots
  have l1 : ∀ a : Pv, pLim (fun x => x) [a] = some [a] := fun _ => rfl
  have l2 : ∀ a b : Pv, pLim Pv.tup [a, b] = some (.tup [a, b]) := fun _ _ => rfl
  simp only [parM, parM3, bD, b1, b2, b3, bL, consM, iteM, tAndM, tOrM, pure_bind, bind_assoc, lift_opt, Option.bind_eq_bind, Option.pure_def, Option.bind_some, Option.bind_assoc, Option.map_some, lift_M_some, asB_bl, asI_int, at_nx, at_rt, at_bk, at_ct, outS_nx, fin_rt, fin_nx, pCmp_int, pCmpD_int, pMulA_int, pTru_bl, decide_eq_true_eq, Bool.not_eq_true', decide_eq_false_iff_not, l1, l2, pLen_lst]
  refine Wp.obind (Wp.whS (fun m s => ∃ (j : Nat) (R : List (List Nat)), s = (R.map Nt, nI j) ∧ m + j = 16384 ∧ j ≤ R.length ∧ Lk E w R ∧ ∀ i o, i < j → R[i]? = some o → ∀ k, k + 1 < o.length → frE E (gN o k) (gN o (k + 1)) = true → sw o k ∈ R)
    (fun s => ∃ (R : List (List Nat)) (i : Pv), s = (R.map Nt, i) ∧ Lk E w R ∧ ∀ o ∈ R, ∀ k, k + 1 < o.length → frE E (gN o k) (gN o (k + 1)) = true → sw o k ∈ R) ?_ 100000 16384 _ ⟨0, [w], rfl, rfl, Nat.zero_le _, ⟨by simp, fun v hv => by rw [List.mem_singleton.mp hv]; exact .refl _, List.mem_singleton.mpr rfl⟩, fun i o hi => absurd hi (Nat.not_lt_zero _)⟩ (by decide)) ?_
  · rintro m _ ⟨j, R, rfl, hmj, hj, hk, hc⟩
    have hR := hk.len hw hl
    have lt : pCmpD fLt gLt (nI j) (.int (R.map Nt).length) = some (.bl (decide (j < R.length))) := by
      rw [nI_eq, pCmpD_int, List.length_map]
      show some (Pv.bl (decide _)) = _
      exact congrArg (fun b => some (Pv.bl b)) (decide_eq_decide.mpr (by omega))
    simp only [lt, Option.bind_some, asB_bl]
    refine Wp.some ⟨fun hb => ?_, fun hb => ?_⟩
    · have hb := of_decide_eq_false hb
      refine ⟨R, _, rfl, hk, fun o ho k => ?_⟩
      obtain ⟨i, hi⟩ := List.mem_iff_getElem?.mp ho
      exact hc i o (by have := (List.getElem?_eq_some_iff.mp hi).1; omega) hi k
    · have hb := of_decide_eq_true hb
      have hs := List.getElem?_eq_getElem hb
      generalize R[j] = o at hs
      have hoa := hk.al o (List.mem_of_getElem? hs)
      have g0 : pIx (.lst (R.map Nt)) (nI j) = some (Nt o) := pIx_Lm hs
      have hol : o.length ≤ 7 := by rw [hoa.perm.length_eq]; exact hl
      have sb : pSub (.int (o.length : Int)) (.int 1) = some (.int ((o.length : Int) - 1)) := rfl
      have rg : pRange1 [.int ((o.length : Int) - 1)] = some ((List.range (o.length - 1)).map nI) := by
        rw [pRange1_int (by omega) (by omega)]
        unfold rangeP
        congr 1
        rw [show ((o.length : Int) - 1 - 0).toNat = o.length - 1 by omega]
        exact List.map_congr_left fun k _ => by show Pv.int (0 + (k : Int)) = Pv.int k; rw [Int.zero_add]
      simp only [g0, pLen_Tm, Option.bind_some, sb, rg]
      refine Wp.fs (f := nI) (st := fun i => (((List.range (o.length - 1)).take i).foldl (addL E o) R).map Nt) rfl (fun i k hik => ⟨_, rfl, ?_⟩) ?_
      · have hko := List.mem_range.mp (List.mem_of_getElem? hik)
        rw [get_take hik, List.foldl_append]
        have hk2 := Lk.fold hoa ((List.range (o.length - 1)).take i) (fun b hb => by have := List.mem_range.mp (List.mem_of_mem_take hb); omega) R hk
        have hl2 := hk2.len hw hl
        generalize ((List.range (o.length - 1)).take i).foldl (addL E o) R = S at hk2 hl2 ⊢
        have q1 : pIx (Nt o) (nI k) = some (nI (gN o k)) := pIx_Nt (by omega)
        have q2 : pIx (Nt o) (nI (k + 1)) = some (nI (gN o (k + 1))) := pIx_Nt (by omega)
        have a1 : pAdd (nI k) (.int 1) = some (nI (k + 1)) := rfl
        have a2 : pAdd (nI k) (.int 2) = some (nI (k + 2)) := rfl
        have i1 : asI (nI k) = some (some (k : Int)) := rfl
        have i2 : asI (nI (k + 2)) = some (some ((k + 2 : Nat) : Int)) := rfl
        have c1 : pSl (Nt o) none (some (k : Int)) = some (Nt (o.take k)) := by rw [pSl_Tm, cutA_to]
        have c2 : pSl (Nt o) (some ((k + 2 : Nat) : Int)) none = some (Nt (o.drop (k + 2))) := by rw [pSl_Tm, cutA_from]
        have c3 : pAdd (Nt (o.take k)) (.tup [nI (gN o (k + 1)), nI (gN o k)]) = some (Nt (o.take k ++ [gN o (k + 1), gN o k])) := pAdd_Tm (f := nI) (b := [gN o (k + 1), gN o k]) (by rw [List.length_take]; show _ + 2 ≤ (1000000 : Nat); omega)
        have c4 : pAdd (Nt (o.take k ++ [gN o (k + 1), gN o k])) (Nt (o.drop (k + 2))) = some (Nt (sw o k)) := pAdd_Tm (f := nI) (by rw [List.length_append, List.length_take, List.length_drop]; show _ + 2 + _ ≤ (1000000 : Nat); omega)
        have ni : pNotIn (Nt (sw o k)) (.lst (S.map Nt)) = some (.bl (!decide (sw o k ∈ S))) := notIn_Nt (sw o k) S
        simp only [i1, c1, a1, q1, q2, c3, a2, i2, c2, c4, lfree_of, Option.bind_some, pTru_bl, ni, asB_bl]
        show _ = some ((addL E o S k).map Nt)
        unfold addL
        by_cases hf : frE E (gN o k) (gN o (k + 1)) = true
        · rw [if_pos hf, Option.bind_some]
          by_cases hm : sw o k ∈ S
          · rw [decide_eq_true hm, if_neg (by decide), if_neg fun z => z.2 hm]; rfl
          · rw [decide_eq_false hm, if_pos (by decide), if_pos ⟨hf, hm⟩]
            have c5 : capP (S.map Nt) (Nt (sw o k)) = some (S.map Nt ++ [Nt (sw o k)]) := if_pos (by rw [List.length_map]; show _ < (1000000 : Nat); omega)
            rw [c5, List.map_append]
            rfl
        · rw [if_neg hf, Option.bind_some, if_neg (by decide), if_neg fun z => hf z.1]; rfl
      · rw [List.length_range, show (List.range (o.length - 1)).take (o.length - 1) = List.range (o.length - 1) by rw [List.take_of_length_le (by rw [List.length_range]; exact Nat.le_refl _)]]
        have hk2 := Lk.fold hoa (List.range (o.length - 1)) (fun b hb => by have := List.mem_range.mp hb; omega) R hk
        have hpre := foldL_pre (E := E) o (List.range (o.length - 1)) R
        have hmem := foldL_mem (E := E) o (List.range (o.length - 1)) R
        generalize (List.range (o.length - 1)).foldl (addL E o) R = S at hk2 hpre hmem ⊢
        have a1 : pAddI (nI j) (.int 1) = some (nI (j + 1)) := rfl
        rw [a1, Option.bind_some]
        have hpl := hpre.length_le
        refine Wp.some ⟨m - 1, by omega, j + 1, S, rfl, by omega, by omega, hk2, fun i o' hi ho' k hk' hf => ?_⟩
        have hR' : R[i]? = some o' := by
          obtain ⟨x, ex⟩ := hpre
          rwa [← ex, List.getElem?_append_left (by omega)] at ho'
        by_cases e : i = j
        · subst e
          rw [hs] at hR'
          cases hR'
          exact hmem k (List.mem_range.mpr (by omega)) hf
        · exact hpre.subset (hc i o' (by omega) hR' k hk' hf)
  · rintro _ ⟨R, i, rfl, hk, hc⟩
    exact Wp.some ⟨R, rfl, hk, hk.len hw hl, fun v hv => lots_all hk hc hv⟩
end
end Q
namespace Q
open PySem PySem.Spec PyProof.Rows L2
/-! ### draws -/
section
variable {A : Type} {un : Pv → Option A} {α : Type}
/-- a comprehension whose tests are drawn: some of the values, in order -/
theorem Tri.lcM_some {ct : A → M Bool} {ce : A → M Pv} {f g : α → Pv} : ∀ (l : List α), (∀ x ∈ l, ∃ a, un (f x) = some a ∧ Tri (ct a) (fun _ => True) ∧ Tri (ce a) fun v => v = g x) → Tri (Q.lcM un ct ce (l.map f)) fun r => ∃ m : List α, m.Sublist l ∧ r = m.map g
  | [], _ => Tri.pure ⟨[], .slnil, rfl⟩
  | x :: r, h => by
    obtain ⟨a, h1, h2, h3⟩ := h x List.mem_cons_self
    have ih := Tri.lcM_some (ct := ct) (ce := ce) (f := f) (g := g) r fun y hy => h y (List.mem_cons_of_mem _ hy)
    rw [List.map_cons]
    unfold Q.lcM
    rw [h1, lift_M_some, pure_bind]
    refine h2.bind fun b _ => ?_
    cases b with
    | true =>
      rw [if_pos rfl]
      refine h3.bind fun v hv => ih.bind fun ys ⟨m, hm, hys⟩ => Tri.pure ⟨x :: m, hm.cons_cons x, ?_⟩
      rw [hv, hys]; rfl
    | false =>
      rw [if_neg Bool.false_ne_true]
      exact ih.mono fun ys ⟨m, hm, hys⟩ => ⟨m, hm.cons x, hys⟩
end
theorem free_tri : Tri (m__law_free [.loc 0]) fun v => ∃ E, v = Ev_ E ∧ Fe E := by
  show Tri (b__law_free (.loc 0) >>= fin) _
  unfold b__law_free
  have l0 : pLim (fun x => x) ([] : List Pv) = some [] := rfl
  have l2 : ∀ a b : Pv, pLim Pv.tup [a, b] = some (.tup [a, b]) := fun _ _ => rfl
  have rg : pRange1 [.int 4] = some ((List.range 4).map nI) := rfl
  simp only [parM, parM3, bD, b1, b2, b3, bL, consM, iteM, tAndM, tOrM, pure_bind, bind_assoc, lift_opt, Option.bind_eq_bind, Option.pure_def, Option.bind_some, Option.bind_assoc, Option.map_some, lift_M_some, asB_bl, asI_int, at_nx, at_rt, at_bk, at_ct, outS_nx, fin_rt, fin_nx, pCmp_int, pCmpD_int, pMulA_int, pTru_bl, decide_eq_true_eq, Bool.not_eq_true', decide_eq_false_iff_not, l0, l2, rg]
  refine (Tri.forS (fun i s => ∃ E : List (Nat × Nat), s = .lst (E.map p2) ∧ (∀ p ∈ E, p.1 < p.2) ∧ E.length ≤ 4 * i) ⟨[], rfl, by simp, Nat.le_refl _⟩ ?_).bind ?_
  · rintro i x _ hx ⟨E, rfl, h1, h2⟩
    obtain ⟨a, ha, rfl⟩ := map_at hx
    refine ⟨_, rfl, ?_⟩
    obtain ⟨ha, rfl⟩ := range_get ha
    have a1 : pAdd (nI a) (.int 1) = some (nI (a + 1)) := rfl
    have r2 : pRange2 [nI (a + 1), .int 4] = some ((List.range (3 - a)).map fun k => nI (a + 1 + k)) := by
      have : a = 0 ∨ a = 1 ∨ a = 2 ∨ a = 3 := by omega
      rcases this with rfl | rfl | rfl | rfl <;> rfl
    simp only [a1, r2, lift_M_some, pure_bind]
    unfold Q.lcW
    rw [pure_bind, limL_ok (by rw [List.length_map, List.length_range]; show _ ≤ (1000000 : Nat); omega), lift_M_some, pure_bind]
    refine (Tri.lcM_some (ce := fun a5 => pure (.tup [nI a, a5])) (f := fun k => nI (a + 1 + k)) (g := fun k => p2 (a, a + 1 + k)) (List.range (3 - a)) fun k _ => ⟨_, rfl, ?_, Tri.pure rfl⟩).bind ?_
    · refine (next_nat (n := 2) (by decide)).bind ?_
      rintro _ ⟨y, rfl, hy⟩
      have e : pEq (nI y) (.int 0) = some (.bl (decide (y = 0))) := ec_pEq (f := nI) (show 0 ≤ 60 by decide) y 0
      simp only [e, lift_M_some, pure_bind, asB_bl]
      exact Tri.pure trivial
    · rintro _ ⟨m, hm, rfl⟩
      have hml := hm.length_le
      rw [List.length_range] at hml
      have em : (m.map fun k => p2 (a, a + 1 + k)) = (m.map fun k => (a, a + 1 + k)).map p2 := by rw [List.map_map]; rfl
      have c : pCat (.lst (E.map p2)) (.lst (m.map fun k => p2 (a, a + 1 + k))) = some ((E ++ m.map fun k => (a, a + 1 + k)).map p2) := by
        rw [em]
        exact pCat_Lm (f := p2) (by rw [List.length_map]; show _ ≤ (1000000 : Nat); omega)
      rw [c, lift_M_some, pure_bind]
      refine Tri.pure ⟨_, rfl, fun p hp => ?_, by rw [List.length_append, List.length_map]; omega⟩
      rcases List.mem_append.mp hp with hp | hp
      · exact h1 p hp
      · obtain ⟨k, _, rfl⟩ := List.mem_map.mp hp
        show a < a + 1 + k
        omega
  · rintro s ⟨E, rfl, h1, h2⟩
    have pt : pTuple [.lst (E.map p2)] = some (Ev_ E) := rfl
    simp only [pt, lift_M_some, pure_bind]
    exact Tri.pure ⟨E, rfl, h1, by rw [List.length_map, List.length_range] at h2; omega⟩
end Q
namespace Q
open PySem PySem.Spec PyProof.Rows L2
theorem Hs.eqb {α β : Type} {c : M α} {f : α → M β} {v : α} {μ μ' : List MO} {R : β → List MO → Prop} (e : c μ = some (v, μ')) (k : Hs (f v) μ' R) : Hs (c >>= f) μ R :=
  (Hs.of e rfl : Hs c μ fun u ν => (u, ν) = (v, μ')).bind fun u ν h => by cases h; exact k
theorem Nt_T (l : List Nat) : Nt l = T (l.map fun k : Nat => (k : Int)) := by show Pv.tup _ = Pv.tup _; rw [List.map_map]; rfl
theorem ltP_Nt (a b : List Nat) : ltP (Nt a) (Nt b) = decide ((a.map fun k : Nat => (k : Int)) < b.map fun k : Nat => (k : Int)) := by
  rw [Nt_T, Nt_T]
  exact dataLt_T _ _
theorem ge_cons {c d : Nat} {v l : List Nat} (h : d < c ∨ d = c ∧ ltP (Nt v) (Nt l) = false) : ltP (Nt (c :: v)) (Nt (d :: l)) = false := by
  rw [ltP_Nt, decide_eq_false_iff_not, List.map_cons, List.map_cons, List.cons_lt_cons_iff]
  rintro (g | ⟨g, k⟩)
  · rcases h with h | h
    · omega
    · omega
  · rcases h with h | ⟨_, h⟩
    · omega
    · rw [ltP_Nt, decide_eq_false_iff_not] at h
      exact h k
section
variable {E : List (Nat × Nat)}
theorem Pj.cons {fr : Nat → Nat → Bool} (c : Nat) {w v : List Nat} (h : Pj fr w v) : Pj fr (c :: w) (c :: v) := fun a b g => by
  rw [proj_cons, proj_cons a b c v, h a b g]
/-- the least of all words that are alike -/
def LstW (E : List (Nat × Nat)) (w l : List Nat) : Prop := Pj (frE E) w l ∧ ∀ v, Pj (frE E) w v → ltP (Nt v) (Nt l) = false
theorem LstW.uniq {w v l m : List Nat} (h : LstW E w l) (g : LstW E v m) (hp : Pj (frE E) w v) : l = m :=
  Ec.an (f := Nt) l m (g.2 l (hp.symm.trans h.1)) (h.2 m (hp.trans g.1))
theorem LstW.nil (hE : Fe E) : LstW E [] [] := ⟨.refl, fun v hv => by rw [(hv.symm).nil hE.fr, ltP_Nt]; rfl⟩
def okk (E : List (Nat × Nat)) (w : List Nat) (k : Nat) : Bool := (w.take k).all fun x => frE E (gN w k) x
theorem spl {w : List Nat} {k : Nat} (h : k < w.length) : w.take k ++ gN w k :: w.drop (k + 1) = w := by
  rw [gN_get h, ← List.drop_eq_getElem_cons h, List.take_append_drop]
theorem LstW.step (hE : Fe E) {w : List Nat} {k : Nat} (hk : k < w.length) (ho : okk E w k = true) (hm : ∀ i, i < w.length → okk E w i = true → gN w k ≤ gN w i) {l : List Nat} (h : LstW E (w.take k ++ w.drop (k + 1)) l) : LstW E w (gN w k :: l) := by
  have hF := hE.fr
  have h1 : Pj (frE E) w (gN w k :: (w.take k ++ w.drop (k + 1))) := by
    have := (Al.front hF (c := gN w k) (w.drop (k + 1)) (w.take k) fun x hx => List.all_eq_true.mp ho x hx).proj hF
    rwa [spl hk] at this
  refine ⟨h1.trans (h.1.cons _), fun v hv => ?_⟩
  cases v with
  | nil =>
    have := hv.nil hF
    rw [this] at hk
    exact absurd hk (Nat.not_lt_zero _)
  | cons d v =>
    obtain ⟨u, z, e, hu⟩ := hv.first hF
    have e1 : gN w u.length = d := by
      rw [e]; unfold gN; rw [List.getD_eq_getElem?_getD, List.getElem?_append_right (Nat.le_refl _), Nat.sub_self]; rfl
    have e2 : w.take u.length = u := by rw [e]; exact List.take_left
    have hd : gN w k ≤ d := by
      have := hm u.length (by rw [e]; simp) (by unfold okk; rw [e1, e2]; exact List.all_eq_true.mpr hu)
      rwa [e1] at this
    by_cases e3 : gN w k = d
    · refine ge_cons (.inr ⟨e3, h.2 v ?_⟩)
      rw [e3] at h1
      exact (h1.symm.trans hv).cancel
    · exact ge_cons (.inl (by omega))
theorem okk_inj (hE : Fe E) {w : List Nat} {a b : Nat} (ha : a < w.length) (hb : b < w.length) (oa : okk E w a = true) (ob : okk E w b = true) (e : gN w a = gN w b) : a = b := by
  have key : ∀ a b, a < b → b < w.length → okk E w b = true → gN w a ≠ gN w b := fun a b hab hb ob e => by
    have : gN w a ∈ w.take b := by
      rw [gN_get (show a < w.length by omega)]
      exact List.mem_iff_getElem.mpr ⟨a, by rw [List.length_take]; omega, List.getElem_take⟩
    have := List.all_eq_true.mp ob _ this
    rw [e, hE.fr.irr] at this
    cases this
  rcases Nat.lt_trichotomy a b with h | h | h
  · exact absurd e (key a b h hb ob)
  · exact h
  · exact absurd e.symm (key b a h ha oa)
/-- a word that is not empty has a first letter -/
theorem okk_zero (w : List Nat) : okk E w 0 = true := rfl
/-! the dict of the first letters -/
def fkv (w ks : List Nat) : List (Key × Pv) := ks.map fun k => (.inl (gN w k : Int), nI k)
theorem fkv_none {w : List Nat} {x : Nat} : ∀ {ks : List Nat}, (∀ k ∈ ks, gN w k ≠ x) → valP (fkv w ks) (.inl (x : Int)) = none
  | [], _ => rfl
  | k :: ks, h => by
    have h1 := fkv_none fun j hj => h j (List.mem_cons_of_mem _ hj)
    have h2 := h k List.mem_cons_self
    have : decide ((Sum.inl (gN w k : Int) : Key) = .inl (x : Int)) = false := decide_eq_false fun z => by
      injection z with z
      omega
    show ((List.find? _ (_ :: fkv w ks)).map (·.2)) = none
    rw [List.find?_cons]
    simp only [this]
    exact h1
theorem fkv_some {w : List Nat} {x : Nat} : ∀ {ks : List Nat}, x ∈ ks → (∀ a ∈ ks, ∀ b ∈ ks, gN w a = gN w b → a = b) → valP (fkv w ks) (.inl (gN w x : Int)) = some (nI x)
  | k :: ks, hx, hi => by
    show ((List.find? _ (_ :: fkv w ks)).map (·.2)) = _
    rw [List.find?_cons]
    by_cases e : k = x
    · subst e
      simp
    · have : decide ((Sum.inl (gN w k : Int) : Key) = .inl (gN w x : Int)) = false := decide_eq_false fun z => by
        injection z with z
        exact e (hi k List.mem_cons_self x hx (by omega))
      simp only [this]
      exact fkv_some ((List.mem_cons.mp hx).resolve_left fun z => e z.symm) fun a ha b hb => hi a (List.mem_cons_of_mem _ ha) b (List.mem_cons_of_mem _ hb)
theorem fkv_put {w : List Nat} {k : Nat} {ks : List Nat} (h : ∀ j ∈ ks, gN w j ≠ gN w k) : putP (fkv w ks) (.inl (gN w k : Int)) (nI k) = fkv w (ks ++ [k]) := by
  unfold putP
  rw [if_neg]
  · unfold fkv; rw [List.map_append]; rfl
  · rw [List.any_eq_true]
    rintro ⟨q, hq, e⟩
    obtain ⟨j, hj, rfl⟩ := List.mem_map.mp hq
    have e := of_decide_eq_true e
    injection e with e
    exact h j hj (by omega)
theorem fkv_keys (w : List Nat) : ∀ ks, iKeys (fkv w ks) = some (ks.map fun k => (gN w k : Int))
  | [] => rfl
  | k :: ks => by
    show (iKeys (fkv w ks)).map _ = _
    rw [fkv_keys w ks]; rfl
def fks (E : List (Nat × Nat)) (w : List Nat) (i : Nat) : List Nat := ((List.range w.length).take i).filter (okk E w)
theorem dk_at (μ : List MO) (kvs : List (Key × Pv)) : dkAt (μ ++ [.dk kvs]) (.loc μ.length) = some (μ.length, kvs) := by
  unfold dkAt
  simp
theorem first_hs (hE : Fe E) {w : List Nat} (hl : w.length ≤ 1000) (μ : List MO) : Hs (m__first_letters [Nt w, Ev_ E]) μ fun v μ' => v = .loc μ.length ∧ μ' = μ ++ [.dk (fkv w ((List.range w.length).filter (okk E w)))] := by
  show Hs (b__first_letters (Nt w) (Ev_ E) >>= fin) μ _
  unfold b__first_letters
  have rg : pRange1 [.int (w.length : Int)] = some ((List.range w.length).map nI) := pRange1_nI (by omega)
  simp only [parM, parM3, bD, b1, b2, b3, bL, consM, iteM, tAndM, tOrM, pure_bind, bind_assoc, lift_opt, Option.bind_eq_bind, Option.pure_def, Option.bind_some, Option.bind_assoc, Option.map_some, lift_M_some, asB_bl, asI_int, at_nx, at_rt, at_bk, at_ct, outS_nx, fin_rt, fin_nx, pCmp_int, pCmpD_int, pMulA_int, pTru_bl, decide_eq_true_eq, Bool.not_eq_true', decide_eq_false_iff_not, rg, pLen_Tm]
  refine (Hs.of (v := .loc μ.length) (μ' := μ ++ [.dk []]) rfl rfl : Hs dNew0 μ fun v μ' => (v, μ') = (.loc μ.length, μ ++ [.dk []])).bind fun v μ1 e => ?_
  cases e
  refine (Hs.forS (fun i s μ' => s = .loc μ.length ∧ μ' = μ ++ [.dk (fkv w (fks E w i))]) ⟨rfl, rfl⟩ ?_).bind ?_
  · rintro i x _ _ hx ⟨rfl, rfl⟩
    obtain ⟨k, hk, rfl⟩ := map_at hx
    refine ⟨_, rfl, ?_⟩
    obtain ⟨hi, rfl⟩ := range_get hk
    have q1 : pIx (Nt w) (nI k) = some (nI (gN w k)) := pIx_Nt hi
    have i1 : asI (nI k) = some (some (k : Int)) := rfl
    have c1 : pSl (Nt w) none (some (k : Int)) = some (Nt (w.take k)) := by rw [pSl_Tm, cutA_to]
    have it : items (Nt (w.take k)) = some ((w.take k).map nI) := rfl
    have lc : (lcV (pure ((w.take k).map nI)) some fun a4 => (Eff.lift (m__are_free [nI (gN w k), a4, Ev_ E]) : M Pv)) = pure ((w.take k).map fun x => .bl (frE E (gN w k) x)) :=
      lcV_pureM (by rw [List.length_take]; show _ ≤ (1000000 : Nat); omega) fun x _ => ⟨_, rfl, by rw [pfree_of hE]; rfl⟩
    have pa : pAll [.lst ((w.take k).map fun x => .bl (frE E (gN w k) x))] = some (.bl (okk E w k)) := by
      have : ((w.take k).map fun x => Pv.bl (frE E (gN w k) x)) = ((w.take k).map fun x => frE E (gN w k) x).map Pv.bl := by rw [List.map_map]; rfl
      rw [this]
      show (bls _).map _ = _
      rw [bls_of]
      unfold okk
      rw [Option.map_some, List.all_map]
      rfl
    simp only [q1, i1, c1, it, lift_M_some, pure_bind, lc, pa, pTru_bl, asB_bl]
    have et : (List.range w.length).take (k + 1) = (List.range w.length).take k ++ [k] := get_take hk
    have e1 : fks E w (k + 1) = if okk E w k = true then fks E w k ++ [k] else fks E w k := by
      unfold fks
      rw [et, List.filter_append]
      by_cases h : okk E w k = true
      · rw [if_pos h, List.filter_cons_of_pos h]; rfl
      · rw [if_neg h, List.filter_cons_of_neg h]; simp
    have hne : okk E w k = true → ∀ j ∈ fks E w k, gN w j ≠ gN w k := fun h j hj e => by
      obtain ⟨h1, h2⟩ := List.mem_filter.mp hj
      have h3 : j < k := by
        rw [List.take_range] at h1
        have := List.mem_range.mp h1
        omega
      exact absurd (okk_inj hE (by omega) hi h2 h e) (by omega)
    have hh : dHasN (.loc μ.length) (nI (gN w k)) (μ ++ [.dk (fkv w (fks E w k))]) = some (.bl (!(valP (fkv w (fks E w k)) (.inl (gN w k : Int))).isSome), μ ++ [.dk (fkv w (fks E w k))]) := by
      unfold dHasN
      rw [dk_at]; rfl
    refine Hs.bind (Hs.of hh rfl : Hs _ _ fun v μ' => (v, μ') = (.bl (!(valP (fkv w (fks E w k)) (.inl (gN w k : Int))).isSome), μ ++ [.dk (fkv w (fks E w k))])) fun v μ' e => ?_
    cases e
    simp only [asB_bl, lift_M_some, pure_bind]
    by_cases h : okk E w k = true
    · rw [fkv_none (hne h)]
      have hp : dPutM (.loc μ.length) (nI (gN w k)) (nI k) (μ ++ [.dk (fkv w (fks E w k))]) = some ((), μ ++ [.dk (fkv w (fks E w (k + 1)))]) := by
        unfold dPutM
        rw [dk_at, Option.bind_some]
        show (if (fkv w (fks E w k)).length < LIM then some ((), (μ ++ [MO.dk (fkv w (fks E w k))]).set μ.length (.dk (putP (fkv w (fks E w k)) (.inl (gN w k : Int)) (nI k)))) else none) = _
        rw [if_pos, fkv_put (hne h), e1, if_pos h, List.set_append_right _ _ (Nat.le_refl _), Nat.sub_self]
        · rfl
        · unfold fkv fks
          rw [List.length_map]
          have := List.length_filter_le (okk E w) ((List.range w.length).take k)
          rw [List.length_take, List.length_range] at this
          show _ < (1000000 : Nat)
          omega
      simp only [h, Option.isSome_none, Bool.not_false, if_true, pure_bind]
      refine Hs.bind (Q := fun v μ' => (v, μ') = (.loc μ.length, μ ++ [.dk (fkv w (fks E w (k + 1)))])) (Hs.eqb hp (Hs.pure rfl)) fun v μ' e => ?_
      cases e
      exact Hs.pure ⟨rfl, rfl⟩
    · rw [e1, if_neg h]
      have h : okk E w k = false := by simpa using h
      rw [h]
      have z : (if (!(valP (fkv w (fks E w k)) (.inl (gN w k : Int))).isSome) = true then (Pure.pure false : M Bool) else Pure.pure false) = Pure.pure false := by split <;> rfl
      rw [z]
      simp only [pure_bind, Bool.false_eq_true, if_false]
      exact Hs.pure ⟨rfl, rfl⟩
  · rintro s μ' ⟨rfl, rfl⟩
    refine Hs.pure ⟨rfl, ?_⟩
    rw [List.length_map, List.length_range]
    unfold fks
    rw [List.take_of_length_le (by rw [List.length_range]; exact Nat.le_refl _)]
/-! the least word -/
end
end Q
namespace Q
open PySem PySem.Spec PyProof.Rows L2
section
variable {E : List (Nat × Nat)}
/-! ### counting by the first letter -/
def fsts (E : List (Nat × Nat)) (w : List Nat) : List Nat := (List.range w.length).filter (okk E w)
def rm (w : List Nat) (k : Nat) : List Nat := w.take k ++ w.drop (k + 1)
theorem rm_len {w : List Nat} {k : Nat} (h : k < w.length) : (rm w k).length = w.length - 1 := by
  unfold rm
  rw [List.length_append, List.length_take, List.length_drop]; omega
theorem fsts_lt {w : List Nat} {k : Nat} (h : k ∈ fsts E w) : k < w.length ∧ okk E w k = true := by
  obtain ⟨h1, h2⟩ := List.mem_filter.mp h
  exact ⟨List.mem_range.mp h1, h2⟩
def enF (E : List (Nat × Nat)) : Nat → List Nat → List (List Nat)
  | 0, _ => [[]]
  | n + 1, w => (fsts E w).flatMap fun k => (enF E n (rm w k)).map (gN w k :: ·)
def cnF (E : List (Nat × Nat)) : Nat → List Nat → Nat
  | 0, _ => 1
  | n + 1, w => ((fsts E w).map fun k => cnF E n (rm w k)).sum
def cn (E : List (Nat × Nat)) (w : List Nat) : Nat := cnF E w.length w
theorem cn_nil : cn E [] = 1 := rfl
theorem cn_step {w : List Nat} (h : w ≠ []) : cn E w = ((fsts E w).map fun k => cn E (rm w k)).sum := by
  unfold cn
  obtain ⟨n, hn⟩ : ∃ n, w.length = n + 1 := ⟨w.length - 1, by have := List.length_pos_iff.mpr h; omega⟩
  rw [hn]
  show ((fsts E w).map fun k => cnF E n (rm w k)).sum = _
  refine congrArg List.sum (List.map_congr_left fun k hk => ?_)
  rw [rm_len (fsts_lt hk).1, hn]; rfl
theorem en_len : ∀ (n : Nat) (w : List Nat), (enF E n w).length = cnF E n w
  | 0, _ => rfl
  | n + 1, w => by
    unfold enF cnF
    rw [List.length_flatMap]
    refine congrArg List.sum (List.map_congr_left fun k _ => ?_)
    rw [List.length_map, en_len n]
theorem okk_all {w : List Nat} {k : Nat} (h : okk E w k = true) : ∀ x ∈ w.take k, frE E (gN w k) x = true := fun x hx => List.all_eq_true.mp h x hx
theorem rm_pj (hE : Fe E) {w : List Nat} {k : Nat} (hk : k ∈ fsts E w) : Pj (frE E) w (gN w k :: rm w k) := by
  obtain ⟨hl, ho⟩ := fsts_lt hk
  have := (Al.front hE.fr (c := gN w k) (w.drop (k + 1)) (w.take k) (okk_all ho)).proj hE.fr
  rw [spl hl] at this
  exact this
theorem en_mem (hE : Fe E) : ∀ (n : Nat) (w : List Nat), w.length = n → ∀ v, v ∈ enF E n w ↔ Pj (frE E) w v
  | 0, w, hw, v => by
    have : w = [] := List.length_eq_zero_iff.mp hw
    subst this
    show v ∈ [[]] ↔ _
    rw [List.mem_singleton]
    exact ⟨fun e => e ▸ .refl, fun h => h.symm.nil hE.fr⟩
  | n + 1, w, hw, v => by
    have ih := fun k (hk : k ∈ fsts E w) u => en_mem hE n (rm w k) (by rw [rm_len (fsts_lt hk).1]; omega) u
    unfold enF
    rw [List.mem_flatMap]
    constructor
    · rintro ⟨k, hk, hv⟩
      obtain ⟨u, hu, rfl⟩ := List.mem_map.mp hv
      exact (rm_pj hE hk).trans (Pj.cons _ ((ih k hk u).mp hu))
    · intro h
      have hv : v.length = n + 1 := by rw [← hw]; exact (h.al hE.fr).perm.length_eq
      cases v with
      | nil => cases hv
      | cons c v' =>
        obtain ⟨u, z, rfl, hf⟩ := h.first hE.fr
        have hgk : gN (u ++ c :: z) u.length = c := by
          unfold gN
          rw [List.getD_eq_getElem?_getD, List.getElem?_append_right (Nat.le_refl _), Nat.sub_self]; rfl
        have hk : u.length ∈ fsts E (u ++ c :: z) := by
          refine List.mem_filter.mpr ⟨List.mem_range.mpr (by rw [List.length_append, List.length_cons]; omega), ?_⟩
          unfold okk
          rw [hgk, List.take_left']
          · exact List.all_eq_true.mpr hf
          · rfl
        refine ⟨u.length, hk, List.mem_map.mpr ⟨v', ?_, by rw [hgk]⟩⟩
        rw [ih _ hk]
        have h2 := (rm_pj hE hk).symm.trans h
        rw [hgk] at h2
        exact h2.cancel
theorem nodup_flat {α β : Type} {f : α → List β} : ∀ {l : List α}, l.Nodup → (∀ a ∈ l, (f a).Nodup) → (∀ a ∈ l, ∀ b ∈ l, a ≠ b → ∀ x ∈ f a, x ∉ f b) → (l.flatMap f).Nodup
  | [], _, _, _ => by simp
  | a :: l, h, h1, h2 => by
    obtain ⟨ha, hl⟩ := List.nodup_cons.mp h
    rw [List.flatMap_cons]
    refine List.nodup_append.mpr ⟨h1 a List.mem_cons_self, nodup_flat hl (fun b hb => h1 b (List.mem_cons_of_mem _ hb)) fun b hb c hc => h2 b (List.mem_cons_of_mem _ hb) c (List.mem_cons_of_mem _ hc), fun x hx y hy e => ?_⟩
    subst e
    obtain ⟨b, hb, hy⟩ := List.mem_flatMap.mp hy
    exact h2 a List.mem_cons_self b (List.mem_cons_of_mem _ hb) (fun e => ha (e ▸ hb)) x hx hy
theorem en_nd (hE : Fe E) : ∀ (n : Nat) (w : List Nat), (enF E n w).Nodup
  | 0, _ => by simp [enF]
  | n + 1, w => by
    unfold enF
    refine nodup_flat (List.nodup_range.filter _) (fun k _ => ?_) fun a ha b hb hne x hx hx2 => ?_
    · exact List.pairwise_map.mpr ((en_nd hE n (rm w k)).imp fun h e => h (List.cons.inj e).2)
    · obtain ⟨u, _, rfl⟩ := List.mem_map.mp hx
      obtain ⟨v, _, e⟩ := List.mem_map.mp hx2
      obtain ⟨h1, h2⟩ := fsts_lt ha
      obtain ⟨h3, h4⟩ := fsts_lt hb
      exact hne (okk_inj hE h1 h3 h2 h4 (List.cons.inj e).1.symm)
theorem cn_lots (hE : Fe E) {w : List Nat} {R : List (List Nat)} (hR : Lk E w R) (ha : ∀ v, Al (frE E) w v → v ∈ R) : R.length = cn E w := by
  have hm := en_mem hE w.length w rfl
  have hp : R.Perm (enF E w.length w) := (List.perm_ext_iff_of_nodup hR.nd (en_nd hE _ w)).mpr fun v => by
    rw [hm]
    exact ⟨fun h => (hR.al v h).proj hE.fr, fun h => ha v (h.al hE.fr)⟩
  rw [hp.length_eq, en_len]; rfl
end
/-! ### a dict of words and how many are alike -/
def ik (s : Nat) : Key := .inl (s : Int)
theorem ik_inj {s t : Nat} (h : ik s = ik t) : s = t := by
  have := Sum.inl.inj h
  omega
def kr (r : List Nat) : List Key := r.map ik
theorem kr_inj : ∀ {r q : List Nat}, kr r = kr q → r = q
  | [], [], _ => rfl
  | [], _ :: _, h => by cases h
  | _ :: _, [], h => by cases h
  | a :: r, b :: q, h => by
    obtain ⟨h1, h2⟩ := List.cons.inj (show ik a :: kr r = ik b :: kr q from h)
    rw [ik_inj h1, kr_inj h2]
theorem toKeyT_Nt : ∀ r : List Nat, toKeyT (Nt r) = some (kr r)
  | [] => rfl
  | a :: r => by
    have ih : toKs (r.map nI) = some (kr r) := toKeyT_Nt r
    show (toKey (nI a)).bind (fun k => (toKs (r.map nI)).map fun q => k :: q) = _
    rw [ih]; rfl
section
variable {E : List (Nat × Nat)}
def knd (E : List (Nat × Nat)) (L : List (List Nat)) : List (List Key × Pv) := L.map fun u => (kr u, nI (cn E u))
theorem knd_val (w : List Nat) : ∀ L : List (List Nat), valT (knd E L) (kr w) = if w ∈ L then some (nI (cn E w)) else none
  | [] => rfl
  | u :: L => by
    have ih := knd_val w L
    unfold valT knd at ih ⊢
    rw [List.map_cons, List.find?_cons]
    by_cases e : u = w
    · subst e
      simp
    · have e1 : decide (kr u = kr w) = false := decide_eq_false fun z => e (kr_inj z)
      have e2 : ¬ w = u := fun z => e z.symm
      simp only [e1]
      rw [ih]
      by_cases hm : w ∈ L
      · rw [if_pos hm, if_pos (List.mem_cons_of_mem _ hm)]
      · rw [if_neg hm, if_neg (by simp [e2, hm])]
def adW (L : List (List Nat)) (w : List Nat) : List (List Nat) := if w ∈ L then L else L ++ [w]
theorem knd_put (w : List Nat) (L : List (List Nat)) : putT (knd E L) (kr w) (nI (cn E w)) = knd E (adW L w) := by
  unfold putT adW
  by_cases h : w ∈ L
  · have ha : ((knd E L).any fun kv => decide (kv.1 = kr w)) = true := List.any_eq_true.mpr ⟨_, List.mem_map.mpr ⟨w, h, rfl⟩, decide_eq_true rfl⟩
    rw [if_pos ha, if_pos h]
    unfold knd
    rw [List.map_map]
    refine List.map_congr_left fun u _ => ?_
    show (if kr u = kr w then (kr u, nI (cn E w)) else (kr u, nI (cn E u))) = _
    by_cases e : kr u = kr w
    · rw [if_pos e, kr_inj e]
    · rw [if_neg e]
  · have ha : ¬ ((knd E L).any fun kv => decide (kv.1 = kr w)) = true := fun z => by
      obtain ⟨q, hq, e⟩ := List.any_eq_true.mp z
      obtain ⟨t, ht, rfl⟩ := List.mem_map.mp hq
      rw [kr_inj (of_decide_eq_true e)] at ht
      exact h ht
    rw [if_neg ha, if_neg h]
    unfold knd
    rw [List.map_append]; rfl
/-- words among which the counting stays -/
structure Stw (E : List (Nat × Nat)) (S : List Nat → Prop) : Prop where
  cl : ∀ w, S w → ∀ k ∈ fsts E w, S (rm w k)
  bd : ∀ L : List (List Nat), L.Nodup → (∀ u ∈ L, S u) → L.length ≤ 900000
  sm : ∀ w, S w → w.length ≤ 15
structure Kn (E : List (Nat × Nat)) (S : List Nat → Prop) (μ : List MO) (p : Nat) (L : List (List Nat)) : Prop where
  at_ : μ[p]? = some (.dt (knd E L))
  nd : L.Nodup
  ok : ∀ u ∈ L, S u
  nil : [] ∈ L
def Frm (μ : List MO) (p : Nat) (μ' : List MO) : Prop := μ.length ≤ μ'.length ∧ ∀ n, n < μ.length → n ≠ p → μ'[n]? = μ[n]?
theorem Frm.refl {μ : List MO} {p : Nat} : Frm μ p μ := ⟨Nat.le_refl _, fun _ _ _ => rfl⟩
theorem Frm.trans {μ μ1 μ2 : List MO} {p : Nat} (h : Frm μ p μ1) (g : Frm μ1 p μ2) : Frm μ p μ2 := ⟨Nat.le_trans h.1 g.1, fun n hn hp => (g.2 n (Nat.lt_of_lt_of_le hn h.1) hp).trans (h.2 n hn hp)⟩
theorem dtAt_p {μ : List MO} {p : Nat} {kvs : List (List Key × Pv)} (h : μ[p]? = some (.dt kvs)) : dtAt μ (.loc p) = some (p, kvs) := by
  unfold dtAt
  show (match μ[p]? with | some (.dt kvs) => some (p, kvs) | _ => none) = _
  rw [h]
theorem rm_of {w : List Nat} {k : Nat} (hl : w.length ≤ 100) : pSl (Nt w) none (some (k : Int)) = some (Nt (w.take k)) ∧ pSl (Nt w) (some ((k + 1 : Nat) : Int)) none = some (Nt (w.drop (k + 1))) ∧ pAdd (Nt (w.take k)) (Nt (w.drop (k + 1))) = some (Nt (rm w k)) := by
  refine ⟨by rw [pSl_Tm, cutA_to], by rw [pSl_Tm, cutA_from], ?_⟩
  exact pAdd_Tm (f := nI) (limN (by rw [List.length_take, List.length_drop]; omega))
theorem intsP_nI : ∀ l : List Nat, intsP (l.map nI) = some (l.map fun k : Nat => (k : Int))
  | [] => rfl
  | a :: l => by
    have ih := intsP_nI l
    show (intsP (l.map nI)).map _ = _
    rw [ih]; rfl
theorem sum_nI (l : List Nat) : pSumA [.lst (l.map nI)] = some (nI l.sum) := by
  show (intsP (l.map nI)).map _ = _
  rw [intsP_nI]
  refine congrArg (fun i : Int => some (Pv.int i)) ?_
  induction l with
  | nil => rfl
  | cons a l ih => rw [List.map_cons, List.sum_cons, List.sum_cons, ih]; push_cast; rfl
theorem M_step {α β : Type} {c : M α} {f : α → M β} {v : α} {μ μ' : List MO} (e : c μ = some (v, μ')) : (c >>= f) μ = f v μ' := by
  show (c μ).bind _ = _
  rw [e]; rfl
theorem lcD_hs {ce : Pv → M Pv} {w ks : List Nat} {μ : List MO} {Q : List Pv → List MO → Prop} (hl : ks.length ≤ 900) (hN : Hs (lcN some ce (ks.map nI)) (μ ++ [.fk (fkv w ks)]) fun ys μ' => μ'[μ.length]? = some (.fk (fkv w ks)) ∧ Q ys (μ'.set μ.length (.dk (fkv w ks)))) : Hs (lcD (.loc μ.length) some ce) (μ ++ [.dk (fkv w ks)]) Q := by
  obtain ⟨ys, μ', e, h1, h2⟩ := hN
  refine ⟨ys, _, ?_, h2⟩
  unfold lcD
  rw [dk_at, Option.bind_some]
  have hm : (fkv w ks).map (·.2) = ks.map nI := by unfold fkv; rw [List.map_map]; rfl
  have hs : (μ ++ [MO.dk (fkv w ks)]).set μ.length (.fk (fkv w ks)) = μ ++ [.fk (fkv w ks)] := by rw [List.set_append_right _ _ (Nat.le_refl _), Nat.sub_self]; rfl
  show (if (fkv w ks).length ≤ LIM then (lcN some ce ((fkv w ks).map (·.2)) ((μ ++ [MO.dk (fkv w ks)]).set μ.length (.fk (fkv w ks)))).bind _ else none) = _
  rw [if_pos (limN (by unfold fkv; rw [List.length_map]; omega)), hm, hs, e, Option.bind_some]
  show (lkAt μ' μ.length).map _ = _
  unfold lkAt
  rw [h1]; rfl
theorem count_hs (hE : Fe E) {S : List Nat → Prop} (hS : Stw E S) : ∀ (d : Nat) (w : List Nat), w.length < d → S w → ∀ (μ : List MO) (p : Nat) (L : List (List Nat)), Kn E S μ p L →
    Hs (m__countF d [Nt w, Ev_ E, .loc p]) μ fun v μ' => v = nI (cn E w) ∧ ∃ L', Kn E S μ' p L' ∧ Frm μ p μ'
  | 0, _, h, _, _, _, _, _ => absurd h (Nat.not_lt_zero _)
  | d + 1, w, hd, hw, μ, p, L, hK => by
    have ih := fun k (hk : k ∈ fsts E w) => count_hs hE hS d (rm w k) (by have := (fsts_lt hk).1; rw [rm_len this]; omega) (hS.cl w hw k hk)
    have hl := hS.sm w hw
    show Hs (b__count (m__countF d) (Nt w) (Ev_ E) (.loc p) >>= fin) μ _
    unfold b__count
    simp only [parM, parM3, bD, b1, b2, b3, bL, consM, iteM, tAndM, tOrM, pure_bind, bind_assoc, lift_opt, Option.bind_eq_bind, Option.pure_def, Option.bind_some, Option.bind_assoc, Option.map_some, lift_M_some, asB_bl, asI_int, at_nx, at_rt, at_bk, at_ct, outS_nx, fin_rt, fin_nx, pCmp_int, pCmpD_int, pMulA_int, pTru_bl, decide_eq_true_eq, Bool.not_eq_true', decide_eq_false_iff_not]
    have hh : dHasNT (.loc p) (Nt w) μ = some (.bl (!decide (w ∈ L)), μ) := by
      unfold dHasNT
      rw [dtAt_p hK.at_, Option.bind_some, toKeyT_Nt]
      show some (Pv.bl (!(valT (knd E L) (kr w)).isSome), μ) = _
      rw [knd_val]
      by_cases h : w ∈ L
      · rw [if_pos h, decide_eq_true h]; rfl
      · rw [if_neg h, decide_eq_false h]; rfl
    have get : ∀ {μ' L'}, Kn E S μ' p L' → w ∈ L' → dGetT (.loc p) (Nt w) μ' = some (nI (cn E w), μ') := fun {μ' L'} h hm => by
      unfold dGetT
      rw [dtAt_p h.at_, Option.bind_some, toKeyT_Nt, Option.bind_some]
      show (valT (knd E L') (kr w)).map _ = _
      rw [knd_val, if_pos hm]; rfl
    refine Hs.eqb hh ?_
    simp only [asB_bl, lift_M_some, pure_bind]
    by_cases hm : w ∈ L
    · rw [decide_eq_true hm, if_neg (by decide), pure_bind]
      refine Hs.eqb (get hK hm) ?_
      exact Hs.pure ⟨rfl, L, hK, .refl⟩
    · rw [decide_eq_false hm, if_pos (by decide)]
      have hne : w ≠ [] := fun z => hm (z ▸ hK.nil)
      simp only [bind_assoc]
      refine (first_hs hE (by omega) μ).bind ?_
      rintro _ _ ⟨rfl, rfl⟩
      have hp : p < μ.length := (List.getElem?_eq_some_iff.mp hK.at_).1
      refine Hs.bind (Q := fun ys μ' => ys = ((fsts E w).map fun k => cn E (rm w k)).map nI ∧ ∃ L', Kn E S μ' p L' ∧ Frm μ p μ') (lcD_hs (w := w) (ks := fsts E w) ?_ ?_) ?_
      · have := List.length_filter_le (okk E w) (List.range w.length)
        rw [List.length_range] at this
        exact Nat.le_trans this (by omega)
      · have hsm : (fsts E w).length ≤ 900 := by
          have := List.length_filter_le (okk E w) (List.range w.length)
          rw [List.length_range] at this
          exact Nat.le_trans this (by omega)
        have hK1 : Kn E S (μ ++ [.fk (fkv w (fsts E w))]) p L := ⟨by rw [List.getElem?_append_left hp]; exact hK.at_, hK.nd, hK.ok, hK.nil⟩
        refine (Hs.lcN (un := some) (fun i ys μ' => ys = (((fsts E w).take i).map fun k => cn E (rm w k)).map nI ∧ ∃ L', Kn E S μ' p L' ∧ Frm (μ ++ [.fk (fkv w (fsts E w))]) p μ') ⟨rfl, L, hK1, .refl⟩ fun i x ys μ' hx hi => ?_).mono fun ys μ' h => ?_
        · obtain ⟨rfl, L', hK', hF'⟩ := hi
          obtain ⟨k, hk, rfl⟩ := map_at hx
          have hkm := List.mem_of_getElem? hk
          refine ⟨_, rfl, ?_⟩
          obtain ⟨r1, r2, r3⟩ := rm_of (w := w) (k := k) (by omega)
          have a1 : pAdd (nI k) (.int 1) = some (nI (k + 1)) := rfl
          have ai : ∀ j : Nat, asI (nI j) = some (some (j : Int)) := fun _ => rfl
          simp only [ai, a1, r1, r2, r3, lift_M_some, pure_bind]
          refine (ih k hkm μ' p L' hK').mono fun v μ2 h2 => ?_
          obtain ⟨rfl, L2, hK2, hF2⟩ := h2
          refine ⟨?_, L2, hK2, hF'.trans hF2⟩
          rw [get_take hk, List.map_append, List.map_append]; rfl
        · rw [List.length_map, List.take_length] at h
          obtain ⟨h1, L', hK', hF'⟩ := h
          have hpn : μ.length ≠ p := fun z => by omega
          have hfk : μ'[μ.length]? = some (.fk (fkv w (fsts E w))) := by
            rw [hF'.2 μ.length (by simp) hpn]; simp
          refine ⟨hfk, h1, L', ⟨by rw [List.getElem?_set_ne hpn]; exact hK'.at_, hK'.nd, hK'.ok, hK'.nil⟩, ?_, fun n hn hnp => ?_⟩
          · rw [List.length_set]
            have := hF'.1
            rw [List.length_append] at this
            omega
          · rw [List.getElem?_set_ne (by omega), hF'.2 n (by simp; omega) hnp, List.getElem?_append_left hn]
      · rintro _ μ2 ⟨rfl, L2, hK2, hF2⟩
        rw [sum_nI, ← cn_step hne, lift_M_some, pure_bind]
        have hK3nd : (adW L2 w).Nodup := by
          unfold adW
          split
          · exact hK2.nd
          · rename_i h
            exact List.nodup_append.mpr ⟨hK2.nd, by simp, fun a ha b hb e => h (by rw [← List.mem_singleton.mp hb, ← e]; exact ha)⟩
        have hmem : ∀ u, u ∈ adW L2 w ↔ u ∈ L2 ∨ u = w := fun u => by
          unfold adW
          split
          · rename_i h
            exact ⟨.inl, fun z => z.elim id fun e => e ▸ h⟩
          · rw [List.mem_append, List.mem_singleton]
        have hp2 : p < μ2.length := (List.getElem?_eq_some_iff.mp hK2.at_).1
        have put : dPutT (.loc p) (Nt w) (nI (cn E w)) μ2 = some ((), μ2.set p (.dt (knd E (adW L2 w)))) := by
          unfold dPutT
          rw [dtAt_p hK2.at_, Option.bind_some, toKeyT_Nt, Option.bind_some]
          have hb := hS.bd L2 hK2.nd hK2.ok
          show (if (knd E L2).length < LIM then some ((), μ2.set p (.dt (putT (knd E L2) (kr w) (nI (cn E w))))) else none) = _
          rw [if_pos (by unfold knd; rw [List.length_map]; show _ < (1000000 : Nat); omega), knd_put]
        have hK3 : Kn E S (μ2.set p (.dt (knd E (adW L2 w)))) p (adW L2 w) := ⟨by rw [List.getElem?_set_self hp2], hK3nd, fun u hu => by
          rcases (hmem u).mp hu with h | h
          · exact hK2.ok u h
          · rw [h]; exact hw, (hmem _).mpr (.inl hK2.nil)⟩
        refine Hs.eqb put ?_
        rw [pure_bind]
        refine Hs.eqb (get hK3 ((hmem w).mpr (.inr rfl))) ?_
        exact Hs.pure ⟨rfl, adW L2 w, hK3, by rw [List.length_set]; exact hF2.1, fun n hn hnp => by rw [List.getElem?_set_ne (by omega)]; exact hF2.2 n hn hnp⟩
end
end Q
namespace Q
open PySem PySem.Spec PyProof.Rows L2
section
variable {E : List (Nat × Nat)}
theorem count_ug (hE : Fe E) {S : List Nat → Prop} (hS : Stw E S) {w : List Nat} (hw : S w) (h0 : S []) : Ug (m_count_alike [Nt w, Ev_ E]) (nI (cn E w)) := Ug.of fun μ => by
  show Hs (b_count_alike (Nt w) (Ev_ E) >>= fin) μ _
  unfold b_count_alike
  have l0 : pLim Pv.tup ([] : List Pv) = some (.tup []) := rfl
  simp only [parM, parM3, bD, b1, b2, b3, bL, consM, iteM, tAndM, tOrM, pure_bind, bind_assoc, lift_opt, Option.bind_eq_bind, Option.pure_def, Option.bind_some, Option.bind_assoc, Option.map_some, lift_M_some, asB_bl, asI_int, at_nx, at_rt, at_bk, at_ct, outS_nx, fin_rt, fin_nx, pCmp_int, pCmpD_int, pMulA_int, pTru_bl, decide_eq_true_eq, Bool.not_eq_true', decide_eq_false_iff_not, l0]
  refine Hs.eqb (show dNewT1 (pure (.tup [])) (pure (.int 1)) μ = some (.loc μ.length, μ ++ [.dt (knd E [[]])]) from ?_) ?_
  · unfold dNewT1
    rw [pure_bind, pure_bind]; rfl
  have hsm := hS.sm w hw
  refine (count_hs hE hS 20 w (by omega) hw (μ ++ [.dt (knd E [[]])]) μ.length [[]] ⟨by simp, by simp, fun u hu => by rw [List.mem_singleton.mp hu]; exact h0, by simp⟩).bind ?_
  rintro _ μ2 ⟨rfl, L, hK, hF1, hF2⟩
  refine Hs.pure ⟨rfl, μ2.drop μ.length, ?_⟩
  have : μ2.take μ.length = μ := by
    refine List.ext_getElem? fun n => ?_
    by_cases hn : n < μ.length
    · rw [List.getElem?_take_of_lt hn, hF2 n (by rw [List.length_append]; omega) (by omega), List.getElem?_append_left hn]
    · rw [List.getElem?_eq_none (by rw [List.length_take]; omega), List.getElem?_eq_none (by omega)]
  conv => lhs; rw [← List.take_append_drop μ.length μ2, this]
end
/-! ### words of up to seven letters of four -/
theorem nodup_leW : ∀ l m : List (List Nat), l.Nodup → (∀ x ∈ l, x ∈ m) → l.length ≤ m.length
  | [], _, _, _ => Nat.zero_le _
  | a :: l, m, hd, hs => by
    obtain ⟨h1, h2⟩ := List.nodup_cons.mp hd
    have ha := hs a List.mem_cons_self
    have := nodup_leW l (m.erase a) h2 fun x hx => (List.mem_erase_of_ne (show x ≠ a from fun z => h1 (by rw [← z]; exact hx))).mpr (hs x (List.mem_cons_of_mem _ hx))
    rw [List.length_erase_of_mem ha] at this
    have := List.length_pos_of_mem ha
    rw [List.length_cons]
    omega
def S7 (w : List Nat) : Prop := (∀ x ∈ w, x < 4) ∧ w.length ≤ 7
theorem rm_mem {w : List Nat} {k x : Nat} (h : x ∈ rm w k) : x ∈ w := by
  unfold rm at h
  rcases List.mem_append.mp h with h | h
  · exact List.mem_of_mem_take h
  · exact List.mem_of_mem_drop h
theorem st7 (E : List (Nat × Nat)) : Stw E S7 where
  cl w hw k hk := by
    have := rm_len (fsts_lt hk).1
    exact ⟨fun x hx => hw.1 x (rm_mem hx), by rw [this]; have := hw.2; omega⟩
  bd L hd hL := by
    have hc : (L.map fun u => cdw u * 8 + u.length).Nodup := by
      refine List.pairwise_map.mpr (hd.imp_of_mem fun {a b} ha hb hne e => hne ?_)
      have h1 := hL a ha
      have h2 := hL b hb
      have l1 := h1.2
      have l2 := h2.2
      exact cdw_inj a b (by omega) h1.1 h2.1 (by omega)
    have := nodup_le _ (List.range 140000) hc fun x hx => by
      obtain ⟨u, hu, rfl⟩ := List.mem_map.mp hx
      have h1 := hL u hu
      have h2 := cdw_lt u h1.1
      have h3 : 4 ^ u.length ≤ 4 ^ 7 := Nat.pow_le_pow_right (by decide) h1.2
      have h4 : 4 ^ 7 = 16384 := rfl
      have h5 := h1.2
      exact List.mem_range.mpr (by omega)
    rw [List.length_map, List.length_range] at this
    omega
  sm w hw := by have := hw.2; omega
/-! ### the long words -/
def fm (a c b : Nat) : List Nat := List.replicate a 0 ++ List.replicate c 2 ++ List.replicate b 1
def n0 (w : List Nat) : Nat := w.count 0
def n2 (w : List Nat) : Nat := w.count 2
def n1 (w : List Nat) : Nat := w.count 1
def isF (w : List Nat) : Bool := Nat.ble (n0 w) 5 && (Nat.ble (n2 w) 5 && (Nat.ble (n1 w) 5 && decide (w = fm (n0 w) (n2 w) (n1 w))))
def allF : List (List Nat) := (List.range 6).flatMap fun a => (List.range 6).flatMap fun c => (List.range 6).map fun b => fm a c b
def E3 : List (Nat × Nat) := [(0, 1), (0, 2), (1, 2)]
def fac : Nat → Nat
  | 0 => 1
  | n + 1 => (n + 1) * fac n
def Mf (a c b : Nat) : Nat := fac (a + c + b) / (fac a * fac c * fac b)
def vl (w : List Nat) : Nat := Mf (n0 w) (n2 w) (n1 w)
def chkE (E : List (Nat × Nat)) (v : List Nat → Nat) : Bool := allF.all fun w => (fsts E w).all (fun k => isF (rm w k)) && (decide (w = []) || decide (((fsts E w).map fun k => v (rm w k)).sum = v w))
theorem chk3 : chkE E3 vl = true := by decide +kernel
theorem chk0 : chkE [] (fun _ => 1) = true := by decide +kernel
theorem isF_all : (allF.all isF) = true := by decide +kernel
theorem all_isF {w : List Nat} (h : isF w = true) : w ∈ allF := by
  unfold isF at h
  simp only [Bool.and_eq_true, Nat.ble_eq, decide_eq_true_eq] at h
  obtain ⟨h1, h2, h3, h4⟩ := h
  rw [h4]
  refine List.mem_flatMap.mpr ⟨n0 w, List.mem_range.mpr (by omega), List.mem_flatMap.mpr ⟨n2 w, List.mem_range.mpr (by omega), List.mem_map.mpr ⟨n1 w, List.mem_range.mpr (by omega), rfl⟩⟩⟩
theorem fm_F {a c b : Nat} (ha : a < 6) (hc : c < 6) (hb : b < 6) : isF (fm a c b) = true := List.all_eq_true.mp isF_all _ (List.mem_flatMap.mpr ⟨a, List.mem_range.mpr ha, List.mem_flatMap.mpr ⟨c, List.mem_range.mpr hc, List.mem_map.mpr ⟨b, List.mem_range.mpr hb, rfl⟩⟩⟩)
theorem stF {E : List (Nat × Nat)} {v : List Nat → Nat} (hc : chkE E v = true) : Stw E fun w => isF w = true where
  cl w hw k hk := by
    have := List.all_eq_true.mp hc w (all_isF hw)
    rw [Bool.and_eq_true] at this
    exact List.all_eq_true.mp this.1 k hk
  bd L hd hL := by
    have := nodup_leW L allF hd fun u hu => all_isF (hL u hu)
    have h2 : allF.length = 216 := by decide +kernel
    omega
  sm w hw := by
    have h : (allF.all fun w => Nat.ble w.length 15) = true := by decide +kernel
    exact Nat.le_of_ble_eq_true (List.all_eq_true.mp h w (all_isF hw))
theorem cn_F {E : List (Nat × Nat)} {v : List Nat → Nat} (hc : chkE E v = true) (h0 : v [] = 1) : ∀ (n : Nat) (w : List Nat), w.length = n → isF w = true → cn E w = v w
  | 0, w, hn, _ => by
    have : w = [] := List.length_eq_zero_iff.mp hn
    subst this
    rw [h0]; rfl
  | n + 1, w, hn, hw => by
    have hne : w ≠ [] := fun z => by rw [z] at hn; cases hn
    have h := List.all_eq_true.mp hc w (all_isF hw)
    rw [Bool.and_eq_true, Bool.or_eq_true, decide_eq_true_eq, decide_eq_true_eq] at h
    rw [cn_step hne, ← h.2.resolve_left hne]
    refine congrArg List.sum (List.map_congr_left fun k hk => ?_)
    exact cn_F hc h0 n (rm w k) (by rw [rm_len (fsts_lt hk).1]; omega) (List.all_eq_true.mp h.1 k hk)
def wayC : Bool := (List.range 6).all fun a => (List.range 6).all fun b => (List.range 6).all fun c => decide (m__law_ways [.lst [nI a, nI b, nI c]] = some (nI (vl (fm a c b))))
theorem way_ok : wayC = true := by decide +kernel
theorem ways_of {a b c : Nat} (ha : a < 6) (hb : b < 6) (hc : c < 6) : m__law_ways [.lst [nI a, nI b, nI c]] = some (nI (vl (fm a c b))) := of_decide_eq_true (List.all_eq_true.mp (List.all_eq_true.mp (List.all_eq_true.mp way_ok a (List.mem_range.mpr ha)) b (List.mem_range.mpr hb)) c (List.mem_range.mpr hc))
theorem mul6 (v : Nat) {a : Nat} (h : a < 6) : pMulA (.tup [nI v]) (nI a) = some (Nt (List.replicate a v)) := by
  have : a = 0 ∨ a = 1 ∨ a = 2 ∨ a = 3 ∨ a = 4 ∨ a = 5 := by omega
  rcases this with rfl | rfl | rfl | rfl | rfl | rfl <;> rfl
end Q
namespace Q
open PySem PySem.Spec PyProof.Rows L2
theorem next_nI {n : Nat} (h : 0 < n) : Tri (m__law_next [.loc 0, nI n]) fun v => ∃ k, v = nI k ∧ k < n := next_nat h
theorem alike_nI (n : Nat) : m__law_alike [nI n, nI n] = some (.bl true) := alike_refl (Sm.int 0 _) (by decide)
theorem law_true (ns : List Int) (hl : ns.length ≤ 63) : ∃ μ, Eff.run (m_law [.scr ns]) [] = some (.bl true, μ) := by
  show ∃ μ, Eff.run (b_law (.scr ns) >>= fin) [] = _
  unfold b_law
  refine law_start (m := 400) hl (by decide) (by decide) rfl ?_
  simp only [parM, parM3, bD, b1, b2, b3, bL, consM, iteM, tAndM, tOrM, pure_bind, bind_assoc, lift_opt, Option.bind_eq_bind, Option.pure_def, Option.bind_some, Option.bind_assoc, Option.map_some, lift_M_some, asB_bl, asI_int, at_nx, at_rt, at_bk, at_ct, outS_nx, fin_rt, fin_nx, pCmp_int, pCmpD_int, pMulA_int, pTru_bl, decide_eq_true_eq, Bool.not_eq_true', decide_eq_false_iff_not, pRange1_int (j := 4) (by decide) (by decide)]
  refine Tri.bind (Tri.forO (fun _ _ => True) (fun _ => True) trivial ?_ fun _ _ => trivial) ?_
  · intro i x s hx _
    refine ⟨_, rfl, ?_⟩
    refine free_tri.bind fun v ⟨E, e, hE⟩ => ?_
    subst e
    refine Tri.bind (Tri.lcV (C := fun l => ∃ m, m < 8 ∧ l = (List.range m).map nI) (P := fun v => ∃ a, v = nI a ∧ a < 4) ?_ ?_) ?_
    · refine (next_nI (n := 8) (by decide)).bind fun v ⟨m, e, hm⟩ => ?_
      subst e
      have pr : pRange1 [nI m] = some ((List.range m).map nI) := pRange1_nI (by omega)
      rw [pr]
      exact Tri.lift rfl ⟨⟨m, hm, rfl⟩, limN (by rw [List.length_map, List.length_range]; omega)⟩
    · rintro l ⟨m, hm, rfl⟩ x hx
      exact ⟨_, rfl, next_nI (n := 4) (by decide)⟩
    · rintro ys ⟨l, ⟨m, hm, rfl⟩, hl2, hp⟩
      obtain ⟨w, rfl, hwl, hw⟩ := exist_map hp
      rw [List.length_map, List.length_map, List.length_range] at hl2
      have hw7 : S7 w := ⟨hw, by omega⟩
      obtain ⟨R, e1, hR, hRl, hA⟩ := lots_of (E := E) hw hw7.2
      have hc := cn_lots hE hR hA
      have pt : pTuple [.lst (w.map nI)] = some (Nt w) := rfl
      have ln : pLen [.lst (R.map Nt)] = some (nI (cn E w)) := by rw [pLen_lst, List.length_map, hc]; rfl
      simp only [pt, lift_M_some, pure_bind]
      refine Tri.ugb (count_ug hE (st7 E) hw7 ⟨fun x hx => absurd hx List.not_mem_nil, by decide⟩) ?_
      simp only [e1, ln, alike_nI, lift_M_some, pure_bind, pTru_bl, Bool.not_true, Bool.true_eq_false, Bool.false_eq_true, if_false, at_nx]
      exact Tri.pure trivial
  · rintro o ⟨_, rfl, _⟩
    have l2 : ∀ a b : Pv, pLim Pv.tup [a, b] = some (.tup [a, b]) := fun _ _ => rfl
    have l3 : ∀ a b c : Pv, pLim Pv.tup [a, b, c] = some (.tup [a, b, c]) := fun _ _ _ => rfl
    have m3 : ∀ a b c : Pv, pLim (fun x => x) [a, b, c] = some [a, b, c] := fun _ _ _ => rfl
    have l1 : ∀ a : Pv, pLim Pv.tup [a] = some (.tup [a]) := fun _ => rfl
    have l0 : pLim Pv.tup ([] : List Pv) = some (.tup []) := rfl
    simp only [at_nx, l0, l1, l2, l3, m3, lift_M_some, pure_bind, bind_assoc]
    refine (next_nI (n := 6) (by decide)).bind fun v ⟨a, e, ha⟩ => ?_
    subst e
    refine (next_nI (n := 6) (by decide)).bind fun v ⟨b, e, hb⟩ => ?_
    subst e
    refine (next_nI (n := 6) (by decide)).bind fun v ⟨c, e, hc⟩ => ?_
    subst e
    have x0 : ∀ a b c : Pv, pIx (.lst [a, b, c]) (.int 0) = some a := fun _ _ _ => rfl
    have x1 : ∀ a b c : Pv, pIx (.lst [a, b, c]) (.int 1) = some b := fun _ _ _ => rfl
    have x2 : ∀ a b c : Pv, pIx (.lst [a, b, c]) (.int 2) = some c := fun _ _ _ => rfl
    have m0 : pMulA (.tup [.int 0]) (nI a) = some (Nt (List.replicate a 0)) := mul6 0 ha
    have m2 : pMulA (.tup [.int 2]) (nI c) = some (Nt (List.replicate c 2)) := mul6 2 hc
    have m1 : pMulA (.tup [.int 1]) (nI b) = some (Nt (List.replicate b 1)) := mul6 1 hb
    have d1 : pAdd (Nt (List.replicate a 0)) (Nt (List.replicate c 2)) = some (Nt (List.replicate a 0 ++ List.replicate c 2)) := pAdd_Tm (f := nI) (limN (by rw [List.length_replicate, List.length_replicate]; omega))
    have d2 : pAdd (Nt (List.replicate a 0 ++ List.replicate c 2)) (Nt (List.replicate b 1)) = some (Nt (fm a c b)) := pAdd_Tm (f := nI) (limN (by rw [List.length_append, List.length_replicate, List.length_replicate, List.length_replicate]; omega))
    have hF := fm_F ha hc hb
    have c3 := cn_F chk3 rfl _ _ rfl hF
    have c0 := cn_F chk0 rfl _ _ rfl hF
    have u3 := count_ug (E := E3) ⟨by decide, by decide⟩ (stF chk3) hF rfl
    have u0 := count_ug (E := []) ⟨by decide, by decide⟩ (stF chk0) hF rfl
    rw [c3] at u3
    rw [c0] at u0
    simp only [x0, x1, x2, m0, m1, m2, d1, d2, andV, b1, lift_M_some, pure_bind, bind_assoc]
    refine Tri.ugb (v := nI (vl (fm a c b))) u3 ?_
    simp only [ways_of ha hb hc, alike_nI, lift_M_some, pure_bind, asB_bl, if_true, bind_assoc]
    refine Tri.ugb (v := nI 1) u0 ?_
    have a1 : m__law_alike [nI 1, .int 1] = some (.bl true) := alike_nI 1
    simp only [a1, lift_M_some, pure_bind, fin_rt]
    exact Tri.pure rfl
end Q
namespace Q
open PySem PySem.Spec PyProof.Rows L2
theorem law_ok {P : Program} {w : World} {K : PySem.W.Frag} {mg : Str → Option Value} {h : Heap} (T : Tops K mg) {fa : Addr} (hfa : mg "law" = some (.ref fa)) :
    ∃ fd : FuncData, (∀ (s : Shared) (u : Value), BindsTo s fd ⟨[u], []⟩ [("script", u)]) ∧ ∀ base : Heap, K.In base → base.Ns mainGlobals mg → FnOk P w K mg base CX0 41 fa fd ["script"] (spF K 1 m_law) := by
  obtain rfl : T.a_law = fa := by
    have e := T.g_law.symm.trans hfa
    cases e; rfl
  obtain ⟨oc, od, kV, doc, pm, an, cdv, ct, osl, e, lk, hcd⟩ := T.F_law.ex
  refine ⟨T.fd_law, fun s v => ?_, fun base _ _ => ok_law T⟩
  rw [e]
  exact .of_eq rfl
end Q
open PySem PySem.W PyProof.Rows
set_option maxHeartbeats 0 in
theorem PySem.Challenge.cw_oneform_k06_counts_of_words_alike_holds : PySem.Challenge.rw_oneform_k06_counts_of_words_alike.Holds := by
  w_on; o_law; k_head; (case hw => w_witness2)
  k_fill
  refine L2.walk_of (l := PySem.Challenge.rw_oneform_k06_counts_of_words_alike) (n := 63) (k := 41) (x := "script") (CX := fun _ => L2.CX0) (sp := fun w => Q.spF _ 1 Q.m_law) rfl (by decide) rfl ⟨rfl, by decide, by decide⟩ (fun w h Y => PySem.W.kIn_of Y) ?F (fun _ _ a ns hl hO hS => Q.spF_law hO hS (Q.law_true ns hl)) (fun _ _ _ _ _ h => h)
  case F =>
    intro w mg fa h KX G hmg
    refine' Q.law_ok (h := h) (Q.tops_mk KX G ?a__law_alike ?l__law_alike ?c__law_alike ?k__law_alike ?a__law_draws ?l__law_draws ?c__law_draws ?k__law_draws ?a__law_next ?l__law_next ?c__law_next ?k__law_next ?a__law_free ?l__law_free ?c__law_free ?k__law_free ?a__law_is_free ?l__law_is_free ?c__law_is_free ?k__law_is_free ?a__law_lots ?l__law_lots ?c__law_lots ?k__law_lots ?a__law_ways ?l__law_ways ?c__law_ways ?k__law_ways ?a__are_free ?l__are_free ?c__are_free ?k__are_free ?a__first_letters ?l__first_letters ?c__first_letters ?k__first_letters ?a__count ?l__count ?c__count ?k__count ?a_count_alike ?l_count_alike ?c_count_alike ?k_count_alike ?a_law ?l_law ?c_law ?k_law ?z_abs ?z_all ?z_bool ?z_int ?z_isinstance ?z_len ?z_max ?z_min ?z_range ?z_str ?z_sum ?z_tuple) hmg
    (case a__law_alike => k_is); (case l__law_alike => k_is); (case c__law_alike => k_is); (case k__law_alike => k_is); (case a__law_draws => k_is); (case l__law_draws => k_is); (case c__law_draws => k_is); (case k__law_draws => k_is); (case a__law_next => k_is); (case l__law_next => k_is); (case c__law_next => k_is); (case k__law_next => k_is); (case a__law_free => k_is); (case l__law_free => k_is); (case c__law_free => k_is); (case k__law_free => k_is); (case a__law_is_free => k_is); (case l__law_is_free => k_is); (case c__law_is_free => k_is); (case k__law_is_free => k_is); (case a__law_lots => k_is); (case l__law_lots => k_is); (case c__law_lots => k_is); (case k__law_lots => k_is); (case a__law_ways => k_is); (case l__law_ways => k_is); (case c__law_ways => k_is); (case k__law_ways => k_is); (case a__are_free => k_is); (case l__are_free => k_is); (case c__are_free => k_is); (case k__are_free => k_is); (case a__first_letters => k_is); (case l__first_letters => k_is); (case c__first_letters => k_is); (case k__first_letters => k_is); (case a__count => k_is); (case l__count => k_is); (case c__count => k_is); (case k__count => k_is); (case a_count_alike => k_is); (case l_count_alike => k_is); (case c_count_alike => k_is); (case k_count_alike => k_is); (case a_law => k_is); (case l_law => k_is); (case c_law => k_is); (case k_law => k_is); (case z_abs => k_is); (case z_all => k_is); (case z_bool => k_is); (case z_int => k_is); (case z_isinstance => k_is); (case z_len => k_is); (case z_max => k_is); (case z_min => k_is); (case z_range => k_is); (case z_str => k_is); (case z_sum => k_is); (case z_tuple => k_is)
