import PyProof.Rows.All
import Wide.All
import OpenK.AllK
import Wide.FinOn
import PySem.Challenge.RW_wordsapart_k70_whole_words_of_three_sign
import HandS.ForMost
import HandS.Walk
import HandS.TupAny
import KE.GoesNew
import KE.GoesMore
import KE.GoesZip
import KE.GoesEnum
import HandS.IsInst
import HandS.Codes
import HandS.Style
import HandS.Wide
import HandS.WideBits
import HandS.Deep
import PyProof.Rows.RegReprOcc
import PyProof.StrOps2
import PyProof.ListStr
import PyProof.TupleOfStr
import HandS.More
import HandS.ReplaceLit
import HandS.ReplaceList
set_option Elab.async false
set_option linter.all false
set_option maxRecDepth 100000
set_option maxHeartbeats 4000000
/-! # A layer of values: data by value over the hand layer -/
namespace VL
open PySem PySem.Spec PyProof.Rows L2

/-- a key by value -/
abbrev Dk := Sum Int (List Nat)
/-- data by value -/
inductive Dv where
  | non | bl (b : Bool) | int (i : Int) | str (l : List Nat) | tup (xs : List Dv) | lst (xs : List Dv)
  | dic (ks : List Dk) (vs : List Dv) | dit (ks : List (List Dk)) (vs : List Dv) | scr (ns : List Int) | ty (n : String)
  deriving Inhabited

/-- slots: what a def's names hold: nothing, a value, or a mutable thing that this name alone holds (io: the caller's; lk: being walked) -/
inductive Sl where
  | no | val (d : Dv) | mt (io lk : Bool) (d : Dv)
  deriving Inhabited
abbrev En := List Sl
/-- an outcome -/
inductive Rs (α : Type) where
  | ok (a : α) | exc (x : Dv) (ρ : En) | bad
@[simp] def Rs.bind {α β : Type} (r : Rs α) (f : α → Rs β) : Rs β := match r with
  | .ok a => f a
  | .exc x ρ => .exc x ρ
  | .bad => .bad
instance : Monad Rs where
  pure := .ok
  bind := Rs.bind
@[simp] theorem bind_ok {α β : Type} (a : α) (f : α → Rs β) : (Rs.ok a >>= f) = f a := rfl
@[simp] theorem bind_exc {α β : Type} (x : Dv) (ρ : En) (f : α → Rs β) : (Rs.exc x ρ >>= f) = .exc x ρ := rfl
@[simp] theorem bind_bad {α β : Type} (f : α → Rs β) : ((Rs.bad : Rs α) >>= f) = .bad := rfl
@[simp] theorem pure_ok {α : Type} (a : α) : (pure a : Rs α) = .ok a := rfl

/-- a text by its codes -/
def S (l : List Nat) : Str := ⟨l.toArray⟩
def okc (l : List Nat) : Prop := ∀ c ∈ l, c < 0x110000
def kS : Dk → Key
  | .inl i => .inl i
  | .inr l => .inr (S l)
def okk : Dk → Prop
  | .inl _ => True
  | .inr l => okc l

/-- a list that never changes: the script's -/
def ScrAt (K : PySem.W.Frag) (H : Hp) (a : Addr) (ns : List Int) : Prop := (∃ u, H a = some (.frz u (.lst (ns.map V.int)))) ∨
  ∃ (o : Obj) (its : Array Value) (n : Nat), K.lookup a = some o ∧ o.cls = .type "list" ∧ o.dict = none ∧ o.data = .seq its n ∧ its.size ≤ sizeLine ∧ Vals (ns.map V.int) its.toList
theorem ScrAt.seq {K : PySem.W.Frag} {H : Hp} {a : Addr} {ns : List Int} (h : ScrAt K H a ns) : SqL K H a (ns.map V.int) := by
  rcases h with ⟨u, h⟩ | h
  · exact .inl (.inr ⟨u, h⟩)
  · exact .inr h
mutual
/-- v stands for d in H, and nothing that F forbids is leant on -/
inductive Rep (K : PySem.W.Frag) (F : Addr → Prop) (H : Hp) : V → Dv → Prop
  | non : Rep K F H .non .non
  | bl (b : Bool) : Rep K F H (.bl b) (.bl b)
  | int (i : Int) : Rep K F H (.int i) (.int i)
  | str (l : List Nat) (h : okc l) : Rep K F H (.str (S l)) (.str l)
  | tup {a : Addr} {vs : List V} {ds : List Dv} : SqT K H a vs → Reps K F H vs ds → Rep K F H (.ref a) (.tup ds)
  | lst {a : Addr} {vs : List V} {ds : List Dv} : H a = some (.lst vs) → ¬ F a → Reps K F H vs ds → Rep K F H (.ref a) (.lst ds)
  | dic {a : Addr} {kvs : List (Key × V)} {ks : List Dk} {ds : List Dv} : Rd H a (.dK kvs) → ¬ F a → kvs.map (·.1) = ks.map kS → (∀ k ∈ ks, okk k) → Reps K F H (kvs.map (·.2)) ds → Rep K F H (.ref a) (.dic ks ds)
  | dit {a : Addr} {kvs : List (List Key × V)} {ks : List (List Dk)} {ds : List Dv} : Rd H a (.dT kvs) → ¬ F a → kvs.map (·.1) = ks.map (·.map kS) → (∀ k ∈ ks, ∀ x ∈ k, okk x) → Reps K F H (kvs.map (·.2)) ds → Rep K F H (.ref a) (.dit ks ds)
  | scr {a : Addr} {ns : List Int} : ScrAt K H a ns → Rep K F H (.ref a) (.scr ns)
  | ty (n : String) : Rep K F H (.ty n) (.ty n)
inductive Reps (K : PySem.W.Frag) (F : Addr → Prop) (H : Hp) : List V → List Dv → Prop
  | nil : Reps K F H [] []
  | cons {v : V} {vs : List V} {d : Dv} {ds : List Dv} : Rep K F H v d → Reps K F H vs ds → Reps K F H (v :: vs) (d :: ds)
end

/-- a thing that never changes -/
def isTup : HO → Prop
  | .tup _ => True
  | .frz _ (.tup _) => True
  | .frz _ (.lst _) => True
  | _ => False

section
variable {K : PySem.W.Frag} {F F' : Addr → Prop} {H H' : Hp}
theorem sqT_mono {a : Addr} {vs : List V} (h : SqT K H a vs) (ht : ∀ a o, H a = some o → isTup o → H' a = some o) : SqT K H' a vs := by
  rcases h with (h | ⟨o, h⟩) | h
  · exact .inl (.inl (ht _ _ h trivial))
  · exact .inl (.inr ⟨o, ht _ _ h trivial⟩)
  · exact .inr h
theorem scr_mono {a : Addr} {ns : List Int} (h : ScrAt K H a ns) (ht : ∀ a o, H a = some o → isTup o → H' a = some o) : ScrAt K H' a ns := by
  rcases h with ⟨u, h⟩ | h
  · exact .inl ⟨u, ht _ _ h trivial⟩
  · exact .inr h
theorem rd_mono {a : Addr} {o : HO} (h : Rd H a o) (hf : ¬ F a) (hk : ∀ a o, H a = some o → ¬ F a → H' a = some o) : Rd H' a o := by
  rcases h with h | ⟨u, h⟩
  · exact .inl (hk _ _ h hf)
  · exact .inr ⟨u, hk _ _ h hf⟩
mutual
theorem Rep.mono (hF : ∀ a, F' a → F a) (hk : ∀ a o, H a = some o → ¬ F a → H' a = some o) (ht : ∀ a o, H a = some o → isTup o → H' a = some o) : ∀ {v : V} {d : Dv}, Rep K F H v d → Rep K F' H' v d
  | _, _, .non => .non
  | _, _, .bl b => .bl b
  | _, _, .int i => .int i
  | _, _, .str l h => .str l h
  | _, _, .tup h r => .tup (sqT_mono h ht) (Reps.mono hF hk ht r)
  | _, _, .lst h f r => .lst (hk _ _ h f) (fun z => f (hF _ z)) (Reps.mono hF hk ht r)
  | _, _, .dic h f e o r => .dic (rd_mono h f hk) (fun z => f (hF _ z)) e o (Reps.mono hF hk ht r)
  | _, _, .dit h f e o r => .dit (rd_mono h f hk) (fun z => f (hF _ z)) e o (Reps.mono hF hk ht r)
  | _, _, .scr h => .scr (scr_mono h ht)
  | _, _, .ty n => .ty n
theorem Reps.mono (hF : ∀ a, F' a → F a) (hk : ∀ a o, H a = some o → ¬ F a → H' a = some o) (ht : ∀ a o, H a = some o → isTup o → H' a = some o) : ∀ {vs : List V} {ds : List Dv}, Reps K F H vs ds → Reps K F' H' vs ds
  | _, _, .nil => .nil
  | _, _, .cons h r => .cons (Rep.mono hF hk ht h) (Reps.mono hF hk ht r)
end
theorem rd_some {a : Addr} {o : HO} (h : Rd H a o) : H a ≠ none := by
  rcases h with h | ⟨u, h⟩ <;> (rw [h]; simp)
mutual
/-- more is forbidden, if it does not stand yet -/
theorem Rep.more (hF : ∀ a, F' a → F a ∨ H a = none) : ∀ {v : V} {d : Dv}, Rep K F H v d → Rep K F' H v d
  | _, _, .non => .non
  | _, _, .bl b => .bl b
  | _, _, .int i => .int i
  | _, _, .str l h => .str l h
  | _, _, .tup h r => .tup h (Reps.more hF r)
  | _, _, .lst h f r => .lst h (fun z => (hF _ z).elim f fun q => by rw [h] at q; cases q) (Reps.more hF r)
  | _, _, .dic h f e o r => .dic h (fun z => (hF _ z).elim f fun q => rd_some h q) e o (Reps.more hF r)
  | _, _, .dit h f e o r => .dit h (fun z => (hF _ z).elim f fun q => rd_some h q) e o (Reps.more hF r)
  | _, _, .scr h => .scr h
  | _, _, .ty n => .ty n
theorem Reps.more (hF : ∀ a, F' a → F a ∨ H a = none) : ∀ {vs : List V} {ds : List Dv}, Reps K F H vs ds → Reps K F' H vs ds
  | _, _, .nil => .nil
  | _, _, .cons h r => .cons (Rep.more hF h) (Reps.more hF r)
end
theorem Rep.less (h : ∀ a, F' a → F a) {v : V} {d : Dv} (r : Rep K F H v d) : Rep K F' H v d := r.mono h (fun _ _ e _ => e) fun _ _ e _ => e
theorem Reps.less (h : ∀ a, F' a → F a) {vs : List V} {ds : List Dv} (r : Reps K F H vs ds) : Reps K F' H vs ds := r.mono h (fun _ _ e _ => e) fun _ _ e _ => e
theorem Rep.same (h : Same H H') {v : V} {d : Dv} (r : Rep K F H v d) : Rep K F H' v d := r.mono (fun _ z => z) (fun _ _ e _ => h _ _ e) fun _ _ e _ => h _ _ e
theorem Reps.same (h : Same H H') {vs : List V} {ds : List Dv} (r : Reps K F H vs ds) : Reps K F H' vs ds := r.mono (fun _ z => z) (fun _ _ e _ => h _ _ e) fun _ _ e _ => h _ _ e
theorem Reps.length : ∀ {vs : List V} {ds : List Dv}, Reps K F H vs ds → vs.length = ds.length
  | _, _, .nil => rfl
  | _, _, .cons _ r => by rw [List.length_cons, List.length_cons, r.length]
theorem Reps.get : ∀ {vs : List V} {ds : List Dv}, Reps K F H vs ds → ∀ {i : Nat} {v : V}, vs[i]? = some v → ∃ d, ds[i]? = some d ∧ Rep K F H v d
  | _, _, .nil, i, v, h => by simp at h
  | _, _, .cons r _, 0, v, h => by
    simp at h; subst h; exact ⟨_, rfl, r⟩
  | _, _, .cons _ r, i + 1, v, h => by
    obtain ⟨d, e, q⟩ := r.get (i := i) (v := v) (by simpa using h)
    exact ⟨d, by simpa using e, q⟩
theorem Reps.getD : ∀ {vs : List V} {ds : List Dv}, Reps K F H vs ds → ∀ {i : Nat} {d : Dv}, ds[i]? = some d → ∃ v, vs[i]? = some v ∧ Rep K F H v d
  | _, _, .nil, i, v, h => by simp at h
  | _, _, .cons r _, 0, v, h => by
    simp at h; subst h; exact ⟨_, rfl, r⟩
  | _, _, .cons _ r, i + 1, v, h => by
    obtain ⟨d, e, q⟩ := r.getD (i := i) (d := v) (by simpa using h)
    exact ⟨d, by simpa using e, q⟩
theorem Reps.append : ∀ {vs ws : List V} {ds es : List Dv}, Reps K F H vs ds → Reps K F H ws es → Reps K F H (vs ++ ws) (ds ++ es)
  | _, _, _, _, .nil, s => s
  | _, _, _, _, .cons r t, s => .cons r (t.append s)
theorem Reps.take : ∀ {vs : List V} {ds : List Dv} (n : Nat), Reps K F H vs ds → Reps K F H (vs.take n) (ds.take n)
  | _, _, 0, _ => .nil
  | _, _, _ + 1, .nil => .nil
  | _, _, n + 1, .cons r t => .cons r (t.take n)
theorem Reps.drop : ∀ {vs : List V} {ds : List Dv} (n : Nat), Reps K F H vs ds → Reps K F H (vs.drop n) (ds.drop n)
  | _, _, 0, r => r
  | _, _, _ + 1, .nil => .nil
  | _, _, n + 1, .cons _ t => t.drop n
theorem Reps.set : ∀ {vs : List V} {ds : List Dv} (i : Nat) {v : V} {d : Dv}, Rep K F H v d → Reps K F H vs ds → Reps K F H (vs.set i v) (ds.set i d)
  | _, _, _, _, _, _, .nil => .nil
  | _, _, 0, _, _, r, .cons _ t => .cons r t
  | _, _, i + 1, _, _, r, .cons q t => .cons q (t.set i r)
theorem Reps.eraseIdx : ∀ {vs : List V} {ds : List Dv} (i : Nat), Reps K F H vs ds → Reps K F H (vs.eraseIdx i) (ds.eraseIdx i)
  | _, _, _, .nil => .nil
  | _, _, 0, .cons _ t => t
  | _, _, i + 1, .cons q t => .cons q (t.eraseIdx i)
theorem Reps.one {v : V} {d : Dv} (r : Rep K F H v d) : Reps K F H [v] [d] := .cons r .nil
theorem Reps.of_all : ∀ {vs : List V} {ds : List Dv}, vs.length = ds.length → (∀ (i : Nat) (v : V) (d : Dv), vs[i]? = some v → ds[i]? = some d → Rep K F H v d) → Reps K F H vs ds
  | [], [], _, _ => .nil
  | [], _ :: _, h, _ => by simp at h
  | _ :: _, [], h, _ => by simp at h
  | v :: vs, d :: ds, h, f => .cons (f 0 v d rfl rfl) (Reps.of_all (by simpa using h) fun i v d h1 h2 => f (i + 1) v d (by simpa using h1) (by simpa using h2))
theorem Reps.flatten_rep {vs : List V} {ds : List Dv} (r : Reps K F H vs ds) : ∀ k : Nat, Reps K F H (List.replicate k vs).flatten (List.replicate k ds).flatten
  | 0 => .nil
  | k + 1 => by
    rw [List.replicate_succ, List.replicate_succ, List.flatten_cons, List.flatten_cons]
    exact r.append (r.flatten_rep k)
theorem Reps.reverse : ∀ {vs : List V} {ds : List Dv}, Reps K F H vs ds → Reps K F H vs.reverse ds.reverse
  | _, _, .nil => .nil
  | _, _, .cons r t => by
    rw [List.reverse_cons, List.reverse_cons]
    exact t.reverse.append (.one r)
end

/-! ### slots: what a def's names hold -/
/-- the mutable thing at p -/
inductive OwnRep (K : PySem.W.Frag) (F : Addr → Prop) (H : Hp) (lk : Bool) (p : Addr) : Dv → Prop
  | lst {vs : List V} {ds : List Dv} : H p = some (.lst vs) → Reps K F H vs ds → OwnRep K F H lk p (.lst ds)
  | dic {kvs : List (Key × V)} {ks : List Dk} {ds : List Dv} : Rd H p (.dK kvs) → (lk = false → H p = some (.dK kvs)) → kvs.map (·.1) = ks.map kS → (∀ k ∈ ks, okk k) → Reps K F H (kvs.map (·.2)) ds → OwnRep K F H lk p (.dic ks ds)
  | dit {kvs : List (List Key × V)} {ks : List (List Dk)} {ds : List Dv} : Rd H p (.dT kvs) → (lk = false → H p = some (.dT kvs)) → kvs.map (·.1) = ks.map (·.map kS) → (∀ k ∈ ks, ∀ x ∈ k, okk x) → Reps K F H (kvs.map (·.2)) ds → OwnRep K F H lk p (.dit ks ds)
def Own (ρ : En) (σ : L2.St) (a : Addr) : Prop := ∃ (i : Nat) (io lk : Bool) (d : Dv), ρ[i]? = some (.mt io lk d) ∧ σ[i]? = some (some (V.ref a))
/-- what is forbidden: what the caller forbids, and what the names hold by themselves -/
def Fo (G : Addr → Prop) (ρ : En) (σ : L2.St) (a : Addr) : Prop := G a ∨ Own ρ σ a
def SlOk (K : PySem.W.Frag) (F : Addr → Prop) (H : Hp) : Sl → Option (Option V) → Prop
  | .no, _ => True
  | .val d, o => ∃ v, o = some (some v) ∧ Rep K F H v d
  | .mt _ lk d, o => ∃ p, o = some (some (V.ref p)) ∧ OwnRep K F H lk p d
structure EnvOk (K : PySem.W.Frag) (G : Addr → Prop) (ρ : En) (σ : L2.St) (H : Hp) : Prop where
  len : ρ.length = σ.length
  ok : ∀ (i : Nat) (s : Sl), ρ[i]? = some s → SlOk K (Fo G ρ σ) H s σ[i]?
  ap : ∀ (i j : Nat) (a : Addr) (io lk io' lk' : Bool) (d d' : Dv), ρ[i]? = some (.mt io lk d) → σ[i]? = some (some (V.ref a)) → ρ[j]? = some (.mt io' lk' d') → σ[j]? = some (some (V.ref a)) → i = j
  gt : ∀ a, G a → H a ≠ none
  ng : ∀ (i : Nat) (lk : Bool) (d : Dv) (p : Addr), ρ[i]? = some (.mt false lk d) → σ[i]? = some (some (V.ref p)) → ¬ G p
/-- what a step may do -/
structure Tr (ρ : En) (σ : L2.St) (ρ' : En) (σ' : L2.St) (H H' : Hp) : Prop where
  keep : ∀ a o, H a = some o → ¬ Own ρ σ a → H' a = some o
  tup : ∀ a o, H a = some o → isTup o → H' a = some o
  stay : ∀ a, H a ≠ none → H' a ≠ none
  ow : ∀ (i : Nat) (io lk : Bool) (d' : Dv) (p : Addr), ρ'[i]? = some (.mt io lk d') → σ'[i]? = some (some (V.ref p)) → (∃ d lk', ρ[i]? = some (.mt io lk' d) ∧ σ[i]? = some (some (V.ref p))) ∨ (io = false ∧ H p = none)
end VL

namespace VL
open PySem PySem.Spec PyProof.Rows L2
section
variable {K : PySem.W.Frag} {F F' G : Addr → Prop} {H H' H1 H2 : Hp} {ρ ρ' ρ1 ρ2 : En} {σ σ' σ1 σ2 : L2.St}
theorem OwnRep.mono {lk : Bool} {p : Addr} {d : Dv} (hp : ∀ o, H p = some o → H' p = some o) (hF : ∀ a, F' a → F a) (hk : ∀ a o, H a = some o → ¬ F a → H' a = some o) (ht : ∀ a o, H a = some o → isTup o → H' a = some o) (r : OwnRep K F H lk p d) : OwnRep K F' H' lk p d := by
  cases r with
  | lst h r => exact .lst (hp _ h) (r.mono hF hk ht)
  | dic h h2 e o r =>
    refine .dic ?_ (fun z => hp _ (h2 z)) e o (r.mono hF hk ht)
    rcases h with h | ⟨u, h⟩
    · exact .inl (hp _ h)
    · exact .inr ⟨u, hp _ h⟩
  | dit h h2 e o r =>
    refine .dit ?_ (fun z => hp _ (h2 z)) e o (r.mono hF hk ht)
    rcases h with h | ⟨u, h⟩
    · exact .inl (hp _ h)
    · exact .inr ⟨u, hp _ h⟩
theorem OwnRep.more {lk : Bool} {p : Addr} {d : Dv} (hF : ∀ a, F' a → F a ∨ H a = none) (r : OwnRep K F H lk p d) : OwnRep K F' H lk p d := by
  cases r with
  | lst h r => exact .lst h (r.more hF)
  | dic h h2 e o r => exact .dic h h2 e o (r.more hF)
  | dit h h2 e o r => exact .dit h h2 e o (r.more hF)
theorem OwnRep.less {lk : Bool} {p : Addr} {d : Dv} (h : ∀ a, F' a → F a) (r : OwnRep K F H lk p d) : OwnRep K F' H lk p d := r.mono (fun _ z => z) h (fun _ _ e _ => e) fun _ _ e _ => e
theorem OwnRep.same {lk : Bool} {p : Addr} {d : Dv} (h : Same H H') (r : OwnRep K F H lk p d) : OwnRep K F H' lk p d := r.mono (fun _ e => h _ _ e) (fun _ z => z) (fun _ _ e _ => h _ _ e) fun _ _ e _ => h _ _ e
theorem OwnRep.there {lk : Bool} {p : Addr} {d : Dv} (r : OwnRep K F H lk p d) : ∃ o, H p = some o ∧ ¬ isTup o := by
  cases r with
  | lst h r => exact ⟨_, h, fun z => z⟩
  | dic h h2 e o r =>
    rcases h with h | ⟨u, h⟩
    · exact ⟨_, h, fun z => z⟩
    · exact ⟨_, h, fun z => z⟩
  | dit h h2 e o r =>
    rcases h with h | ⟨u, h⟩
    · exact ⟨_, h, fun z => z⟩
    · exact ⟨_, h, fun z => z⟩
theorem OwnRep.rep {lk : Bool} {p : Addr} {d : Dv} (hf : ¬ F p) (r : OwnRep K F H lk p d) : Rep K F H (.ref p) d := by
  cases r with
  | lst h r => exact .lst h hf r
  | dic h h2 e o r => exact .dic h hf e o r
  | dit h h2 e o r => exact .dit h hf e o r
theorem SlOk.mono {s : Sl} {o : Option (Option V)} (r : SlOk K F H s o) (hp : ∀ p io lk d, s = .mt io lk d → o = some (some (V.ref p)) → ∀ o, H p = some o → H' p = some o) (hF : ∀ a, F' a → F a) (hk : ∀ a o, H a = some o → ¬ F a → H' a = some o)
    (ht : ∀ a o, H a = some o → isTup o → H' a = some o) : SlOk K F' H' s o := by
  cases s with
  | no => trivial
  | val d => obtain ⟨v, e, r⟩ := r; exact ⟨v, e, r.mono hF hk ht⟩
  | mt io lk d => obtain ⟨p, e, r⟩ := r; exact ⟨p, e, r.mono (hp p io lk d rfl e) hF hk ht⟩
theorem SlOk.more {s : Sl} {o : Option (Option V)} (r : SlOk K F H s o) (hF : ∀ a, F' a → F a ∨ H a = none) : SlOk K F' H s o := by
  cases s with
  | no => trivial
  | val d => obtain ⟨v, e, r⟩ := r; exact ⟨v, e, r.more hF⟩
  | mt io lk d => obtain ⟨p, e, r⟩ := r; exact ⟨p, e, r.more hF⟩
theorem EnvOk.own (E : EnvOk K G ρ σ H) {a : Addr} (h : Own ρ σ a) : ∃ o, H a = some o ∧ ¬ isTup o := by
  obtain ⟨i, io, lk, d, h1, h2⟩ := h
  obtain ⟨p, e, r⟩ := E.ok i _ h1
  rw [h2] at e
  cases e
  exact r.there
theorem EnvOk.fo (E : EnvOk K G ρ σ H) {a : Addr} (h : Fo G ρ σ a) : H a ≠ none := by
  rcases h with h | h
  · exact E.gt a h
  · obtain ⟨o, e, _⟩ := E.own h
    rw [e]
    simp
theorem EnvOk.same (E : EnvOk K G ρ σ H) (h : Same H H') : EnvOk K G ρ σ H' where
  len := E.len
  ok := fun i s e => (E.ok i s e).mono (fun _ _ _ _ _ _ o e => h _ _ e) (fun _ z => z) (fun _ _ e _ => h _ _ e) fun _ _ e _ => h _ _ e
  ap := E.ap
  gt := fun a g => by
    intro z
    exact E.gt a g (h.free z)
  ng := E.ng
theorem EnvOk.congrF (E : EnvOk K G ρ σ H) {G' : Addr → Prop} (h : ∀ a, G' a → G a ∨ H a = none) (hg : ∀ a, G' a → H a ≠ none) : EnvOk K G' ρ σ H where
  len := E.len
  ok := fun i s e => (E.ok i s e).more fun a z => by
    rcases z with z | z
    · rcases h a z with q | q
      · exact .inl (.inl q)
      · exact .inr q
    · exact .inl (.inr z)
  ap := E.ap
  gt := hg
  ng := fun i lk d p h1 h2 z => by
    rcases h p z with q | q
    · exact E.ng i lk d p h1 h2 q
    · obtain ⟨o, e, _⟩ := E.own ⟨i, false, lk, d, h1, h2⟩
      rw [q] at e
      cases e
theorem Tr.refl : Tr ρ σ ρ σ H H := ⟨fun _ _ h _ => h, fun _ _ h _ => h, fun _ h => h, fun i io lk d' p h1 h2 => .inl ⟨d', lk, h1, h2⟩⟩
theorem Tr.of_same (h : Same H H') : Tr ρ σ ρ σ H H' := ⟨fun _ _ e _ => h _ _ e, fun _ _ e _ => h _ _ e, fun a h1 h2 => h1 (h.free h2), fun i io lk d' p h1 h2 => .inl ⟨d', lk, h1, h2⟩⟩
theorem Tr.own (t : Tr ρ σ ρ' σ' H H') {a : Addr} (h : Own ρ' σ' a) : Own ρ σ a ∨ H a = none := by
  obtain ⟨i, io, lk, d, h1, h2⟩ := h
  rcases t.ow i io lk d a h1 h2 with ⟨d0, lk0, q1, q2⟩ | ⟨_, q⟩
  · exact .inl ⟨i, io, lk0, d0, q1, q2⟩
  · exact .inr q
theorem Tr.trans (t : Tr ρ σ ρ1 σ1 H H1) (u : Tr ρ1 σ1 ρ2 σ2 H1 H2) : Tr ρ σ ρ2 σ2 H H2 where
  keep := fun a o h n => u.keep a o (t.keep a o h n) fun q => (t.own q).elim n fun z => by rw [h] at z; cases z
  tup := fun a o h n => u.tup a o (t.tup a o h n) n
  stay := fun a h => u.stay a (t.stay a h)
  ow := fun i io lk d' p h1 h2 => by
    rcases u.ow i io lk d' p h1 h2 with ⟨d0, lk0, q1, q2⟩ | ⟨q1, q2⟩
    · exact t.ow i io lk0 d0 p q1 q2
    · refine .inr ⟨q1, ?_⟩
      cases e : H p with
      | none => rfl
      | some o => exact absurd q2 (t.stay p (by rw [e]; simp))
theorem Tr.same (t : Tr ρ σ ρ' σ' H H1) (h : Same H1 H2) : Tr ρ σ ρ' σ' H H2 := t.trans (.of_same h)
theorem Tr.fo (t : Tr ρ σ ρ' σ' H H') {a : Addr} (h : Fo G ρ' σ' a) : Fo G ρ σ a ∨ H a = none := by
  rcases h with h | h
  · exact .inl (.inl h)
  · rcases t.own h with q | q
    · exact .inl (.inr q)
    · exact .inr q
/-- what stood for d stands for it behind a step -/
theorem Rep.tr (t : Tr ρ σ ρ' σ' H H') {v : V} {d : Dv} (r : Rep K (Fo G ρ σ) H v d) : Rep K (Fo G ρ' σ') H' v d := by
  have r1 : Rep K (fun a => Fo G ρ σ a ∨ Fo G ρ' σ' a) H v d := r.more fun a z => z.elim .inl t.fo
  exact r1.mono (fun a z => .inr z) (fun a o e n => t.keep a o e fun z => n (.inl (.inr z))) t.tup
theorem Reps.tr (t : Tr ρ σ ρ' σ' H H') {vs : List V} {ds : List Dv} (r : Reps K (Fo G ρ σ) H vs ds) : Reps K (Fo G ρ' σ') H' vs ds := by
  have r1 : Reps K (fun a => Fo G ρ σ a ∨ Fo G ρ' σ' a) H vs ds := r.more fun a z => z.elim .inl t.fo
  exact r1.mono (fun a z => .inr z) (fun a o e n => t.keep a o e fun z => n (.inl (.inr z))) t.tup
/-! ### the steps -/
theorem own_set (hi : ∀ j : Nat, ρ[j]? = none → σ[j]? = none) {i : Nat} {s : Sl} {o : Option V} {a : Addr} (h : Own (ρ.set i s) (σ.set i o) a) : Own ρ σ a ∨ (∃ io lk d, s = .mt io lk d ∧ o = some (V.ref a)) := by
  obtain ⟨j, io, lk, d, h1, h2⟩ := h
  by_cases hj : i = j
  · subst hj
    rw [List.getElem?_set] at h1 h2
    simp only [if_true] at h1 h2
    split at h1
    · split at h2
      · cases h1
        exact .inr ⟨io, lk, d, rfl, by simpa using h2⟩
      · cases h2
    · cases h1
  · rw [List.getElem?_set_ne hj] at h1 h2
    exact .inl ⟨j, io, lk, d, h1, h2⟩
theorem EnvOk.nn (E : EnvOk K G ρ σ H) (j : Nat) (h : ρ[j]? = none) : σ[j]? = none := by
  rw [List.getElem?_eq_none_iff] at h ⊢
  rw [← E.len]
  exact h
theorem set_same {σ : L2.St} {i : Nat} {o : Option V} (h : σ[i]? = some o) : σ.set i o = σ := by
  apply List.ext_getElem?
  intro j
  rw [List.getElem?_set]
  split
  · rename_i e
    subst e
    obtain ⟨hl, e⟩ := List.getElem?_eq_some_iff.mp h
    rw [if_pos hl, h]
  · rfl
/-- a slot takes a value -/
theorem EnvOk.put (E : EnvOk K G ρ σ H) {i : Nat} {v : V} {d : Dv} (hi : i < ρ.length) (r : Rep K (Fo G ρ σ) H v d) : EnvOk K G (ρ.set i (.val d)) (σ.set i (some v)) H ∧ Tr ρ σ (ρ.set i (.val d)) (σ.set i (some v)) H H := by
  have hF : ∀ a, Fo G (ρ.set i (.val d)) (σ.set i (some v)) a → Fo G ρ σ a := fun a z => by
    rcases z with z | z
    · exact .inl z
    · rcases own_set E.nn z with q | ⟨_, _, _, q, _⟩
      · exact .inr q
      · cases q
  have get : ∀ j io lk d', (ρ.set i (.val d))[j]? = some (.mt io lk d') → j ≠ i ∧ ρ[j]? = some (.mt io lk d') := fun j io lk d' h => by
    by_cases hj : i = j
    · subst hj
      rw [List.getElem?_set_self hi] at h
      cases h
    · rw [List.getElem?_set_ne hj] at h
      exact ⟨Ne.symm hj, h⟩
  refine ⟨⟨by rw [List.length_set, List.length_set]; exact E.len, fun j s h => ?_, fun j k a io lk io' lk' d1 d2 h1 h2 h3 h4 => ?_, E.gt, fun j lk d' p h1 h2 => ?_⟩, fun _ _ h _ => h, fun _ _ h _ => h, fun _ h => h, fun j io lk d' p h1 h2 => ?_⟩
  · by_cases hj : i = j
    · subst hj
      rw [List.getElem?_set_self hi] at h
      cases h
      rw [List.getElem?_set_self (by rw [← E.len]; exact hi)]
      exact ⟨v, rfl, r.less hF⟩
    · rw [List.getElem?_set_ne hj] at h ⊢
      exact (E.ok j s h).mono (fun _ _ _ _ _ _ o e => e) hF (fun _ _ e _ => e) fun _ _ e _ => e
  · obtain ⟨n1, q1⟩ := get j io lk d1 h1
    obtain ⟨n2, q2⟩ := get k io' lk' d2 h3
    rw [List.getElem?_set_ne (Ne.symm n1)] at h2
    rw [List.getElem?_set_ne (Ne.symm n2)] at h4
    exact E.ap j k a io lk io' lk' d1 d2 q1 h2 q2 h4
  · obtain ⟨n1, q1⟩ := get j false lk d' h1
    rw [List.getElem?_set_ne (Ne.symm n1)] at h2
    exact E.ng j lk d' p q1 h2
  · obtain ⟨n1, q1⟩ := get j io lk d' h1
    rw [List.getElem?_set_ne (Ne.symm n1)] at h2
    exact .inl ⟨d', lk, q1, h2⟩
/-- more is forbidden -/
def Gp (G : Addr → Prop) (p : Addr) : Addr → Prop := fun a => G a ∨ a = p
/-- a slot takes a new mutable thing -/
theorem EnvOk.putNew {p : Addr} (E : EnvOk K (Gp G p) ρ σ H) {i : Nat} {d : Dv} (hi : i < ρ.length) (hg : ∀ a, G a → H a ≠ none) (hp : ¬ Own ρ σ p) (hnG : ¬ G p) (r : OwnRep K (Fo (Gp G p) ρ σ) H false p d) : EnvOk K G (ρ.set i (.mt false false d)) (σ.set i (some (V.ref p))) H := by
  have hF : ∀ a, Fo G (ρ.set i (.mt false false d)) (σ.set i (some (V.ref p))) a → Fo (Gp G p) ρ σ a := fun a z => by
    rcases z with z | z
    · exact .inl (.inl z)
    · rcases own_set E.nn z with q | ⟨_, _, _, q, q2⟩
      · exact .inr q
      · cases q2
        exact .inl (.inr rfl)
  have get : ∀ j io lk d', (ρ.set i (.mt false false d))[j]? = some (.mt io lk d') → (j = i) ∨ (j ≠ i ∧ ρ[j]? = some (.mt io lk d')) := fun j io lk d' h => by
    by_cases hj : i = j
    · exact .inl hj.symm
    · rw [List.getElem?_set_ne hj] at h
      exact .inr ⟨Ne.symm hj, h⟩
  have hi2 : i < σ.length := by rw [← E.len]; exact hi
  refine ⟨by rw [List.length_set, List.length_set]; exact E.len, fun j s h => ?_, fun j k a io lk io' lk' d1 d2 h1 h2 h3 h4 => ?_, hg, fun j lk d' q h1 h2 => ?_⟩
  · by_cases hj : i = j
    · subst hj
      rw [List.getElem?_set_self hi] at h
      cases h
      rw [List.getElem?_set_self hi2]
      exact ⟨p, rfl, r.less hF⟩
    · rw [List.getElem?_set_ne hj] at h ⊢
      exact (E.ok j s h).mono (fun _ _ _ _ _ _ o e => e) hF (fun _ _ e _ => e) fun _ _ e _ => e
  · rcases get j io lk d1 h1 with e1 | ⟨n1, q1⟩
    · rcases get k io' lk' d2 h3 with e2 | ⟨n2, q2⟩
      · rw [e1, e2]
      · subst e1
        rw [List.getElem?_set_self hi2] at h2
        cases h2
        rw [List.getElem?_set_ne (Ne.symm n2)] at h4
        exact absurd ⟨k, io', lk', d2, q2, h4⟩ hp
    · rcases get k io' lk' d2 h3 with e2 | ⟨n2, q2⟩
      · subst e2
        rw [List.getElem?_set_self hi2] at h4
        cases h4
        rw [List.getElem?_set_ne (Ne.symm n1)] at h2
        exact absurd ⟨j, io, lk, d1, q1, h2⟩ hp
      · rw [List.getElem?_set_ne (Ne.symm n1)] at h2
        rw [List.getElem?_set_ne (Ne.symm n2)] at h4
        exact E.ap j k a io lk io' lk' d1 d2 q1 h2 q2 h4
  · rcases get j false lk d' h1 with e1 | ⟨n1, q1⟩
    · subst e1
      rw [List.getElem?_set_self hi2] at h2
      cases h2
      exact hnG
    · rw [List.getElem?_set_ne (Ne.symm n1)] at h2
      exact fun z => E.ng j lk d' q q1 h2 (.inl z)
theorem Tr.putNew {p : Addr} {i : Nat} {d : Dv} (hi : i < ρ.length) (hl : ρ.length = σ.length) (hp : H p = none) : Tr ρ σ (ρ.set i (.mt false false d)) (σ.set i (some (V.ref p))) H H :=
  ⟨fun _ _ h _ => h, fun _ _ h _ => h, fun _ h => h, fun j io lk d' q h1 h2 => by
    by_cases hj : i = j
    · subst hj
      rw [List.getElem?_set_self hi] at h1
      rw [List.getElem?_set_self (by rw [← hl]; exact hi)] at h2
      cases h1
      cases h2
      exact .inr ⟨rfl, hp⟩
    · rw [List.getElem?_set_ne hj] at h1 h2
      exact .inl ⟨d', lk, h1, h2⟩⟩
/-- a mutable thing changes -/
theorem EnvOk.mut (E : EnvOk K G ρ σ H) {i : Nat} {io lk lk' : Bool} {d d' : Dv} {p : Addr} (hρ : ρ[i]? = some (.mt io lk d)) (hσ : σ[i]? = some (some (V.ref p))) (hk : ∀ a o, a ≠ p → H a = some o → H' a = some o) (hp : H' p ≠ none)
    (r : OwnRep K (Fo G ρ σ) H' lk' p d') : EnvOk K G (ρ.set i (.mt io lk' d')) σ H' ∧ Tr ρ σ (ρ.set i (.mt io lk' d')) σ H H' := by
  have hi : i < ρ.length := (List.getElem?_eq_some_iff.mp hρ).1
  have own1 : ∀ a, Own (ρ.set i (.mt io lk' d')) σ a → Own ρ σ a := fun a ⟨j, io1, lk1, d1, h1, h2⟩ => by
    by_cases hj : i = j
    · subst hj
      exact ⟨i, io, lk, d, hρ, h2⟩
    · rw [List.getElem?_set_ne hj] at h1
      exact ⟨j, io1, lk1, d1, h1, h2⟩
  have hF : ∀ a, Fo G (ρ.set i (.mt io lk' d')) σ a → Fo G ρ σ a := fun a z => z.elim .inl fun q => .inr (own1 a q)
  have ownp : Own ρ σ p := ⟨i, io, lk, d, hρ, hσ⟩
  obtain ⟨op, hop, ntp⟩ := E.own ownp
  have keep : ∀ a o, H a = some o → ¬ Fo G ρ σ a → H' a = some o := fun a o h n => hk a o (fun z => by subst z; exact n (.inr ownp)) h
  have tup : ∀ a o, H a = some o → isTup o → H' a = some o := fun a o h n => hk a o (fun z => by subst z; rw [hop] at h; cases h; exact ntp n) h
  have stay : ∀ a, H a ≠ none → H' a ≠ none := fun a h => by
    by_cases e : a = p
    · subst e; exact hp
    · cases q : H a with
      | none => exact absurd q h
      | some o => rw [hk a o e q]; simp
  have get : ∀ (j : Nat) (io1 lk1 : Bool) (d1 : Dv), (ρ.set i (.mt io lk' d'))[j]? = some (.mt io1 lk1 d1) → ∃ (lk2 : Bool) (d2 : Dv), ρ[j]? = some (.mt io1 lk2 d2) := fun j io1 lk1 d1 h => by
    by_cases hj : i = j
    · subst hj
      rw [List.getElem?_set_self hi] at h
      cases h
      exact ⟨lk, d, hρ⟩
    · rw [List.getElem?_set_ne hj] at h
      exact ⟨lk1, d1, h⟩
  refine ⟨⟨by rw [List.length_set]; exact E.len, fun j s h => ?_, fun j k a io1 lk1 io2 lk2 d1 d2 h1 h2 h3 h4 => ?_, fun a g => stay a (E.gt a g), fun j lk1 d1 q h1 h2 => ?_⟩, fun a o h n => hk a o (fun z => by subst z; exact n ownp) h, tup, stay, fun j io1 lk1 d1 q h1 h2 => ?_⟩
  · by_cases hj : i = j
    · subst hj
      rw [List.getElem?_set_self hi] at h
      cases h
      exact ⟨p, hσ, r.less hF⟩
    · rw [List.getElem?_set_ne hj] at h
      refine (E.ok j s h).mono (fun q io1 lk1 d1 e1 e2 o e => hk q o (fun z => ?_) e) hF keep tup
      subst z
      subst e1
      exact hj (E.ap i j q io lk io1 lk1 d d1 hρ hσ h e2)
  · obtain ⟨lk3, d3, q1⟩ := get j io1 lk1 d1 h1
    obtain ⟨lk4, d4, q2⟩ := get k io2 lk2 d2 h3
    exact E.ap j k a io1 lk3 io2 lk4 d3 d4 q1 h2 q2 h4
  · obtain ⟨lk3, d3, q1⟩ := get j false lk1 d1 h1
    exact E.ng j lk3 d3 q q1 h2
  · obtain ⟨lk3, d3, q1⟩ := get j io1 lk1 d1 h1
    exact .inl ⟨d3, lk3, q1, h2⟩
/-- a mutable thing that is mutable no more -/
theorem EnvOk.freeze (E : EnvOk K G ρ σ H) {i : Nat} {lk : Bool} {d : Dv} {p : Addr} (hρ : ρ[i]? = some (.mt false lk d)) (hσ : σ[i]? = some (some (V.ref p))) :
    EnvOk K G (ρ.set i (.val d)) σ H ∧ Tr ρ σ (ρ.set i (.val d)) σ H H ∧ Rep K (Fo G (ρ.set i (.val d)) σ) H (.ref p) d := by
  have hG : ¬ G p := E.ng i lk d p hρ hσ
  have hi : i < ρ.length := (List.getElem?_eq_some_iff.mp hρ).1
  have own1 : ∀ a, Own (ρ.set i (.val d)) σ a → Own ρ σ a ∧ a ≠ p := fun a ⟨j, io1, lk1, d1, h1, h2⟩ => by
    by_cases hj : i = j
    · subst hj
      rw [List.getElem?_set_self hi] at h1
      cases h1
    · rw [List.getElem?_set_ne hj] at h1
      refine ⟨⟨j, io1, lk1, d1, h1, h2⟩, fun z => ?_⟩
      subst z
      exact hj (E.ap i j a false lk io1 lk1 d d1 hρ hσ h1 h2)
  have hF : ∀ a, Fo G (ρ.set i (.val d)) σ a → Fo G ρ σ a := fun a z => z.elim .inl fun q => .inr (own1 a q).1
  have nF : ¬ Fo G (ρ.set i (.val d)) σ p := fun z => z.elim hG fun q => (own1 p q).2 rfl
  have r0 : Rep K (Fo G (ρ.set i (.val d)) σ) H (.ref p) d := by
    obtain ⟨p', e, r⟩ := E.ok i _ hρ
    rw [hσ] at e
    cases e
    exact (r.less hF).rep nF
  have get : ∀ j io lk d', (ρ.set i (.val d))[j]? = some (.mt io lk d') → j ≠ i ∧ ρ[j]? = some (.mt io lk d') := fun j io lk d' h => by
    by_cases hj : i = j
    · subst hj
      rw [List.getElem?_set_self hi] at h
      cases h
    · rw [List.getElem?_set_ne hj] at h
      exact ⟨Ne.symm hj, h⟩
  refine ⟨⟨by rw [List.length_set]; exact E.len, fun j s h => ?_, fun j k a io lk io' lk' d1 d2 h1 h2 h3 h4 => ?_, E.gt, fun j lk d' q h1 h2 => ?_⟩, ⟨fun _ _ h _ => h, fun _ _ h _ => h, fun _ h => h, fun j io lk d' p h1 h2 => ?_⟩, r0⟩
  · by_cases hj : i = j
    · subst hj
      rw [List.getElem?_set_self hi] at h
      cases h
      exact ⟨_, hσ, r0⟩
    · rw [List.getElem?_set_ne hj] at h
      exact (E.ok j s h).mono (fun _ _ _ _ _ _ o e => e) hF (fun _ _ e _ => e) fun _ _ e _ => e
  · exact E.ap j k a io lk io' lk' d1 d2 (get j io lk d1 h1).2 h2 (get k io' lk' d2 h3).2 h4
  · exact E.ng j lk d' q (get j false lk d' h1).2 h2
  · exact .inl ⟨d', lk, (get j io lk d' h1).2, h2⟩
theorem EnvOk.fresh {p : Addr} (E : EnvOk K G ρ σ H) (h : Same H H') (hp : H p = none) (hp' : H' p ≠ none) : EnvOk K (Gp G p) ρ σ H' where
  len := E.len
  ok := fun i s e => ((E.ok i s e).more (F' := Fo (Gp G p) ρ σ) fun a z => by
    rcases z with (z | z) | z
    · exact .inl (.inl z)
    · exact .inr (by rw [z]; exact hp)
    · exact .inl (.inr z)).mono (fun _ _ _ _ _ _ o e => h _ _ e) (fun _ z => z) (fun _ _ e _ => h _ _ e) fun _ _ e _ => h _ _ e
  ap := E.ap
  gt := fun a z => by
    rcases z with z | z
    · exact fun q => E.gt a z (h.free q)
    · rw [z]; exact hp'
  ng := fun i lk d q h1 h2 z => by
    rcases z with z | z
    · exact E.ng i lk d q h1 h2 z
    · obtain ⟨o, e, _⟩ := E.own ⟨i, false, lk, d, h1, h2⟩
      rw [z, hp] at e
      cases e
/-- a new thing that no name holds is a value like others -/
theorem EnvOk.drop {p : Addr} (E : EnvOk K (Gp G p) ρ σ H) (hg : ∀ a, G a → H a ≠ none) : EnvOk K G ρ σ H :=
  E.congrF (fun a z => .inl (.inl z)) hg
theorem EnvOk.nfo {p : Addr} (E' : EnvOk K (Gp G p) ρ' σ' H') (t : Tr ρ σ ρ' σ' H H') (E : EnvOk K G ρ σ H) (n : H p = none) : ¬ Fo G ρ' σ' p := fun z => by
  rcases z with z | ⟨i, io, lk, d, h1, h2⟩
  · exact E.gt p z n
  · cases io with
    | false => exact E'.ng i lk d p h1 h2 (.inr rfl)
    | true =>
      rcases t.ow i true lk d p h1 h2 with ⟨d2, lk2, q1, q2⟩ | ⟨q1, _⟩
      · obtain ⟨o, e, _⟩ := E.own ⟨i, true, lk2, d2, q1, q2⟩
        rw [n] at e
        cases e
      · cases q1
end
end VL

namespace VL
open PySem PySem.Spec PyProof.Rows L2
/-- an expression, a test -/
abbrev M := En → Rs (Dv × En)
abbrev MT := En → Rs (Bool × En)
/-- an operand: a name's own thing, or a value -/
inductive Op where
  | sl (i : Nat) | ex (m : M)
def getSl (ρ : En) (i : Nat) : Rs Dv := match ρ[i]? with
  | some (.val d) => .ok d
  | some (.mt _ _ d) => .ok d
  | _ => .bad
def evOps : List Op → En → Rs (List Dv × En)
  | [], ρ => .ok ([], ρ)
  | .ex m :: r, ρ => m ρ >>= fun x => evOps r x.2 >>= fun y => .ok (x.1 :: y.1, y.2)
  | .sl i :: r, ρ => getSl ρ i >>= fun _ => evOps r ρ >>= fun y => getSl y.2 i >>= fun d => .ok (d :: y.1, y.2)
/-- what is wished of an exception -/
abbrev WK := Dv → L2.St → Hp → Prop
section
variable {K : PySem.W.Frag} {F F' G : Addr → Prop} {H H' H1 H2 : Hp} {ρ ρ' ρ1 ρ2 : En} {σ σ' σ1 σ2 : L2.St} {W : WK}
/-- the readings -/
def PV (K : PySem.W.Frag) (W : WK) (G : Addr → Prop) (ρ : En) (σ : L2.St) (H : Hp) (r : Rs (Dv × En)) (Q : VK) : Prop := match r with
  | .ok (d, ρ') => ∀ v H', EnvOk K G ρ' σ H' → Tr ρ σ ρ' σ H H' → Rep K (Fo G ρ' σ) H' v d → Q v H'
  | .exc x ρ' => ∀ H', EnvOk K G ρ' σ H' → Tr ρ σ ρ' σ H H' → W x σ H'
  | .bad => False
def tV (K : PySem.W.Frag) (W : WK) (m : M) : TE := fun σ H Q => ∃ G ρ, EnvOk K G ρ σ H ∧ PV K W G ρ σ H (m ρ) Q
/-- .. of a new mutable thing -/
def PN (K : PySem.W.Frag) (W : WK) (G : Addr → Prop) (ρ : En) (σ : L2.St) (H : Hp) (r : Rs (Dv × En)) (Q : VK) : Prop := match r with
  | .ok (d, ρ') => ∀ p H', EnvOk K (Gp G p) ρ' σ H' → Tr ρ σ ρ' σ H H' → H p = none → OwnRep K (Fo (Gp G p) ρ' σ) H' false p d → Q (.ref p) H'
  | .exc x ρ' => ∀ H', EnvOk K G ρ' σ H' → Tr ρ σ ρ' σ H H' → W x σ H'
  | .bad => False
def tN (K : PySem.W.Frag) (W : WK) (m : M) : TE := fun σ H Q => ∃ G ρ, EnvOk K G ρ σ H ∧ PN K W G ρ σ H (m ρ) Q
def PB (K : PySem.W.Frag) (W : WK) (G : Addr → Prop) (ρ : En) (σ : L2.St) (H : Hp) (r : Rs (Bool × En)) (Q : Bool → Hp → Prop) : Prop := match r with
  | .ok (b, ρ') => ∀ H', EnvOk K G ρ' σ H' → Tr ρ σ ρ' σ H H' → Q b H'
  | .exc x ρ' => ∀ H', EnvOk K G ρ' σ H' → Tr ρ σ ρ' σ H H' → W x σ H'
  | .bad => False
def tB (K : PySem.W.Frag) (W : WK) (m : MT) : TT := fun σ H Q => ∃ G ρ, EnvOk K G ρ σ H ∧ PB K W G ρ σ H (m ρ) Q
def tO (K : PySem.W.Frag) (W : WK) : Op → TE
  | .sl i => tVar i
  | .ex m => tV K W m
def tOs (K : PySem.W.Frag) (W : WK) : List Op → TA
  | [] => tNil
  | o :: r => tCons (tO K W o) (tOs K W r)
/-- v stands for d, or is the mutable thing itself that a name holds -/
def RepB (K : PySem.W.Frag) (F : Addr → Prop) (H : Hp) (v : V) (d : Dv) : Prop := Rep K F H v d ∨ ∃ p lk, v = .ref p ∧ F p ∧ OwnRep K F H lk p d
inductive RepBs (K : PySem.W.Frag) (F : Addr → Prop) (H : Hp) : List V → List Dv → Prop
  | nil : RepBs K F H [] []
  | cons {v : V} {vs : List V} {d : Dv} {ds : List Dv} : RepB K F H v d → RepBs K F H vs ds → RepBs K F H (v :: vs) (d :: ds)
/-- what a name's slot holds, behind a step -/
theorem EnvOk.slot (E : EnvOk K G ρ σ H) {i : Nat} {d : Dv} (h : getSl ρ i = .ok d) : ∃ v, σ[i]? = some (some v) ∧ RepB K (Fo G ρ σ) H v d := by
  unfold getSl at h
  split at h
  · rename_i d' e
    cases h
    obtain ⟨v, e1, r⟩ := E.ok i _ e
    exact ⟨v, e1, .inl r⟩
  · rename_i io lk d' e
    cases h
    obtain ⟨p, e1, r⟩ := E.ok i _ e
    exact ⟨.ref p, e1, .inr ⟨p, lk, rfl, .inr ⟨i, io, lk, d, e, e1⟩, r⟩⟩
  · cases h
def PO (K : PySem.W.Frag) (W : WK) (G : Addr → Prop) (ρ : En) (σ : L2.St) (H : Hp) (r : Rs (List Dv × En)) (Q : List V → Hp → Prop) : Prop := match r with
  | .ok (ds, ρ') => ∀ vs H', EnvOk K G ρ' σ H' → Tr ρ σ ρ' σ H H' → RepBs K (Fo G ρ' σ) H' vs ds → Q vs H'
  | .exc x ρ' => ∀ H', EnvOk K G ρ' σ H' → Tr ρ σ ρ' σ H H' → W x σ H'
  | .bad => False
theorem tOs_of : ∀ (ops : List Op) (ρ : En) (H : Hp) (Q : List V → Hp → Prop), EnvOk K G ρ σ H → PO K W G ρ σ H (evOps ops ρ) Q → tOs K W ops σ H Q
  | [], ρ, H, Q, E, h => h [] H E .refl .nil
  | .ex m :: r, ρ, H, Q, E, h => by
    show tV K W m σ H fun x H1 => tOs K W r σ H1 fun xs H2 => Q (x :: xs) H2
    refine ⟨G, ρ, E, ?_⟩
    have h' : PO K W G ρ σ H (m ρ >>= fun x => evOps r x.2 >>= fun y => .ok (x.1 :: y.1, y.2)) Q := h
    cases e : m ρ with
    | bad => rw [e] at h'; exact h'.elim
    | exc x ρx => rw [e] at h'; exact h'
    | ok p =>
      obtain ⟨d, ρ1⟩ := p
      rw [e] at h'
      intro v H1 E1 t1 r1
      refine tOs_of r ρ1 H1 _ E1 ?_
      have h2 : PO K W G ρ σ H (evOps r ρ1 >>= fun y => .ok (d :: y.1, y.2)) Q := h'
      cases e2 : evOps r ρ1 with
      | bad => rw [e2] at h2; exact h2.elim
      | exc x ρx => rw [e2] at h2; exact fun H2 E2 t2 => h2 H2 E2 (t1.trans t2)
      | ok q =>
        obtain ⟨ds, ρ2⟩ := q
        rw [e2] at h2
        intro vs H2 E2 t2 r2
        exact h2 (v :: vs) H2 E2 (t1.trans t2) (.cons (.inl (r1.tr t2)) r2)
  | .sl i :: r, ρ, H, Q, E, h => by
    have h' : PO K W G ρ σ H (getSl ρ i >>= fun _ => evOps r ρ >>= fun y => getSl y.2 i >>= fun d => .ok (d :: y.1, y.2)) Q := h
    cases e : getSl ρ i with
    | bad => rw [e] at h'; exact h'.elim
    | exc x ρx => exact absurd e (by unfold getSl; split <;> simp)
    | ok d0 =>
      rw [e] at h'
      obtain ⟨v, e1, _⟩ := E.slot e
      refine ⟨v, e1, ?_⟩
      refine tOs_of r ρ H _ E ?_
      have h2 : PO K W G ρ σ H (evOps r ρ >>= fun y => getSl y.2 i >>= fun d => .ok (d :: y.1, y.2)) Q := h'
      cases e2 : evOps r ρ with
      | bad => rw [e2] at h2; exact h2.elim
      | exc x ρx => rw [e2] at h2; exact h2
      | ok q =>
        obtain ⟨ds, ρ2⟩ := q
        rw [e2] at h2
        have h3 : PO K W G ρ σ H (getSl ρ2 i >>= fun d => .ok (d :: ds, ρ2)) Q := h2
        cases e3 : getSl ρ2 i with
        | bad => rw [e3] at h3; exact h3.elim
        | exc x ρx => exact absurd e3 (by unfold getSl; split <;> simp)
        | ok d =>
          rw [e3] at h3
          intro vs H2 E2 t2 r2
          obtain ⟨v', e4, rb⟩ := E2.slot e3
          rw [e1] at e4
          cases e4
          exact h3 (v :: vs) H2 E2 t2 (.cons rb r2)
/-! ### operations upon values -/
/-- a rule r over the layer's values does f upon data -/
def LR (K : PySem.W.Frag) (r : List V → Hp → VK → Prop) (f : List Dv → Option Dv) : Prop := ∀ (F : Addr → Prop) (H : Hp) (vs : List V) (ds : List Dv) (d : Dv) (Q : VK), (∀ a, F a → H a ≠ none) → RepBs K F H vs ds → f ds = some d →
  (∀ v H', Same H H' → Rep K F H' v d → Q v H') → r vs H Q
/-- .. and makes a new thing -/
def LN (K : PySem.W.Frag) (r : List V → Hp → VK → Prop) (f : List Dv → Option Dv) : Prop := ∀ (F : Addr → Prop) (H : Hp) (vs : List V) (ds : List Dv) (d : Dv) (Q : VK), (∀ a, F a → H a ≠ none) → RepBs K F H vs ds → f ds = some d →
  (∀ p H', Same H H' → H p = none → OwnRep K (fun a => F a ∨ a = p) H' false p d → Q (.ref p) H') → r vs H Q
theorem LN.lr {r : List V → Hp → VK → Prop} {f : List Dv → Option Dv} (h : LN K r f) : LR K r f := fun F H vs ds d Q ft rs e q => h F H vs ds d Q ft rs e fun p H' s n o => q _ _ s ((o.less fun _ z => .inl z).rep fun z => ft p z n)
theorem LR.or {r r' : List V → Hp → VK → Prop} {f f' : List Dv → Option Dv} (h : LR K r f) (h' : LR K r' f') : LR K (fun vs H Q => r vs H Q ∨ r' vs H Q) (fun ds => (f ds).or (f' ds)) := fun F H vs ds d Q ft rs e q => by
  cases e1 : f ds with
  | some d' =>
    simp only [e1, Option.or] at e
    cases e
    exact .inl (h F H vs ds d Q ft rs e1 q)
  | none =>
    simp only [e1, Option.or] at e
    exact .inr (h' F H vs ds d Q ft rs e q)
/-- an operation -/
def mOp (f : List Dv → Option Dv) (ops : List Op) : M := fun ρ => evOps ops ρ >>= fun y => match f y.1 with
  | some d => .ok (d, y.2)
  | none => .bad
theorem ops_run {r : List V → Hp → VK → Prop} {f : List Dv → Option Dv} {ops : List Op} {Q : VK} (hr : LR K r f) (h : tV K W (mOp f ops) σ H Q) : tOs K W ops σ H fun vs H' => r vs H' Q := by
  obtain ⟨G, ρ, E, h⟩ := h
  refine tOs_of ops ρ H _ E ?_
  unfold mOp at h
  cases e : evOps ops ρ with
  | bad => rw [e] at h; exact h.elim
  | exc x ρx => rw [e] at h; exact h
  | ok q =>
    obtain ⟨ds, ρ'⟩ := q
    rw [e] at h
    intro vs H' E' t rs
    have h2 : PV K W G ρ σ H (match f ds with | some d => .ok (d, ρ') | none => .bad) Q := h
    cases e2 : f ds with
    | none => rw [e2] at h2; exact h2.elim
    | some d =>
      rw [e2] at h2
      exact hr (Fo G ρ' σ) H' vs ds d Q (fun a z => E'.fo z) rs e2 fun v H2 s rp => h2 v H2 (E'.same s) (t.same s) rp
theorem ops_new {r : List V → Hp → VK → Prop} {f : List Dv → Option Dv} {ops : List Op} {Q : VK} (hr : LN K r f) (h : tN K W (mOp f ops) σ H Q) : tOs K W ops σ H fun vs H' => r vs H' Q := by
  obtain ⟨G, ρ, E, h⟩ := h
  refine tOs_of ops ρ H _ E ?_
  unfold mOp at h
  cases e : evOps ops ρ with
  | bad => rw [e] at h; exact h.elim
  | exc x ρx => rw [e] at h; exact h
  | ok q =>
    obtain ⟨ds, ρ'⟩ := q
    rw [e] at h
    intro vs H' E' t rs
    have h2 : PN K W G ρ σ H (match f ds with | some d => .ok (d, ρ') | none => .bad) Q := h
    cases e2 : f ds with
    | none => rw [e2] at h2; exact h2.elim
    | some d =>
      rw [e2] at h2
      refine hr (Fo G ρ' σ) H' vs ds d Q (fun a z => E'.fo z) rs e2 fun p H2 s n o => h2 p H2 ?_ (t.same s) ?_ (o.less ?_)
      · exact E'.fresh s n (by obtain ⟨q, e, _⟩ := o.there; rw [e]; simp)
      · cases q : H p with
        | none => rfl
        | some o => exact absurd n (t.stay p (by rw [q]; simp))
      · rintro a (z | z)
        · rcases z with z | z
          · exact .inl (.inl z)
          · exact .inr z
        · exact .inl (.inr z)
end
end VL

namespace VL
open PySem PySem.Spec PyProof.Rows L2
theorem _root_.L2.PE.vimp {X : Cx} {e : Expr} {t t' : TE} (h : PE X e t) (i : ∀ σ H Q, t' σ H Q → t σ H Q) : PE X e t' := ⟨fun pins s σ H Q I q => h.run pins s σ H Q I (i σ H Q q)⟩
theorem _root_.L2.PT.vimp {X : Cx} {e : Expr} {t t' : TT} (h : PT X e t) (i : ∀ σ H Q, t' σ H Q → t σ H Q) : PT X e t' := ⟨fun pins s σ H Q I q => h.run pins s σ H Q I (i σ H Q q)⟩
theorem _root_.L2.PW.vimp {X : Cx} {e : Expr} {t t' : TT} (h : PW X e t) (i : ∀ σ H Q, t' σ H Q → t σ H Q) : PW X e t' := ⟨fun wh pins s σ H Q I q => h.run wh pins s σ H Q I (i σ H Q q)⟩
theorem _root_.L2.PA.vimp {X : Cx} {e : List Expr} {t t' : TA} (h : PA X e t) (i : ∀ σ H Q, t' σ H Q → t σ H Q) : PA X e t' := ⟨fun pos pins s σ H Q I q => h.run pos pins s σ H Q I (i σ H Q q)⟩
theorem _root_.L2.PS.vimp {X : Cx} {e : Stmt} {t t' : TS} (h : PS X e t) (i : ∀ D σ H, t' D σ H → t D σ H) : PS X e t' := ⟨fun pins s σ H D I q => h.run pins s σ H D I (i D σ H q)⟩
theorem _root_.L2.PSs.vimp {X : Cx} {e : List Stmt} {t t' : TS} (h : PSs X e t) (i : ∀ D σ H, t' D σ H → t D σ H) : PSs X e t' := ⟨fun pins s σ H D I q => h.run pins s σ H D I (i D σ H q)⟩
theorem _root_.L2.PI.vimp {X : Cx} {tg e : Expr} {t t' : TI} (h : PI X tg e t) (i : ∀ σ H R, t' σ H R → t σ H R) : PI X tg e t' := ⟨fun pins s σ H Q I q => h.run pins s σ H Q I (i σ H Q q)⟩
section
variable {K : PySem.W.Frag} {F F' G : Addr → Prop} {H H' H1 H2 : Hp} {ρ ρ' ρ1 ρ2 : En} {σ σ' σ1 σ2 : L2.St} {W : WK}
/-! ### the structure of expressions -/
/-- a name as a value: a mutable thing is mutable no more -/
def mVar (i : Nat) : M := fun ρ => match ρ[i]? with
  | some (.val d) => .ok (d, ρ)
  | some (.mt false false d) => .ok (d, ρ.set i (.val d))
  | _ => .bad
theorem var_of {i : Nat} {Q : VK} (h : tV K W (mVar i) σ H Q) : tVar i σ H Q := by
  obtain ⟨G, ρ, E, h⟩ := h
  unfold mVar at h
  split at h
  · rename_i d e
    obtain ⟨v, e1, r⟩ := E.ok i _ e
    exact ⟨v, e1, h v H E .refl r⟩
  · rename_i d e
    obtain ⟨p, e1, r⟩ := E.ok i _ e
    obtain ⟨E', t, r'⟩ := E.freeze e e1
    exact ⟨.ref p, e1, h _ H E' t r'⟩
  · exact h.elim
/-- a value that is written -/
def mC (d : Dv) : M := fun ρ => .ok (d, ρ)
def CD (K : PySem.W.Frag) (v : V) (d : Dv) : Prop := ∀ (F : Addr → Prop) (H : Hp), Rep K F H v d
theorem c_of {v : V} {d : Dv} {Q : VK} (r : CD K v d) (h : tV K W (mC d) σ H Q) : tC v σ H Q := by
  obtain ⟨G, ρ, E, h⟩ := h
  exact h v H E .refl (r _ _)
theorem cd_non : CD K .non .non := fun _ _ => .non
theorem cd_bl {b : Bool} : CD K (.bl b) (.bl b) := fun _ _ => .bl b
theorem cd_int {i : Int} : CD K (.int i) (.int i) := fun _ _ => .int i
theorem cd_str {x : Str} {l : List Nat} (e : x = S l) (h : l.all (fun c => decide (c < 0x110000)) = true) : CD K (.str x) (.str l) := fun _ _ => by
  rw [e]
  refine .str l fun c hc => ?_
  exact of_decide_eq_true (List.all_eq_true.mp h c hc)
theorem cd_tup {a : Addr} {vs : List V} {ds : List Dv} (h : ∃ (o : Obj) (its : Array Value) (n : Nat), K.lookup a = some o ∧ o.cls = .type "tuple" ∧ o.data = .seq its n ∧ its.size ≤ sizeLine ∧ Vals vs its.toList) (r : ∀ F H, Reps K F H vs ds) : CD K (.ref a) (.tup ds) := fun F H => .tup (.inr h) (r F H)
def toB : Dv → Option Bool
  | .bl b => some b
  | _ => none
theorem toB_rep {v : V} {d : Dv} {b : Bool} (h : toB d = some b) (r : Rep K F H v d) : v = .bl b := by
  cases r with
  | bl x => cases h; rfl
  | _ => cases h
/-- a test of a value -/
def bOf (m : M) : MT := fun ρ => m ρ >>= fun x => match toB x.1 with
  | some b => .ok (b, x.2)
  | none => .bad
theorem bof_of {m : M} {Q : Bool → Hp → Prop} (h : tB K W (bOf m) σ H Q) : tV K W m σ H fun v H' => ∃ b, v = .bl b ∧ Q b H' := by
  obtain ⟨G, ρ, E, h⟩ := h
  refine ⟨G, ρ, E, ?_⟩
  unfold bOf at h
  cases e : m ρ with
  | bad => rw [e] at h; exact h.elim
  | exc x ρx => rw [e] at h; exact h
  | ok p =>
    obtain ⟨d, ρ'⟩ := p
    rw [e] at h
    simp only [bind_ok] at h
    intro v H' E' t r
    cases q : toB d with
    | none => rw [q] at h; exact h.elim
    | some b =>
      rw [q] at h
      exact ⟨b, toB_rep q r, h H' E' t⟩
/-- a value of a test -/
def mOf (b : MT) : M := fun ρ => b ρ >>= fun x => .ok (.bl x.1, x.2)
def bAnd (a b : MT) : MT := fun ρ => a ρ >>= fun x => match x.1 with
  | true => b x.2
  | false => .ok (false, x.2)
def bOr (a b : MT) : MT := fun ρ => a ρ >>= fun x => match x.1 with
  | true => .ok (true, x.2)
  | false => b x.2
def bNot (a : MT) : MT := fun ρ => a ρ >>= fun x => .ok (!x.1, x.2)
def mIf (c : MT) (a b : M) : M := fun ρ => c ρ >>= fun x => match x.1 with
  | true => a x.2
  | false => b x.2
def mAnd (a b : M) : M := fun ρ => a ρ >>= fun x => match toB x.1 with
  | some true => b x.2
  | some false => .ok (.bl false, x.2)
  | none => .bad
def mOr (a b : M) : M := fun ρ => a ρ >>= fun x => match toB x.1 with
  | some true => .ok (.bl true, x.2)
  | some false => b x.2
  | none => .bad
def mNot (a : M) : M := fun ρ => a ρ >>= fun x => match toB x.1 with
  | some b => .ok (.bl (!b), x.2)
  | none => .bad
theorem PV.later {r : Rs (Dv × En)} {Q : VK} (t : Tr ρ σ ρ1 σ H H1) (h : PV K W G ρ σ H r Q) : PV K W G ρ1 σ H1 r Q := by
  cases r with
  | bad => exact h
  | exc x ρx => exact fun H2 E2 t2 => h H2 E2 (t.trans t2)
  | ok p => exact fun v H2 E2 t2 r2 => h v H2 E2 (t.trans t2) r2
theorem PN.later {r : Rs (Dv × En)} {Q : VK} (t : Tr ρ σ ρ1 σ H H1) (h : PN K W G ρ σ H r Q) : PN K W G ρ1 σ H1 r Q := by
  cases r with
  | bad => exact h
  | exc x ρx => exact fun H2 E2 t2 => h H2 E2 (t.trans t2)
  | ok p =>
    refine fun v H2 E2 t2 n r2 => h v H2 E2 (t.trans t2) ?_ r2
    cases q : H v with
    | none => rfl
    | some o => exact absurd n (t.stay v (by rw [q]; simp))
theorem PB.later {r : Rs (Bool × En)} {Q : Bool → Hp → Prop} (t : Tr ρ σ ρ1 σ H H1) (h : PB K W G ρ σ H r Q) : PB K W G ρ1 σ H1 r Q := by
  cases r with
  | bad => exact h
  | exc x ρx => exact fun H2 E2 t2 => h H2 E2 (t.trans t2)
  | ok p => exact fun H2 E2 t2 => h H2 E2 (t.trans t2)
/-- one after another -/
theorem bind_V {m : M} {k : Dv × En → Rs (Dv × En)} {Q Q1 : VK} (h : PV K W G ρ σ H (m ρ >>= k) Q) (E : EnvOk K G ρ σ H)
    (hk : ∀ d ρ1 v H1, EnvOk K G ρ1 σ H1 → Tr ρ σ ρ1 σ H H1 → Rep K (Fo G ρ1 σ) H1 v d → PV K W G ρ1 σ H1 (k (d, ρ1)) Q → Q1 v H1) : tV K W m σ H Q1 := by
  refine ⟨G, ρ, E, ?_⟩
  cases e : m ρ with
  | bad => rw [e] at h; exact h.elim
  | exc x ρx => rw [e] at h; exact h
  | ok p =>
    rw [e] at h
    exact fun v H1 E1 t r => hk p.1 p.2 v H1 E1 t r (PV.later t h)
theorem bind_B {m : MT} {k : Bool × En → Rs (Dv × En)} {Q : VK} {Q1 : Bool → Hp → Prop} (h : PV K W G ρ σ H (m ρ >>= k) Q) (E : EnvOk K G ρ σ H)
    (hk : ∀ b ρ1 H1, EnvOk K G ρ1 σ H1 → Tr ρ σ ρ1 σ H H1 → PV K W G ρ1 σ H1 (k (b, ρ1)) Q → Q1 b H1) : tB K W m σ H Q1 := by
  refine ⟨G, ρ, E, ?_⟩
  cases e : m ρ with
  | bad => rw [e] at h; exact h.elim
  | exc x ρx => rw [e] at h; exact h
  | ok p =>
    rw [e] at h
    exact fun H1 E1 t => hk p.1 p.2 H1 E1 t (PV.later t h)
theorem bind_BB {m : MT} {k : Bool × En → Rs (Bool × En)} {Q Q1 : Bool → Hp → Prop} (h : PB K W G ρ σ H (m ρ >>= k) Q) (E : EnvOk K G ρ σ H)
    (hk : ∀ b ρ1 H1, EnvOk K G ρ1 σ H1 → Tr ρ σ ρ1 σ H H1 → PB K W G ρ1 σ H1 (k (b, ρ1)) Q → Q1 b H1) : tB K W m σ H Q1 := by
  refine ⟨G, ρ, E, ?_⟩
  cases e : m ρ with
  | bad => rw [e] at h; exact h.elim
  | exc x ρx => rw [e] at h; exact h
  | ok p =>
    rw [e] at h
    exact fun H1 E1 t => hk p.1 p.2 H1 E1 t (PB.later t h)
variable {X : Cx} {a b c e : Expr} {rest : List Expr} {pos : Pos} {ma mb mm : M} {ba bb bc : MT}
theorem pv_var (i : Nat) {x : Str} (hN : X.N[i]? = some x := by rfl) (hv : Vis X.env.scope x := by first | exact Or.inl rfl | exact Or.inr (Or.inl rfl) | exact Or.inr (Or.inr rfl)) (hd : (x == ("__debug__" : Str)) = false := by decide)
    (hcd : (x == ("__classdict__" : Str)) = false := by decide) : PE X (.Name x pos) (tV X.K W (mVar i)) := (pe_var hN hv hd hcd).vimp fun _ _ _ h => var_of h
/-- a name as an operand -/
theorem po_sl (i : Nat) {x : Str} (hN : X.N[i]? = some x := by rfl) (hv : Vis X.env.scope x := by first | exact Or.inl rfl | exact Or.inr (Or.inl rfl) | exact Or.inr (Or.inr rfl)) (hd : (x == ("__debug__" : Str)) = false := by decide)
    (hcd : (x == ("__classdict__" : Str)) = false := by decide) : PE X (.Name x pos) (tO X.K W (.sl i)) := pe_var hN hv hd hcd
theorem po_ex (h : PE X e (tV X.K W mm)) : PE X e (tO X.K W (.ex mm)) := h
theorem pv_non {j} : PE X (.Constant .none j pos) (tV X.K W (mC .non)) := pe_non.vimp fun _ _ _ h => c_of cd_non h
theorem pv_bl {b j} : PE X (.Constant (.bool b) j pos) (tV X.K W (mC (.bl b))) := pe_bl.vimp fun _ _ _ h => c_of cd_bl h
theorem pv_int {i j} : PE X (.Constant (.int i) j pos) (tV X.K W (mC (.int i))) := pe_int.vimp fun _ _ _ h => c_of cd_int h
theorem pv_str {x : Str} {j} (l : List Nat) (e : x = S l := by rfl) (h : l.all (fun c => decide (c < 0x110000)) = true := by rfl) : PE X (.Constant (.str x) j pos) (tV X.K W (mC (.str l))) := pe_str.vimp fun _ _ _ h' => c_of (cd_str e h) h'
theorem pv_glob {x : Str} {v : V} {u : Value} {d : Dv} (hm : X.mg x = some u) (r : RelV v u) (cd : CD X.K v d) (hg : Gl X x := by rfl) (hd : (x == ("__debug__" : Str)) = false := by decide) : PE X (.Name x pos) (tV X.K W (mC d)) := (pe_glob hg hm r hd).vimp fun _ _ _ h => c_of cd h
theorem pv_if (hc : PT X c (tB X.K W bc)) (ha : PE X a (tV X.K W ma)) (hb : PE X b (tV X.K W mb)) : PE X (.IfExp c a b pos) (tV X.K W (mIf bc ma mb)) := (pe_ifExp hc ha hb).vimp fun σ H Q h => by
  obtain ⟨G, ρ, E, h⟩ := h
  refine bind_B h E fun d ρ1 H1 E1 t h1 => ?_
  cases d with
  | true => exact iteT ⟨G, ρ1, E1, h1⟩
  | false => exact iteF ⟨G, ρ1, E1, h1⟩
theorem PV_bl {d : Dv} {ρ0 : En} {v : V} {Q : VK} (E : EnvOk K G ρ0 σ H) (b : Bool) (h : PV K W G ρ0 σ H (.ok (.bl b, ρ0)) Q) : Q (.bl b) H := h (.bl b) H E .refl (.bl b)
theorem pv_and (ha : PE X a (tV X.K W ma)) (hb : PE X (.BoolOp .And (b :: rest) pos) (tV X.K W mb)) : PE X (.BoolOp .And (a :: b :: rest) pos) (tV X.K W (mAnd ma mb)) := (pe_and ha hb).vimp fun σ H Q h => by
  obtain ⟨G, ρ, E, h⟩ := h
  refine bind_V h E fun d ρ1 v H1 E1 t r h1 => ?_
  simp only [] at h1
  cases q : toB d with
  | none => rw [q] at h1; exact h1.elim
  | some x =>
    rw [q] at h1
    refine ⟨x, toB_rep q r, ?_⟩
    cases x with
    | true => exact iteT ⟨G, ρ1, E1, h1⟩
    | false => exact iteF (h1 (.bl false) H1 E1 .refl (.bl false))
theorem pv_or (ha : PE X a (tV X.K W ma)) (hb : PE X (.BoolOp .Or (b :: rest) pos) (tV X.K W mb)) : PE X (.BoolOp .Or (a :: b :: rest) pos) (tV X.K W (mOr ma mb)) := (pe_or ha hb).vimp fun σ H Q h => by
  obtain ⟨G, ρ, E, h⟩ := h
  refine bind_V h E fun d ρ1 v H1 E1 t r h1 => ?_
  simp only [] at h1
  cases q : toB d with
  | none => rw [q] at h1; exact h1.elim
  | some x =>
    rw [q] at h1
    refine ⟨x, toB_rep q r, ?_⟩
    cases x with
    | true => exact iteT (h1 (.bl true) H1 E1 .refl (.bl true))
    | false => exact iteF ⟨G, ρ1, E1, h1⟩
theorem pv_one {op} (ha : PE X a (tV X.K W ma)) : PE X (.BoolOp op [a] pos) (tV X.K W ma) := pe_one ha
theorem pv_not (ha : PE X a (tV X.K W ma)) : PE X (.UnaryOp .Not a pos) (tV X.K W (mNot ma)) := (pe_not ha).vimp fun σ H Q h => by
  obtain ⟨G, ρ, E, h⟩ := h
  refine bind_V h E fun d ρ1 v H1 E1 t r h1 => ?_
  simp only [] at h1
  cases q : toB d with
  | none => rw [q] at h1; exact h1.elim
  | some x =>
    rw [q] at h1
    exact ⟨x, toB_rep q r, h1 (.bl (!x)) H1 E1 .refl (.bl (!x))⟩
/-! ### tests -/
theorem pb_val (ha : PE X a (tV X.K W ma)) (he : ∀ whole, isTrue a X.env whole = (do let v ← whole; standAt a.pos; holding [v] (truthy v)) := by intro _; rfl) : PT X a (tB X.K W (bOf ma)) := (pt_val ha he).vimp fun _ _ _ h => bof_of h
theorem pb_and (ha : PT X a (tB X.K W ba)) (hb : PW X (.BoolOp .And (b :: rest) pos) (tB X.K W bb)) : PW X (.BoolOp .And (a :: b :: rest) pos) (tB X.K W (bAnd ba bb)) := (pw_and ha hb).vimp fun σ H Q h => by
  obtain ⟨G, ρ, E, h⟩ := h
  refine bind_BB h E fun d ρ1 H1 E1 t h1 => ?_
  cases d with
  | true => exact iteT ⟨G, ρ1, E1, h1⟩
  | false => exact iteF (h1 H1 E1 .refl)
theorem pb_or (ha : PT X a (tB X.K W ba)) (hb : PW X (.BoolOp .Or (b :: rest) pos) (tB X.K W bb)) : PW X (.BoolOp .Or (a :: b :: rest) pos) (tB X.K W (bOr ba bb)) := (pw_or ha hb).vimp fun σ H Q h => by
  obtain ⟨G, ρ, E, h⟩ := h
  refine bind_BB h E fun d ρ1 H1 E1 t h1 => ?_
  cases d with
  | true => exact iteT (h1 H1 E1 .refl)
  | false => exact iteF ⟨G, ρ1, E1, h1⟩
theorem pb_and1 (ha : PT X a (tB X.K W ba)) : PW X (.BoolOp .And [a] pos) (tB X.K W ba) := pw_and1 ha
theorem pb_or1 (ha : PT X a (tB X.K W ba)) : PW X (.BoolOp .Or [a] pos) (tB X.K W ba) := pw_or1 ha
theorem pb_not (ha : PT X a (tB X.K W ba)) : PT X (.UnaryOp .Not a pos) (tB X.K W (bNot ba)) := (pt_not ha).vimp fun σ H Q h => by
  obtain ⟨G, ρ, E, h⟩ := h
  exact bind_BB h E fun d ρ1 H1 E1 t h1 => h1 H1 E1 .refl
/-! ### operations by their rules -/
def r2 (r : R2) : List V → Hp → VK → Prop := fun vs H Q => ∃ x y, vs = [x, y] ∧ r x y H Q
def r1 (r : V → Hp → VK → Prop) : List V → Hp → VK → Prop := fun vs H Q => ∃ x, vs = [x] ∧ r x H Q
variable {oa ob oc : Op} {ops : List Op} {f : List Dv → Option Dv}
theorem tO2 {r : R2} {Q : VK} (h : tOs K W [oa, ob] σ H fun vs H' => r2 r vs H' Q) : tOp r (tO K W oa) (tO K W ob) σ H Q := by
  have mono : ∀ (o : Op) (σ : L2.St) (H : Hp) (Q Q' : VK), (∀ v H', Q v H' → Q' v H') → tO K W o σ H Q → tO K W o σ H Q' := fun o σ H Q Q' i h => by
    cases o with
    | sl k => obtain ⟨v, e, q⟩ := h; exact ⟨v, e, i _ _ q⟩
    | ex m =>
      obtain ⟨G, ρ, E, h⟩ := h
      refine ⟨G, ρ, E, ?_⟩
      cases e : m ρ with
      | bad => rw [e] at h; exact h
      | exc x ρx => rw [e] at h; exact h
      | ok p => rw [e] at h; exact fun v H' E' t r => i _ _ (h v H' E' t r)
  refine mono oa σ H _ _ (fun x H1 q => ?_) h
  refine mono ob σ H1 _ _ (fun y H2 q2 => ?_) q
  obtain ⟨x', y', e, q3⟩ := q2
  cases e
  exact q3
theorem tO_mono (o : Op) {Q Q' : VK} (i : ∀ v H', Q v H' → Q' v H') (h : tO K W o σ H Q) : tO K W o σ H Q' := by
  cases o with
  | sl k => obtain ⟨v, e, q⟩ := h; exact ⟨v, e, i _ _ q⟩
  | ex m =>
    obtain ⟨G, ρ, E, h⟩ := h
    refine ⟨G, ρ, E, ?_⟩
    cases e : m ρ with
    | bad => rw [e] at h; exact h
    | exc x ρx => rw [e] at h; exact h
    | ok p => rw [e] at h; exact fun v H' E' t r => i _ _ (h v H' E' t r)
theorem tO1 {r : V → Hp → VK → Prop} {Q : VK} (h : tOs K W [oa] σ H fun vs H' => r1 r vs H' Q) : tUn r (tO K W oa) σ H Q := by
  refine tO_mono oa (fun x H1 q => ?_) h
  obtain ⟨x', e, q3⟩ := q
  cases e
  exact q3
theorem pv_bin {op : Operator} {r : R2} (ho : OpR X (binaryOp op) r) (hf : LR X.K (r2 r) f) (ha : PE X a (tO X.K W oa)) (hb : PE X b (tO X.K W ob)) : PE X (.BinOp a op b pos) (tV X.K W (mOp f [oa, ob])) :=
  (pe_op ho ha hb).vimp fun _ _ _ h => tO2 (ops_run hf h)
theorem pn_bin {op : Operator} {r : R2} (ho : OpR X (binaryOp op) r) (hf : LN X.K (r2 r) f) (ha : PE X a (tO X.K W oa)) (hb : PE X b (tO X.K W ob)) : PE X (.BinOp a op b pos) (tN X.K W (mOp f [oa, ob])) :=
  (pe_op ho ha hb).vimp fun _ _ _ h => tO2 (ops_new hf h)
theorem pv_un {op : UnaryOp} {r : V → Hp → VK → Prop} (ho : UnR X (unaryOp op) r) (hf : LR X.K (r1 r) f) (ha : PE X a (tO X.K W oa)) : PE X (.UnaryOp op a pos) (tV X.K W (mOp f [oa])) :=
  (pe_un ho ha).vimp fun _ _ _ h => tO1 (ops_run hf h)
theorem pv_cmp {op : CmpOp} {r : R2} (ho : OpR X (compareOp op) r) (hf : LR X.K (r2 r) f) (ha : PE X a (tO X.K W oa)) (hb : PE X b (tO X.K W ob)) (hm : behindInMarks op b = false := by rfl) : PE X (.Compare a [op] [b] pos) (tV X.K W (mOp f [oa, ob])) :=
  (pe_cmpR ho ha hb hm).vimp fun _ _ _ h => tO2 (ops_run hf h)
theorem pb_cmp {op : CmpOp} {r : R2} (ho : OpR X (compareOp op) r) (hf : LR X.K (r2 r) f) (ha : PE X a (tO X.K W oa)) (hb : PE X b (tO X.K W ob)) (hm : behindInMarks op b = false := by rfl) : PT X (.Compare a [op] [b] pos) (tB X.K W (bOf (mOp f [oa, ob]))) :=
  (pt_cmpR ho ha hb hm).vimp fun _ _ _ h => tO2 (ops_run hf (bof_of h))
/-- operands one after another -/
theorem pos_nil : PA X [] (tOs X.K W []) := pa_nil
theorem pos_cons {es : List Expr} (ha : PE X e (tO X.K W oa)) (hr : PA X es (tOs X.K W ops)) (hs : starEach (e :: es) X.env = (false, eval e X.env) :: starEach es X.env := by rfl) : PA X (e :: es) (tOs X.K W (oa :: ops)) := pa_cons ha hr hs
theorem pv_callB {x : Str} {id : String} {r : List V → Hp → VK → Prop} {es : List Expr} {p : Pos} (hc : CallR X (.builtin id) r) (hf : LR X.K r f) (hm : X.mg x = none) (hv : bootBuiltins x = some (.builtin id)) (ha : PA X (e :: es) (tOs X.K W ops)) (hg : Gl X x := by rfl) (hn : x ≠ "__name__" := by decide) (hdb : (x == ("__debug__" : Str)) = false := by decide)
    (he : starEach (e :: es) X.env = (false, eval e X.env) :: starEach es X.env := by rfl) (hpl : (backTo pos (starEach es X.env)).any (·.1) = false := by rfl) : PE X (.Call (.Name x p) (e :: es) [] pos) (tV X.K W (mOp f ops)) :=
  (pe_callB hc hg hm hv ha hn hdb he hpl).vimp fun _ _ _ h => ops_run hf h
theorem pn_callB {x : Str} {id : String} {r : List V → Hp → VK → Prop} {es : List Expr} {p : Pos} (hc : CallR X (.builtin id) r) (hf : LN X.K r f) (hm : X.mg x = none) (hv : bootBuiltins x = some (.builtin id)) (ha : PA X (e :: es) (tOs X.K W ops)) (hg : Gl X x := by rfl) (hn : x ≠ "__name__" := by decide) (hdb : (x == ("__debug__" : Str)) = false := by decide)
    (he : starEach (e :: es) X.env = (false, eval e X.env) :: starEach es X.env := by rfl) (hpl : (backTo pos (starEach es X.env)).any (·.1) = false := by rfl) : PE X (.Call (.Name x p) (e :: es) [] pos) (tN X.K W (mOp f ops)) :=
  (pe_callB hc hg hm hv ha hn hdb he hpl).vimp fun _ _ _ h => ops_new hf h
theorem pv_callT {x : Str} {T : String} {r : List V → Hp → VK → Prop} {es : List Expr} {p : Pos} (hc : CallR X (.type T) r) (hf : LR X.K r f) (hm : X.mg x = none) (hv : bootBuiltins x = some (.type T)) (ha : PA X (e :: es) (tOs X.K W ops)) (hg : Gl X x := by rfl) (hn : x ≠ "__name__" := by decide) (hdb : (x == ("__debug__" : Str)) = false := by decide)
    (he : starEach (e :: es) X.env = (false, eval e X.env) :: starEach es X.env := by rfl) (hpl : (backTo pos (starEach es X.env)).any (·.1) = false := by rfl) : PE X (.Call (.Name x p) (e :: es) [] pos) (tV X.K W (mOp f ops)) :=
  (pe_callTy hc hg hm hv ha hn hdb he hpl).vimp fun _ _ _ h => ops_run hf h
theorem pn_callT {x : Str} {T : String} {r : List V → Hp → VK → Prop} {es : List Expr} {p : Pos} (hc : CallR X (.type T) r) (hf : LN X.K r f) (hm : X.mg x = none) (hv : bootBuiltins x = some (.type T)) (ha : PA X (e :: es) (tOs X.K W ops)) (hg : Gl X x := by rfl) (hn : x ≠ "__name__" := by decide) (hdb : (x == ("__debug__" : Str)) = false := by decide)
    (he : starEach (e :: es) X.env = (false, eval e X.env) :: starEach es X.env := by rfl) (hpl : (backTo pos (starEach es X.env)).any (·.1) = false := by rfl) : PE X (.Call (.Name x p) (e :: es) [] pos) (tN X.K W (mOp f ops)) :=
  (pe_callTy hc hg hm hv ha hn hdb he hpl).vimp fun _ _ _ h => ops_new hf h
theorem pv_ix {r : R2} (hr : IxR X r) (hf : LR X.K (r2 r) f) (ha : PE X a (tO X.K W oa)) (hb : PE X b (tO X.K W ob)) (hs : PlainIx b := by exact fun _ _ => rfl) : PE X (.Subscript a b pos) (tV X.K W (mOp f [oa, ob])) :=
  (pe_ix hr ha hb hs).vimp fun _ _ _ h => tO2 (ops_run hf h)
/-- a new thing as a value -/
theorem pv_new {m : M} (h : PE X e (tN X.K W m)) : PE X e (tV X.K W m) := h.vimp fun σ H Q h => by
  obtain ⟨G, ρ, E, h⟩ := h
  refine ⟨G, ρ, E, ?_⟩
  cases e : m ρ with
  | bad => rw [e] at h; exact h
  | exc x ρx => rw [e] at h; exact h
  | ok p =>
    obtain ⟨d, ρ'⟩ := p
    rw [e] at h
    intro q H' E' t n o
    have hg : ∀ a, G a → H' a ≠ none := fun a z => t.stay a (E.gt a z)
    exact h (.ref q) H' (E'.drop hg) t ((o.less fun a z => z.elim (fun z => .inl (.inl z)) .inr).rep (E'.nfo t E n))
end
end VL

/-! # what is walked: a list, a tuple, a text, by itself, two of them zipped, or enumerated -/
namespace VL
open PySem PySem.Spec PyProof.Rows L2
/-- a thing that is walked, with its token -/
inductive Sc where
  | L (a : Addr) | T (a : Addr) | X (x : Str) (t : Tok)
def Sc.v : Sc → Value
  | .L a => .ref a
  | .T a => .ref a
  | .X x t => .str x t
def signs (l : List Nat) : List V := l.map fun c => V.str (S [c])
def Sc.here (K : PySem.W.Frag) (H : Hp) : Sc → List V → Prop
  | .L a, vs => SqL K H a vs
  | .T a, vs => SqT K H a vs
  | .X x _, vs => vs = signs x.cps.toList
def Sc.st : Sc → Addr → Nat → Heap → Prop
  | .L a, it, i, h => h.IsListIter it a i
  | .T a, it, i, h => h.IsTupleIter it a i
  | .X x t, it, i, h => h.IsStrIter it (strIterType x) x t i
def Sc.ob : Sc → Obj
  | .L l => { cls := .type "list_iterator", data := .fields #[.ref l, .int 0 0] }
  | .T t => { cls := .type "tuple_iterator", data := .fields #[.ref t, .int 0 0] }
  | .X x t => { cls := .type (strIterType x), data := .fields #[.str x t, .int 0 0] }
def Sc.apart (k : Sc) (c : Addr) : Prop := match k with
  | .L a => a ≠ c
  | .T a => a ≠ c
  | .X _ _ => True
section
variable {X : Cx} {pins : List (Addr × Obj)} {σ : L2.St} {H H' : Hp} {s : Shared} {A : Around}
theorem Sc.obj (k : Sc) {it : Addr} {i : Nat} {h : Heap} (st : k.st it i h) : ∃ o, h.get? it = some o ∧ ∀ v, o.data ≠ .cell v := by
  cases k with
  | L a => obtain ⟨o, e, _, d⟩ := st; exact ⟨o, e, fun v q => by rw [d] at q; cases q⟩
  | T a => obtain ⟨o, e, _, d⟩ := st; exact ⟨o, e, fun v q => by rw [d] at q; cases q⟩
  | X x t => obtain ⟨o, e, _, d⟩ := st; exact ⟨o, e, fun v q => by rw [d] at q; cases q⟩
theorem Sc.at (k : Sc) {it : Addr} {i : Nat} {h h' : Heap} (st : k.st it i h) (e : ∀ o, h.get? it = some o → h'.get? it = some o) : k.st it i h' := by
  cases k with
  | L a => exact Heap.IsListIter.at st e
  | T a => exact Heap.IsTupleIter.at st e
  | X x t =>
    obtain ⟨o, q, r⟩ := st
    exact ⟨o, e o q, r⟩
/-- our iterators are not what is walked -/
theorem fp_apart (I : Inv X pins σ H s) {c : Addr} (hf : FpOk X pins H c) {k : Sc} {vs : List V} (h : k.here X.K H vs) : k.apart c := by
  have base : ∀ (a : Addr) (o : Obj), X.K.lookup a = some o → a ≠ c := fun a o e z => by
    subst z
    have hb : X.base.get? a = some o := I.ok.mod.kin a o e
    rcases hf.2.2.2.1 with q | q
    · exact I.ok.noex a o hb q
    · exact absurd (Nat.lt_of_lt_of_le (Heap.lt_size hb) (Nat.le_trans I.ok.bsz q)) (Nat.lt_irrefl _)
  have trk : ∀ (a : Addr) (u : HO), Rd H a u → a ≠ c := fun a u e z => by
    subst z
    exact rd_some e hf.1
  cases k with
  | L a =>
    rcases h with h | ⟨o, _, _, h, _⟩
    · exact trk a _ h
    · exact base a o h
  | T a =>
    rcases h with h | ⟨o, _, _, h, _⟩
    · exact trk a _ h
    · exact base a o h
  | X x t => trivial
theorem draws_iff {prog : Program} {w : World} {it : Addr} {fp : List Addr} {n : Nat} {P : Nat → Value → Prop} {St St' : Nat → Heap → Prop} (D : Draws prog w A it fp n P St) (e : ∀ i h, St' i h ↔ St i h) : Draws prog w A it fp n P St' := by
  have : St' = St := funext fun i => funext fun h => propext (e i h)
  rw [this]
  exact D
/-- what the iterator over it draws -/
theorem Sc.draws (I : Inv X pins σ H s) (hh : A.handled = none) {k : Sc} {vs : List V} (h : k.here X.K H vs) {it : Addr} (ap : k.apart it) :
    ∃ (P : Nat → Value → Prop) (B : Heap → Prop) (ow : List Addr), Draws X.prog X.w A it (it :: ow) vs.length P (fun i h => k.st it i h ∧ B h) ∧ B s.heap ∧ (∀ i u, P i u → ∃ v, vs[i]? = some v ∧ RelV v u) ∧
      (∀ b, b ∈ ow → ¬ k.apart b) ∧ (∀ b ∈ ow, b < s.heap.objs.size) ∧ Begins k.v k.ob B ∧ ∀ h' : Heap, h'.get? it = some k.ob → k.st it 0 h' := by
  cases k with
  | L a =>
    obtain ⟨its, rv, p, _⟩ := I.list (show SqL X.K H a vs from h)
    have e : vs.length = its.toArray.size := by rw [rv.length, List.size_toArray]
    refine ⟨_, fun h => h.IsList a its.toArray, [a], by rw [e]; exact Draws.list hh it a ap its.toArray, p.isList, fun i u hu => ?_, fun b hb => ?_, fun b hb => ?_, begins_list a its.toArray, fun h' e => ⟨_, e, rfl, rfl⟩⟩
    · have hu' : its[i]? = some u := by simpa using hu
      cases q : vs[i]? with
      | none => rw [rv.none_of q] at hu'; cases hu'
      | some v =>
        obtain ⟨u', e1, r⟩ := rv.get q
        rw [hu'] at e1
        cases e1
        exact ⟨v, rfl, r⟩
    · have : b = a := by simpa using hb
      exact fun z => z this.symm
    · have : b = a := by simpa using hb
      rw [this]
      exact p.lt
  | T a =>
    obtain ⟨its, rv, p, _⟩ := I.tuple (show SqT X.K H a vs from h)
    have e : vs.length = its.toArray.size := by rw [rv.length, List.size_toArray]
    refine ⟨_, fun h => h.IsTuple a its.toArray, [a], by rw [e]; exact Draws.tuple hh it a ap its.toArray, p, fun i u hu => ?_, fun b hb => ?_, fun b hb => ?_, begins_tuple a its.toArray, fun h' e => ⟨_, e, rfl, rfl⟩⟩
    · have hu' : its[i]? = some u := by simpa using hu
      cases q : vs[i]? with
      | none => rw [rv.none_of q] at hu'; cases hu'
      | some v =>
        obtain ⟨u', e1, r⟩ := rv.get q
        rw [hu'] at e1
        cases e1
        exact ⟨v, rfl, r⟩
    · have : b = a := by simpa using hb
      exact fun z => z this.symm
    · have : b = a := by simpa using hb
      rw [this]
      obtain ⟨o, e, _⟩ := p
      exact Heap.lt_size e
  | X x t =>
    have hv : vs = signs x.cps.toList := h
    have e : vs.length = x.cps.size := by rw [hv]; simp [signs]
    refine ⟨_, fun _ => True, [], by rw [e]; exact draws_iff (Draws.text hh it x t) fun i h => ⟨fun q => q.1, fun q => ⟨q, trivial⟩⟩, trivial, fun i u hu => ?_, fun b hb => by simp at hb, fun b hb => by simp at hb, begins_text x t, fun h' e => ⟨_, e, rfl, rfl⟩⟩
    obtain ⟨c, q, e1, e2⟩ := hu
    refine ⟨.str (S [c]), ?_, ?_⟩
    · rw [hv]
      simp [signs, e1]
    · rw [e2]
      exact ⟨q, rfl⟩
/-- a turn, by what the library tells of the iterator -/
theorem turn_of {P : Program} {w : World} {K : PySem.W.Frag} {tg : Expr} {J : It} {fp : List Addr} {it : Addr} {tn : Nat → Heap → Prop} (mem : it ∈ fp)
    (obj : ∀ i h, tn i h → ∀ b ∈ fp, ∃ o, h.get? b = some o ∧ ∀ v, o.data ≠ .cell v)
    (keep : ∀ i h h', tn i h → (∀ b ∈ fp, ∀ o, h.get? b = some o → h'.get? b = some o) → tn i h')
    (go : ∀ (X : Cx), X.prog = P → X.w = w → X.K = K → X.calm = true → ∀ (i : Nat) (pins : List (Addr × Obj)) (s : Shared) (σ : L2.St) (H : Hp), Inv X pins σ H s → (∀ b ∈ fp, FpOk X pins H b) → tn i s.heap → J.go i H →
      ∃ n fp' wr Y St, GoesN P w X.A tg it fp' wr n Y St ∧ (∀ b ∈ wr, b ∈ fp) ∧ i < n ∧ St i s.heap ∧ ∀ v h' tk, Y i s.heap v h' → St (i + 1) h' → (∀ b o, b ∉ wr → s.heap.get? b = some o → h'.get? b = some o) →
        ∃ x H', Inv X pins σ H' { s with heap := h', toks := tk } ∧ RelV x v ∧ J.yld i H x H' ∧ tn (i + 1) h' ∧ ∀ b ∈ fp, H' b = none)
    (stop : ∀ (X : Cx), X.prog = P → X.w = w → X.K = K → X.calm = true → ∀ (i : Nat) (pins : List (Addr × Obj)) (s : Shared) (σ : L2.St) (H : Hp), Inv X pins σ H s → (∀ b ∈ fp, FpOk X pins H b) → tn i s.heap → J.stop i H →
      ∃ n fp' wr Y St, GoesN P w X.A tg it fp' wr n Y St ∧ (∀ b ∈ wr, b ∈ fp) ∧ i = n ∧ St n s.heap)
    (self : ∀ (A : Around) (i : Nat) (s : Shared) (Q : Value → Shared → Prop) (E : Value → Shared → Prop), tn i s.heap → Q (.ref it) s → wpAny (model P w) A (pyIter (.ref it)) Q E s) : Turn P w K tg J fp it tn where
  mem := mem
  obj := obj
  keep := keep
  item := by
    intro X hP hw hK hc i pins s σ H E I hf st hg
    obtain ⟨n, fp', wr, Y, St, W, _, hi, st0, k⟩ := go X hP hw hK hc i pins s σ H I hf st hg
    refine wpAny_mono (W.goes i s (fun u s2 => ∃ x H', Inv X pins σ H' s2 ∧ RelV x u ∧ J.yld i H x H' ∧ tn (i + 1) s2.heap ∧ ∀ b ∈ fp, H' b = none) E hi st0 fun v h' tk y st' hk _ => ?_) (fun r s1 ⟨v, e, q⟩ => ⟨v, e, q⟩) fun _ _ z => z
    exact k v h' tk y st' hk
  done := by
    intro X hP hw hK hc i pins s σ H E I hf st hg
    obtain ⟨n, fp', wr, Y, St, W, sub, rfl, st0⟩ := stop X hP hw hK hc i pins s σ H I hf st hg
    refine W.stops s (fun s1 => Inv X pins σ H s1) E st0 fun h' tk hk _ => ?_
    exact I.turnedL (t' := tk) (ch := wr) hk fun b hb => hf b (sub b hb)
  self := self
/-! ### the three walks -/
def ItS (K : PySem.W.Frag) (k : Sc) : It :=
  ⟨fun i H => ∃ vs, k.here K H vs ∧ i < vs.length, fun i H x H' => H' = H ∧ ∀ vs, k.here K H vs → vs[i]? = some x, fun i H => ∃ vs, k.here K H vs ∧ i = vs.length⟩
def ItZ (K : PySem.W.Frag) (k l : Sc) : It :=
  ⟨fun i H => ∃ vs ws, k.here K H vs ∧ l.here K H ws ∧ i < min vs.length ws.length, fun i H v H' => ∃ T x y, v = .ref T ∧ H T = none ∧ H' = upd H T (.tup [x, y]) ∧ (∀ vs, k.here K H vs → vs[i]? = some x) ∧ ∀ ws, l.here K H ws → ws[i]? = some y,
    fun i H => ∃ vs ws, k.here K H vs ∧ l.here K H ws ∧ i = min vs.length ws.length⟩
def ItE (K : PySem.W.Frag) (k : Sc) : It :=
  ⟨fun i H => ∃ vs, k.here K H vs ∧ i < vs.length, fun i H v H' => ∃ T x, v = .ref T ∧ H T = none ∧ H' = upd H T (.tup [.int (i : Nat), x]) ∧ ∀ vs, k.here K H vs → vs[i]? = some x, fun i H => ∃ vs, k.here K H vs ∧ i = vs.length⟩
theorem Sc.inj (I : Inv X pins σ H s) (k : Sc) {vs ws : List V} (h : k.here X.K H vs) (h' : k.here X.K H ws) : ws = vs := by
  cases k with
  | L a => exact I.list_inj h' h
  | T a => exact I.tuple_inj h' h
  | X x t => exact (show ws = _ from h').trans (show vs = _ from h).symm
theorem some_at {α : Type} {l : List α} {i : Nat} (h : i < l.length) : ∃ x, l[i]? = some x := ⟨l[i], List.getElem?_eq_getElem h⟩
theorem turn_S {P : Program} {w : World} {K : PySem.W.Frag} {tg : Expr} (k : Sc) (it : Addr) : Turn P w K tg (ItS K k) [it] it (fun i h => k.st it i h) := by
  have goes : ∀ (X : Cx), X.prog = P → X.w = w → X.K = K → X.calm = true → ∀ (pins : List (Addr × Obj)) (s : Shared) (σ : L2.St) (H : Hp), Inv X pins σ H s → (∀ b ∈ [it], FpOk X pins H b) → ∀ vs, k.here K H vs →
      ∃ (P' : Nat → Value → Prop) (B : Heap → Prop) (fp' : List Addr), GoesN P w X.A tg it fp' [it] vs.length (fun i _ u _ => P' i u) (fun i h => k.st it i h ∧ B h) ∧ B s.heap ∧ ∀ i u, P' i u → ∃ v, vs[i]? = some v ∧ RelV v u := by
    intro X hP hw hK hc pins s σ H I hf vs hv
    subst hP hw hK
    have hh := I.ok.hd hc
    have ap := fp_apart I (hf it (by simp)) hv
    cases k with
    | L a =>
      obtain ⟨its, rv, p, _⟩ := I.list (show SqL X.K H a vs from hv)
      have e : vs.length = its.toArray.size := by rw [rv.length, List.size_toArray]
      refine ⟨fun i u => its.toArray[i]? = some u, fun h => h.IsList a its.toArray, _, by rw [e]; exact (Goes.list hh it a ap its.toArray).toN, p.isList, fun i u hu => ?_⟩
      have hu' : its[i]? = some u := by simpa using hu
      cases q : vs[i]? with
      | none => rw [rv.none_of q] at hu'; cases hu'
      | some v =>
        obtain ⟨u', e1, r⟩ := rv.get q
        rw [hu'] at e1
        cases e1
        exact ⟨v, rfl, r⟩
    | T a =>
      obtain ⟨its, rv, p, _⟩ := I.tuple (show SqT X.K H a vs from hv)
      have e : vs.length = its.toArray.size := by rw [rv.length, List.size_toArray]
      refine ⟨fun i u => its.toArray[i]? = some u, fun h => h.IsTuple a its.toArray, _, by rw [e]; exact (Goes.tuple hh it a ap its.toArray).toN, p, fun i u hu => ?_⟩
      have hu' : its[i]? = some u := by simpa using hu
      cases q : vs[i]? with
      | none => rw [rv.none_of q] at hu'; cases hu'
      | some v =>
        obtain ⟨u', e1, r⟩ := rv.get q
        rw [hu'] at e1
        cases e1
        exact ⟨v, rfl, r⟩
    | X x t =>
      have hv' : vs = signs x.cps.toList := hv
      have e : vs.length = x.cps.size := by rw [hv']; simp [signs]
      have W := (Goes.text (prog := X.prog) (w := X.w) (target := tg) hh it x t).toN
      refine ⟨fun i u => SignAt x i u, fun _ => True, [it], ?_, trivial, fun i u hu => ?_⟩
      · rw [e]
        have e2 : (fun (i : Nat) (h : Heap) => Sc.st (.X x t) it i h ∧ True) = fun i h => h.IsStrIter it (strIterType x) x t i := funext fun i => funext fun h => propext ⟨fun q => q.1, fun q => ⟨q, trivial⟩⟩
        rw [e2]
        exact W
      · obtain ⟨c, q, e1, e2⟩ := hu
        refine ⟨.str (S [c]), ?_, ?_⟩
        · rw [hv']
          simp [signs, e1]
        · rw [e2]
          exact ⟨q, rfl⟩
  refine turn_of (by simp) (fun i h st b hb => ?_) (fun i h h' st kk => k.at st fun o e => kk it (by simp) o e) ?_ ?_ ?_
  · have : b = it := by simpa using hb
    rw [this]
    exact k.obj st
  · intro X hP hw hK hc i pins s σ H I hf st ⟨vs, hv, hi⟩
    obtain ⟨P', B, fp', W, b0, hp⟩ := goes X hP hw hK hc pins s σ H I hf vs hv
    refine ⟨_, _, _, _, _, W, fun b hb => hb, hi, ⟨st, b0⟩, fun v h' tk y st' hk => ?_⟩
    obtain ⟨x, e, r⟩ := hp i v y
    exact ⟨x, H, I.turnedL (t' := tk) hk hf, r, ⟨rfl, fun vs' h' => by subst hP hw hK; rw [k.inj I hv h']; exact e⟩, st'.1, fun b hb => (hf b hb).1⟩
  · intro X hP hw hK hc i pins s σ H I hf st ⟨vs, hv, hi⟩
    obtain ⟨P', B, fp', W, b0, hp⟩ := goes X hP hw hK hc pins s σ H I hf vs hv
    subst hi
    exact ⟨_, _, _, _, _, W, fun b hb => hb, rfl, st, b0⟩
  · intro A i s Q E st h
    cases k with
    | L a => exact wpAny_pyIter_listiter st h
    | T a => exact wpAny_pyIter_tupleiter st h
    | X x t =>
      have st' : s.heap.IsStrIter it (strIterType x) x t i := st
      cases ha : x.cps.all (· < 128) with
      | false =>
        simp only [strIterType, ha, Bool.false_eq_true, if_false] at st'
        exact wpAny_pyIter_striter_wide st' h
      | true =>
        simp only [strIterType, ha, if_true] at st'
        exact wpAny_pyIter_striter_ascii st' h
/-- where the cells of a zip stand -/
structure ZAp (z TI TO i1 i2 : Addr) : Prop where
  TIz : TI ≠ z
  TOz : TO ≠ z
  TITO : TI ≠ TO
  TIi1 : TI ≠ i1
  TIi2 : TI ≠ i2
  zi1 : z ≠ i1
  zi2 : z ≠ i2
  Ti1 : TO ≠ i1
  Ti2 : TO ≠ i2
  i12 : i1 ≠ i2
theorem sep_of {z TI TO i1 i2 : Addr} (Z : ZAp z TI TO i1 i2) {k l : Sc} {ow1 ow2 : List Addr} (h1 : ∀ b ∈ ow1, ¬ k.apart b) (h2 : ∀ b ∈ ow2, ¬ l.apart b) (a : ∀ c ∈ [z, TI, TO, i1, i2], k.apart c ∧ l.apart c) : ZipSep2 z TI TO i1 i2 (i1 :: ow1) (i2 :: ow2) := by
  have n1 : ∀ c ∈ [z, TI, TO, i1, i2], c ∉ ow1 := fun c hc hm => h1 c hm (a c hc).1
  have n2 : ∀ c ∈ [z, TI, TO, i1, i2], c ∉ ow2 := fun c hc hm => h2 c hm (a c hc).2
  have no : ∀ {c i : Addr} {ow : List Addr}, c ≠ i → c ∉ ow → c ∉ i :: ow := fun h1 h2 hm => (List.mem_cons.mp hm).elim h1 h2
  exact { TIz := Z.TIz, TOz := Z.TOz, TITO := Z.TITO, TIi1 := Z.TIi1, mem1 := List.mem_cons_self, zf1 := no Z.zi1 (n1 z (by simp)), Tf1 := no Z.Ti1 (n1 TO (by simp)),
          TIi2 := Z.TIi2, mem2 := List.mem_cons_self, zf2 := no Z.zi2 (n2 z (by simp)), Tf2 := no Z.Ti2 (n2 TO (by simp)), sep1_2 := no Z.i12 (n2 i1 (by simp)), sep2_1 := no (Ne.symm Z.i12) (n1 i2 (by simp)) }
theorem turn_Z {P : Program} {w : World} {K : PySem.W.Frag} {elts : List Expr} {kk : Nat} {tpos : Pos} (k l : Sc) {z TI TO i1 i2 : Addr} (Z : ZAp z TI TO i1 i2) :
    Turn P w K (.Tuple elts kk tpos) (ItZ K k l) [z, TI, TO, i1, i2] z (fun i h => IsZip h z TI TO .none ∧ IsTupOf2 h TI (.ref i1) (.ref i2) ∧ (∃ a1 a2, IsTupOf2 h TO a1 a2) ∧ k.st i1 i h ∧ l.st i2 i h) := by
  have goes : ∀ (X : Cx), X.prog = P → X.w = w → X.K = K → X.calm = true → ∀ (pins : List (Addr × Obj)) (s : Shared) (σ : L2.St) (H : Hp), Inv X pins σ H s → (∀ b ∈ [z, TI, TO, i1, i2], FpOk X pins H b) → ∀ vs ws, k.here K H vs → l.here K H ws →
      ∃ (P1 P2 : Nat → Value → Prop) (B1 B2 : Heap → Prop) (fp' : List Addr), GoesN P w X.A (.Tuple elts kk tpos) z fp' [z, TO, i1, i2] (min vs.length ws.length) (fun i h₀ v h => ∃ T x y, v = .ref T ∧ h₀.objs.size ≤ T ∧ P1 i x ∧ P2 i y ∧ h.IsTuple T #[x, y])
        (fun i h => IsZip h z TI TO .none ∧ IsTupOf2 h TI (.ref i1) (.ref i2) ∧ (∃ a1 a2, IsTupOf2 h TO a1 a2) ∧ (k.st i1 i h ∧ B1 h) ∧ (l.st i2 i h ∧ B2 h)) ∧ B1 s.heap ∧ B2 s.heap ∧ (∀ i u, P1 i u → ∃ v, vs[i]? = some v ∧ RelV v u) ∧ (∀ i u, P2 i u → ∃ v, ws[i]? = some v ∧ RelV v u) := by
    intro X hP hw hK hc pins s σ H I hf vs ws hv hw'
    subst hP hw hK
    have hh : X.A.in1.handled = none := I.ok.hd hc
    obtain ⟨P1, B1, ow1, D1, b1, r1, n1, _⟩ := Sc.draws (A := X.A.in1) I hh hv (fp_apart I (hf i1 (by simp)) hv)
    obtain ⟨P2, B2, ow2, D2, b2, r2, n2, _⟩ := Sc.draws (A := X.A.in1) I hh hw' (fp_apart I (hf i2 (by simp)) hw')
    exact ⟨P1, P2, B1, B2, _, GoesN.zip2 (sep_of Z n1 n2 fun c hc' => ⟨fp_apart I (hf c hc') hv, fp_apart I (hf c hc') hw'⟩) D1 D2, b1, b2, r1, r2⟩
  have sub : ∀ b ∈ [z, TO, i1, i2], b ∈ [z, TI, TO, i1, i2] := fun b hb => by
    simp only [List.mem_cons, List.not_mem_nil, or_false] at hb ⊢
    rcases hb with q | q | q | q
    · exact .inl q
    · exact .inr (.inr (.inl q))
    · exact .inr (.inr (.inr (.inl q)))
    · exact .inr (.inr (.inr (.inr q)))
  refine turn_of (by simp) (fun i h st b hb => ?_) (fun i h h' st kk => ?_) ?_ ?_ ?_
  · obtain ⟨hz, hTI, ⟨a1, a2, hTO⟩, h1, h2⟩ := st
    simp only [List.mem_cons, List.not_mem_nil, or_false] at hb
    rcases hb with q | q | q | q | q
    · rw [q]; exact ⟨_, hz, fun v q => nomatch q⟩
    · rw [q]; exact ⟨_, hTI, fun v q => nomatch q⟩
    · rw [q]; exact ⟨_, hTO, fun v q => nomatch q⟩
    · rw [q]; exact k.obj h1
    · rw [q]; exact l.obj h2
  · obtain ⟨hz, hTI, ⟨a1, a2, hTO⟩, h1, h2⟩ := st
    exact ⟨kk z (by simp) _ hz, kk TI (by simp) _ hTI, ⟨a1, a2, kk TO (by simp) _ hTO⟩, k.at h1 fun o e => kk i1 (by simp) o e, l.at h2 fun o e => kk i2 (by simp) o e⟩
  · intro X hP hw hK hc i pins s σ H I hf st ⟨vs, ws, hv, hw', hi⟩
    obtain ⟨P1, P2, B1, B2, fp', W, b1, b2, r1, r2⟩ := goes X hP hw hK hc pins s σ H I hf vs ws hv hw'
    obtain ⟨hz, hTI, hTO, h1, h2⟩ := st
    refine ⟨_, _, _, _, _, W, sub, hi, ⟨hz, hTI, hTO, ⟨h1, b1⟩, ⟨h2, b2⟩⟩, fun v h' tk y st' hkeep => ?_⟩
    obtain ⟨T, x, y', rfl, hT, p1, p2, hTup⟩ := y
    obtain ⟨vx, ex, rx⟩ := r1 i x p1
    obtain ⟨vy, ey, ry⟩ := r2 i y' p2
    have new : ObjOk X.prog X.w (upd H T (.tup [vx, vy])) h' T (.tup [vx, vy]) := ⟨by show 2 ≤ sizeLine; decide, [x, y'], .cons rx (.cons ry .nil), show h'.IsTuple T #[x, y'] from hTup⟩
    refine ⟨.ref T, _, I.turnedNew (t' := tk) (ch := [z, TO, i1, i2]) hkeep (fun b hb => hf b (sub b hb)) hT new, rfl, ⟨T, vx, vy, rfl, I.hok.fresh hT, rfl, fun vs' h' => by subst hP hw hK; rw [k.inj I hv h']; exact ex, fun ws' h' => by subst hP hw hK; rw [l.inj I hw' h']; exact ey⟩, ⟨st'.1, st'.2.1, st'.2.2.1, st'.2.2.2.1.1, st'.2.2.2.2.1⟩, fun b hb => ?_⟩
    have hb2 : b < s.heap.objs.size := by
      obtain ⟨a1, a2, hTO⟩ := hTO
      simp only [List.mem_cons, List.not_mem_nil, or_false] at hb
      rcases hb with q | q | q | q | q
      · rw [q]; exact Heap.lt_size hz
      · rw [q]; exact Heap.lt_size hTI
      · rw [q]; exact Heap.lt_size hTO
      · rw [q]; obtain ⟨o, e, _⟩ := k.obj h1; exact Heap.lt_size e
      · rw [q]; obtain ⟨o, e, _⟩ := l.obj h2; exact Heap.lt_size e
    rw [upd_ne (Nat.ne_of_lt (Nat.lt_of_lt_of_le hb2 hT))]
    exact (hf b hb).1
  · intro X hP hw hK hc i pins s σ H I hf st ⟨vs, ws, hv, hw', hi⟩
    obtain ⟨P1, P2, B1, B2, fp', W, b1, b2, r1, r2⟩ := goes X hP hw hK hc pins s σ H I hf vs ws hv hw'
    obtain ⟨hz, hTI, hTO, h1, h2⟩ := st
    subst hi
    exact ⟨_, _, _, _, _, W, sub, rfl, ⟨hz, hTI, hTO, ⟨h1, b1⟩, ⟨h2, b2⟩⟩⟩
  · intro A i s Q E st h
    exact wpAny_pyIter_zip st.1 h
theorem turn_E {P : Program} {w : World} {K : PySem.W.Frag} {elts : List Expr} {kk : Nat} {tpos : Pos} (k : Sc) {e it : Addr} (hne : e ≠ it) :
    Turn P w K (.Tuple elts kk tpos) (ItE K k) [e, it] e (fun i h => (∃ old, IsEnum h e it (0 + (i : Int)) old) ∧ k.st it i h) := by
  have goes : ∀ (X : Cx), X.prog = P → X.w = w → X.K = K → X.calm = true → ∀ (pins : List (Addr × Obj)) (s : Shared) (σ : L2.St) (H : Hp), Inv X pins σ H s → (∀ b ∈ [e, it], FpOk X pins H b) → ∀ vs, k.here K H vs →
      ∃ (P1 : Nat → Value → Prop) (B1 : Heap → Prop) (fp' : List Addr), GoesN P w X.A (.Tuple elts kk tpos) e fp' [e, it] vs.length (fun i h₀ v h => ∃ T t x, v = .ref T ∧ h₀.objs.size ≤ T ∧ P1 i x ∧ h.IsTuple T #[.int (0 + (i : Int)) t, x])
        (fun i h => (∃ old, IsEnum h e it (0 + (i : Int)) old) ∧ (k.st it i h ∧ B1 h)) ∧ B1 s.heap ∧ (∀ i u, P1 i u → ∃ v, vs[i]? = some v ∧ RelV v u) := by
    intro X hP hw hK hc pins s σ H I hf vs hv
    subst hP hw hK
    have hh : X.A.in1.handled = none := I.ok.hd hc
    obtain ⟨P1, B1, ow1, D1, b1, r1, n1, _⟩ := Sc.draws (A := X.A.in1) I hh hv (fp_apart I (hf it (by simp)) hv)
    refine ⟨P1, B1, _, GoesN.enumFrom 0 D1 e hne (fun hm => ?_) (by simp), b1, r1⟩
    rcases List.mem_cons.mp hm with q | q
    · exact hne q
    · exact n1 e q (fp_apart I (hf e (by simp)) hv)
  refine turn_of (by simp) (fun i h st b hb => ?_) (fun i h h' st kk => ?_) ?_ ?_ ?_
  · obtain ⟨⟨old, hz⟩, h1⟩ := st
    simp only [List.mem_cons, List.not_mem_nil, or_false] at hb
    rcases hb with q | q
    · rw [q]; exact ⟨_, hz, fun v q => nomatch q⟩
    · rw [q]; exact k.obj h1
  · obtain ⟨⟨old, hz⟩, h1⟩ := st
    exact ⟨⟨old, kk e (by simp) _ hz⟩, k.at h1 fun o q => kk it (by simp) o q⟩
  · intro X hP hw hK hc i pins s σ H I hf st ⟨vs, hv, hi⟩
    obtain ⟨P1, B1, fp', W, b1, r1⟩ := goes X hP hw hK hc pins s σ H I hf vs hv
    obtain ⟨⟨old, hz⟩, h1⟩ := st
    refine ⟨_, _, _, _, _, W, fun b hb => hb, hi, ⟨⟨old, hz⟩, ⟨h1, b1⟩⟩, fun v h' tk y st' hkeep => ?_⟩
    obtain ⟨T, t, x, rfl, hT, p1, hTup⟩ := y
    obtain ⟨vx, ex, rx⟩ := r1 i x p1
    have e0 : (0 : Int) + (i : Int) = (i : Int) := by omega
    have new : ObjOk X.prog X.w (upd H T (.tup [.int (i : Nat), vx])) h' T (.tup [.int (i : Nat), vx]) := ⟨by show 2 ≤ sizeLine; decide, [.int (0 + (i : Int)) t, x], .cons ⟨t, by rw [e0]⟩ (.cons rx .nil), show h'.IsTuple T #[.int (0 + (i : Int)) t, x] from hTup⟩
    refine ⟨.ref T, _, I.turnedNew (t' := tk) (ch := [e, it]) hkeep hf hT new, rfl, ⟨T, vx, rfl, I.hok.fresh hT, rfl, fun vs' h' => by subst hP hw hK; rw [k.inj I hv h']; exact ex⟩, ⟨st'.1, st'.2.1⟩, fun b hb => ?_⟩
    have hb2 : b < s.heap.objs.size := by
      simp only [List.mem_cons, List.not_mem_nil, or_false] at hb
      rcases hb with q | q
      · rw [q]; exact Heap.lt_size hz
      · rw [q]; obtain ⟨o, e, _⟩ := k.obj h1; exact Heap.lt_size e
    rw [upd_ne (Nat.ne_of_lt (Nat.lt_of_lt_of_le hb2 hT))]
    exact (hf b hb).1
  · intro X hP hw hK hc i pins s σ H I hf st ⟨vs, hv, hi⟩
    obtain ⟨P1, B1, fp', W, b1, r1⟩ := goes X hP hw hK hc pins s σ H I hf vs hv
    subst hi
    exact ⟨_, _, _, _, _, W, fun b hb => hb, rfl, ⟨st.1, st.2, b1⟩⟩
  · intro A i s Q E st h
    obtain ⟨⟨old, hz⟩, _⟩ := st
    exact wpAny_pyIter_enum hz h
end
end VL

/-! # walking expressions -/
namespace VL
open PySem PySem.Spec PyProof.Rows L2
section
variable {X : Cx} {pins : List (Addr × Obj)} {σ : L2.St} {H H' : Hp} {s : Shared} {A : Around}
/-- v is walked as vs -/
inductive Hr (K : PySem.W.Frag) (H : Hp) : V → List V → (Sc → Prop) → Prop
  | L {a : Addr} {vs : List V} : SqL K H a vs → Hr K H (.ref a) vs (fun k => k = .L a)
  | T {a : Addr} {vs : List V} : SqT K H a vs → Hr K H (.ref a) vs (fun k => k = .T a)
  | X {x : Str} : x.length ≤ sizeLine → Hr K H (.str x) (signs x.cps.toList) (fun k => ∃ t, k = .X x t)
theorem Hr.sc {K : PySem.W.Frag} {x : V} {vs : List V} {C : Sc → Prop} {u : Value} (h : Hr K H x vs C) (r : RelV x u) : ∃ k : Sc, C k ∧ k.v = u ∧ k.here K H vs := by
  cases h with
  | L h => cases r; exact ⟨.L _, rfl, rfl, h⟩
  | T h => cases r; exact ⟨.T _, rfl, rfl, h⟩
  | X _ => obtain ⟨t, rfl⟩ := r; exact ⟨.X _ t, ⟨t, rfl⟩, rfl, rfl⟩
theorem Hr.small (I : Inv X pins σ H s) {x : V} {vs : List V} {C : Sc → Prop} (h : Hr X.K H x vs C) : vs.length ≤ sizeLine := by
  cases h with
  | L h => obtain ⟨_, _, _, z⟩ := I.list h; exact z
  | T h => obtain ⟨_, _, _, z⟩ := I.tuple h; exact z
  | X h => simpa [signs, Str.length] using h
theorem new_fp (I : Inv X pins σ H s) (H' : Hp) (e : ∀ b, H' b = H b) (n : Nat) : FpOk X pins H' (s.heap.objs.size + n : Nat) :=
  I.fpOk (Nat.le_add_right _ _) (by rw [e]; exact I.hok.fresh (Nat.le_add_right _ _))
def iS (K : PySem.W.Frag) (te : TE) : TI := fun σ H R => te σ H fun x H1 => ∃ vs C, Hr K H1 x vs C ∧ ∀ k : Sc, C k → k.here K H1 vs → vs.length ≤ sizeLine → R (ItS K k) H1
theorem pi_S {tg e : Expr} {te : TE} (hc : X.calm = true) (he : PE X e te) : PI X tg e (iS X.K te) := by
  refine ⟨fun pins s σ H R I h => ?_⟩
  refine thn (he.run pins s σ H _ I h) fun v s1 ⟨x, H1, I1, r1, vs, C, hr, q⟩ => ?_
  obtain ⟨k, ck, rfl, hk⟩ := hr.sc r1
  obtain ⟨P, B, ow, D, b0, _, _, _, Bg, st0⟩ := Sc.draws I1 (I1.ok.hd hc) hk (fp_apart I1 (new_fp I1 H1 (fun _ => rfl) 0) hk)
  refine Bg.iter _ _ _ _ s1 _ b0 ?_
  refine ⟨s1.heap.objs.size, [s1.heap.objs.size], _, _, H1, rfl, I1.kept (t' := s1.toks) fun b o e => Heap.get?_push_of_some _ e, turn_S k s1.heap.objs.size, st0 _ (Heap.get?_push_size _ Bg.free), fun b hb => ?_, q k ck hk (hr.small I1)⟩
  have e : b = s1.heap.objs.size := by simpa using hb
  rw [e]
  exact new_fp I1 H1 (fun _ => rfl) 0
def iZ (K : PySem.W.Frag) (ta : TA) : TI := fun σ H R => ta σ H fun xs H1 => ∃ x y vs ws C D, xs = [x, y] ∧ Hr K H1 x vs C ∧ Hr K H1 y ws D ∧ ∀ k l : Sc, C k → D l → k.here K H1 vs → l.here K H1 ws → vs.length ≤ sizeLine → R (ItZ K k l) H1
theorem pi_Z {e e2 : Expr} {ta : TA} {p pos tpos : Pos} {elts : List Expr} {kk : Nat} (hc : X.calm = true) (hg : Gl X "zip") (hm : X.mg "zip" = none) (ha : PA X [e, e2] ta)
    (hs : starEach [e, e2] X.env = (false, eval e X.env) :: starEach [e2] X.env := by rfl) (hpl : (backTo pos (starEach [e2] X.env)).any (·.1) = false := by rfl) : PI X (.Tuple elts kk tpos) (.Call (.Name "zip" p) [e, e2] [] pos) (iZ X.K ta) := by
  refine ⟨fun pins s σ H R I h => ?_⟩
  refine Call_ (ld_blt I hg hm boot_zip (callWith_type1 (thn (ha.run pos pins s σ H _ I h) fun us s1 ⟨xs, H1, I1, r1, x, y, vs, ws, C, D, ex, hx, hy, q⟩ => ?_) hs hpl))
  subst ex
  obtain ⟨u, u2, rfl, rx, ry⟩ := vals2 r1
  obtain ⟨k, ck, rfl, hk⟩ := hx.sc rx
  obtain ⟨l, cl, rfl, hl⟩ := hy.sc ry
  have fp : ∀ n : Nat, FpOk X pins H1 (s1.heap.objs.size + n : Nat) := fun n => new_fp I1 H1 (fun _ => rfl) n
  have hh : X.A.in1.handled = none := I1.ok.hd hc
  obtain ⟨P1, B1, ow1, D1, b1, _, _, _, g1, st1⟩ := Sc.draws I1 hh hk (fp_apart I1 (fp 0) hk)
  obtain ⟨P2, B2, ow2, D2, b2, _, _, _, g2, st2⟩ := Sc.draws I1 hh hl (fp_apart I1 (fp 1) hl)
  refine zip_begins2 g1 g2 b1 b2 fun h' hz hTI hTO e1 e2 hsz hkp => wpAny_pyIter_zip hz ?_
  have I2 : Inv X pins σ H1 { s1 with heap := h' } := I1.kept (t' := s1.toks) hkp
  refine ⟨s1.heap.objs.size + 4, [s1.heap.objs.size + 4, s1.heap.objs.size + 2, s1.heap.objs.size + 3, s1.heap.objs.size, s1.heap.objs.size + 1], _, _, H1, rfl, I2, turn_Z k l ?_, ⟨hz, hTI, ⟨_, _, hTO⟩, st1 _ e1, st2 _ e2⟩, fun b hb => ?_, q k l ck cl hk hl (hx.small I1)⟩
  · generalize s1.heap.objs.size = n
    exact { TIz := show (n + 2 : Nat) ≠ n + 4 by omega, TOz := show (n + 3 : Nat) ≠ n + 4 by omega, TITO := show (n + 2 : Nat) ≠ n + 3 by omega, TIi1 := show (n + 2 : Nat) ≠ n by omega, TIi2 := show (n + 2 : Nat) ≠ n + 1 by omega,
            zi1 := show (n + 4 : Nat) ≠ n by omega, zi2 := show (n + 4 : Nat) ≠ n + 1 by omega, Ti1 := show (n + 3 : Nat) ≠ n by omega, Ti2 := show (n + 3 : Nat) ≠ n + 1 by omega, i12 := show (n : Nat) ≠ n + 1 by omega }
  · simp only [List.mem_cons, List.not_mem_nil, or_false] at hb
    rcases hb with z | z | z | z | z
    · rw [z]; exact fp 4
    · rw [z]; exact fp 2
    · rw [z]; exact fp 3
    · rw [z]; exact fp 0
    · rw [z]; exact fp 1
set_option maxHeartbeats 4000000 in
theorem meets_enum1 {v : Value} {o : Obj} {B : Heap → Prop} (g : Begins v o B) :
    Meets (Builtin.«enumerate.__new__» ⟨[.type "enumerate", v], []⟩) (fun _ R s => B s.heap ∧
      R (.ok (.ret (.ref (s.heap.push o).objs.size))) { s with heap := (s.heap.push o).push { cls := .type "enumerate", data := .fields #[.none, .bool false, .ref s.heap.objs.size, rawInt 0, .none, .none] } }) :=
  .of_wp fun prog w A R s h => by
    obtain ⟨hp, ge, dr, tk, os⟩ := s
    obtain ⟨h1, h⟩ := h
    have hsub := sub_enumerate
    have q1 : ∀ {A' : Around} {E : Value → Shared → Prop} {Q : Value → Shared → Prop}, Q (.ref hp.objs.size) ⟨hp.push o, ge, dr, tk, os⟩ → wpAny (model prog w) A' (pyIter v) Q E ⟨hp, ge, dr, tk, os⟩ := fun q => g.iter prog w _ _ ⟨hp, ge, dr, tk, os⟩ _ h1 q
    wp_walk using q1
    refine wpAny_stack_any fun st => wpAny_pure ?_
    split
    · rename_i c _ _ _ _ _
      cases (c == Value.type "enumerate") <;> (wp_walk using q1; exact ⟨_, rfl, h⟩)
    · wp_walk using q1
      exact ⟨_, rfl, h⟩
theorem enum_begins1 {prog : Program} {w : World} {E : Value → Shared → Prop} {v : Value} {o : Obj} {B : Heap → Prop} {Q : Value → Shared → Prop} (g : Begins v o B) (h1 : B s.heap)
    (h : ∀ h', IsEnum h' (s.heap.objs.size + 1) s.heap.objs.size 0 .none → h'.get? s.heap.objs.size = some o → (∀ b o, s.heap.get? b = some o → h'.get? b = some o) → Q (.ref (s.heap.objs.size + 1)) { s with heap := h' }) :
    wpAny (model prog w) A (call (.type "enumerate") [v]) Q E s := by
  refine callType_new F.called_enumerate (by decide) (F.typeCall_enumerate_1 _) (F.newCall_enumerate_1 _) (fun obj => F.args_object_init_2 obj _) F.entry_enumerate_new (meets_enum1 g) ⟨h1, ?_⟩
  have hz : (s.heap.push o).objs.size = s.heap.objs.size + 1 := Heap.size_push ..
  show _ ∧ _
  rw [hz]
  have he := Heap.get?_push_size (s.heap.push o) (o := { cls := .type "enumerate", data := .fields #[.none, .bool false, .ref s.heap.objs.size, rawInt 0, .none, .none] }) rfl
  rw [hz] at he
  exact ⟨⟨_, he, rfl⟩, h _ he (Heap.get?_push_of_some _ (Heap.get?_push_size _ g.free)) fun b o x => Heap.get?_push_of_some _ (Heap.get?_push_of_some _ x)⟩
def iE (K : PySem.W.Frag) (ta : TA) : TI := fun σ H R => ta σ H fun xs H1 => ∃ x vs C, xs = [x] ∧ Hr K H1 x vs C ∧ ∀ k : Sc, C k → k.here K H1 vs → vs.length ≤ sizeLine → R (ItE K k) H1
theorem pi_E {e : Expr} {ta : TA} {p pos tpos : Pos} {elts : List Expr} {kk : Nat} (hc : X.calm = true) (hg : Gl X "enumerate") (hm : X.mg "enumerate" = none) (ha : PA X [e] ta)
    (hs : starEach [e] X.env = [(false, eval e X.env)] := by rfl) : PI X (.Tuple elts kk tpos) (.Call (.Name "enumerate" p) [e] [] pos) (iE X.K ta) := by
  refine ⟨fun pins s σ H R I h => ?_⟩
  refine Call_ (ld_blt I hg hm boot_enumerate (callWith_type1 (thn (ha.run pos pins s σ H _ I h) fun us s1 ⟨xs, H1, I1, r1, x, vs, C, ex, hx, q⟩ => ?_) hs rfl))
  subst ex
  obtain ⟨u, rfl, rx⟩ := vals1 r1
  obtain ⟨k, ck, rfl, hk⟩ := hx.sc rx
  have fp : ∀ n : Nat, FpOk X pins H1 (s1.heap.objs.size + n : Nat) := fun n => new_fp I1 H1 (fun _ => rfl) n
  have hh : X.A.in1.handled = none := I1.ok.hd hc
  obtain ⟨P1, B1, ow1, D1, b1, _, _, _, g1, st1⟩ := Sc.draws I1 hh hk (fp_apart I1 (fp 0) hk)
  refine enum_begins1 g1 b1 fun h' he e1 hkp => wpAny_pyIter_enum he ?_
  have I2 : Inv X pins σ H1 { s1 with heap := h' } := I1.kept (t' := s1.toks) hkp
  refine ⟨s1.heap.objs.size + 1, [s1.heap.objs.size + 1, s1.heap.objs.size], _, _, H1, rfl, I2, turn_E k (Nat.succ_ne_self _), ⟨⟨_, he⟩, st1 _ e1⟩, fun b hb => ?_, q k ck hk (hx.small I1)⟩
  simp only [List.mem_cons, List.not_mem_nil, or_false] at hb
  rcases hb with z | z
  · rw [z]; exact fp 1
  · rw [z]; exact fp 0
end
end VL

namespace VL
open PySem PySem.Spec PyProof.Rows L2
/-! ### values in a row -/
def evMs : List M → En → Rs (List Dv × En)
  | [], ρ => .ok ([], ρ)
  | m :: r, ρ => m ρ >>= fun x => evMs r x.2 >>= fun y => .ok (x.1 :: y.1, y.2)
section
variable {K : PySem.W.Frag} {F F' G : Addr → Prop} {H H' H1 H2 : Hp} {ρ ρ' ρ1 ρ2 : En} {σ σ' σ1 σ2 : L2.St} {W : WK}
def tMs (K : PySem.W.Frag) (W : WK) : List M → TA
  | [] => tNil
  | m :: r => tCons (tV K W m) (tMs K W r)
def PMs (K : PySem.W.Frag) (W : WK) (G : Addr → Prop) (ρ : En) (σ : L2.St) (H : Hp) (r : Rs (List Dv × En)) (Q : List V → Hp → Prop) : Prop := match r with
  | .ok (ds, ρ') => ∀ vs H', EnvOk K G ρ' σ H' → Tr ρ σ ρ' σ H H' → Reps K (Fo G ρ' σ) H' vs ds → Q vs H'
  | .exc x ρ' => ∀ H', EnvOk K G ρ' σ H' → Tr ρ σ ρ' σ H H' → W x σ H'
  | .bad => False
theorem tMs_of : ∀ (ms : List M) (ρ : En) (H : Hp) (Q : List V → Hp → Prop), EnvOk K G ρ σ H → PMs K W G ρ σ H (evMs ms ρ) Q → tMs K W ms σ H Q
  | [], ρ, H, Q, E, h => h [] H E .refl .nil
  | m :: r, ρ, H, Q, E, h => by
    show tV K W m σ H fun x H1 => tMs K W r σ H1 fun xs H2 => Q (x :: xs) H2
    refine ⟨G, ρ, E, ?_⟩
    have h' : PMs K W G ρ σ H (m ρ >>= fun x => evMs r x.2 >>= fun y => .ok (x.1 :: y.1, y.2)) Q := h
    cases e : m ρ with
    | bad => rw [e] at h'; exact h'.elim
    | exc x ρx => rw [e] at h'; exact h'
    | ok p =>
      obtain ⟨d, ρ1⟩ := p
      rw [e] at h'
      intro v H1 E1 t1 r1
      refine tMs_of r ρ1 H1 _ E1 ?_
      have h2 : PMs K W G ρ σ H (evMs r ρ1 >>= fun y => .ok (d :: y.1, y.2)) Q := h'
      cases e2 : evMs r ρ1 with
      | bad => rw [e2] at h2; exact h2.elim
      | exc x ρx => rw [e2] at h2; exact fun H2 E2 t2 => h2 H2 E2 (t1.trans t2)
      | ok q =>
        obtain ⟨ds, ρ2⟩ := q
        rw [e2] at h2
        intro vs H2 E2 t2 r2
        exact h2 (v :: vs) H2 E2 (t1.trans t2) (.cons (r1.tr t2) r2)
theorem evMs_len : ∀ {ms : List M} {ρ ρ' : En} {ds : List Dv}, evMs ms ρ = .ok (ds, ρ') → ds.length = ms.length
  | [], ρ, ρ', ds, h => by
    cases h
    rfl
  | m :: r, ρ, ρ', ds, h => by
    have h' : (m ρ >>= fun x => evMs r x.2 >>= fun y => (.ok (x.1 :: y.1, y.2) : Rs (List Dv × En))) = .ok (ds, ρ') := h
    cases e : m ρ with
    | bad => rw [e] at h'; cases h'
    | exc x ρx => rw [e] at h'; cases h'
    | ok p =>
      rw [e] at h'
      simp only [bind_ok] at h'
      cases e2 : evMs r p.2 with
      | bad => rw [e2] at h'; cases h'
      | exc x ρx => rw [e2] at h'; cases h'
      | ok q =>
        rw [e2] at h'
        cases h'
        rw [List.length_cons, List.length_cons, evMs_len e2]
variable {X : Cx} {e : Expr} {es : List Expr} {pos : Pos} {mm : M} {ms : List M}
theorem pms_nil : PA X [] (tMs X.K W []) := pa_nil
theorem pms_cons (ha : PE X e (tV X.K W mm)) (hr : PA X es (tMs X.K W ms)) (hs : starEach (e :: es) X.env = (false, eval e X.env) :: starEach es X.env := by rfl) : PA X (e :: es) (tMs X.K W (mm :: ms)) := pa_cons ha hr hs
/-! ### displays -/
def mTup (ms : List M) : M := fun ρ => evMs ms ρ >>= fun y => .ok (.tup y.1, y.2)
def mLst (ms : List M) : M := fun ρ => evMs ms ρ >>= fun y => .ok (.lst y.1, y.2)
theorem same_new {H : Hp} {p : Addr} {o : HO} (h : H p = none) : Same H (upd H p o) := fun b x e => by
  rw [upd_ne (ne_of_none e h)]
  exact e
theorem small_of {n : Nat} (h : n ≤ 1000) : n ≤ sizeLine := Nat.le_of_lt (small1000 h)
theorem pv_tup {x1} (h : PA X es (tMs X.K W ms)) (hl : Nat.ble ms.length 1000 = true := by rfl) : PE X (.Tuple es x1 pos) (tV X.K W (mTup ms)) := (pe_tup h).vimp fun σ H Q ⟨G, ρ, E, h⟩ => by
  refine tMs_of ms ρ H _ E ?_
  unfold mTup at h
  cases e : evMs ms ρ with
  | bad => rw [e] at h; exact h.elim
  | exc x ρx => rw [e] at h; exact h
  | ok q =>
    obtain ⟨ds, ρ'⟩ := q
    rw [e] at h
    intro vs H' E' t rs
    refine ⟨by rw [rs.length, evMs_len e]; exact small_of (Nat.le_of_ble_eq_true hl), fun p np => ?_⟩
    have s : Same H' (upd H' p (.tup vs)) := same_new np
    exact h _ _ (E'.same s) (t.same s) (.tup (.of upd_same) (rs.same s))
theorem pn_lst (h : PA X es (tMs X.K W ms)) (hl : Nat.ble ms.length 1000 = true := by rfl) : PE X (.List es pos) (tN X.K W (mLst ms)) := (pe_lst h).vimp fun σ H Q ⟨G, ρ, E, h⟩ => by
  refine tMs_of ms ρ H _ E ?_
  unfold mLst at h
  cases e : evMs ms ρ with
  | bad => rw [e] at h; exact h.elim
  | exc x ρx => rw [e] at h; exact h
  | ok q =>
    obtain ⟨ds, ρ'⟩ := q
    rw [e] at h
    intro vs H' E' t rs
    refine ⟨by rw [rs.length, evMs_len e]; exact small_of (Nat.le_of_ble_eq_true hl), fun p np => ?_⟩
    have s : Same H' (upd H' p (.lst vs)) := same_new np
    refine h p _ (E'.fresh s np (by rw [upd_same]; simp)) (t.same s) ?_ (.lst upd_same ((rs.more fun a z => ?_).same s))
    · cases q : H p with
      | none => rfl
      | some o => exact absurd np (t.stay p (by rw [q]; simp))
    · rcases z with (z | z) | z
      · exact .inl (.inl z)
      · exact .inr (by rw [z]; exact np)
      · exact .inl (.inr z)
theorem pv_lst (h : PA X es (tMs X.K W ms)) (hl : Nat.ble ms.length 1000 = true := by rfl) : PE X (.List es pos) (tV X.K W (mLst ms)) := pv_new (pn_lst h hl)
/-! ### calls -/
/-- a def's promise: upon data it does f -/
def spV (K : PySem.W.Frag) (n : Nat) (f : List Dv → Rs Dv) : Sp := fun vs H Q _ => ∃ (F : Addr → Prop) (ds : List Dv), (∀ a, F a → H a ≠ none) ∧ Reps K F H vs ds ∧ ds.length = n ∧ ∃ d, f ds = .ok d ∧ ∀ v H', Same H H' → Rep K F H' v d → Q v H'
/-- .. that hands back a new mutable thing -/
def spN (K : PySem.W.Frag) (n : Nat) (f : List Dv → Rs Dv) : Sp := fun vs H Q _ => ∃ (F : Addr → Prop) (ds : List Dv), (∀ a, F a → H a ≠ none) ∧ Reps K F H vs ds ∧ ds.length = n ∧ ∃ d, f ds = .ok d ∧ ∀ p H', Same H H' → H p = none → OwnRep K (fun a => F a ∨ a = p) H' false p d → Q (.ref p) H'
/-- .. that changes its first argument -/
def spIO (K : PySem.W.Frag) (n : Nat) (f : Dv → List Dv → Rs (Dv × Dv)) : Sp := fun vs H Q _ => ∃ (F : Addr → Prop) (c : Addr) (ws : List V) (d0 : Dv) (ds : List Dv), vs = .ref c :: ws ∧ F c ∧ (∀ a, F a → H a ≠ none) ∧ OwnRep K F H false c d0 ∧ Reps K F H ws ds ∧ ds.length = n ∧
  ∃ d d1, f d0 ds = .ok (d, d1) ∧ ∀ v H', (∀ a o, a ≠ c → H a = some o → H' a = some o) → OwnRep K F H' false c d1 → Rep K F H' v d → Q v H'
def mCall (f : List Dv → Rs Dv) (ms : List M) : M := fun ρ => evMs ms ρ >>= fun y => match f y.1 with
  | .ok d => .ok (d, y.2)
  | _ => .bad
def mCallIO (f : Dv → List Dv → Rs (Dv × Dv)) (i : Nat) (ms : List M) : M := fun ρ => getSl ρ i >>= fun _ => evMs ms ρ >>= fun y => match y.2[i]? with
  | some (.mt io false d0) => match f d0 y.1 with
    | .ok (d, d1) => .ok (d, y.2.set i (.mt io false d1))
    | _ => .bad
  | _ => .bad
variable {k : Nat} {fa : Addr} {fd : FuncData} {ps : List Str} {n : Nat} {f : List Dv → Rs Dv} {fio : Dv → List Dv → Rs (Dv × Dv)} {x : Str} {p : Pos}
theorem pv_call (Fn : FnOk X.prog X.w X.K X.mg X.base CX0 k fa fd ps (spV X.K n f)) (hr : Room k X.A) (hm : X.mg x = some (.ref fa)) (hk : PySem.W.keepIn X.K (.ref fa) = true) (hb : Binds X.K fd ps []) (hn : ms.length = n)
    (ha : PA X (e :: es) (tMs X.K W ms)) (hg : Gl X x := by rfl) (hdb : (x == ("__debug__" : Str)) = false := by decide) (he : starEach (e :: es) X.env = (false, eval e X.env) :: starEach es X.env := by rfl) (hpl : (backTo pos (starEach es X.env)).any (·.1) = false := by rfl) :
    PE X (.Call (.Name x p) (e :: es) [] pos) (tV X.K W (mCall f ms)) := (pe_call Fn hr hg hm hk hb .nil pass0 ha hdb he hpl).vimp fun σ H Q ⟨G, ρ, E, h⟩ => by
  refine tMs_of ms ρ H _ E ?_
  unfold mCall at h
  cases e : evMs ms ρ with
  | bad => rw [e] at h; exact h.elim
  | exc x ρx => rw [e] at h; exact h
  | ok q =>
    obtain ⟨ds, ρ'⟩ := q
    rw [e] at h
    intro vs H' E' t rs
    simp only [bind_ok] at h
    cases q : f ds with
    | bad => rw [q] at h; exact h.elim
    | exc _ _ => rw [q] at h; exact h.elim
    | ok d =>
      rw [q] at h
      show spV X.K n f (vs ++ []) H' Q _
      rw [List.append_nil]
      exact ⟨Fo G ρ' σ, ds, fun a z => E'.fo z, rs, by rw [evMs_len e]; exact hn, d, q, fun v H2 s r => h v H2 (E'.same s) (t.same s) r⟩
theorem pv_call0 (Fn : FnOk X.prog X.w X.K X.mg X.base CX0 k fa fd ps (spV X.K 0 f)) (hr : Room k X.A) (hm : X.mg x = some (.ref fa)) (hk : PySem.W.keepIn X.K (.ref fa) = true) (hb : Binds X.K fd ps []) (hg : Gl X x := by rfl) (hdb : (x == ("__debug__" : Str)) = false := by decide) :
    PE X (.Call (.Name x p) [] [] pos) (tV X.K W (mCall f [])) := (pe_call0 Fn hr hg hm hk hb .nil pass0 hdb).vimp fun σ H Q ⟨G, ρ, E, h⟩ => by
  unfold mCall at h
  simp only [evMs, bind_ok] at h
  show spV X.K 0 f ([] ++ []) H Q E0
  cases q : f [] with
  | bad => rw [q] at h; exact h.elim
  | exc _ _ => rw [q] at h; exact h.elim
  | ok d =>
    rw [q] at h
    exact ⟨Fo G ρ σ, [], fun a z => E.fo z, .nil, rfl, d, q, fun v H2 s r => h v H2 (E.same s) (.of_same s) r⟩
theorem pn_call (Fn : FnOk X.prog X.w X.K X.mg X.base CX0 k fa fd ps (spN X.K n f)) (hr : Room k X.A) (hm : X.mg x = some (.ref fa)) (hk : PySem.W.keepIn X.K (.ref fa) = true) (hb : Binds X.K fd ps []) (hn : ms.length = n)
    (ha : PA X (e :: es) (tMs X.K W ms)) (hg : Gl X x := by rfl) (hdb : (x == ("__debug__" : Str)) = false := by decide) (he : starEach (e :: es) X.env = (false, eval e X.env) :: starEach es X.env := by rfl) (hpl : (backTo pos (starEach es X.env)).any (·.1) = false := by rfl) :
    PE X (.Call (.Name x p) (e :: es) [] pos) (tN X.K W (mCall f ms)) := (pe_call Fn hr hg hm hk hb .nil pass0 ha hdb he hpl).vimp fun σ H Q ⟨G, ρ, E, h⟩ => by
  refine tMs_of ms ρ H _ E ?_
  unfold mCall at h
  cases e : evMs ms ρ with
  | bad => rw [e] at h; exact h.elim
  | exc x ρx => rw [e] at h; exact h
  | ok q =>
    obtain ⟨ds, ρ'⟩ := q
    rw [e] at h
    intro vs H' E' t rs
    simp only [bind_ok] at h
    cases q : f ds with
    | bad => rw [q] at h; exact h.elim
    | exc _ _ => rw [q] at h; exact h.elim
    | ok d =>
      rw [q] at h
      show spN X.K n f (vs ++ []) H' Q _
      rw [List.append_nil]
      refine ⟨Fo G ρ' σ, ds, fun a z => E'.fo z, rs, by rw [evMs_len e]; exact hn, d, q, fun q H2 s nq o => h q H2 (E'.fresh s nq (by obtain ⟨_, e, _⟩ := o.there; rw [e]; simp)) (t.same s) ?_ (o.less fun a z => ?_)⟩
      · cases e3 : H q with
        | none => rfl
        | some o => exact absurd nq (t.stay q (by rw [e3]; simp))
      · rcases z with (z | z) | z
        · exact .inl (.inl z)
        · exact .inr z
        · exact .inl (.inr z)
theorem pv_callIO (i : Nat) {y : Str} {py : Pos} (Fn : FnOk X.prog X.w X.K X.mg X.base CX0 k fa fd ps (spIO X.K n fio)) (hr : Room k X.A) (hm : X.mg x = some (.ref fa)) (hk : PySem.W.keepIn X.K (.ref fa) = true) (hb : Binds X.K fd ps []) (hn : ms.length = n)
    (hi : PE X (.Name y py) (tVar i)) (ha : PA X es (tMs X.K W ms)) (hg : Gl X x := by rfl) (hdb : (x == ("__debug__" : Str)) = false := by decide) (he : starEach (.Name y py :: es) X.env = (false, eval (.Name y py) X.env) :: starEach es X.env := by rfl) (hpl : (backTo pos (starEach es X.env)).any (·.1) = false := by rfl) :
    PE X (.Call (.Name x p) (.Name y py :: es) [] pos) (tV X.K W (mCallIO fio i ms)) := (pe_call Fn hr hg hm hk hb .nil pass0 (pa_cons hi ha he) hdb he hpl).vimp fun σ H Q ⟨G, ρ, E, h⟩ => by
  unfold mCallIO at h
  cases e0 : getSl ρ i with
  | bad => rw [e0] at h; exact h.elim
  | exc x ρx => exact absurd e0 (by unfold getSl; split <;> simp)
  | ok d00 =>
    rw [e0] at h
    obtain ⟨v0, e1, _⟩ := E.slot e0
    refine ⟨v0, e1, ?_⟩
    refine tMs_of ms ρ H _ E ?_
    simp only [bind_ok] at h
    cases e : evMs ms ρ with
    | bad => rw [e] at h; exact h.elim
    | exc x ρx => rw [e] at h; exact h
    | ok q =>
      obtain ⟨ds, ρ'⟩ := q
      rw [e] at h
      intro vs H' E' t rs
      simp only [bind_ok] at h
      split at h
      · rename_i io d0 e3
        split at h
        · rename_i d d1 e4
          obtain ⟨c, e5, o⟩ := E'.ok i _ e3
          rw [e1] at e5
          cases e5
          have hc : Fo G ρ' σ c := .inr ⟨i, io, false, d0, e3, e1⟩
          show spIO X.K n fio ((V.ref c :: vs) ++ []) H' Q _
          rw [List.append_nil]
          refine ⟨Fo G ρ' σ, c, vs, d0, ds, rfl, hc, fun a z => E'.fo z, o, rs, by rw [evMs_len e]; exact hn, d, d1, e4, fun v H2 hk o1 r => ?_⟩
          obtain ⟨E2, t2⟩ := E'.mut e3 e1 hk (by obtain ⟨_, e, _⟩ := o1.there; rw [e]; simp) o1
          refine h v H2 E2 (t.trans t2) (r.less fun a z => ?_)
          rcases z with z | ⟨j, io1, lk1, dd, q1, q2⟩
          · exact .inl z
          · by_cases hj : i = j
            · subst hj
              exact .inr ⟨i, io, false, d0, e3, q2⟩
            · rw [List.getElem?_set_ne hj] at q1
              exact .inr ⟨j, io1, lk1, dd, q1, q2⟩
        · exact h.elim
      · exact h.elim
end
end VL

namespace VL
open PySem PySem.Spec PyProof.Rows L2
section
variable {K : PySem.W.Frag} {F F' G : Addr → Prop} {H H' H0 H1 H2 : Hp} {ρ ρ' ρ1 ρ2 : En} {σ σ' σ1 σ2 : L2.St} {W : WK}
/-! ### what is walked, by data -/
/-- H1 comes later than H0: what stood stands, but what F holds -/
structure Later (F : Addr → Prop) (H0 H1 : Hp) : Prop where
  keep : ∀ a o, H0 a = some o → ¬ F a → H1 a = some o
  tup : ∀ a o, H0 a = some o → isTup o → H1 a = some o
def YR (K : PySem.W.Frag) (F : Addr → Prop) (H0 : Hp) (ds : List Dv) : Nat → Hp → V → Hp → Prop := fun i H1 x H2 => Same H1 H2 ∧ ∃ d, ds[i]? = some d ∧ ∀ F' : Addr → Prop, (∀ a, F' a → F a ∨ H0 a = none) → Rep K F' H2 x d
def Wk (K : PySem.W.Frag) (F : Addr → Prop) (H0 : Hp) (J : It) (ds : List Dv) : Prop := ds.length ≤ sizeLine ∧ Walk J ds.length (Later F H0) (YR K F H0 ds)
abbrev MI := En → Rs (List Dv × En)
def PIt (K : PySem.W.Frag) (W : WK) (G : Addr → Prop) (ρ : En) (σ : L2.St) (H : Hp) (r : Rs (List Dv × En)) (R : It → Hp → Prop) : Prop := match r with
  | .ok (ds, ρ') => ∀ J H', EnvOk K G ρ' σ H' → Tr ρ σ ρ' σ H H' → Wk K (Fo G ρ' σ) H' J ds → R J H'
  | .exc x ρ' => ∀ H', EnvOk K G ρ' σ H' → Tr ρ σ ρ' σ H H' → W x σ H'
  | .bad => False
def tI (K : PySem.W.Frag) (W : WK) (mi : MI) : TI := fun σ H R => ∃ G ρ, EnvOk K G ρ σ H ∧ PIt K W G ρ σ H (mi ρ) R
/-- a rule over values that walks as f says -/
def LI (K : PySem.W.Frag) (r : List V → Hp → (It → Hp → Prop) → Prop) (f : List Dv → Option (List Dv)) : Prop := ∀ (F : Addr → Prop) (H : Hp) (vs : List V) (ds es : List Dv) (R : It → Hp → Prop), Reps K F H vs ds → f ds = some es → (∀ J, Wk K F H J es → R J H) → r vs H R
def mIt (f : List Dv → Option (List Dv)) (ms : List M) : MI := fun ρ => evMs ms ρ >>= fun y => match f y.1 with
  | some es => .ok (es, y.2)
  | none => .bad
theorem its_run {r : List V → Hp → (It → Hp → Prop) → Prop} {f : List Dv → Option (List Dv)} {ms : List M} {R : It → Hp → Prop} (hr : LI K r f) (h : tI K W (mIt f ms) σ H R) : tMs K W ms σ H fun vs H' => r vs H' R := by
  obtain ⟨G, ρ, E, h⟩ := h
  refine tMs_of ms ρ H _ E ?_
  unfold mIt at h
  cases e : evMs ms ρ with
  | bad => rw [e] at h; exact h.elim
  | exc x ρx => rw [e] at h; exact h
  | ok q =>
    obtain ⟨ds, ρ'⟩ := q
    rw [e] at h
    intro vs H' E' t rs
    simp only [bind_ok] at h
    cases e2 : f ds with
    | none => rw [e2] at h; exact h.elim
    | some es =>
      rw [e2] at h
      exact hr (Fo G ρ' σ) H' vs ds es R rs e2 fun J w => h J H' E' t w
/-- the items of a thing -/
def itD : Dv → Option (List Dv)
  | .lst ds => some ds
  | .tup ds => some ds
  | .str l => if l.length ≤ 16777216 then some (l.map fun c => .str [c]) else none
  | .scr ns => some (ns.map .int)
  | _ => none
theorem S_list (l : List Nat) : (S l).cps.toList = l := by simp [S]
theorem S_len (l : List Nat) : (S l).length = l.length := by simp [S, Str.length]
theorem reps_signs (l : List Nat) (h : okc l) : Reps K F H (signs l) (l.map fun c => .str [c]) := by
  induction l with
  | nil => exact .nil
  | cons c r ih => exact .cons (.str [c] fun x hx => h x (by simp at hx; simp [hx])) (ih fun x hx => h x (List.mem_cons_of_mem _ hx))
theorem reps_ints (ns : List Int) : Reps K F H (ns.map V.int) (ns.map .int) := by
  induction ns with
  | nil => exact .nil
  | cons c r ih => exact .cons (.int c) ih
theorem Rep.hr {x : V} {d : Dv} {ds : List Dv} (r : Rep K F H x d) (h : itD d = some ds) : ∃ vs C, Hr K H x vs C ∧ Reps K F H vs ds ∧ ∀ k H1, C k → k.here K H vs → Later F H H1 → k.here K H1 vs := by
  cases r with
  | lst e f rs =>
    cases h
    refine ⟨_, _, .L (.of e), rs, fun k H1 hk _ L => ?_⟩
    subst hk
    exact SqL.of (L.keep _ _ e f)
  | tup e rs =>
    cases h
    refine ⟨_, _, .T e, rs, fun k H1 hk _ L => ?_⟩
    subst hk
    exact sqT_mono e L.tup
  | str l h2 =>
    simp only [itD] at h
    split at h
    · rename_i hl
      cases h
      refine ⟨_, _, .X (by rw [S_len, sizeLine_eq]; exact hl), by rw [S_list]; exact reps_signs l h2, fun k H1 hk hh L => ?_⟩
      obtain ⟨t, rfl⟩ := hk
      exact hh
    · cases h
  | scr e =>
    cases h
    refine ⟨_, _, .L e.seq, reps_ints _, fun k H1 hk _ L => ?_⟩
    subst hk
    exact (scr_mono e L.tup).seq
  | ty _ => cases h
  | non => cases h
  | bl _ => cases h
  | int _ => cases h
  | dic _ _ _ _ _ => cases h
  | dit _ _ _ _ _ => cases h
theorem Later.refl : Later F H H := ⟨fun _ _ h _ => h, fun _ _ h _ => h⟩
theorem Reps.yr {vs : List V} {ds : List Dv} (rs : Reps K F H vs ds) {i : Nat} {x : V} (h : vs[i]? = some x) {H1 : Hp} (L : Later F H H1) : ∃ d, ds[i]? = some d ∧ ∀ F' : Addr → Prop, (∀ a, F' a → F a ∨ H a = none) → Rep K F' H1 x d := by
  obtain ⟨d, e, r⟩ := rs.get h
  refine ⟨d, e, fun F' hF => ?_⟩
  have r1 : Rep K (fun a => F a ∨ F' a) H x d := r.more fun a z => z.elim .inl (hF a)
  exact r1.mono (fun a z => .inr z) (fun a o e n => L.keep a o e fun z => n (.inl z)) L.tup
theorem wk_S {vs : List V} {ds : List Dv} {k : Sc} (rs : Reps K F H vs ds) (hl : vs.length ≤ sizeLine) (st : ∀ H1, Later F H H1 → k.here K H1 vs) : Wk K F H (ItS K k) ds := by
  refine ⟨by rw [← rs.length]; exact hl, fun i H1 hi L => ⟨vs, st H1 L, by rw [rs.length]; exact hi⟩, fun H1 L => ⟨vs, st H1 L, rs.length.symm⟩, fun i H1 x H2 hi L ⟨e, hx⟩ => ?_⟩
  subst e
  exact ⟨Same.refl _, rs.yr (hx vs (st _ L)) L⟩
def zipD (ds es : List Dv) : List Dv := List.zipWith (fun d e => .tup [d, e]) ds es
def enumD : Nat → List Dv → List Dv
  | _, [] => []
  | n, d :: r => .tup [.int (n : Nat), d] :: enumD (n + 1) r
theorem enumD_get : ∀ (ds : List Dv) (n i : Nat), (enumD n ds)[i]? = ds[i]?.map fun d => .tup [.int ((n + i : Nat) : Int), d]
  | [], n, i => by simp [enumD]
  | d :: r, n, 0 => by simp [enumD]
  | d :: r, n, i + 1 => by
    have := enumD_get r (n + 1) i
    rw [show enumD n (d :: r) = .tup [.int (n : Nat), d] :: enumD (n + 1) r from rfl, List.getElem?_cons_succ, List.getElem?_cons_succ, this]
    rw [show n + 1 + i = n + (i + 1) from by omega]
theorem enumD_len : ∀ (ds : List Dv) (n : Nat), (enumD n ds).length = ds.length
  | [], n => rfl
  | d :: r, n => by rw [show enumD n (d :: r) = .tup [.int (n : Nat), d] :: enumD (n + 1) r from rfl, List.length_cons, List.length_cons, enumD_len r]
theorem wk_Z {vs ws : List V} {ds es : List Dv} {k l : Sc} (rs : Reps K F H vs ds) (rt : Reps K F H ws es) (hl : vs.length ≤ sizeLine) (st : ∀ H1, Later F H H1 → k.here K H1 vs) (st2 : ∀ H1, Later F H H1 → l.here K H1 ws) : Wk K F H (ItZ K k l) (zipD ds es) := by
  have len : (zipD ds es).length = min vs.length ws.length := by simp [zipD, rs.length, rt.length]
  refine ⟨by rw [len]; exact Nat.le_trans (Nat.min_le_left _ _) hl, fun i H1 hi L => ⟨vs, ws, st H1 L, st2 H1 L, by rw [← len]; exact hi⟩, fun H1 L => ⟨vs, ws, st H1 L, st2 H1 L, len⟩, fun i H1 x H2 hi L ⟨T, a, b, e, nT, e2, ha, hb⟩ => ?_⟩
  subst e e2
  have sm : Same H1 (upd H1 T (.tup [a, b])) := same_new nT
  obtain ⟨da, ea, ra⟩ := rs.yr (ha vs (st _ L)) L
  obtain ⟨db, eb, rb⟩ := rt.yr (hb ws (st2 _ L)) L
  refine ⟨sm, .tup [da, db], by simp [zipD, List.getElem?_zipWith, ea, eb], fun F' hF => .tup (.of upd_same) (.cons ((ra F' hF).same sm) (.cons ((rb F' hF).same sm) .nil))⟩
theorem wk_E {vs : List V} {ds : List Dv} {k : Sc} (rs : Reps K F H vs ds) (hl : vs.length ≤ sizeLine) (st : ∀ H1, Later F H H1 → k.here K H1 vs) : Wk K F H (ItE K k) (enumD 0 ds) := by
  refine ⟨by rw [enumD_len, ← rs.length]; exact hl, fun i H1 hi L => ⟨vs, st H1 L, by rw [rs.length]; rw [enumD_len] at hi; exact hi⟩, fun H1 L => ⟨vs, st H1 L, by rw [enumD_len, rs.length]⟩, fun i H1 x H2 hi L ⟨T, a, e, nT, e2, ha⟩ => ?_⟩
  subst e e2
  have sm : Same H1 (upd H1 T (.tup [.int (i : Nat), a])) := same_new nT
  obtain ⟨da, ea, ra⟩ := rs.yr (ha vs (st _ L)) L
  refine ⟨sm, .tup [.int (i : Nat), da], by rw [enumD_get, ea]; simp, fun F' hF => .tup (.of upd_same) (.cons (.int _) (.cons ((ra F' hF).same sm) .nil))⟩
/-! ### the ways to walk -/
def it1 : List Dv → Option (List Dv)
  | [d] => itD d
  | _ => none
def itZ : List Dv → Option (List Dv)
  | [d, e] => match itD d, itD e with
    | some ds, some es => some (zipD ds es)
    | _, _ => none
  | _ => none
def itE : List Dv → Option (List Dv)
  | [d] => (itD d).map (enumD 0)
  | _ => none
def rng (lo : Int) (n : Nat) : List Dv := (List.range n).map fun i => .int (lo + (i : Nat))
def itR1 : List Dv → Option (List Dv)
  | [.int j] => if -16777216 ≤ j ∧ j ≤ 16777216 then some (rng 0 j.toNat) else none
  | _ => none
def itR2 : List Dv → Option (List Dv)
  | [.int i, .int j] => if -16777216 ≤ i ∧ i ≤ 16777216 ∧ -16777216 ≤ j ∧ j ≤ 16777216 ∧ j - i ≤ 16777216 then some (rng i (j - i).toNat) else none
  | _ => none
/-- downward by one -/
def itR3 : List Dv → Option (List Dv)
  | [.int i, .int j, .int (-1)] => if -16777216 ≤ i ∧ i ≤ 16777216 ∧ -16777216 ≤ j ∧ j ≤ 16777216 ∧ i - j ≤ 16777216 then some ((List.range (i - j).toNat).map fun k => .int (i - (k : Nat))) else none
  | _ => none
variable {X : Cx} {e e2 tg a b c : Expr} {es : List Expr} {pos p tpos : Pos} {elts : List Expr} {kk : Nat} {ms : List M} {m1 m2 m3 : M}
theorem pi_vS (hc : X.calm = true) (he : PE X e (tV X.K W m1)) : PI X tg e (tI X.K W (mIt it1 [m1])) := (pi_S hc he).vimp fun σ H R h => by
  have q := its_run (r := fun vs H R => ∃ x, vs = [x] ∧ ∃ us C, Hr X.K H x us C ∧ ∀ k : Sc, C k → k.here X.K H us → us.length ≤ sizeLine → R (ItS X.K k) H) ?_ h
  rotate_left
  · intro F H vs ds es R rs hf hR
    cases rs with
    | cons r rn =>
      cases rn with
      | nil =>
        obtain ⟨us, C, h1, h2, h3⟩ := r.hr hf
        exact ⟨_, rfl, us, C, h1, fun k ck hk hl => hR _ (wk_S h2 hl fun H1 L => h3 k H1 ck hk L)⟩
      | cons _ _ => cases hf
    | nil => cases hf
  · refine tO_mono (.ex m1) (fun x H1 ⟨x', e, q⟩ => ?_) q
    cases e
    exact q
theorem pi_vZ (hc : X.calm = true) (hm : X.mg "zip" = none) (ha : PA X [e, e2] (tMs X.K W [m1, m2])) (hg : Gl X "zip" := by rfl)
    (hs : starEach [e, e2] X.env = (false, eval e X.env) :: starEach [e2] X.env := by rfl) (hpl : (backTo pos (starEach [e2] X.env)).any (·.1) = false := by rfl) : PI X (.Tuple elts kk tpos) (.Call (.Name "zip" p) [e, e2] [] pos) (tI X.K W (mIt itZ [m1, m2])) := (pi_Z hc hg hm ha hs hpl).vimp fun σ H R h => by
  refine its_run (r := fun xs H1 R => ∃ x y vs ws C D, xs = [x, y] ∧ Hr X.K H1 x vs C ∧ Hr X.K H1 y ws D ∧ ∀ k l : Sc, C k → D l → k.here X.K H1 vs → l.here X.K H1 ws → vs.length ≤ sizeLine → R (ItZ X.K k l) H1) ?_ h
  intro F H vs ds es R rs hf hR
  cases rs with
  | cons r rn =>
    cases rn with
    | cons r2 rn =>
      cases rn with
      | nil =>
        simp only [itZ] at hf
        split at hf
        · rename_i ds' es' q1 q2
          cases hf
          obtain ⟨us, C, h1, h2, h3⟩ := r.hr q1
          obtain ⟨ws, D, g1, g2, g3⟩ := r2.hr q2
          exact ⟨_, _, us, ws, C, D, rfl, h1, g1, fun k l ck dl hk hl hz => hR _ (wk_Z h2 g2 hz (fun H1 L => h3 k H1 ck hk L) fun H1 L => g3 l H1 dl hl L)⟩
        · cases hf
      | cons _ _ => cases hf
    | nil => cases hf
  | nil => cases hf
theorem pi_vE (hc : X.calm = true) (hm : X.mg "enumerate" = none) (ha : PA X [e] (tMs X.K W [m1])) (hg : Gl X "enumerate" := by rfl)
    (hs : starEach [e] X.env = [(false, eval e X.env)] := by rfl) : PI X (.Tuple elts kk tpos) (.Call (.Name "enumerate" p) [e] [] pos) (tI X.K W (mIt itE [m1])) := (pi_E hc hg hm ha hs).vimp fun σ H R h => by
  refine its_run (r := fun xs H1 R => ∃ x vs C, xs = [x] ∧ Hr X.K H1 x vs C ∧ ∀ k : Sc, C k → k.here X.K H1 vs → vs.length ≤ sizeLine → R (ItE X.K k) H1) ?_ h
  intro F H vs ds es R rs hf hR
  cases rs with
  | cons r rn =>
    cases rn with
    | nil =>
      rename_i v d
      have hf' : (itD d).map (enumD 0) = some es := hf
      cases q : itD d with
      | none => rw [q] at hf'; cases hf'
      | some ds' =>
        rw [q] at hf'
        cases hf'
        obtain ⟨us, C, h1, h2, h3⟩ := r.hr q
        exact ⟨_, us, C, rfl, h1, fun k ck hk hl => hR _ (wk_E h2 hl fun H1 L => h3 k H1 ck hk L)⟩
    | cons _ _ => cases hf
  | nil => cases hf
theorem rng_get {lo : Int} {n i : Nat} (h : i < n) : (rng lo n)[i]? = some (.int (lo + (i : Nat))) := by simp [rng, h]
theorem wk_R {lo : Int} {n : Nat} (hn : n ≤ 16777216) : Wk K F H (Itr lo n) (rng lo n) := by
  have len : (rng lo n).length = n := by simp [rng]
  refine ⟨by rw [len, sizeLine_eq]; exact hn, ?_⟩
  rw [len]
  refine (walk_range (lo := lo) (n := n)).mono (fun _ _ => trivial) fun i H1 x H2 hi _ ⟨e, e2⟩ => ?_
  subst e e2
  exact ⟨Same.refl _, _, rng_get hi, fun F' _ => .int _⟩
theorem pi_vR1 (hm : X.mg "range" = none) (ha : PA X [a] (tMs X.K W [m1])) (hg : Gl X "range" := by rfl) (hs : starEach [a] X.env = [(false, eval a X.env)] := by rfl) : PI X tg (.Call (.Name "range" p) [a] [] pos) (tI X.K W (mIt itR1 [m1])) := (pi_range1 hg hm ha hs).vimp fun σ H R h => by
  refine its_run (r := fun vs H1 R => ∃ j : Int, vs = [.int j] ∧ -(2 ^ 62) ≤ j ∧ j < 2 ^ 62 ∧ R (Itr 0 j.toNat) H1) ?_ h
  intro F H vs ds es R rs hf hR
  cases rs with
  | cons r rn =>
    cases rn with
    | nil =>
      cases r with
      | int j =>
        simp only [itR1] at hf
        split at hf
        · rename_i hj
          cases hf
          exact ⟨j, rfl, by omega, by omega, hR _ (wk_R (by omega))⟩
        · cases hf
      | _ => cases hf
    | cons _ _ =>
      simp only [itR1] at hf
      cases hf
  | nil => cases hf
theorem pi_vR2 (hm : X.mg "range" = none) (ha : PA X [a, b] (tMs X.K W [m1, m2])) (hg : Gl X "range" := by rfl) (hs : starEach [a, b] X.env = [(false, eval a X.env), (false, eval b X.env)] := by rfl) (hs2 : starEach [b] X.env = [(false, eval b X.env)] := by rfl) :
    PI X tg (.Call (.Name "range" p) [a, b] [] pos) (tI X.K W (mIt itR2 [m1, m2])) := (pi_range2 hg hm ha hs hs2).vimp fun σ H R h => by
  refine its_run (r := fun vs H1 R => ∃ i j : Int, vs = [.int i, .int j] ∧ (-(2 ^ 62) ≤ i ∧ i < 2 ^ 62 ∧ -(2 ^ 62) ≤ j ∧ j < 2 ^ 62) ∧ R (Itr i (j - i).toNat) H1) ?_ h
  intro F H vs ds es R rs hf hR
  unfold itR2 at hf
  split at hf
  · rename_i i j
    split at hf
    · rename_i hj
      cases hf
      cases rs with
      | cons r rn =>
        cases rn with
        | cons r2 rn =>
          cases rn
          cases r
          cases r2
          exact ⟨i, j, rfl, by omega, hR _ (wk_R (by omega))⟩
    · cases hf
  · cases hf
theorem wk_C {lo : Int} {n : Nat} (hn : n ≤ 16777216) : Wk K F H (Itc lo (-1) n) ((List.range n).map fun k => .int (lo - (k : Nat))) := by
  have len : ((List.range n).map fun k => Dv.int (lo - (k : Nat))).length = n := by simp
  refine ⟨by rw [len, sizeLine_eq]; exact hn, ?_⟩
  rw [len]
  refine (walk_rangeC (lo := lo) (c := -1) (n := n)).mono (fun _ _ => trivial) fun i H1 x H2 hi _ ⟨e, e2⟩ => ?_
  subst e e2
  have e : lo + (i : Nat) * (-1 : Int) = lo - (i : Nat) := by omega
  show YR K F H _ i _ (V.int (lo + (i : Nat) * (-1 : Int))) _
  rw [e]
  exact ⟨Same.refl _, _, by simp [hi], fun F' _ => .int _⟩
theorem pi_vR3 (hm : X.mg "range" = none) (ha : PA X [a, b, c] (tMs X.K W [m1, m2, m3])) (hg : Gl X "range" := by rfl) (hs : starEach [a, b, c] X.env = (false, eval a X.env) :: starEach [b, c] X.env := by rfl) (hpl : (backTo pos (starEach [b, c] X.env)).any (·.1) = false := by rfl) :
    PI X tg (.Call (.Name "range" p) [a, b, c] [] pos) (tI X.K W (mIt itR3 [m1, m2, m3]))   := (pi_range3 hg hm ha hs hpl).vimp fun σ H R h => by
  refine its_run (r := fun vs H1 R => ∃ (i j c : Int) (n : Nat), vs = [.int i, .int j, .int c] ∧ RgC i j c n ∧ R (Itc i c n) H1) ?_ h
  intro F H vs ds es R rs hf hR
  unfold itR3 at hf
  split at hf
  · rename_i i j
    split at hf
    · rename_i hj
      cases hf
      cases rs with
      | cons r rn =>
        cases rn with
        | cons r2 rn =>
          cases rn with
          | cons r3 rn =>
            cases rn
            cases r
            cases r2
            cases r3
            exact ⟨i, j, -1, (i - j).toNat, rfl, RgC.neg (by omega) (by omega) (by omega) (by omega), hR _ (wk_C (by omega))⟩
    · cases hf
  · cases hf
end
end VL

namespace VL
open PySem PySem.Spec PyProof.Rows L2
/-! ### targets -/
inductive Tg where
  | nm (i : Nat) | tp (ts : List Tg)
mutual
def asg : Tg → Dv → En → Option En
  | .nm i, d, ρ => if i < ρ.length then some (ρ.set i (.val d)) else none
  | .tp ts, .tup ds, ρ => asgs ts ds ρ
  | .tp _, _, _ => none
def asgs : List Tg → List Dv → En → Option En
  | [], [], ρ => some ρ
  | t :: ts, d :: ds, ρ => match asg t d ρ with
    | some ρ1 => asgs ts ds ρ1
    | none => none
  | _, _, _ => none
end
mutual
def Tg.sl : Tg → List Nat
  | .nm i => [i]
  | .tp ts => sls ts
def sls : List Tg → List Nat
  | [] => []
  | t :: ts => t.sl ++ sls ts
end
/-- only these slots change -/
structure Off (vs : List Nat) (σ σ' : L2.St) : Prop where
  len : σ'.length = σ.length
  at' : ∀ j, j ∉ vs → σ'[j]? = σ[j]?
theorem Off.trans {vs ws : List Nat} {σ σ1 σ2 : L2.St} (a : Off vs σ σ1) (b : Off ws σ1 σ2) : Off (vs ++ ws) σ σ2 :=
  ⟨b.len.trans a.len, fun j h => (b.at' j fun z => h (List.mem_append_right _ z)).trans (a.at' j fun z => h (List.mem_append_left _ z))⟩
def gT (K : PySem.W.Frag) (t : Tg) : TG := fun v σ H Q => ∃ G ρ d ρ', EnvOk K G ρ σ H ∧ Rep K (Fo G ρ σ) H v d ∧ asg t d ρ = some ρ' ∧ ∀ σ', EnvOk K G ρ' σ' H → Tr ρ σ ρ' σ' H H → Off t.sl σ σ' → Q σ' H
def gTs (K : PySem.W.Frag) (ts : List Tg) : TGs := fun vs σ H Q => ∃ G ρ ds ρ', EnvOk K G ρ σ H ∧ Reps K (Fo G ρ σ) H vs ds ∧ asgs ts ds ρ = some ρ' ∧ ∀ σ', EnvOk K G ρ' σ' H → Tr ρ σ ρ' σ' H H → Off (sls ts) σ σ' → Q σ' H
theorem _root_.L2.PG.vimp {X : Cx} {e : Expr} {t t' : TG} (h : PG X e t) (i : ∀ v σ H Q, t' v σ H Q → t v σ H Q) : PG X e t' := ⟨fun pins s σ H v u Q I r q => h.run pins s σ H v u Q I r (i v σ H Q q)⟩
theorem _root_.L2.PGs.vimp {X : Cx} {e : List Expr} {t t' : TGs} (h : PGs X e t) (i : ∀ v σ H Q, t' v σ H Q → t v σ H Q) : PGs X e t' := ⟨fun pins s σ H v u Q I r q => h.run pins s σ H v u Q I r (i v σ H Q q)⟩
section
variable {X : Cx} {pos : Pos}
theorem pgT_nm (i : Nat) {x : Str} (hN : X.N.Nodup) (hi : X.N[i]? = some x := by rfl) (hx : Loc X.env.scope x := by first | exact Or.inl rfl | exact Or.inr rfl) (hf : X.fn x = true ∨ X.env.scope.names.lookup x = some .local := by first | exact .inl rfl | exact .inr rfl) : PG X (.Name x pos) (gT X.K (.nm i)) := (pg_name hN hi hx hf).vimp fun v σ H Q ⟨G, ρ, d, ρ', E, r, h, q⟩ => by
  simp only [asg] at h
  split at h
  · rename_i hi2
    cases h
    obtain ⟨E', t⟩ := E.put hi2 r
    refine q _ E' t ⟨by rw [List.length_set], fun j hj => ?_⟩
    rw [List.getElem?_set_ne]
    intro e
    exact hj (by simp [Tg.sl, e])
  · cases h
theorem pgTs_nil : PGs X [] (gTs X.K []) := pgs_nil.vimp fun vs σ H Q ⟨G, ρ, ds, ρ', E, r, h, q⟩ => by
  cases r with
  | nil => cases h; exact ⟨rfl, q σ E .refl ⟨rfl, fun _ _ => rfl⟩⟩
  | cons _ _ => simp only [asgs] at h; cases h
theorem pgTs_cons {e : Expr} {es : List Expr} {t : Tg} {ts : List Tg} (h1 : PG X e (gT X.K t)) (h2 : PGs X es (gTs X.K ts)) (hs : (assignEach (e :: es) X.env).map (·.2) = assign e X.env :: (assignEach es X.env).map (·.2) := by rfl) : PGs X (e :: es) (gTs X.K (t :: ts)) := (pgs_cons h1 h2 hs).vimp fun vs σ H Q ⟨G, ρ, ds, ρ', E, r, h, q⟩ => by
  cases r with
  | nil => simp only [asgs] at h; cases h
  | @cons v vr d dr r rs =>
    simp only [asgs] at h
    cases e1 : asg t d ρ with
    | none => rw [e1] at h; cases h
    | some ρ1 =>
      rw [e1] at h
      exact ⟨v, vr, rfl, G, ρ, d, ρ1, E, r, e1, fun σ1 E1 t1 o1 => ⟨G, ρ1, dr, ρ', E1, rs.tr t1, h, fun σ2 E2 t2 o2 => q σ2 E2 (t1.trans t2) (o1.trans o2)⟩⟩
theorem asgs_len : ∀ {ts : List Tg} {ds : List Dv} {ρ ρ' : En}, asgs ts ds ρ = some ρ' → ds.length = ts.length
  | [], [], _, _, _ => rfl
  | [], _ :: _, _, _, h => by simp only [asgs] at h; cases h
  | _ :: _, [], _, _, h => by simp only [asgs] at h; cases h
  | t :: ts, d :: ds, ρ, ρ', h => by
    simp only [asgs] at h
    cases e1 : asg t d ρ with
    | none => rw [e1] at h; cases h
    | some ρ1 =>
      rw [e1] at h
      rw [List.length_cons, List.length_cons, asgs_len h]
theorem pgT_tp {es : List Expr} {k : Nat} {ts : List Tg} (hc : X.calm = true) (h : PGs X es (gTs X.K ts)) (hn : (assignEach es X.env).length = ts.length := by rfl) (hst : (assignEach es X.env).findIdx? (·.1) = none := by rfl) : PG X (.Tuple es k pos) (gT X.K (.tp ts)) := (pg_tup hc h hn hst).vimp fun v σ H Q ⟨G, ρ, d, ρ', E, r, h, q⟩ => by
  cases r with
  | tup hq rs =>
    simp only [asg] at h
    exact ⟨_, _, rfl, hq, by rw [rs.length, asgs_len h], G, ρ, _, ρ', E, rs, h, q⟩
  | _ => simp only [asg] at h; cases h
end
/-! ### slots wiped, and given back -/
def wipeE (ρ : En) : List Nat → En
  | [] => ρ
  | v :: vs => (wipeE ρ vs).set v .no
def restE (ρ0 ρ : En) : List Nat → En
  | [] => ρ
  | v :: vs => (restE ρ0 ρ vs).set v (ρ0[v]?.getD .no)
theorem wipeE_len (ρ : En) : ∀ vs, (wipeE ρ vs).length = ρ.length
  | [] => rfl
  | v :: vs => by rw [show wipeE ρ (v :: vs) = (wipeE ρ vs).set v .no from rfl, List.length_set, wipeE_len ρ vs]
theorem restE_len (ρ0 ρ : En) : ∀ vs, (restE ρ0 ρ vs).length = ρ.length
  | [] => rfl
  | v :: vs => by rw [show restE ρ0 ρ (v :: vs) = (restE ρ0 ρ vs).set v (ρ0[v]?.getD .no) from rfl, List.length_set, restE_len ρ0 ρ vs]
theorem wipeE_out {ρ : En} {j : Nat} : ∀ {vs : List Nat}, j ∉ vs → (wipeE ρ vs)[j]? = ρ[j]?
  | [], _ => rfl
  | v :: vs, h => by
    rw [show wipeE ρ (v :: vs) = (wipeE ρ vs).set v .no from rfl, List.getElem?_set_ne (fun e => h (by simp [e])), wipeE_out fun z => h (List.mem_cons_of_mem _ z)]
theorem wipeE_in {ρ : En} {j : Nat} {s : Sl} : ∀ {vs : List Nat}, j ∈ vs → (wipeE ρ vs)[j]? = some s → s = .no
  | [], h, _ => by simp at h
  | v :: vs, h, e => by
    rw [show wipeE ρ (v :: vs) = (wipeE ρ vs).set v .no from rfl] at e
    by_cases hv : v = j
    · subst hv
      rw [List.getElem?_set] at e
      simp only [if_true] at e
      split at e
      · cases e; rfl
      · cases e
    · rw [List.getElem?_set_ne hv] at e
      exact wipeE_in ((List.mem_cons.mp h).resolve_left (fun z => hv z.symm)) e
theorem restE_out {ρ0 ρ : En} {j : Nat} : ∀ {vs : List Nat}, j ∉ vs → (restE ρ0 ρ vs)[j]? = ρ[j]?
  | [], _ => rfl
  | v :: vs, h => by
    rw [show restE ρ0 ρ (v :: vs) = (restE ρ0 ρ vs).set v (ρ0[v]?.getD .no) from rfl, List.getElem?_set_ne (fun e => h (by simp [e])), restE_out fun z => h (List.mem_cons_of_mem _ z)]
theorem restE_in {ρ0 ρ : En} {j : Nat} {s : Sl} : ∀ {vs : List Nat}, j ∈ vs → (restE ρ0 ρ vs)[j]? = some s → s = ρ0[j]?.getD .no
  | [], h, _ => by simp at h
  | v :: vs, h, e => by
    rw [show restE ρ0 ρ (v :: vs) = (restE ρ0 ρ vs).set v (ρ0[v]?.getD .no) from rfl] at e
    by_cases hv : v = j
    · subst hv
      rw [List.getElem?_set] at e
      simp only [if_true] at e
      split at e
      · cases e; rfl
      · cases e
    · rw [List.getElem?_set_ne hv] at e
      exact restE_in ((List.mem_cons.mp h).resolve_left (fun z => hv z.symm)) e
section
variable {K : PySem.W.Frag} {F F' G : Addr → Prop} {H H' H0 H1 H2 : Hp} {ρ ρ' ρ1 ρ2 : En} {σ σ' σ1 σ2 : L2.St} {W : WK}
theorem wipe_own {vs : List Nat} {a : Addr} (h : Own (wipeE ρ vs) (wipe σ vs) a) : Own ρ σ a := by
  obtain ⟨j, io, lk, d, h1, h2⟩ := h
  by_cases hj : j ∈ vs
  · have := wipeE_in hj h1
    cases this
  · rw [wipeE_out hj] at h1
    rw [wipe_out hj] at h2
    exact ⟨j, io, lk, d, h1, h2⟩
/-- some slots forgotten -/
theorem EnvOk.wipe (E : EnvOk K G ρ σ H) (vs : List Nat) : EnvOk K G (wipeE ρ vs) (L2.wipe σ vs) H ∧ Tr ρ σ (wipeE ρ vs) (L2.wipe σ vs) H H := by
  have out : ∀ {j io lk d}, (wipeE ρ vs)[j]? = some (Sl.mt io lk d) → j ∉ vs := fun {j io lk d} h hj => by
    have := wipeE_in hj h
    cases this
  refine ⟨⟨by rw [wipeE_len, wipe_length, E.len], fun i s e => ?_, fun i j a io lk io' lk' d d' h1 h2 h3 h4 => ?_, E.gt, fun i lk d p h1 h2 => ?_⟩, fun _ _ h _ => h, fun _ _ h _ => h, fun _ h => h, fun i io lk d p h1 h2 => ?_⟩
  · by_cases hj : i ∈ vs
    · have := wipeE_in hj e
      subst this
      trivial
    · rw [wipeE_out hj] at e
      rw [wipe_out hj]
      exact (E.ok i s e).mono (fun _ _ _ _ _ _ _ e => e) (fun a z => z.elim .inl fun q => .inr (wipe_own q)) (fun _ _ e _ => e) fun _ _ e _ => e
  · have o1 := out h1
    have o3 := out h3
    rw [wipeE_out o1] at h1
    rw [wipe_out o1] at h2
    rw [wipeE_out o3] at h3
    rw [wipe_out o3] at h4
    exact E.ap i j a io lk io' lk' d d' h1 h2 h3 h4
  · have o1 := out h1
    rw [wipeE_out o1] at h1
    rw [wipe_out o1] at h2
    exact E.ng i lk d p h1 h2
  · have o1 := out h1
    rw [wipeE_out o1] at h1
    rw [wipe_out o1] at h2
    exact .inl ⟨d, lk, h1, h2⟩
def noMt (ρ : En) (vs : List Nat) : Bool := vs.all fun i => match ρ[i]? with
  | some (.mt _ _ _) => false
  | _ => true
/-- .. and given back -/
theorem EnvOk.rest (E : EnvOk K G ρ σ H) {vs : List Nat} (nm : noMt ρ vs = true) {G' : Addr → Prop} (hG : ∀ a, G' a → G a ∨ H a = none) (hG2 : ∀ a, G a → G' a) (E' : EnvOk K G' ρ1 (L2.wipe σ vs) H') (t : Tr (wipeE ρ vs) (L2.wipe σ vs) ρ1 (L2.wipe σ vs) H H') :
    EnvOk K G' (restE ρ ρ1 vs) σ H' ∧ Tr ρ σ (restE ρ ρ1 vs) σ H H' ∧ ∀ a, Fo G' (restE ρ ρ1 vs) σ a → Fo G' ρ1 (L2.wipe σ vs) a := by
  have out : ∀ {j io lk d}, (restE ρ ρ1 vs)[j]? = some (Sl.mt io lk d) → j ∉ vs := fun {j io lk d} h hj => by
    have e := restE_in hj h
    have q := List.all_eq_true.mp nm j hj
    cases e2 : ρ[j]? with
    | none => rw [e2] at e; cases e
    | some s =>
      rw [e2] at e q
      have e' : s = .mt io lk d := e.symm
      subst e'
      cases q
  have own1 : ∀ a, Own (restE ρ ρ1 vs) σ a → Own ρ1 (L2.wipe σ vs) a := fun a ⟨j, io, lk, d, h1, h2⟩ => by
    have o1 := out h1
    rw [restE_out o1] at h1
    exact ⟨j, io, lk, d, h1, by rw [wipe_out o1]; exact h2⟩
  have hF : ∀ a, Fo G' (restE ρ ρ1 vs) σ a → Fo G' ρ1 (L2.wipe σ vs) a := fun a z => z.elim .inl fun q => .inr (own1 a q)
  have keep : ∀ a o, H a = some o → ¬ Own ρ σ a → H' a = some o := fun a o h n => t.keep a o h fun z => n (wipe_own z)
  have old : ∀ a, Fo G' ρ1 (L2.wipe σ vs) a → Fo G ρ σ a ∨ H a = none := fun a z => by
    rcases z with z | z
    · rcases hG a z with q | q
      · exact .inl (.inl q)
      · exact .inr q
    · rcases t.own z with q | q
      · exact .inl (.inr (wipe_own q))
      · exact .inr q
  have len : (restE ρ ρ1 vs).length = σ.length := by rw [restE_len, E'.len, wipe_length]
  refine ⟨⟨len, fun i s e => ?_, fun i j a io lk io' lk' d d' h1 h2 h3 h4 => ?_, E'.gt, fun i lk d p h1 h2 => ?_⟩, ⟨keep, t.tup, t.stay, fun i io lk d p h1 h2 => ?_⟩, hF⟩
  · by_cases hj : i ∈ vs
    · have e1 := restE_in hj e
      cases e2 : ρ[i]? with
      | none => rw [e2] at e1; subst e1; trivial
      | some s' =>
        rw [e2] at e1
        have e3 : s = s' := e1
        subst e3
        cases s with
        | no => trivial
        | mt io lk d => exact absurd hj (out e)
        | val d =>
          obtain ⟨v, e4, r⟩ := E.ok i _ e2
          refine ⟨v, e4, ?_⟩
          have r1 : Rep K (fun a => Fo G ρ σ a ∨ Fo G' (restE ρ ρ1 vs) σ a) H v d := r.more fun a z => z.elim .inl fun z => old a (hF a z)
          exact r1.mono (fun a z => .inr z) (fun a o e n => keep a o e fun z => n (.inl (.inr z))) t.tup
    · rw [restE_out hj] at e
      have q := E'.ok i s e
      rw [wipe_out hj] at q
      exact q.mono (fun _ _ _ _ _ _ _ e => e) hF (fun _ _ e _ => e) fun _ _ e _ => e
  · have o1 := out h1
    have o3 := out h3
    rw [restE_out o1] at h1
    rw [restE_out o3] at h3
    exact E'.ap i j a io lk io' lk' d d' h1 (by rw [wipe_out o1]; exact h2) h3 (by rw [wipe_out o3]; exact h4)
  · have o1 := out h1
    rw [restE_out o1] at h1
    exact E'.ng i lk d p h1 (by rw [wipe_out o1]; exact h2)
  · have o1 := out h1
    rw [restE_out o1] at h1
    rcases t.ow i io lk d p h1 (by rw [wipe_out o1]; exact h2) with ⟨d0, lk0, q1, q2⟩ | q
    · rw [wipeE_out o1] at q1
      rw [wipe_out o1] at q2
      exact .inl ⟨d0, lk0, q1, q2⟩
    · exact .inr q
/-- a thing that is forbidden, and that no name holds, changes -/
theorem EnvOk.updG {D : Addr} {o o' : HO} (E : EnvOk K G ρ σ H) (hg : G D) (ho : H D = some o) (nt : ¬ isTup o) (nO : ¬ Own ρ σ D) : EnvOk K G ρ σ (upd H D o') where
  len := E.len
  ok := fun i s e => (E.ok i s e).mono (fun p io lk d e1 e2 o e => by
      have : p ≠ D := fun z => nO (by subst z; subst e1; exact ⟨i, io, lk, d, by assumption, e2⟩)
      rw [upd_ne this]
      exact e) (fun _ z => z) (fun a o e n => by
      rw [upd_ne (fun z => n (by rw [z]; exact .inl hg))]
      exact e) fun a o e n => by
      rw [upd_ne (fun z => by subst z; rw [ho] at e; cases e; exact nt n)]
      exact e
  ap := E.ap
  gt := fun a z => by
    by_cases e : a = D
    · rw [e, upd_same]; simp
    · rw [upd_ne e]; exact E.gt a z
  ng := E.ng
theorem Reps.updF {D : Addr} {o o' : HO} {vs : List V} {ds : List Dv} (r : Reps K F H vs ds) (hf : F D) (ho : H D = some o) (nt : ¬ isTup o) : Reps K F (upd H D o') vs ds :=
  r.mono (fun _ z => z) (fun a o e n => by
    rw [upd_ne (fun z => n (by rw [z]; exact hf))]
    exact e) fun a o e n => by
    rw [upd_ne (fun z => by subst z; rw [ho] at e; cases e; exact nt n)]
    exact e
theorem Tr.updD {D : Addr} {o' : HO} (t : Tr ρ σ ρ' σ' H H') (n : H D = none) (hs : H' D ≠ none) : Tr ρ σ ρ' σ' H (upd H' D o') where
  keep := fun a o h m => by
    rw [upd_ne (fun z => by subst z; rw [n] at h; cases h)]
    exact t.keep a o h m
  tup := fun a o h m => by
    rw [upd_ne (fun z => by subst z; rw [n] at h; cases h)]
    exact t.tup a o h m
  stay := fun a h => by
    rw [upd_ne (fun z => by subst z; exact h n)]
    exact t.stay a h
  ow := t.ow
end
end VL

/-! # comprehensions -/
namespace VL
open PySem PySem.Spec PyProof.Rows L2
abbrev W0 : WK := fun _ _ _ => False
def bYes : MT := fun ρ => .ok (true, ρ)
/-- the turns of a comprehension -/
def lcGo (t : Tg) (own : List Nat) (c : MT) (e : M) : List Dv → En → Rs (List Dv × En)
  | [], ρ => .ok ([], ρ)
  | d :: r, ρ => match asg t d ρ with
    | none => .bad
    | some ρ1 => c ρ1 >>= fun x => match x.1 with
      | true => e x.2 >>= fun y => lcGo t own c e r (wipeE y.2 own) >>= fun z => .ok (y.1 :: z.1, z.2)
      | false => lcGo t own c e r (wipeE x.2 own)
def mLc (mi : MI) (t : Tg) (own : List Nat) (c : MT) (e : M) : M := fun ρ => mi ρ >>= fun x => match noMt x.2 own with
  | false => .bad
  | true => match lcGo t own c e x.1 (wipeE x.2 own) with
    | .ok (zs, ρ') => .ok (.lst zs, restE x.2 ρ' own)
    | _ => .bad
theorem wipe_off {σ1 σ2 : L2.St} {vs ws : List Nat} (o : Off ws σ1 σ2) (h : ∀ i ∈ ws, i ∈ vs) : wipe σ2 vs = wipe σ1 vs := by
  apply List.ext_getElem?
  intro j
  by_cases hj : j ∈ vs
  · have aux : ∀ (σ : L2.St) (vs : List Nat), j ∈ vs → (wipe σ vs)[j]? = if j < σ.length then some none else none := by
      intro σ vs
      induction vs with
      | nil => intro h; simp at h
      | cons v vs ih =>
        intro h
        rw [show wipe σ (v :: vs) = (wipe σ vs).set v none from rfl, List.getElem?_set]
        by_cases hv : v = j
        · subst hv
          simp only [if_true, wipe_length]
        · rw [if_neg hv]
          exact ih ((List.mem_cons.mp h).resolve_left (fun z => hv z.symm))
    rw [aux σ2 vs hj, aux σ1 vs hj, o.len]
  · rw [wipe_out hj, wipe_out hj]
    exact o.at' j fun z => hj (h j z)
theorem wipe_wipe (σ : L2.St) (vs : List Nat) : wipe (wipe σ vs) vs = wipe σ vs := by
  apply List.ext_getElem?
  intro j
  by_cases hj : j ∈ vs
  · have aux : ∀ (σ : L2.St) (vs : List Nat), j ∈ vs → (wipe σ vs)[j]? = if j < σ.length then some none else none := by
      intro σ vs
      induction vs with
      | nil => intro h; simp at h
      | cons v vs ih =>
        intro h
        rw [show wipe σ (v :: vs) = (wipe σ vs).set v none from rfl, List.getElem?_set]
        by_cases hv : v = j
        · subst hv
          simp only [if_true, wipe_length]
        · rw [if_neg hv]
          exact ih ((List.mem_cons.mp h).resolve_left (fun z => hv z.symm))
    rw [aux _ vs hj, aux _ vs hj, wipe_length]
  · rw [wipe_out hj]
/-- the heart: the turns of a comprehension over a walk, D the new list; Qd: what follows -/
theorem lc_turns {K : PySem.W.Frag} {G : Addr → Prop} {H1 : Hp} {ρ : En} {σ : L2.St} {J : It} {ds : List Dv} {t : Tg} {own : List Nat} {c : MT} {e : M} {D : Addr} {Qd : Hp → Prop} (E : EnvOk K G ρ σ H1) (nm : noMt ρ own = true) (w : Wk K (Fo G ρ σ) H1 J ds) (ht : ∀ i ∈ t.sl, i ∈ own)
    (nD : H1 D = none) {zs : List Dv} {ρe : En} (hgo : lcGo t own c e ds (wipeE ρ own) = .ok (zs, ρe))
    (hd : ∀ H', EnvOk K (Gp G D) ρe (wipe σ own) H' → Tr (wipeE ρ own) (wipe σ own) ρe (wipe σ own) H1 H' → OwnRep K (Fo (Gp G D) ρe (wipe σ own)) H' false D (.lst zs) → Qd H') :
    ∃ Wi : Nat → Nat → Hp → Prop, (∃ m, Wi 0 m (upd H1 D (.lst []))) ∧ ∀ i m H, Wi i m H → (J.stop i H ∧ Qd H) ∨ (J.go i H ∧ ∃ Nx : Hp → Prop, (∀ H', Nx H' → ∃ m', m' < m ∧ Wi (i + 1) m' H') ∧ ∀ x H', J.yld i H x H' →
      gT K t x (wipe σ own) H' fun σ2 H2 => wipe σ2 own = wipe σ own ∧ tB K W0 c σ2 H2 fun b H3 => if b = true then tV K W0 e σ2 H3 fun y H4 => ∃ acc, H4 D = some (.lst acc) ∧ acc.length < sizeLine ∧ Nx (upd H4 D (.lst (acc ++ [y]))) else Nx H3) := by
  obtain ⟨hl, w⟩ := w
  obtain ⟨Ew, tw⟩ := E.wipe own
  -- the invariant
  let Pv : Nat → Hp → Prop := fun i H => ∃ (ρi : En) (acc : List V) (accD rest : List Dv), EnvOk K (Gp G D) ρi (wipe σ own) H ∧ Tr (wipeE ρ own) (wipe σ own) ρi (wipe σ own) H1 H ∧ H D = some (.lst acc) ∧ Reps K (Fo (Gp G D) ρi (wipe σ own)) H acc accD ∧ acc.length ≤ i ∧
    lcGo t own c e (ds.drop i) ρi = .ok (rest, ρe) ∧ accD ++ rest = zs
  have nown : ∀ {ρi : En} {σi : L2.St} {H : Hp}, EnvOk K (Gp G D) ρi σi H → Tr (wipeE ρ own) (wipe σ own) ρi σi H1 H → ¬ Own ρi σi D := fun {ρi σi H} Ei ti z => by
    rcases z with ⟨j, io, lk, d, h1, h2⟩
    cases io with
    | false => exact Ei.ng j lk d D h1 h2 (.inr rfl)
    | true =>
      rcases ti.ow j true lk d D h1 h2 with ⟨d2, lk2, q1, q2⟩ | ⟨q1, _⟩
      · obtain ⟨o, e, _⟩ := Ew.own ⟨j, true, lk2, d2, q1, q2⟩
        rw [nD] at e
        cases e
      · cases q1
  have later : ∀ {i H}, Pv i H → Later (Fo G ρ σ) H1 H := fun {i H} ⟨ρi, acc, accD, rest, Ei, ti, _⟩ => ⟨fun a o h n => ti.keep a o h fun z => n (.inr (wipe_own z)), ti.tup⟩
  refine lc_it w Pv ?_ (fun i H _ p => later p) ?_ ?_
  · exact ⟨wipeE ρ own, [], [], zs, Ew.fresh (same_new nD) nD (by rw [upd_same]; simp), .of_same (same_new nD), upd_same, .nil, Nat.zero_le _, by rw [List.drop_zero]; exact hgo, rfl⟩
  · rintro i x H H' hi ⟨ρi, acc, accD, rest, Ei, ti, hD, ra, hlen, hg, hsum⟩ ⟨sm, d, hdi, hrep⟩
    have hdrop : ds.drop i = d :: ds.drop (i + 1) := by
      obtain ⟨hlt, e⟩ := List.getElem?_eq_some_iff.mp hdi
      rw [List.drop_eq_getElem_cons hlt, e]
    rw [hdrop] at hg
    simp only [lcGo] at hg
    have no := nown Ei ti
    cases e1 : asg t d ρi with
    | none => rw [e1] at hg; cases hg
    | some ρ1 =>
      rw [e1] at hg
      simp only at hg
      refine ⟨Gp G D, ρi, d, ρ1, Ei.same sm, hrep _ fun a z => ?_, e1, fun σ2 E2 t2 off => ?_⟩
      · rcases z with (z | z) | z
        · exact .inl (.inl z)
        · exact .inr (by rw [z]; exact nD)
        · rcases ti.own z with q | q
          · exact .inl (.inr (wipe_own q))
          · exact .inr q
      have hw : wipe σ2 own = wipe σ own := (wipe_off off ht).trans (wipe_wipe σ own)
      refine ⟨hw, Gp G D, ρ1, E2, ?_⟩
      cases e2 : c ρ1 with
      | bad => rw [e2] at hg; cases hg
      | exc _ _ => rw [e2] at hg; cases hg
      | ok p =>
        obtain ⟨b, ρ2⟩ := p
        rw [e2] at hg
        simp only [bind_ok] at hg
        intro H3 E3 t3
        have tt3 : Tr ρi (wipe σ own) ρ2 σ2 H H3 := ((Tr.of_same sm).trans t2).trans t3
        cases b with
        | true =>
          rw [if_pos rfl]
          simp only at hg
          refine ⟨Gp G D, ρ2, E3, ?_⟩
          cases e3 : e ρ2 with
          | bad => rw [e3] at hg; cases hg
          | exc _ _ => rw [e3] at hg; cases hg
          | ok q =>
            obtain ⟨y, ρ3⟩ := q
            rw [e3] at hg
            simp only [bind_ok] at hg
            cases e4 : lcGo t own c e (ds.drop (i + 1)) (wipeE ρ3 own) with
            | bad => rw [e4] at hg; cases hg
            | exc _ _ => rw [e4] at hg; cases hg
            | ok z =>
              obtain ⟨rest', ρe'⟩ := z
              rw [e4] at hg
              simp only [bind_ok] at hg
              cases hg
              intro v H4 E4 t4 r4
              have tt4 : Tr ρi (wipe σ own) ρ3 σ2 H H4 := tt3.trans t4
              have hD4 : H4 D = some (.lst acc) := tt4.keep D _ hD no
              obtain ⟨Ew4, tw4⟩ := E4.wipe own
              rw [hw] at Ew4 tw4
              have tt5 : Tr ρi (wipe σ own) (wipeE ρ3 own) (wipe σ own) H H4 := tt4.trans tw4
              have t15 := ti.trans tt5
              have no5 := nown Ew4 t15
              refine ⟨acc, hD4, Nat.lt_of_le_of_lt hlen (Nat.lt_of_lt_of_le hi hl), wipeE ρ3 own, acc ++ [v], accD ++ [y], rest', Ew4.updG (.inr rfl) hD4 (fun z => z) no5, t15.updD nD (by rw [hD4]; simp), upd_same, ?_, ?_, e4, ?_⟩
              · refine ((ra.tr tt5).updF (.inl (.inr rfl)) hD4 fun z => z).append ?_
                refine ((Reps.one r4).tr tw4).updF (.inl (.inr rfl)) hD4 fun z => z
              · rw [List.length_append]
                exact Nat.succ_le_succ hlen
              · rw [List.append_assoc]
                exact hsum
        | false =>
          rw [if_neg Bool.false_ne_true]
          simp only at hg
          obtain ⟨Ew3, tw3⟩ := E3.wipe own
          rw [hw] at Ew3 tw3
          have tt5 : Tr ρi (wipe σ own) (wipeE ρ2 own) (wipe σ own) H H3 := tt3.trans tw3
          exact ⟨wipeE ρ2 own, acc, accD, rest, Ew3, ti.trans tt5, tt3.keep D _ hD no, ra.tr tt5, Nat.le_succ_of_le hlen, hg, hsum⟩
  · rintro H ⟨ρi, acc, accD, rest, Ei, ti, hD, ra, hlen, hg, hsum⟩
    rw [List.drop_length] at hg
    simp only [lcGo] at hg
    cases hg
    rw [List.append_nil] at hsum
    subst hsum
    exact hd H Ei ti (.lst hD ra)
section
variable {X : Cx} {elt tg iter : Expr} {ifs : List Expr} {scope : Scope} {pos spos : Pos} {W : WK} {mi : MI} {t : Tg} {own : List (Str × Nat)} {c : MT} {m : M}
theorem lc_read {σ : L2.St} {H : Hp} {Q : VK} (ht : ∀ i ∈ t.sl, i ∈ own.map (·.2)) (h : tN X.K W (mLc mi t (own.map (·.2)) c m) σ H Q) : tLc (tI X.K W mi) (gT X.K t) (tB X.K W0 c) (tV X.K W0 m) (own.map (·.2)) σ H Q := by
  obtain ⟨G, ρ, E, h⟩ := h
  refine ⟨G, ρ, E, ?_⟩
  unfold mLc at h
  cases e : mi ρ with
  | bad => rw [e] at h; exact h.elim
  | exc x ρx => rw [e] at h; exact h
  | ok q =>
    obtain ⟨ds, ρ'⟩ := q
    rw [e] at h
    simp only [bind_ok] at h
    intro J H1 E1 t1 w D nD
    cases nm : noMt ρ' (own.map (·.2)) with
    | false => rw [nm] at h; exact h.elim
    | true =>
      rw [nm] at h
      simp only at h
      cases e2 : lcGo t (own.map (·.2)) c m ds (wipeE ρ' (own.map (·.2))) with
      | bad => rw [e2] at h; exact h.elim
      | exc _ _ => rw [e2] at h; exact h.elim
      | ok z =>
        obtain ⟨zs, ρe⟩ := z
        rw [e2] at h
        refine lc_turns E1 nm w ht nD e2 fun H' E2 t2 o => ?_
        obtain ⟨E3, t3, hF⟩ := E1.rest nm (G' := Gp G D) (fun a z => z.elim .inl fun q => .inr (by rw [q]; exact nD)) (fun a z => .inl z) E2 t2
        refine h D H' E3 (t1.trans t3) ?_ (o.less hF)
        cases q : H D with
        | none => rfl
        | some o => exact absurd nD (t1.stay D (by rw [q]; simp))
theorem pn_lc (hc : X.calm = true) (hN : X.N.Nodup) (hi : PI X tg iter (tI X.K W mi)) (ok : BlkOk X.N X.env.scope scope own) (ht : ∀ i ∈ t.sl, i ∈ own.map (·.2))
    (hg : ∀ (s : Shared) (H : Hp) (C : Addr) (cl : List (Str × Addr)) (fp : List Addr), PG (X.blk s H scope (compEnvC scope cl C X.env) fp) tg (gT X.K t)) (hT : ∀ (s : Shared) (H : Hp) (C : Addr) (cl : List (Str × Addr)) (fp : List Addr), PTs (X.blk s H scope (compEnvC scope cl C X.env) fp) ifs (tB X.K W0 c))
    (he : ∀ (s : Shared) (H : Hp) (C : Addr) (cl : List (Str × Addr)) (fp : List Addr), PE (X.blk s H scope (compEnvC scope cl C X.env) fp) elt (tV X.K W0 m)) (hs : ∀ x, foldedSetIterable iter X.env x = pure x := by intro _; rfl) :
    PE X (.ListComp elt [⟨tg, iter, ifs, 0⟩] scope pos) (tN X.K W (mLc mi t (own.map (·.2)) c m)) := (pe_lc hc hN hi ok hg hT he hs).vimp fun σ H Q h => lc_read ht h
theorem pts_yes {Y : Cx} : PTs Y [] (tB X.K W0 bYes) := ⟨fun pins s σ H Q I ⟨G, ρ, E, h⟩ => pts_nil.run pins s σ H Q I (h H E .refl)⟩
end
end VL

/-! # statements and defs -/
namespace VL
open PySem PySem.Spec PyProof.Rows L2
inductive Fl where
  | nx (ρ : En) | rt (d : Dv) (ρ : En)
abbrev SM := En → Rs Fl
/-- the reading of a statement; fr: what is handed back is new -/
def PSt (K : PySem.W.Frag) (W : WK) (fr : Bool) (G : Addr → Prop) (ρ : En) (σ : L2.St) (H : Hp) (r : Rs Fl) (D : Ends) : Prop := match r with
  | .ok (.nx ρ') => ∀ σ' H', EnvOk K G ρ' σ' H' → Tr ρ σ ρ' σ' H H' → D.nx σ' H'
  | .ok (.rt d ρ') => match fr with
    | false => ∀ v σ' H', EnvOk K G ρ' σ' H' → Tr ρ σ ρ' σ' H H' → Rep K (Fo G ρ' σ') H' v d → D.rt v H'
    | true => ∀ p σ' H', EnvOk K (Gp G p) ρ' σ' H' → Tr ρ σ ρ' σ' H H' → H p = none → OwnRep K (Fo (Gp G p) ρ' σ') H' false p d → D.rt (.ref p) H'
  | .exc x ρ' => ∀ σ' H', EnvOk K G ρ' σ' H' → Tr ρ σ ρ' σ' H H' → W x σ' H'
  | .bad => False
def tS (K : PySem.W.Frag) (W : WK) (fr : Bool) (m : SM) : TS := fun D σ H => ∃ G ρ, EnvOk K G ρ σ H ∧ PSt K W fr G ρ σ H (m ρ) D
def sNil : SM := fun ρ => .ok (.nx ρ)
def sSeq (a b : SM) : SM := fun ρ => a ρ >>= fun f => match f with
  | .nx ρ' => b ρ'
  | .rt d ρ' => .ok (.rt d ρ')
def sSet (i : Nat) (m : M) : SM := fun ρ => m ρ >>= fun x => if i < x.2.length then .ok (.nx (x.2.set i (.val x.1))) else .bad
def sSetN (i : Nat) (m : M) : SM := fun ρ => m ρ >>= fun x => if i < x.2.length then .ok (.nx (x.2.set i (.mt false false x.1))) else .bad
def sAsg (t : Tg) (m : M) : SM := fun ρ => m ρ >>= fun x => match asg t x.1 x.2 with
  | some ρ' => .ok (.nx ρ')
  | none => .bad
def sRet (m : M) : SM := fun ρ => m ρ >>= fun x => .ok (.rt x.1 x.2)
def sRetC : SM := fun ρ => .ok (.rt .non ρ)
def sDrop (m : M) : SM := fun ρ => m ρ >>= fun x => .ok (.nx x.2)
def sIf (c : MT) (a b : SM) : SM := fun ρ => c ρ >>= fun x => match x.1 with
  | true => a x.2
  | false => b x.2
def forGo (t : Tg) (b : SM) : List Dv → En → Rs Fl
  | [], ρ => .ok (.nx ρ)
  | d :: r, ρ => match asg t d ρ with
    | none => .bad
    | some ρ1 => b ρ1 >>= fun f => match f with
      | .nx ρ' => forGo t b r ρ'
      | .rt d ρ' => .ok (.rt d ρ')
def sFor (mi : MI) (t : Tg) (b : SM) : SM := fun ρ => mi ρ >>= fun x => forGo t b x.1 x.2
def whGo (c : MT) (b : SM) : Nat → En → Rs Fl
  | 0, _ => .bad
  | n + 1, ρ => c ρ >>= fun x => match x.1 with
    | true => b x.2 >>= fun f => match f with
      | .nx ρ' => whGo c b n ρ'
      | .rt d ρ' => .ok (.rt d ρ')
    | false => .ok (.nx x.2)
/-- a while, at most so many turns -/
def sWhile (n : Nat) (c : MT) (b : SM) : SM := whGo c b n
section
variable {K : PySem.W.Frag} {F F' G : Addr → Prop} {H H' H0 H1 H2 : Hp} {ρ ρ' ρ1 ρ2 : En} {σ σ' σ1 σ2 : L2.St} {W : WK} {fr : Bool}
theorem PSt.later {r : Rs Fl} {D : Ends} (t : Tr ρ σ ρ1 σ1 H H1) (h : PSt K W fr G ρ σ H r D) : PSt K W fr G ρ1 σ1 H1 r D := by
  cases r with
  | bad => exact h
  | exc x ρx => exact fun σ2 H2 E2 t2 => h σ2 H2 E2 (t.trans t2)
  | ok f =>
    cases f with
    | nx ρ' => exact fun σ2 H2 E2 t2 => h σ2 H2 E2 (t.trans t2)
    | rt d ρ' =>
      cases fr with
      | false => exact fun v σ2 H2 E2 t2 r2 => h v σ2 H2 E2 (t.trans t2) r2
      | true =>
        refine fun p σ2 H2 E2 t2 n o => h p σ2 H2 E2 (t.trans t2) ?_ o
        cases q : H p with
        | none => rfl
        | some o => exact absurd n (t.stay p (by rw [q]; simp))
theorem bind_VS {m : M} {k : Dv × En → Rs Fl} {D : Ends} {Q1 : VK} (h : PSt K W fr G ρ σ H (m ρ >>= k) D) (E : EnvOk K G ρ σ H)
    (hk : ∀ d ρ1 v H1, EnvOk K G ρ1 σ H1 → Tr ρ σ ρ1 σ H H1 → Rep K (Fo G ρ1 σ) H1 v d → PSt K W fr G ρ1 σ H1 (k (d, ρ1)) D → Q1 v H1) : tV K W m σ H Q1 := by
  refine ⟨G, ρ, E, ?_⟩
  cases e : m ρ with
  | bad => rw [e] at h; exact h.elim
  | exc x ρx => rw [e] at h; exact fun H' => h σ H'
  | ok p =>
    rw [e] at h
    exact fun v H1 E1 t r => hk p.1 p.2 v H1 E1 t r (PSt.later t h)
theorem bind_NS {m : M} {k : Dv × En → Rs Fl} {D : Ends} {Q1 : VK} (h : PSt K W fr G ρ σ H (m ρ >>= k) D) (E : EnvOk K G ρ σ H)
    (hk : ∀ d ρ1 p H1, EnvOk K (Gp G p) ρ1 σ H1 → Tr ρ σ ρ1 σ H H1 → H p = none → OwnRep K (Fo (Gp G p) ρ1 σ) H1 false p d → PSt K W fr G ρ σ H (k (d, ρ1)) D → Q1 (.ref p) H1) : tN K W m σ H Q1 := by
  refine ⟨G, ρ, E, ?_⟩
  cases e : m ρ with
  | bad => rw [e] at h; exact h.elim
  | exc x ρx => rw [e] at h; exact fun H' => h σ H'
  | ok p =>
    rw [e] at h
    exact fun v H1 E1 t n o => hk p.1 p.2 v H1 E1 t n o h
theorem bind_BS {m : MT} {k : Bool × En → Rs Fl} {D : Ends} {Q1 : Bool → Hp → Prop} (h : PSt K W fr G ρ σ H (m ρ >>= k) D) (E : EnvOk K G ρ σ H)
    (hk : ∀ b ρ1 H1, EnvOk K G ρ1 σ H1 → Tr ρ σ ρ1 σ H H1 → PSt K W fr G ρ1 σ H1 (k (b, ρ1)) D → Q1 b H1) : tB K W m σ H Q1 := by
  refine ⟨G, ρ, E, ?_⟩
  cases e : m ρ with
  | bad => rw [e] at h; exact h.elim
  | exc x ρx => rw [e] at h; exact fun H' => h σ H'
  | ok p =>
    rw [e] at h
    exact fun H1 E1 t => hk p.1 p.2 H1 E1 t (PSt.later t h)
variable {X : Cx} {e c tg it : Expr} {st : Stmt} {sts body orelse : List Stmt} {pos : Pos} {m : M} {mc : MT} {a b : SM} {mi : MI} {t : Tg}
theorem vs_nil : PSs X [] (tS X.K W fr sNil) := pss_nil.vimp fun D σ H ⟨G, ρ, E, h⟩ => h σ H E .refl
theorem vs_cons (h1 : PS X st (tS X.K W fr a)) (h2 : PSs X sts (tS X.K W fr b)) : PSs X (st :: sts) (tS X.K W fr (sSeq a b)) := (pss_cons h1 h2).vimp fun D σ H ⟨G, ρ, E, h⟩ => by
  refine ⟨G, ρ, E, ?_⟩
  unfold sSeq at h
  cases e : a ρ with
  | bad => rw [e] at h; exact h.elim
  | exc x ρx => rw [e] at h; exact h
  | ok f =>
    rw [e] at h
    cases f with
    | nx ρ' => exact fun σ' H' E' t => ⟨G, ρ', E', PSt.later t h⟩
    | rt d ρ' =>
      cases fr with
      | false => exact h
      | true => exact h
theorem vs_one (h1 : PS X st (tS X.K W fr a)) : PSs X [st] (tS X.K W fr a) := pss_one h1
theorem vs_pass : PS X (.Pass pos) (tS X.K W fr sNil) := ps_pass.vimp fun D σ H ⟨G, ρ, E, h⟩ => h σ H E .refl
theorem vs_set (i : Nat) {x : Str} {pos' : Pos} (hN : X.N.Nodup) (he : PE X e (tV X.K W m)) (hi : X.N[i]? = some x := by rfl) (hx : Loc X.env.scope x := by first | exact Or.inl rfl | exact Or.inr rfl) (hs : swapsWith e (some (.Name x pos')) pos.line X.env = pure false := by rfl) (hf : X.fn x = true ∨ X.env.scope.names.lookup x = some .local := by first | exact .inl rfl | exact .inr rfl) :
    PS X (.Assign [.Name x pos'] e pos) (tS X.K W fr (sSet i m)) := (ps_set hN hi hx he hs hf).vimp fun D σ H ⟨G, ρ, E, h⟩ => by
  refine bind_VS h E fun d ρ1 v H1 E1 t r h1 => ?_
  simp only at h1
  split at h1
  · rename_i hl
    obtain ⟨E2, t2⟩ := E1.put hl r
    exact h1 _ _ E2 t2
  · exact h1.elim
theorem setN_end {i : Nat} {d : Dv} {p : Addr} {D : Ends} (E : EnvOk K G ρ σ H) (E1 : EnvOk K (Gp G p) ρ1 σ H1) (t : Tr ρ σ ρ1 σ H H1) (n : H p = none) (o : OwnRep K (Fo (Gp G p) ρ1 σ) H1 false p d)
    (h1 : PSt K W fr G ρ σ H (if i < ρ1.length then .ok (.nx (ρ1.set i (.mt false false d))) else .bad) D) : D.nx (σ.set i (some (.ref p))) H1 := by
  split at h1
  · rename_i hl
    have nG : ¬ G p := fun z => E.gt p z n
    have nO : ¬ Own ρ1 σ p := fun z => E1.nfo t E n (.inr z)
    refine h1 _ _ (E1.putNew hl (fun a z => t.stay a (E.gt a z)) nO nG o) ?_
    have tp : Tr ρ1 σ (ρ1.set i (.mt false false d)) (σ.set i (some (.ref p))) H1 H1 → Tr ρ σ (ρ1.set i (.mt false false d)) (σ.set i (some (.ref p))) H H1 := fun u => t.trans u
    refine ⟨t.keep, t.tup, t.stay, fun j io lk d' q e1 e2 => ?_⟩
    by_cases hj : i = j
    · subst hj
      rw [List.getElem?_set_self hl] at e1
      rw [List.getElem?_set_self (by rw [← E1.len]; exact hl)] at e2
      cases e1
      cases e2
      exact .inr ⟨rfl, n⟩
    · rw [List.getElem?_set_ne hj] at e1 e2
      exact t.ow j io lk d' q e1 e2
  · exact h1.elim
theorem vs_setN (i : Nat) {x : Str} {pos' : Pos} (hN : X.N.Nodup) (he : PE X e (tN X.K W m)) (hi : X.N[i]? = some x := by rfl) (hx : Loc X.env.scope x := by first | exact Or.inl rfl | exact Or.inr rfl) (hs : swapsWith e (some (.Name x pos')) pos.line X.env = pure false := by rfl) (hf : X.fn x = true ∨ X.env.scope.names.lookup x = some .local := by first | exact .inl rfl | exact .inr rfl) :
    PS X (.Assign [.Name x pos'] e pos) (tS X.K W fr (sSetN i m)) := (ps_set hN hi hx he hs hf).vimp fun D σ H ⟨G, ρ, E, h⟩ => bind_NS h E fun d ρ1 p H1 E1 t n o h1 => setN_end E E1 t n o h1
theorem vs_asg (he : PE X e (tV X.K W m)) (hg : PG X tg (gT X.K t)) (hs : swapsWithSole [tg] e pos.line X.env = pure false := by rfl) (hw : swappedStores [tg] e X.env = pure none := by rfl) (h1 : (assignEach [tg] X.env).map (·.2) = [assign tg X.env] := by rfl) :
    PS X (.Assign [tg] e pos) (tS X.K W fr (sAsg t m)) := (ps_asg he hg hs hw h1).vimp fun D σ H ⟨G, ρ, E, h⟩ => by
  refine bind_VS h E fun d ρ1 v H1 E1 t1 r h1 => ?_
  simp only at h1
  cases e : asg t d ρ1 with
  | none => rw [e] at h1; exact h1.elim
  | some ρ2 =>
    rw [e] at h1
    exact ⟨G, ρ1, d, ρ2, E1, r, e, fun σ' E2 t2 _ => h1 σ' H1 E2 t2⟩
/-- name = [..] on one line -/
theorem vs_setLc (i : Nat) {y : Str} {py spos : Pos} {elt iter : Expr} {ifs : List Expr} {scope : Scope} {own : List (Str × Nat)} {cc : MT} (hc : X.calm = true) (hN : X.N.Nodup) (hsw : swapsWith (.ListComp elt [⟨tg, iter, ifs, 0⟩] scope pos) (some (.Name y py)) spos.line X.env = pure true)
    (hi : PI X tg iter (tI X.K W mi)) (ok : BlkOk X.N X.env.scope scope own) (ht : ∀ i ∈ t.sl, i ∈ own.map (·.2))
    (hg : ∀ (s : Shared) (H : Hp) (C : Addr) (cl : List (Str × Addr)) (fp : List Addr), PG (X.blk s H scope (compEnvC scope cl C X.env) fp) tg (gT X.K t)) (hT : ∀ (s : Shared) (H : Hp) (C : Addr) (cl : List (Str × Addr)) (fp : List Addr), PTs (X.blk s H scope (compEnvC scope cl C X.env) fp) ifs (tB X.K W0 cc))
    (he : ∀ (s : Shared) (H : Hp) (C : Addr) (cl : List (Str × Addr)) (fp : List Addr), PE (X.blk s H scope (compEnvC scope cl C X.env) fp) elt (tV X.K W0 m)) (hy : X.N[i]? = some y := by rfl) (hyl : X.env.scope.names.lookup y = some .local := by rfl) (hs : ∀ x, foldedSetIterable iter X.env x = pure x := by intro _; rfl) :
    PS X (.Assign [.Name y py] (.ListComp elt [⟨tg, iter, ifs, 0⟩] scope pos) spos) (tS X.K W fr (sSet i (mLc mi t (own.map (·.2)) cc m))) := (ps_setLc hc hN hy hyl hsw hi ok hg hT he hs).vimp fun D σ H ⟨G, ρ, E, h⟩ => by
  refine lc_read ht (Q := fun x H1 => gName i x σ H1 D.nx) (bind_NS h E fun d ρ1 p H1 E1 t1 n o h1 => ?_)
  simp only at h1
  split at h1
  · rename_i hl
    have hg : ∀ a, G a → H1 a ≠ none := fun a z => t1.stay a (E.gt a z)
    obtain ⟨E2, t2⟩ := (E1.drop hg).put hl ((o.less fun a z => z.elim (fun z => .inl (.inl z)) .inr).rep (E1.nfo t1 E n))
    exact h1 _ _ E2 (t1.trans t2)
  · exact h1.elim
theorem vs_setLcN (i : Nat) {y : Str} {py spos : Pos} {elt iter : Expr} {ifs : List Expr} {scope : Scope} {own : List (Str × Nat)} {cc : MT} (hc : X.calm = true) (hN : X.N.Nodup) (hsw : swapsWith (.ListComp elt [⟨tg, iter, ifs, 0⟩] scope pos) (some (.Name y py)) spos.line X.env = pure true)
    (hi : PI X tg iter (tI X.K W mi)) (ok : BlkOk X.N X.env.scope scope own) (ht : ∀ i ∈ t.sl, i ∈ own.map (·.2))
    (hg : ∀ (s : Shared) (H : Hp) (C : Addr) (cl : List (Str × Addr)) (fp : List Addr), PG (X.blk s H scope (compEnvC scope cl C X.env) fp) tg (gT X.K t)) (hT : ∀ (s : Shared) (H : Hp) (C : Addr) (cl : List (Str × Addr)) (fp : List Addr), PTs (X.blk s H scope (compEnvC scope cl C X.env) fp) ifs (tB X.K W0 cc))
    (he : ∀ (s : Shared) (H : Hp) (C : Addr) (cl : List (Str × Addr)) (fp : List Addr), PE (X.blk s H scope (compEnvC scope cl C X.env) fp) elt (tV X.K W0 m)) (hy : X.N[i]? = some y := by rfl) (hyl : X.env.scope.names.lookup y = some .local := by rfl) (hs : ∀ x, foldedSetIterable iter X.env x = pure x := by intro _; rfl) :
    PS X (.Assign [.Name y py] (.ListComp elt [⟨tg, iter, ifs, 0⟩] scope pos) spos) (tS X.K W fr (sSetN i (mLc mi t (own.map (·.2)) cc m))) := (ps_setLc hc hN hy hyl hsw hi ok hg hT he hs).vimp fun D σ H ⟨G, ρ, E, h⟩ =>
  lc_read ht (Q := fun x H1 => gName i x σ H1 D.nx) (bind_NS h E fun d ρ1 p H1 E1 t1 n o h1 => setN_end E E1 t1 n o h1)
theorem vs_ret (he : PE X e (tV X.K W m)) : PS X (.Return (some e) pos) (tS X.K W false (sRet m)) := (ps_ret he).vimp fun D σ H ⟨G, ρ, E, h⟩ => bind_VS h E fun d ρ1 v H1 E1 t r h1 => h1 v σ H1 E1 .refl r
theorem vs_retN (he : PE X e (tN X.K W m)) : PS X (.Return (some e) pos) (tS X.K W true (sRet m)) := (ps_ret he).vimp fun D σ H ⟨G, ρ, E, h⟩ => bind_NS h E fun d ρ1 p H1 E1 t n o h1 => h1 p σ H1 E1 t n o
theorem vs_retC : PS X (.Return none pos) (tS X.K W false sRetC) := ps_retN.vimp fun D σ H ⟨G, ρ, E, h⟩ => h .non σ H E .refl .non
theorem vs_drop (he : PE X e (tV X.K W m)) (hs : swapsWith e none pos.line X.env = pure false := by rfl) : PS X (.Expr e pos) (tS X.K W fr (sDrop m)) := (ps_expr he hs).vimp fun D σ H ⟨G, ρ, E, h⟩ => bind_VS h E fun d ρ1 v H1 E1 t r h1 => h1 σ H1 E1 .refl
theorem vs_if {x y : List Stmt} (hc : PT X c (tB X.K W mc)) (ha : PSs X x (tS X.K W fr a)) (hb : PSs X y (tS X.K W fr b)) : PS X (.If c x y pos) (tS X.K W fr (sIf mc a b)) := (ps_if hc ha hb).vimp fun D σ H ⟨G, ρ, E, h⟩ => bind_BS h E fun d ρ1 H1 E1 t h1 => by
  cases d with
  | true => exact iteT ⟨G, ρ1, E1, h1⟩
  | false => exact iteF ⟨G, ρ1, E1, h1⟩
/-- a for over a walk -/
theorem for_turns {J : It} {ds : List Dv} {b : SM} {D : Ends} (E : EnvOk K G ρ σ H1) (w : Wk K (Fo G ρ σ) H1 J ds) (h : PSt K W fr G ρ σ H1 (forGo t b ds ρ) D) :
    ∃ Wi : Nat → Nat → L2.St → Hp → Prop, (∃ m, Wi 0 m σ H1) ∧ ∀ i m σ H, Wi i m σ H → (J.stop i H ∧ D.nx σ H) ∨ (J.go i H ∧ ∃ N : L2.St → Hp → Prop, (∀ σ' H', N σ' H' → ∃ m', m' < m ∧ Wi (i + 1) m' σ' H') ∧ ∀ x H', J.yld i H x H' → gT K t x σ H' fun σ2 H2 => tS K W fr b { D with nx := N, ct := N, bk := D.nx } σ2 H2) := by
  obtain ⟨hl, w⟩ := w
  refine for_it w (fun i σi H => ∃ ρi, EnvOk K G ρi σi H ∧ Tr ρ σ ρi σi H1 H ∧ PSt K W fr G ρi σi H (forGo t b (ds.drop i) ρi) D) ⟨ρ, E, .refl, by rw [List.drop_zero]; exact h⟩
    (fun i σi H _ ⟨ρi, Ei, ti, _⟩ => ⟨fun a o h n => ti.keep a o h fun z => n (.inr z), ti.tup⟩) ?_ ?_
  · rintro i x σi H H' hi ⟨ρi, Ei, ti, hg⟩ ⟨sm, d, hdi, hrep⟩
    have hdrop : ds.drop i = d :: ds.drop (i + 1) := by
      obtain ⟨hlt, e⟩ := List.getElem?_eq_some_iff.mp hdi
      rw [List.drop_eq_getElem_cons hlt, e]
    rw [hdrop] at hg
    simp only [forGo] at hg
    cases e1 : asg t d ρi with
    | none => rw [e1] at hg; exact hg.elim
    | some ρ1 =>
      rw [e1] at hg
      simp only at hg
      refine ⟨G, ρi, d, ρ1, Ei.same sm, hrep _ fun a z => ?_, e1, fun σ2 E2 t2 off => ⟨G, ρ1, E2, ?_⟩⟩
      · rcases z with z | z
        · exact .inl (.inl z)
        · rcases ti.own z with q | q
          · exact .inl (.inr q)
          · exact .inr q
      have t02 : Tr ρi σi ρ1 σ2 H H' := (Tr.of_same sm).trans t2
      cases e2 : b ρ1 with
      | bad => rw [e2] at hg; exact hg.elim
      | exc x ρx =>
        rw [e2] at hg
        exact fun σ3 H3 E3 t3 => hg σ3 H3 E3 (t02.trans t3)
      | ok f =>
        rw [e2] at hg
        cases f with
        | nx ρ3 =>
          intro σ3 H3 E3 t3
          have t03 := t02.trans t3
          exact ⟨ρ3, E3, ti.trans t03, PSt.later t03 hg⟩
        | rt d ρ3 => exact PSt.later (r := .ok (.rt d ρ3)) (D := D) t02 hg
  · rintro σi H ⟨ρi, Ei, ti, hg⟩
    rw [List.drop_length] at hg
    exact hg σi H Ei .refl
theorem vs_for (hp : PassesOwn (model X.prog X.w) X.A X.env X.xe) (hc : X.calm = true) (hi : PI X tg it (tI X.K W mi)) (hg : PG X tg (gT X.K t)) (hb : PSs X body (tS X.K W fr b)) (hs : ∀ x, foldedSetIterable it X.env x = pure x := by intro _; rfl) :
    PS X (.For tg it body [] pos) (tS X.K W fr (sFor mi t b)) := (ps_for hp hc hi hg hb hs).vimp fun D σ H ⟨G, ρ, E, h⟩ => by
  refine ⟨G, ρ, E, ?_⟩
  unfold sFor at h
  cases e : mi ρ with
  | bad => rw [e] at h; exact h.elim
  | exc x ρx => rw [e] at h; exact fun H' => h σ H'
  | ok p =>
    rw [e] at h
    exact fun J H1 E1 t1 w => for_turns E1 w (PSt.later t1 h)
theorem vs_while (n : Nat) (hp : PassesOwn (model X.prog X.w) X.A X.env X.xe) (hc : PT X c (tB X.K W mc)) (hb : PSs X body (tS X.K W fr b)) : PS X (.While c body [] pos) (tS X.K W fr (sWhile n mc b)) := (ps_while hp hc hb).vimp fun D σ H ⟨G, ρ, E, h⟩ => by
  refine ⟨fun k σi H => ∃ ρi, EnvOk X.K G ρi σi H ∧ PSt X.K W fr G ρi σi H (whGo mc b k ρi) D, ⟨n, ρ, E, h⟩, ?_⟩
  rintro k σi H ⟨ρi, Ei, hg⟩
  cases k with
  | zero => exact hg.elim
  | succ k =>
    simp only [whGo] at hg
    refine bind_BS hg Ei fun d ρ1 H1 E1 t1 h1 => ?_
    cases d with
    | false =>
      rw [if_neg Bool.false_ne_true]
      exact h1 σi H1 E1 .refl
    | true =>
      rw [if_pos rfl]
      simp only at h1
      refine ⟨fun σ' H' => ∃ ρi, EnvOk X.K G ρi σ' H' ∧ PSt X.K W fr G ρi σ' H' (whGo mc b k ρi) D, fun σ' H' q => ⟨k, Nat.lt_succ_self k, q⟩, G, ρ1, E1, ?_⟩
      cases e : b ρ1 with
      | bad => rw [e] at h1; exact h1.elim
      | exc x ρx => rw [e] at h1; exact h1
      | ok f =>
        rw [e] at h1
        cases f with
        | nx ρ3 => exact fun σ3 H3 E3 t3 => ⟨ρ3, E3, PSt.later t3 h1⟩
        | rt d ρ3 => cases fr <;> exact h1
end
end VL

/-! # defs, and mutable things -/
namespace VL
open PySem PySem.Spec PyProof.Rows L2
def ends (r : Rs Fl) : Rs Dv := match r with
  | .ok (.rt d _) => .ok d
  | .ok (.nx _) => .ok .non
  | .exc x _ => .exc x []
  | .bad => .bad
def endsIO (r : Rs Fl) : Rs (Dv × Dv) := match r with
  | .ok (.rt d (.mt true false d1 :: _)) => .ok (d, d1)
  | .ok (.nx (.mt true false d1 :: _)) => .ok (.non, d1)
  | _ => .bad
/-- a def of k more names than parameters -/
def runV (k : Nat) (m : SM) : List Dv → Rs Dv := fun ds => ends (m (ds.map .val ++ List.replicate k .no))
/-- .. that hands back a new thing -/
def runN (k : Nat) (m : SM) : List Dv → Rs Dv := fun ds => match m (ds.map .val ++ List.replicate k .no) with
  | .ok (.rt d _) => .ok d
  | _ => .bad
def runIO (k : Nat) (m : SM) : Dv → List Dv → Rs (Dv × Dv) := fun d0 ds => endsIO (m (.mt true false d0 :: (ds.map .val ++ List.replicate k .no)))
section
variable {K : PySem.W.Frag} {F G : Addr → Prop} {H : Hp}
theorem get_start {N : List Str} {vs : List V} {i : Nat} {v : V} (h : vs[i]? = some v) : (L2.start N vs)[i]? = some (some v) := by
  unfold L2.start
  have hi := (List.getElem?_eq_some_iff.mp h).1
  rw [List.getElem?_append_left (by simpa using hi), List.getElem?_map, h]
  rfl
theorem start_env {N : List Str} {k : Nat} {vs : List V} {ds : List Dv} (r : Reps K F H vs ds) (hf : ∀ a, F a → H a ≠ none) (hN : N.length = ds.length + k) : EnvOk K F (ds.map .val ++ List.replicate k .no) (L2.start N vs) H := by
  have nmt : ∀ (i : Nat) (io lk : Bool) (d : Dv), (ds.map Sl.val ++ List.replicate k Sl.no)[i]? ≠ some (.mt io lk d) := fun i io lk d h => by
    by_cases hi : i < ds.length
    · rw [List.getElem?_append_left (by simpa using hi), List.getElem?_map] at h
      cases e : ds[i]? with
      | none => rw [e] at h; cases h
      | some x => rw [e] at h; cases h
    · rw [List.getElem?_append_right (by simpa using hi), List.getElem?_replicate] at h
      split at h <;> cases h
  have hF : ∀ a, Fo F (ds.map Sl.val ++ List.replicate k Sl.no) (L2.start N vs) a → F a := fun a z => z.elim id fun ⟨i, io, lk, d, h, _⟩ => absurd h (nmt i io lk d)
  refine ⟨?_, fun i s e => ?_, fun i j a io lk io' lk' d d' h1 _ _ _ => absurd h1 (nmt i io lk d), hf, fun i lk d p h1 _ => absurd h1 (nmt i false lk d)⟩
  · have e := r.length
    unfold L2.start
    simp only [List.length_append, List.length_map, List.length_replicate]
    omega
  · cases s with
    | no => trivial
    | mt io lk d => exact absurd e (nmt i io lk d)
    | val d =>
      by_cases hi : i < ds.length
      · rw [List.getElem?_append_left (by simpa using hi), List.getElem?_map] at e
        cases e2 : ds[i]? with
        | none => rw [e2] at e; cases e
        | some x =>
          rw [e2] at e
          cases e
          obtain ⟨v, e3, q⟩ := r.getD e2
          exact ⟨v, get_start e3, q.less hF⟩
      · rw [List.getElem?_append_right (by simpa using hi), List.getElem?_replicate] at e
        split at e <;> cases e
theorem start_io {N : List Str} {k : Nat} {c : Addr} {vs : List V} {d0 : Dv} {ds : List Dv} (o : OwnRep K F H false c d0) (r : Reps K F H vs ds) (hc : F c) (hf : ∀ a, F a → H a ≠ none) (hN : N.length = ds.length + 1 + k) :
    EnvOk K F (.mt true false d0 :: (ds.map .val ++ List.replicate k .no)) (L2.start N (.ref c :: vs)) H := by
  have mt0 : ∀ (i : Nat) (io lk : Bool) (d : Dv), (Sl.mt true false d0 :: (ds.map Sl.val ++ List.replicate k Sl.no))[i]? = some (.mt io lk d) → i = 0 ∧ io = true ∧ lk = false ∧ d = d0 := fun i io lk d h => by
    cases i with
    | zero => cases h; exact ⟨rfl, rfl, rfl, rfl⟩
    | succ i =>
      rw [List.getElem?_cons_succ] at h
      exfalso
      by_cases hi : i < ds.length
      · rw [List.getElem?_append_left (by simpa using hi), List.getElem?_map] at h
        cases e : ds[i]? with
        | none => rw [e] at h; cases h
        | some x => rw [e] at h; cases h
      · rw [List.getElem?_append_right (by simpa using hi), List.getElem?_replicate] at h
        split at h <;> cases h
  have s0 : (L2.start N (.ref c :: vs))[0]? = some (some (V.ref c)) := get_start rfl
  have hF : ∀ a, Fo F (Sl.mt true false d0 :: (ds.map Sl.val ++ List.replicate k Sl.no)) (L2.start N (.ref c :: vs)) a → F a := fun a z => z.elim id fun ⟨i, io, lk, d, h, h2⟩ => by
    obtain ⟨rfl, _⟩ := mt0 i io lk d h
    rw [s0] at h2
    cases h2
    exact hc
  refine ⟨?_, fun i s e => ?_, fun i j a io lk io' lk' d d' h1 _ h3 _ => by rw [(mt0 i io lk d h1).1, (mt0 j io' lk' d' h3).1], hf, fun i lk d p h1 _ => by cases (mt0 i false lk d h1).2.1⟩
  · have e := r.length
    unfold L2.start
    simp only [List.length_append, List.length_map, List.length_replicate, List.length_cons]
    omega
  · cases s with
    | no => trivial
    | mt io lk d =>
      obtain ⟨rfl, _, rfl, rfl⟩ := mt0 i io lk d e
      exact ⟨c, s0, o.less hF⟩
    | val d =>
      cases i with
      | zero => cases e
      | succ i =>
        rw [List.getElem?_cons_succ] at e
        by_cases hi : i < ds.length
        · rw [List.getElem?_append_left (by simpa using hi), List.getElem?_map] at e
          cases e2 : ds[i]? with
          | none => rw [e2] at e; cases e
          | some x =>
            rw [e2] at e
            cases e
            obtain ⟨v, e3, q⟩ := r.getD e2
            exact ⟨v, get_start (by rw [List.getElem?_cons_succ]; exact e3), q.less hF⟩
        · rw [List.getElem?_append_right (by simpa using hi), List.getElem?_replicate] at e
          split at e <;> cases e
end
section
variable {P : Program} {w : World} {K : PySem.W.Frag} {mg : Str → Option Value} {base : Heap} {x qual : Str} {st : Stmt} {f : Addr} {fd : FuncData} {N ps : List Str} {k j : Nat} {m : SM}
/-- a def does what its mirror does -/
theorem def_V (Fn : Fun K x qual st f fd) (S : FnScope N ps (defScope st)) (hN : N.length = ps.length + j)
    (hb : ∀ (cdv : Value) (A : Around) (outer : List Env) (s : Shared) (H : Hp) (E : XK), Room k (A.deeper (envOfC qual (defScope st) s.heap.objs.size f cdv)) → PSs (cxOf CX0 P w K mg base N qual (defScope st) f cdv A outer s H E).nox (defBody st) (tS K W0 false m)) :
    FnOk P w K mg base CX0 (k + 1) f fd ps (spV K ps.length (runV j m)) := by
  refine Fn.ok S (fun vs H Q E h => ?_) (fun cdv A outer s H vs Q E hr h => ⟨_, hb cdv A outer s H E hr, ?_⟩)
  · obtain ⟨F, ds, _, r, e, _⟩ := h
    rw [r.length, e]
  · obtain ⟨F, ds, hf, r, hn, d, hd, q⟩ := h
    refine ⟨F, _, start_env r hf (by rw [hn]; exact hN), ?_⟩
    unfold runV ends at hd
    cases e : m (ds.map .val ++ List.replicate j .no) with
    | bad => rw [e] at hd; cases hd
    | exc x ρx => rw [e] at hd; cases hd
    | ok fl =>
      rw [e] at hd
      have keep : ∀ {ρ' σ' H'}, Tr (ds.map .val ++ List.replicate j .no) (L2.start N vs) ρ' σ' H H' → Same H H' := fun {ρ' σ' H'} t a o h => t.keep a o h fun ⟨i, io, lk, d, h1, _⟩ => by
        by_cases hi : i < ds.length
        · rw [List.getElem?_append_left (by simpa using hi), List.getElem?_map] at h1
          cases e : ds[i]? with
          | none => rw [e] at h1; cases h1
          | some x => rw [e] at h1; cases h1
        · rw [List.getElem?_append_right (by simpa using hi), List.getElem?_replicate] at h1
          split at h1 <;> cases h1
      cases fl with
      | nx ρ' =>
        cases hd
        exact fun σ' H' E' t => q .non H' (keep t) .non
      | rt d' ρ' =>
        cases hd
        exact fun v σ' H' E' t r' => q v H' (keep t) (r'.less fun a z => .inl z)
theorem def_N (Fn : Fun K x qual st f fd) (S : FnScope N ps (defScope st)) (hN : N.length = ps.length + j)
    (hb : ∀ (cdv : Value) (A : Around) (outer : List Env) (s : Shared) (H : Hp) (E : XK), Room k (A.deeper (envOfC qual (defScope st) s.heap.objs.size f cdv)) → PSs (cxOf CX0 P w K mg base N qual (defScope st) f cdv A outer s H E).nox (defBody st) (tS K W0 true m)) :
    FnOk P w K mg base CX0 (k + 1) f fd ps (spN K ps.length (runN j m)) := by
  refine Fn.ok S (fun vs H Q E h => ?_) (fun cdv A outer s H vs Q E hr h => ⟨_, hb cdv A outer s H E hr, ?_⟩)
  · obtain ⟨F, ds, _, r, e, _⟩ := h
    rw [r.length, e]
  · obtain ⟨F, ds, hf, r, hn, d, hd, q⟩ := h
    refine ⟨F, _, start_env r hf (by rw [hn]; exact hN), ?_⟩
    unfold runN at hd
    cases e : m (ds.map .val ++ List.replicate j .no) with
    | bad => rw [e] at hd; cases hd
    | exc x ρx => rw [e] at hd; cases hd
    | ok fl =>
      rw [e] at hd
      have keep : ∀ {ρ' σ' H'}, Tr (ds.map .val ++ List.replicate j .no) (L2.start N vs) ρ' σ' H H' → Same H H' := fun {ρ' σ' H'} t a o h => t.keep a o h fun ⟨i, io, lk, d, h1, _⟩ => by
        by_cases hi : i < ds.length
        · rw [List.getElem?_append_left (by simpa using hi), List.getElem?_map] at h1
          cases e : ds[i]? with
          | none => rw [e] at h1; cases h1
          | some x => rw [e] at h1; cases h1
        · rw [List.getElem?_append_right (by simpa using hi), List.getElem?_replicate] at h1
          split at h1 <;> cases h1
      cases fl with
      | nx ρ' => cases hd
      | rt d' ρ' =>
        cases hd
        exact fun p σ' H' E' t n o => q p H' (keep t) n (o.less fun a z => z.elim (fun z => .inl (.inl z)) fun z => .inl (.inr z))
theorem def_IO {p0 : Str} {pr : List Str} (Fn : Fun K x qual st f fd) (S : FnScope N (p0 :: pr) (defScope st)) (hN : N.length = pr.length + 1 + j)
    (hb : ∀ (cdv : Value) (A : Around) (outer : List Env) (s : Shared) (H : Hp) (E : XK), Room k (A.deeper (envOfC qual (defScope st) s.heap.objs.size f cdv)) → PSs (cxOf CX0 P w K mg base N qual (defScope st) f cdv A outer s H E).nox (defBody st) (tS K W0 false m)) :
    FnOk P w K mg base CX0 (k + 1) f fd (p0 :: pr) (spIO K pr.length (runIO j m)) := by
  refine Fn.ok S (fun vs H Q E h => ?_) (fun cdv A outer s H vs Q E hr h => ⟨_, hb cdv A outer s H E hr, ?_⟩)
  · obtain ⟨F, c, ws, d0, ds, rfl, _, _, _, r, e, _⟩ := h
    rw [List.length_cons, List.length_cons, r.length, e]
  · obtain ⟨F, c, ws, d0, ds, rfl, hc, hf, o, r, hn, d, d1, hd, q⟩ := h
    have E0 := start_io (N := N) (k := j) o r hc hf (by rw [hn]; exact hN)
    refine ⟨F, _, E0, ?_⟩
    unfold runIO at hd
    have s0 : (L2.start N (.ref c :: ws))[0]? = some (some (V.ref c)) := get_start rfl
    have own0 : ∀ a, Own (Sl.mt true false d0 :: (ds.map Sl.val ++ List.replicate j Sl.no)) (L2.start N (.ref c :: ws)) a → a = c := fun a ⟨i, io, lk, d, h1, h2⟩ => by
      cases i with
      | zero =>
        rw [s0] at h2
        cases h2
        rfl
      | succ i =>
        rw [List.getElem?_cons_succ] at h1
        exfalso
        by_cases hi : i < ds.length
        · rw [List.getElem?_append_left (by simpa using hi), List.getElem?_map] at h1
          cases e : ds[i]? with
          | none => rw [e] at h1; cases h1
          | some x => rw [e] at h1; cases h1
        · rw [List.getElem?_append_right (by simpa using hi), List.getElem?_replicate] at h1
          split at h1 <;> cases h1
    have fin : ∀ {ρr : En} {d1 : Dv} {σ' : L2.St} {H' : Hp}, EnvOk K F (.mt true false d1 :: ρr) σ' H' → Tr (Sl.mt true false d0 :: (ds.map Sl.val ++ List.replicate j Sl.no)) (L2.start N (.ref c :: ws)) (.mt true false d1 :: ρr) σ' H H' →
        (∀ a o, a ≠ c → H a = some o → H' a = some o) ∧ OwnRep K F H' false c d1 := fun {ρr d1 σ' H'} E' t => by
      refine ⟨fun a o h1 h2 => t.keep a o h2 fun z => h1 (own0 a z), ?_⟩
      obtain ⟨p, e1, o1⟩ := E'.ok 0 _ rfl
      rcases t.ow 0 true false d1 p rfl e1 with ⟨_, _, _, q2⟩ | ⟨q1, _⟩
      · rw [s0] at q2
        cases q2
        exact o1.less fun a z => .inl z
      · cases q1
    cases e : m (.mt true false d0 :: (ds.map .val ++ List.replicate j .no)) with
    | bad => rw [e] at hd; cases hd
    | exc x ρx => rw [e] at hd; cases hd
    | ok fl =>
      rw [e] at hd
      unfold endsIO at hd
      cases fl with
      | nx ρ' =>
        split at hd
        · rename_i q1; cases q1
        · rename_i d2 ρr q1
          cases q1
          cases hd
          intro σ' H' E' t
          obtain ⟨h1, h2⟩ := fin E' t
          exact q .non H' h1 h2 .non
        · cases hd
      | rt d' ρ' =>
        split at hd
        · rename_i d2 d3 ρr q1
          cases q1
          cases hd
          intro v σ' H' E' t r'
          obtain ⟨h1, h2⟩ := fin E' t
          exact q v H' h1 h2 (r'.less fun a z => .inl z)
        · rename_i q1; cases q1
        · cases hd
end
end VL

/-! # operations upon data -/
namespace VL
open PySem PySem.Spec PyProof.Rows L2
abbrev FD := List Dv → Option Dv
section
variable {K : PySem.W.Frag} {F : Addr → Prop} {H : Hp} {v : V}
/-! ### what stands for what -/
theorem RepB.int {i : Int} (r : RepB K F H v (.int i)) : v = .int i := by
  rcases r with r | ⟨p, lk, _, _, o⟩
  · cases r; rfl
  · cases o
theorem RepB.bl {i : Bool} (r : RepB K F H v (.bl i)) : v = .bl i := by
  rcases r with r | ⟨p, lk, _, _, o⟩
  · cases r; rfl
  · cases o
theorem RepB.non (r : RepB K F H v .non) : v = .non := by
  rcases r with r | ⟨p, lk, _, _, o⟩
  · cases r; rfl
  · cases o
theorem RepB.ty {n : String} (r : RepB K F H v (.ty n)) : v = .ty n := by
  rcases r with r | ⟨p, lk, _, _, o⟩
  · cases r; rfl
  · cases o
theorem RepB.str {l : List Nat} (r : RepB K F H v (.str l)) : v = .str (S l) ∧ okc l := by
  rcases r with r | ⟨p, lk, _, _, o⟩
  · cases r with
    | str _ h => exact ⟨rfl, h⟩
  · cases o
theorem RepB.lst {ds : List Dv} (r : RepB K F H v (.lst ds)) : ∃ a vs, v = .ref a ∧ H a = some (.lst vs) ∧ Reps K F H vs ds := by
  rcases r with r | ⟨p, lk, rfl, _, o⟩
  · cases r with
    | lst h _ rs => exact ⟨_, _, rfl, h, rs⟩
  · cases o with
    | lst h rs => exact ⟨_, _, rfl, h, rs⟩
theorem RepB.tup {ds : List Dv} (r : RepB K F H v (.tup ds)) : ∃ a vs, v = .ref a ∧ SqT K H a vs ∧ Reps K F H vs ds := by
  rcases r with r | ⟨p, lk, rfl, _, o⟩
  · cases r with
    | tup h rs => exact ⟨_, _, rfl, h, rs⟩
  · cases o
theorem RepB.scr {ns : List Int} (r : RepB K F H v (.scr ns)) : ∃ a, v = .ref a ∧ ScrAt K H a ns := by
  rcases r with r | ⟨p, lk, rfl, _, o⟩
  · cases r with
    | scr h => exact ⟨_, rfl, h⟩
  · cases o
theorem RepBs.one {vs : List V} {d : Dv} (r : RepBs K F H vs [d]) : ∃ v, vs = [v] ∧ RepB K F H v d := by
  cases r with
  | cons r rn => cases rn; exact ⟨_, rfl, r⟩
theorem RepBs.two {vs : List V} {d e : Dv} (r : RepBs K F H vs [d, e]) : ∃ v w, vs = [v, w] ∧ RepB K F H v d ∧ RepB K F H w e := by
  cases r with
  | cons r rn =>
    obtain ⟨w, rfl, q⟩ := rn.one
    exact ⟨_, w, rfl, r, q⟩
theorem RepBs.three {vs : List V} {d e g : Dv} (r : RepBs K F H vs [d, e, g]) : ∃ v w x, vs = [v, w, x] ∧ RepB K F H v d ∧ RepB K F H w e ∧ RepB K F H x g := by
  cases r with
  | cons r rn =>
    obtain ⟨w, x, rfl, q, q2⟩ := rn.two
    exact ⟨_, w, x, rfl, r, q, q2⟩
theorem S_app (a b : List Nat) : S a ++ S b = S (a ++ b) := by
  show (⟨_ ++ _⟩ : Str) = ⟨_⟩
  simp [S]
/-! ### numbers -/
def fI2 (g : Int → Int → Int) : FD
  | [.int a, .int b] => some (.int (g a b))
  | _ => none
def fI2c (c : Int → Int → Bool) (g : Int → Int → Int) : FD
  | [.int a, .int b] => if c a b then some (.int (g a b)) else none
  | _ => none
def fB2 (g : Int → Int → Bool) : FD
  | [.int a, .int b] => some (.bl (g a b))
  | _ => none
theorem lr_I2 {g : Int → Int → Int} : LR K (r2 (rI0 fun i j => .int (g i j))) (fI2 g) := fun F H vs ds d Q ft rs e q => by
  unfold fI2 at e
  split at e
  · obtain ⟨v, w, rfl, r1, r2'⟩ := rs.two
    cases e
    exact ⟨v, w, rfl, _, _, r1.int, r2'.int, q _ H (Same.refl H) (.int _)⟩
  · cases e
theorem lr_I2c {C : Int → Int → Prop} {c : Int → Int → Bool} {g g' : Int → Int → Int} (hc : ∀ a b, c a b = true → C a b ∧ g' a b = g a b) : LR K (r2 (rI C fun i j => .int (g' i j))) (fI2c c g) := fun F H vs ds d Q ft rs e q => by
  unfold fI2c at e
  split at e
  · split at e
    · rename_i hcc
      obtain ⟨v, w, rfl, r1, r2'⟩ := rs.two
      cases e
      obtain ⟨h1, h2⟩ := hc _ _ hcc
      exact ⟨v, w, rfl, _, _, r1.int, r2'.int, h1, by show Q (V.int (g' _ _)) H; rw [h2]; exact q _ H (Same.refl H) (.int _)⟩
    · cases e
  · cases e
theorem lr_B2 {g : Int → Int → Bool} : LR K (r2 (rI0 fun i j => .bl (g i j))) (fB2 g) := fun F H vs ds d Q ft rs e q => by
  unfold fB2 at e
  split at e
  · obtain ⟨v, w, rfl, r1, r2'⟩ := rs.two
    cases e
    exact ⟨v, w, rfl, _, _, r1.int, r2'.int, q _ H (Same.refl H) (.bl _)⟩
  · cases e
/-- + -/
def fAdd : FD
  | [.int a, .int b] => some (.int (a + b))
  | [.str a, .str b] => if a.length + b.length ≤ 16777216 then some (.str (a ++ b)) else none
  | [.tup a, .tup b] => if a.length + b.length ≤ 16777216 then some (.tup (a ++ b)) else none
  | [.lst a, .lst b] => if a.length + b.length ≤ 16777216 then some (.lst (a ++ b)) else none
  | _ => none
def fCat : FD
  | [.lst a, .lst b] => if a.length + b.length ≤ 16777216 then some (.lst (a ++ b)) else none
  | _ => none
theorem okc_app {a b : List Nat} (h : okc a) (h' : okc b) : okc (a ++ b) := fun c hc => (List.mem_append.mp hc).elim (h c) (h' c)
theorem Reps.freshen {vs : List V} {ds : List Dv} {p : Addr} {o : HO} (r : Reps K F H vs ds) (n : H p = none) : Reps K (fun a => F a ∨ a = p) (upd H p o) vs ds :=
  (r.more fun a z => z.elim .inl fun e => .inr (by rw [e]; exact n)).same (same_new n)
theorem ln_cat : LN K (r2 rCat) fCat := fun F H vs ds d Q ft rs e q => by
  unfold fCat at e
  split at e
  · split at e
    · rename_i hl
      obtain ⟨v, w, rfl, r1, r2'⟩ := rs.two
      cases e
      obtain ⟨a, va, rfl, ha, ra⟩ := r1.lst
      obtain ⟨b, vb, rfl, hb, rb⟩ := r2'.lst
      refine ⟨_, _, rfl, a, b, va, vb, rfl, rfl, ha, hb, by rw [ra.length, rb.length, sizeLine_eq]; exact hl, fun p np => q p _ (same_new np) np (.lst upd_same ((ra.append rb).freshen np))⟩
    · cases e
  · cases e
theorem lr_catT : LR K (r2 (rCatA K)) (fun ds => match ds with | [.tup a, .tup b] => if a.length + b.length ≤ 16777216 then some (.tup (a ++ b)) else none | _ => none) := fun F H vs ds d Q ft rs e q => by
  simp only at e
  split at e
  · rename_i xa xb
    split at e
    · rename_i hl
      obtain ⟨v, w, rfl, r1, r2'⟩ := rs.two
      cases e
      obtain ⟨a, va, rfl, ha, ra⟩ := r1.tup
      obtain ⟨b, vb, rfl, hb, rb⟩ := r2'.tup
      refine ⟨_, _, rfl, a, b, va, vb, rfl, rfl, ha, hb, by rw [ra.length, rb.length, sizeLine_eq]; exact hl, fun z => ?_, fun _ z => ?_, fun _ _ p np => q _ _ (same_new np) (.tup (.of upd_same) ((ra.append rb).same (same_new np)))⟩
      · subst z
        cases ra
        exact q _ H (Same.refl H) (.tup hb rb)
      · subst z
        cases rb
        rw [List.append_nil] at q
        exact q _ H (Same.refl H) (.tup ha ra)
    · cases e
  · cases e
theorem lr_add {X : Cx} : ∃ r, OpR X (binaryOp .Add) r ∧ LR X.K (r2 r) fAdd := by
  refine ⟨_, op_add.or (op_add_str.or (op_catA.or op_cat)), fun F H vs ds d Q ft rs e q => ?_⟩
  unfold fAdd at e
  split at e
  · obtain ⟨v, w, rfl, r1, r2'⟩ := rs.two
    cases e
    exact ⟨v, w, rfl, .inl ⟨_, _, r1.int, r2'.int, q _ H (Same.refl H) (.int _)⟩⟩
  · split at e
    · rename_i hl
      obtain ⟨v, w, rfl, r1, r2'⟩ := rs.two
      cases e
      obtain ⟨rfl, o1⟩ := r1.str
      obtain ⟨rfl, o2⟩ := r2'.str
      exact ⟨_, _, rfl, .inr (.inl ⟨_, _, rfl, rfl, by rw [S_len, S_len, sizeLine_eq]; exact hl, by rw [S_app]; exact q _ H (Same.refl H) (.str _ (okc_app o1 o2))⟩)⟩
    · cases e
  · rename_i xa xb
    split at e
    · rename_i hl
      obtain ⟨x, y, e1, h⟩ := lr_catT F H vs [.tup xa, .tup xb] d Q ft rs (by simp only [if_pos hl]; exact e) q
      exact ⟨x, y, e1, .inr (.inr (.inl h))⟩
    · cases e
  · rename_i xa xb
    split at e
    · rename_i hl
      obtain ⟨x, y, e1, h⟩ := ln_cat.lr F H vs [.lst xa, .lst xb] d Q ft rs (by unfold fCat; simp only [if_pos hl]; exact e) q
      exact ⟨x, y, e1, .inr (.inr (.inr h))⟩
    · cases e
  · cases e
/-! ### comparisons -/
mutual
def toP : Dv → PyData
  | .non => .none
  | .bl b => .bool b
  | .int i => .int i
  | .str l => .str (S l)
  | .tup ds => .tuple (toPs ds)
  | .lst ds => .list (toPs ds)
  | _ => .none
def toPs : List Dv → List PyData
  | [] => []
  | d :: ds => toP d :: toPs ds
end
mutual
/-- plain data -/
def isP : Dv → Bool
  | .non => true
  | .bl _ => true
  | .int _ => true
  | .str _ => true
  | .tup ds => isPs ds
  | .lst ds => isPs ds
  | _ => false
def isPs : List Dv → Bool
  | [] => true
  | d :: ds => isP d && isPs ds
end
mutual
def dep : Dv → Nat
  | .tup ds => deps ds + 1
  | .lst ds => deps ds + 1
  | _ => 0
def deps : List Dv → Nat
  | [] => 0
  | d :: ds => max (dep d) (deps ds)
end
mutual
/-- Python's == upon plain data -/
def eqD : Dv → Dv → Bool
  | .non, .non => true
  | .bl a, .bl b => a == b
  | .bl a, .int j => (if a then 1 else 0) == j
  | .int i, .bl b => i == (if b then 1 else 0)
  | .int i, .int j => i == j
  | .str x, .str y => x == y
  | .lst xs, .lst ys => eqDs xs ys
  | .tup xs, .tup ys => eqDs xs ys
  | _, _ => false
def eqDs : List Dv → List Dv → Bool
  | [], [] => true
  | x :: xs, y :: ys => eqD x y && eqDs xs ys
  | _, _ => false
end
mutual
theorem Rep.dp : ∀ {v : V} {d : Dv}, Rep K F H v d → isP d = true → Dp K H v (toP d) ∧ (toP d).canLay0 = true ∧ (toP d).depth = dep d
  | _, _, .non, _ => ⟨.non, rfl, rfl⟩
  | _, _, .bl b, _ => ⟨.bl b, rfl, rfl⟩
  | _, _, .int i, _ => ⟨.int i, rfl, rfl⟩
  | _, _, .str l h, _ => ⟨.str _, by
      show PyData.strOk (S l) = true
      unfold PyData.strOk S
      simp only [Array.all_eq_true', List.mem_toArray]
      intro x hx
      exact decide_eq_true (h x hx), rfl⟩
  | _, _, .tup h rs, e => by
    obtain ⟨a, b, c⟩ := Reps.dp rs e
    exact ⟨.tup h a, b, by show PyData.depthAll _ + 1 = _; rw [c]; rfl⟩
  | _, _, .lst h _ rs, e => by
    obtain ⟨a, b, c⟩ := Reps.dp rs e
    exact ⟨.lst (.of h) a, b, by show PyData.depthAll _ + 1 = _; rw [c]; rfl⟩
  | _, _, .dic _ _ _ _ _, e => by cases e
  | _, _, .dit _ _ _ _ _, e => by cases e
  | _, _, .scr _, e => by cases e
  | _, _, .ty _, e => by cases e
theorem Reps.dp : ∀ {vs : List V} {ds : List Dv}, Reps K F H vs ds → isPs ds = true → DpAll K H vs (toPs ds) ∧ PyData.canLayAll0 (toPs ds) = true ∧ PyData.depthAll (toPs ds) = deps ds
  | _, _, .nil, _ => ⟨.nil, rfl, rfl⟩
  | _, _, .cons r rs, e => by
    have e' := e
    simp only [isPs, Bool.and_eq_true] at e'
    obtain ⟨a, b, c⟩ := Rep.dp r e'.1
    obtain ⟨a2, b2, c2⟩ := Reps.dp rs e'.2
    refine ⟨.cons a a2, ?_, ?_⟩
    · show (PyData.canLay0 _ && PyData.canLayAll0 _) = true
      rw [b, b2]
      rfl
    · show max (PyData.depth _) (PyData.depthAll _) = _
      rw [c, c2]
      rfl
end
theorem RepB.dp {d : Dv} (r : RepB K F H v d) (h : isP d = true) : Dp K H v (toP d) ∧ (toP d).canLay0 = true ∧ (toP d).depth = dep d := by
  rcases r with r | ⟨p, lk, rfl, _, o⟩
  · exact r.dp h
  · cases o with
    | lst e rs => exact (Rep.lst (F := fun _ => False) e (fun z => z) (rs.less fun _ z => z.elim)).dp h
    | dic _ _ _ _ _ => cases h
    | dit _ _ _ _ _ => cases h
theorem S_inj {a b : List Nat} (h : S a = S b) : a = b := by
  have := congrArg (fun s => s.cps.toList) h
  simpa [S] using this
theorem S_beq (a b : List Nat) : (S a == S b) = (a == b) := by
  by_cases e : a = b
  · subst e; simp
  · have : S a ≠ S b := fun z => e (S_inj z)
    rw [beq_eq_false_iff_ne.mpr this, beq_eq_false_iff_ne.mpr e]
mutual
theorem eqv_eqD : ∀ (a b : Dv), isP a = true → isP b = true → PyData.eqv (toP a) (toP b) = eqD a b
  | .non, b, _, hb => by cases b <;> first | rfl | cases hb
  | .bl x, b, _, hb => by cases b <;> first | rfl | cases hb
  | .int x, b, _, hb => by cases b <;> first | rfl | cases hb
  | .str x, b, _, hb => by cases b <;> first | exact S_beq _ _ | rfl | cases hb
  | .tup xs, b, ha, hb => by
    cases b <;> first | rfl | cases hb | skip
    rename_i ys
    exact eqv_eqDs xs ys ha hb
  | .lst xs, b, ha, hb => by
    cases b <;> first | rfl | cases hb | skip
    rename_i ys
    exact eqv_eqDs xs ys ha hb
  | .dic _ _, _, ha, _ => by cases ha
  | .dit _ _, _, ha, _ => by cases ha
  | .scr _, _, ha, _ => by cases ha
  | .ty _, _, ha, _ => by cases ha
theorem eqv_eqDs : ∀ (a b : List Dv), isPs a = true → isPs b = true → PyData.eqvAll (toPs a) (toPs b) = eqDs a b
  | [], [], _, _ => rfl
  | [], _ :: _, _, _ => rfl
  | _ :: _, [], _, _ => rfl
  | x :: xs, y :: ys, ha, hb => by
    simp only [isPs, Bool.and_eq_true] at ha hb
    show (PyData.eqv (toP x) (toP y) && PyData.eqvAll (toPs xs) (toPs ys)) = (eqD x y && eqDs xs ys)
    rw [eqv_eqD x y ha.1 hb.1, eqv_eqDs xs ys ha.2 hb.2]
end
def rEqM (K : PySem.W.Frag) (neg : Bool) : R2 := fun x y H Q => ∃ d e, Dp K H x d ∧ Dp K H y e ∧ d.canLay0 = true ∧ e.canLay0 = true ∧ min d.depth e.depth ≤ 64 ∧ Q (.bl (if neg then !PyData.eqv d e else PyData.eqv d e)) H
theorem op_eqM {X : Cx} (hu : X.A.units + 64 < cLine) : OpR X (compareOp .Eq) (rEqM X.K false) := by
  intro pins s σ H x y v u Q I rx ry ⟨d, e, hd, he, sd, se, hm, q⟩
  obtain ⟨as, r1⟩ := Dp.reads I d x v hd rx
  obtain ⟨bs, r2⟩ := Dp.reads I e y u he ry
  exact SeqAt.compareEq_reads r1 r2 sd se (by omega) ⟨.bl _, H, I, rfl, q⟩
theorem op_neM {X : Cx} (hu : X.A.units + 64 < cLine) : OpR X (compareOp .NotEq) (rEqM X.K true) := by
  intro pins s σ H x y v u Q I rx ry ⟨d, e, hd, he, sd, se, hm, q⟩
  obtain ⟨as, r1⟩ := Dp.reads I d x v hd rx
  obtain ⟨bs, r2⟩ := Dp.reads I e y u he ry
  exact SeqAt.compareNe_reads r1 r2 sd se (by omega) ⟨.bl _, H, I, rfl, q⟩
def fEq : FD
  | [a, b] => if isP a && isP b && decide (min (dep a) (dep b) ≤ 64) then some (.bl (eqD a b)) else none
  | _ => none
def fNe : FD
  | [a, b] => if isP a && isP b && decide (min (dep a) (dep b) ≤ 64) then some (.bl (!eqD a b)) else none
  | _ => none
theorem lr_eq : LR K (r2 (rEqM K false)) fEq := fun F H vs ds d Q ft rs e q => by
  unfold fEq at e
  split at e
  · split at e
    · rename_i hc
      simp only [Bool.and_eq_true, decide_eq_true_eq] at hc
      obtain ⟨v, w, rfl, r1, r2'⟩ := rs.two
      cases e
      obtain ⟨a1, b1, c1⟩ := r1.dp hc.1.1
      obtain ⟨a2, b2, c2⟩ := r2'.dp hc.1.2
      refine ⟨v, w, rfl, _, _, a1, a2, b1, b2, by rw [c1, c2]; exact hc.2, ?_⟩
      rw [if_neg Bool.false_ne_true, eqv_eqD _ _ hc.1.1 hc.1.2]
      exact q _ H (Same.refl H) (.bl _)
    · cases e
  · cases e
theorem lr_ne : LR K (r2 (rEqM K true)) fNe := fun F H vs ds d Q ft rs e q => by
  unfold fNe at e
  split at e
  · split at e
    · rename_i hc
      simp only [Bool.and_eq_true, decide_eq_true_eq] at hc
      obtain ⟨v, w, rfl, r1, r2'⟩ := rs.two
      cases e
      obtain ⟨a1, b1, c1⟩ := r1.dp hc.1.1
      obtain ⟨a2, b2, c2⟩ := r2'.dp hc.1.2
      refine ⟨v, w, rfl, _, _, a1, a2, b1, b2, by rw [c1, c2]; exact hc.2, ?_⟩
      rw [if_pos rfl, eqv_eqD _ _ hc.1.1 hc.1.2]
      exact q _ H (Same.refl H) (.bl _)
    · cases e
  · cases e
end
end VL

/-! # more operations upon data -/
namespace VL
open PySem PySem.Spec PyProof.Rows L2
section
variable {K : PySem.W.Frag} {F : Addr → Prop} {H : Hp} {v : V}
/-! ### numbers -/
def fSub : FD := fI2 fun i j => i - j
def fMul : FD := fI2c (fun a b => decide (a.natAbs < 18446744073709551616) || decide (b.natAbs < 18446744073709551616)) fun i j => i * j
def fDiv : FD := fI2c (fun _ b => decide (0 < b) && decide (b.natAbs.log2 < 9000)) fun i j => i / j
def fMod : FD := fI2c (fun _ b => decide (0 < b)) fun i j => i % j
def fPow : FD := fI2c (fun a b => decide (0 ≤ b) && decide (b ≤ 1000000) && decide (a.natAbs < 18446744073709551616)) fun i j => i ^ j.toNat
def fShl : FD := fI2c (fun a b => decide (0 ≤ b) && decide (b ≤ 1000000) && decide (a.natAbs < 18446744073709551616)) fun i j => i * 2 ^ j.toNat
def fShr : FD := fI2c (fun _ b => decide (0 ≤ b)) fun i j => i / 2 ^ j.toNat
def fBAnd : FD := fI2 fun i j => Builtin.bitAnd i j
def fBOr : FD := fI2 fun i j => Builtin.bitOr i j
def fBXor : FD := fI2 fun i j => Builtin.bitXor i j
def fLt : FD := fB2 fun i j => decide (i < j)
def fLe : FD := fB2 fun i j => decide (i ≤ j)
def fGt : FD := fB2 fun i j => decide (j < i)
def fGe : FD := fB2 fun i j => decide (j ≤ i)
theorem n64 : (18446744073709551616 : Nat) = 2 ^ 64 := rfl
theorem i64 : (18446744073709551616 : Int) = 2 ^ 64 := rfl
theorem lr_mulI : LR K (r2 (rI CMul fun i j => .int (i * j))) fMul := lr_I2c fun a b h => ⟨by
  rw [Bool.or_eq_true, decide_eq_true_eq, decide_eq_true_eq] at h
  unfold CMul
  rw [← i64]
  omega, rfl⟩
theorem lr_div : LR K (r2 (rI CDivW fun i j => .int (i / j))) fDiv := lr_I2c fun a b h => ⟨by
  rw [Bool.and_eq_true, decide_eq_true_eq, decide_eq_true_eq] at h
  exact h, rfl⟩
theorem lr_mod : LR K (r2 (rI (fun _ j => 0 < j) fun i j => .int (i % j))) fMod := lr_I2c fun a b h => ⟨of_decide_eq_true h, rfl⟩
theorem lr_pow : LR K (r2 (rI CPow fun i j => .int (i ^ j.toNat))) fPow := lr_I2c fun a b h => ⟨by
  simp only [Bool.and_eq_true, decide_eq_true_eq] at h
  exact ⟨h.1.1, h.1.2, h.2⟩, rfl⟩
theorem lr_shl : LR K (r2 (rI CPow fun i j => .int (i * 2 ^ j.toNat))) fShl := lr_I2c fun a b h => ⟨by
  simp only [Bool.and_eq_true, decide_eq_true_eq] at h
  exact ⟨h.1.1, h.1.2, h.2⟩, rfl⟩
theorem lr_shr : LR K (r2 (rI (fun _ j => 0 ≤ j) fun i j => .int (i / 2 ^ j.toNat))) fShr := lr_I2c fun a b h => ⟨of_decide_eq_true h, rfl⟩
def fNeg : FD
  | [.int a] => some (.int (-a))
  | _ => none
theorem lr_neg : LR K (r1 (rU fun i => .int (-i))) fNeg := fun F H vs ds d Q ft rs e q => by
  unfold fNeg at e
  split at e
  · obtain ⟨v, rfl, r⟩ := rs.one
    cases e
    exact ⟨v, rfl, _, r.int, q _ H (Same.refl H) (.int _)⟩
  · cases e
def fAbs : FD
  | [.int i] => some (.int (if i < 0 then -i else i))
  | _ => none
theorem lr_abs : LR K (fun xs H Q => ∃ i, xs = [.int i] ∧ Q (.int (if i < 0 then -i else i)) H) fAbs := fun F H vs ds d Q ft rs e q => by
  unfold fAbs at e
  split at e
  · obtain ⟨v, rfl, r⟩ := rs.one
    cases e
    exact ⟨_, by rw [r.int], q _ H (Same.refl H) (.int _)⟩
  · cases e
def fMax2 : FD
  | [.int i, .int j] => some (.int (if j > i then j else i))
  | _ => none
def fMin2 : FD
  | [.int i, .int j] => some (.int (if j < i then j else i))
  | _ => none
theorem lr_max2 : LR K (fun xs H Q => ∃ i j, xs = [.int i, .int j] ∧ Q (.int (if j > i then j else i)) H) fMax2 := fun F H vs ds d Q ft rs e q => by
  unfold fMax2 at e
  split at e
  · obtain ⟨v, w, rfl, r, r'⟩ := rs.two
    cases e
    exact ⟨_, _, by rw [r.int, r'.int], q _ H (Same.refl H) (.int _)⟩
  · cases e
theorem lr_min2 : LR K (fun xs H Q => ∃ i j, xs = [.int i, .int j] ∧ Q (.int (if j < i then j else i)) H) fMin2 := fun F H vs ds d Q ft rs e q => by
  unfold fMin2 at e
  split at e
  · obtain ⟨v, w, rfl, r, r'⟩ := rs.two
    cases e
    exact ⟨_, _, by rw [r.int, r'.int], q _ H (Same.refl H) (.int _)⟩
  · cases e
/-! ### int(x), str(n) -/
def dgs (a : List Nat) : Bool := a.all fun c => decide (48 ≤ c) && decide (c ≤ 57)
def fInt : FD
  | [.int i] => some (.int i)
  | [.bl k] => some (.int (if k then 1 else 0))
  | [.str l] => if dgs l && !l.isEmpty && decide (l.length ≤ 640) then some (.int (NumText.digitsVal l : Nat)) else none
  | _ => none
theorem lr_int {X : Cx} : ∃ r, CallR X (.type "int") r ∧ LR X.K r fInt := by
  refine ⟨_, call_int1.or call_int_str, fun F H vs ds d Q ft rs e q => ?_⟩
  unfold fInt at e
  split at e
  · obtain ⟨v, rfl, r⟩ := rs.one
    cases e
    exact .inl (.inl ⟨_, by rw [r.int], q _ H (Same.refl H) (.int _)⟩)
  · obtain ⟨v, rfl, r⟩ := rs.one
    cases e
    exact .inl (.inr ⟨_, by rw [r.bl], q _ H (Same.refl H) (.int _)⟩)
  · obtain ⟨v, rfl, r⟩ := rs.one
    split at e
    · rename_i hc
      simp only [Bool.and_eq_true, decide_eq_true_eq, Bool.not_eq_true'] at hc
      cases e
      refine .inr ⟨S _, _, by rw [r.str.1], SX.int_S hc.1.1 ?_ (by omega), by rw [S_len]; exact hc.2, q _ H (Same.refl H) (.int _)⟩
      intro z
      rw [z] at hc
      exact absurd hc.1.2 (by decide)
    · cases e
  · cases e
/-- a number's text -/
def fStrI : FD
  | [.int i] => if decide (0 ≤ i) && decide (i.toNat.log2 < 1920) then some (.str (TL.numL i.toNat)) else none
  | _ => none
theorem okc_num (n : Nat) : okc (TL.numL n) := by
  intro c hc
  unfold TL.numL at hc
  obtain ⟨x, _, rfl⟩ := List.mem_map.mp hc
  rcases x.valid with h | h
  · exact Nat.lt_trans h (by decide)
  · exact h.2
theorem lr_str {X : Cx} : ∃ r, CallR X (.type "str") r ∧ LR X.K r fStrI := by
  refine ⟨_, call_str_int, fun F H vs ds d Q ft rs e q => ?_⟩
  unfold fStrI at e
  split at e
  · rename_i i
    obtain ⟨v, rfl, r⟩ := rs.one
    split at e
    · rename_i hc
      simp only [Bool.and_eq_true, decide_eq_true_eq] at hc
      cases e
      obtain ⟨n, rfl⟩ : ∃ n : Nat, i = n := ⟨i.toNat, by omega⟩
      refine ⟨_, by rw [r.int], by simpa using hc.2, ?_⟩
      have := SX.num_S n
      show Q (.str (PySem.Str.ofString (toString (n : Int)))) H
      rw [this]
      exact q _ H (Same.refl H) (.str _ (okc_num _))
    · cases e
  · cases e
/-! ### len -/
def fLen : FD
  | [.str l] => if l.length ≤ 16777216 then some (.int (l.length : Nat)) else none
  | [.lst xs] => some (.int (xs.length : Nat))
  | [.tup xs] => some (.int (xs.length : Nat))
  | [.scr xs] => some (.int (xs.length : Nat))
  | _ => none
theorem lr_len {X : Cx} : ∃ r, CallR X (.builtin "len") r ∧ LR X.K r fLen := by
  refine ⟨_, call_len, fun F H vs ds d Q ft rs e q => ?_⟩
  unfold fLen at e
  split at e
  · obtain ⟨v, rfl, r⟩ := rs.one
    split at e
    · rename_i hl
      cases e
      obtain ⟨rfl, _⟩ := r.str
      exact ⟨_, _, rfl, ⟨by rw [S_len, sizeLine_eq]; exact hl, (S_len _).symm⟩, q _ H (Same.refl H) (.int _)⟩
    · cases e
  · obtain ⟨v, rfl, r⟩ := rs.one
    cases e
    obtain ⟨a, vs, rfl, ha, rr⟩ := r.lst
    exact ⟨_, _, rfl, .inl ⟨vs, .of ha, rr.length.symm⟩, q _ H (Same.refl H) (.int _)⟩
  · obtain ⟨v, rfl, r⟩ := rs.one
    cases e
    obtain ⟨a, vs, rfl, ha, rr⟩ := r.tup
    exact ⟨_, _, rfl, .inr ⟨vs, ha, rr.length.symm⟩, q _ H (Same.refl H) (.int _)⟩
  · obtain ⟨v, rfl, r⟩ := rs.one
    cases e
    obtain ⟨a, rfl, ha⟩ := r.scr
    exact ⟨_, _, rfl, .inl ⟨_, ha.seq, by rw [List.length_map]⟩, q _ H (Same.refl H) (.int _)⟩
  · cases e
/-! ### isinstance -/
def tyN : Dv → Option String
  | .non => some "NoneType"
  | .bl _ => some "bool"
  | .int _ => some "int"
  | .str _ => some "str"
  | .tup _ => some "tuple"
  | .lst _ => some "list"
  | .scr _ => some "list"
  | _ => none
theorem RepB.tyx {d : Dv} {n : String} (r : RepB K F H v d) (h : tyN d = some n) : TyX K H v (.type n) := by
  cases d with
  | non => cases h; rw [r.non]; exact .base .non
  | bl b => cases h; rw [r.bl]; exact .base (.bl _)
  | int i => cases h; rw [r.int]; exact .base (.int _)
  | str l => cases h; rw [r.str.1]; exact .base (.str _)
  | tup xs =>
    cases h
    obtain ⟨a, vs, rfl, ha, rr⟩ := r.tup
    rcases ha with (ha | ⟨o, ha⟩) | ⟨o, its, n, ha, hc, _⟩
    · exact .base (.tup ha)
    · exact .fTuple ha
    · exact .kTuple ha hc
  | lst xs =>
    cases h
    obtain ⟨a, vs, rfl, ha, rr⟩ := r.lst
    exact .base (.lst ha)
  | scr xs =>
    cases h
    obtain ⟨a, rfl, ha⟩ := r.scr
    rcases ha with ⟨u, ha⟩ | ⟨o, its, n, ha, hc, _⟩
    · exact .base (.frz ha)
    · exact .kList ha hc
  | dic _ _ => cases h
  | dit _ _ => cases h
  | ty _ => cases h
/-- the answers of isinstance -/
def isiT : List ((String × String) × Bool) := [
  (("NoneType", "int"), false), (("NoneType", "bool"), false), (("NoneType", "str"), false), (("NoneType", "tuple"), false), (("NoneType", "list"), false), (("NoneType", "dict"), false), (("NoneType", "set"), false),
  (("bool", "int"), true), (("bool", "bool"), true), (("bool", "str"), false), (("bool", "tuple"), false), (("bool", "list"), false), (("bool", "dict"), false), (("bool", "set"), false),
  (("int", "int"), true), (("int", "bool"), false), (("int", "str"), false), (("int", "tuple"), false), (("int", "list"), false), (("int", "dict"), false), (("int", "set"), false),
  (("str", "int"), false), (("str", "bool"), false), (("str", "str"), true), (("str", "tuple"), false), (("str", "list"), false), (("str", "dict"), false), (("str", "set"), false),
  (("tuple", "int"), false), (("tuple", "bool"), false), (("tuple", "str"), false), (("tuple", "tuple"), true), (("tuple", "list"), false), (("tuple", "dict"), false), (("tuple", "set"), false),
  (("list", "int"), false), (("list", "bool"), false), (("list", "str"), false), (("list", "tuple"), false), (("list", "list"), true), (("list", "dict"), false), (("list", "set"), false)]
theorem isiT_ok : isiT.all (fun p => decide (kitB p.1.1 p.1.2 = some p.2)) = true := by decide +kernel
theorem isiT_of {a b : String} {r : Bool} (h : isiT.lookup (a, b) = some r) : kitB a b = some r := by
  have : ((a, b), r) ∈ isiT := by
    have := List.lookup_eq_some_iff.mp h
    obtain ⟨l1, l2, e, _⟩ := this
    rw [e]
    simp
  exact of_decide_eq_true (List.all_eq_true.mp isiT_ok _ this)
def fIsi : FD
  | [d, .ty n] => match tyN d with
    | some m => (isiT.lookup (m, n)).map Dv.bl
    | none => none
  | _ => none
theorem lr_isi {X : Cx} : ∃ r, CallR X (.builtin "isinstance") r ∧ LR X.K r fIsi := by
  refine ⟨_, call_isi, fun F H vs ds d Q ft rs e q => ?_⟩
  unfold fIsi at e
  split at e
  · obtain ⟨v, w, rfl, r, r'⟩ := rs.two
    split at e
    · rename_i m em
      cases e2 : isiT.lookup (m, _) with
      | none => rw [e2] at e; cases e
      | some b =>
        rw [e2] at e
        cases e
        exact ⟨v, w, _, _, b, rfl, by rw [r'.ty]; exact .ty _, r.tyx em, kit_ty (isiT_of e2), q _ H (Same.refl H) (.bl _)⟩
    · cases e
  · cases e
/-! ### items -/
def ixD {α : Type} (xs : List α) (i : Int) : Option α := if 0 ≤ i then xs[i.toNat]? else if -(xs.length : Int) ≤ i then xs[(i + xs.length).toNat]? else none
theorem atI_D {α : Type} {xs : List α} {i : Int} : atI xs i = ixD xs i := by
  unfold atI ixN ixD
  split
  · split
    · rfl
    · rename_i h1 h2
      rw [List.getElem?_eq_none (by omega)]
      rfl
  · split <;> rfl
theorem Reps.atI {vs : List V} {ds : List Dv} {i : Int} {d : Dv} (r : Reps K F H vs ds) (h : ixD ds i = some d) : ∃ v, L2.atI vs i = some v ∧ Rep K F H v d := by
  rw [atI_D]
  unfold ixD at h ⊢
  rw [r.length]
  split at h
  · rename_i c
    rw [if_pos c]
    exact r.getD h
  · rename_i c
    rw [if_neg c]
    split at h
    · rename_i c
      rw [if_pos c]
      exact r.getD h
    · cases h
def fIx : FD
  | [.lst ds, .int i] => ixD ds i
  | [.tup ds, .int i] => ixD ds i
  | [.str l, .int i] => if l.length ≤ 16777216 then (ixD l i).map fun c => .str [c] else none
  | [.scr ns, .int i] => (ixD ns i).map Dv.int
  | _ => none
theorem okc_ix {l : List Nat} {i : Int} {c : Nat} (o : okc l) (h : ixD l i = some c) : okc [c] := by
  have : c ∈ l := by
    unfold ixD at h
    split at h
    · exact List.mem_of_getElem? h
    · split at h
      · exact List.mem_of_getElem? h
      · cases h
  intro x hx
  rw [List.mem_singleton.mp hx]
  exact o c this
theorem ixD_map {α β : Type} (f : α → β) (xs : List α) (i : Int) : ixD (xs.map f) i = (ixD xs i).map f := by
  unfold ixD
  simp only [List.length_map, List.getElem?_map]
  split
  · rfl
  · split <;> rfl
theorem lr_ix {X : Cx} : ∃ r, IxR X r ∧ LR X.K (r2 r) fIx := by
  refine ⟨_, ix_list.or (ix_tup.or ix_str), fun F H vs ds d Q ft rs e q => ?_⟩
  unfold fIx at e
  split at e
  · obtain ⟨v, w, rfl, r, r'⟩ := rs.two
    obtain ⟨a, vs, rfl, ha, rr⟩ := r.lst
    obtain ⟨x, e1, rx⟩ := rr.atI e
    exact ⟨_, _, rfl, .inl ⟨_, _, _, _, rfl, r'.int, .of ha, e1, q _ H (Same.refl H) rx⟩⟩
  · obtain ⟨v, w, rfl, r, r'⟩ := rs.two
    obtain ⟨a, vs, rfl, ha, rr⟩ := r.tup
    obtain ⟨x, e1, rx⟩ := rr.atI e
    exact ⟨_, _, rfl, .inr (.inl ⟨_, _, _, _, rfl, r'.int, ha, e1, q _ H (Same.refl H) rx⟩)⟩
  · obtain ⟨v, w, rfl, r, r'⟩ := rs.two
    split at e
    · rename_i l i hl
      obtain ⟨rfl, o⟩ := r.str
      cases e1 : ixD l i with
      | none => rw [e1] at e; cases e
      | some c =>
        rw [e1] at e
        cases e
        exact ⟨_, _, rfl, .inr (.inr ⟨_, _, c, rfl, r'.int, by rw [S_len, sizeLine_eq]; exact hl, by rw [atI_D]; simpa [S] using e1, q _ H (Same.refl H) (.str [c] (okc_ix o e1))⟩)⟩
    · cases e
  · obtain ⟨v, w, rfl, r, r'⟩ := rs.two
    obtain ⟨a, rfl, ha⟩ := r.scr
    rename_i ns i
    cases e1 : ixD ns i with
    | none => rw [e1] at e; cases e
    | some n =>
      rw [e1] at e
      cases e
      exact ⟨_, _, rfl, .inl ⟨_, _, _, V.int n, rfl, r'.int, ha.seq, by rw [atI_D, ixD_map, e1]; rfl, q _ H (Same.refl H) (.int _)⟩⟩
  · cases e
/-! ### is -/
def isNon : Dv → Bool
  | .non => true
  | _ => false
def fIsN : FD
  | [d, .non] => some (.bl (isNon d))
  | _ => none
def fNotN : FD
  | [d, .non] => some (.bl (!isNon d))
  | _ => none
theorem RepB.isN {d : Dv} (r : RepB K F H v d) : decide (v = .non) = isNon d := by
  rcases r with r | ⟨p, lk, rfl, _, o⟩
  · cases r <;> rfl
  · cases o <;> rfl
theorem lr_isN : LR K (r2 (fun x y H Q => y = .non ∧ Q (.bl (decide (x = .non))) H)) fIsN := fun F H vs ds d Q ft rs e q => by
  unfold fIsN at e
  split at e
  · obtain ⟨v, w, rfl, r, r'⟩ := rs.two
    cases e
    exact ⟨_, _, rfl, r'.non, by rw [r.isN]; exact q _ H (Same.refl H) (.bl _)⟩
  · cases e
theorem lr_notN : LR K (r2 (fun x y H Q => y = .non ∧ Q (.bl (!decide (x = .non))) H)) fNotN := fun F H vs ds d Q ft rs e q => by
  unfold fNotN at e
  split at e
  · obtain ⟨v, w, rfl, r, r'⟩ := rs.two
    cases e
    exact ⟨_, _, rfl, r'.non, by rw [r.isN]; exact q _ H (Same.refl H) (.bl _)⟩
  · cases e
/-! ### in -/
def rInP (K : PySem.W.Frag) (neg : Bool) : R2 := fun x y H Q => ∃ d ds, Dp K H x d ∧ (Dp K H y (.list ds) ∨ Dp K H y (.tuple ds)) ∧ d.canLay0 = true ∧ PyData.canLayAll0 ds = true ∧ min (PyData.depthAll ds) d.depth ≤ 64 ∧ Q (.bl (if neg then !ds.any (fun z => PyData.eqv z d) else ds.any fun z => PyData.eqv z d)) H
theorem op_inP {X : Cx} (hu : X.A.units + 65 < cLine) : OpR X (compareOp .In) (rInP X.K false) := by
  intro pins s σ H x y v u Q I rx ry h
  obtain ⟨d, ds, hd, he, sd, se, hm, q⟩ := h
  obtain ⟨as, r1⟩ := Dp.reads I d x v hd rx
  rcases he with he | he
  · obtain ⟨bs, r2⟩ := Dp.reads I (.list ds) y u he ry
    exact SeqAt.in_list_reads r2 r1 se sd (by omega) ⟨.bl _, H, I, rfl, q⟩
  · obtain ⟨bs, r2⟩ := Dp.reads I (.tuple ds) y u he ry
    exact SeqAt.in_tuple_reads r2 r1 se sd (by omega) ⟨.bl _, H, I, rfl, q⟩
theorem op_notInP {X : Cx} (hu : X.A.units + 65 < cLine) : OpR X (compareOp .NotIn) (rInP X.K true) := by
  intro pins s σ H x y v u Q I rx ry h
  obtain ⟨d, ds, hd, he, sd, se, hm, q⟩ := h
  obtain ⟨as, r1⟩ := Dp.reads I d x v hd rx
  rcases he with he | he
  · obtain ⟨bs, r2⟩ := Dp.reads I (.list ds) y u he ry
    exact SeqAt.notIn_list_reads r2 r1 se sd (by omega) ⟨.bl _, H, I, rfl, q⟩
  · obtain ⟨bs, r2⟩ := Dp.reads I (.tuple ds) y u he ry
    exact SeqAt.notIn_tuple_reads r2 r1 se sd (by omega) ⟨.bl _, H, I, rfl, q⟩
def inD (d : Dv) (ds : List Dv) : Option Bool := if isP d && isPs ds && decide (min (deps ds) (dep d) ≤ 64) then some (ds.any fun e => eqD e d) else none
def fInB : List Dv → Option Bool
  | [.str [c], .str l] => some (l.contains c)
  | [d, .lst ds] => inD d ds
  | [d, .tup ds] => inD d ds
  | _ => none
theorem mem_S (c : Nat) (l : List Nat) : decide (c ∈ (S l).cps.toList) = l.contains c := by
  rw [List.contains_eq_mem]
  rfl
def fIn : FD := fun ds => (fInB ds).map Dv.bl
def fNotIn : FD := fun ds => (fInB ds).map fun b => Dv.bl (!b)
theorem any_eqv : ∀ (ds : List Dv) (d : Dv), isPs ds = true → isP d = true → (toPs ds).any (fun z => PyData.eqv z (toP d)) = ds.any fun e => eqD e d
  | [], _, _, _ => rfl
  | e :: ds, d, h, hd => by
    simp only [isPs, Bool.and_eq_true] at h
    show (PyData.eqv (toP e) (toP d) || (toPs ds).any _) = _
    rw [eqv_eqD _ _ h.1 hd, any_eqv ds d h.2 hd]
    rfl
theorem inD_of {x y : V} {d e : Dv} {ds : List Dv} {b neg : Bool} {Q : VK} (r : RepB K F H x d) (r' : RepB K F H y e) (he : e = .lst ds ∨ e = .tup ds) (h : inD d ds = some b) (q : Q (.bl (if neg then !b else b)) H) : rInP K neg x y H Q := by
  unfold inD at h
  split at h
  · rename_i hc
    simp only [Bool.and_eq_true, decide_eq_true_eq] at hc
    cases h
    obtain ⟨a1, b1, c1⟩ := r.dp hc.1.1
    have hP : isP e = true := by rcases he with rfl | rfl <;> exact hc.1.2
    obtain ⟨a2, b2, c2⟩ := r'.dp hP
    refine ⟨_, toPs ds, a1, by rcases he with rfl | rfl; exact .inl a2; exact .inr a2, b1, by rcases he with rfl | rfl <;> exact b2, ?_, ?_⟩
    · have e1 : PyData.depthAll (toPs ds) = deps ds := by
        rcases he with rfl | rfl <;> exact Nat.succ.inj c2
      rw [e1, c1]
      exact hc.2
    · rw [any_eqv _ _ hc.1.2 hc.1.1]
      exact q
  · cases h
theorem lr_in {X : Cx} (hu : X.A.units + 65 < cLine) : ∃ r, OpR X (compareOp .In) r ∧ LR X.K (r2 r) fIn := by
  refine ⟨_, op_in_sign.or (op_inP hu), fun F H vs ds d Q ft rs e q => ?_⟩
  cases e1 : fInB ds with
  | none => rw [fIn, e1] at e; cases e
  | some b =>
    rw [fIn, e1] at e
    cases e
    unfold fInB at e1
    split at e1
    · obtain ⟨v, w, rfl, r, r'⟩ := rs.two
      cases e1
      exact ⟨_, _, rfl, .inl ⟨_, _, r.str.1, r'.str.1, by rw [mem_S]; exact q _ H (Same.refl H) (.bl _)⟩⟩
    · obtain ⟨v, w, rfl, r, r'⟩ := rs.two
      exact ⟨_, _, rfl, .inr (inD_of r r' (.inl rfl) e1 (q _ H (Same.refl H) (.bl _)))⟩
    · obtain ⟨v, w, rfl, r, r'⟩ := rs.two
      exact ⟨_, _, rfl, .inr (inD_of r r' (.inr rfl) e1 (q _ H (Same.refl H) (.bl _)))⟩
    · cases e1
theorem lr_notIn {X : Cx} (hu : X.A.units + 65 < cLine) : ∃ r, OpR X (compareOp .NotIn) r ∧ LR X.K (r2 r) fNotIn := by
  refine ⟨_, op_notIn_sign.or (op_notInP hu), fun F H vs ds d Q ft rs e q => ?_⟩
  cases e1 : fInB ds with
  | none => rw [fNotIn, e1] at e; cases e
  | some b =>
    rw [fNotIn, e1] at e
    cases e
    unfold fInB at e1
    split at e1
    · obtain ⟨v, w, rfl, r, r'⟩ := rs.two
      cases e1
      exact ⟨_, _, rfl, .inl ⟨_, _, r.str.1, r'.str.1, by rw [mem_S]; exact q _ H (Same.refl H) (.bl _)⟩⟩
    · obtain ⟨v, w, rfl, r, r'⟩ := rs.two
      exact ⟨_, _, rfl, .inr (inD_of r r' (.inl rfl) e1 (q _ H (Same.refl H) (.bl _)))⟩
    · obtain ⟨v, w, rfl, r, r'⟩ := rs.two
      exact ⟨_, _, rfl, .inr (inD_of r r' (.inr rfl) e1 (q _ H (Same.refl H) (.bl _)))⟩
    · cases e1
end
end VL

/-! # slices, chains, texts, sequences made anew -/
namespace VL
open PySem PySem.Spec PyProof.Rows L2
section
variable {K : PySem.W.Frag} {F G : Addr → Prop} {H : Hp} {v : V} {σ : L2.St} {ρ : En} {W : WK}
/-! ### whole numbers as bounds -/
def mInt (m : M) : M := fun ρ => m ρ >>= fun x => match x.1 with
  | .int i => .ok (.int i, x.2)
  | _ => .bad
theorem int_of {m : M} {Q : VK} (h : tV K W (mInt m) σ H Q) : tV K W m σ H fun v H' => ∃ i, v = .int i ∧ Q (.int i) H' := by
  obtain ⟨G, ρ, E, h⟩ := h
  refine ⟨G, ρ, E, ?_⟩
  unfold mInt at h
  cases e : m ρ with
  | bad => rw [e] at h; exact h.elim
  | exc x ρx => rw [e] at h; exact h
  | ok p =>
    obtain ⟨d, ρ'⟩ := p
    rw [e] at h
    intro v H' E' t r
    cases d with
    | int i =>
      cases r
      exact ⟨i, rfl, h (.int i) H' E' t (.int i)⟩
    | _ => exact h.elim
/-! ### slices -/
def sxD (n d : Nat) : Option Int → Nat
  | none => d
  | some v => if v < 0 then (v + (n : Int)).toNat else min v.toNat n
def cutD {α : Type} (xs : List α) (lo hi : Option Int) : List α := (xs.drop (sxD xs.length 0 lo)).take (sxD xs.length xs.length hi - sxD xs.length 0 lo)
theorem sx_eq (n d : Nat) (o : Option Int) : HT.sIx n d o = sxD n d o := by cases o <;> rfl
theorem Reps.cut {vs : List V} {ds : List Dv} (lo hi : Option Int) (r : Reps K F H vs ds) : Reps K F H (cutV vs lo hi) (cutD ds lo hi) := by
  unfold cutV cutD
  simp only [sx_eq]
  rw [r.length]
  exact (r.drop _).take _
def fSlc (lo hi : Option Int) : Dv → Option Dv
  | .str l => if l.length ≤ 16777216 then some (.str (cutD l lo hi)) else none
  | .lst ds => some (.lst (cutD ds lo hi))
  | .tup ds => some (.tup (cutD ds lo hi))
  | _ => none
theorem cutS_D (l : List Nat) (lo hi : Option Int) : cutS (S l) lo hi = S (cutD l lo hi) := by
  unfold cutS cutD
  simp only [sx_eq, S_list, S_len]
  rfl
theorem okc_cut {l : List Nat} {lo hi : Option Int} (h : okc l) : okc (cutD l lo hi) := fun c hc => h c (List.mem_of_mem_drop (List.mem_of_mem_take hc))
theorem cut_all {α : Type} {xs : List α} {lo hi : Option Int} (h : HT.sIx xs.length 0 lo = 0 ∧ HT.sIx xs.length xs.length hi = xs.length) : cutD xs lo hi = xs := by
  unfold cutD
  rw [← sx_eq, ← sx_eq, h.1, h.2, List.drop_zero, Nat.sub_zero, List.take_length]
/-- a rule of slices -/
theorem lr_sl {X : Cx} : ∃ r : V → Option Int → Option Int → Hp → VK → Prop, L2.SlR X r ∧ ∀ (F : Addr → Prop) (H : Hp) (v : V) (d d' : Dv) (lo hi : Option Int) (Q : VK), RepB X.K F H v d → fSlc lo hi d = some d' → (∀ v H', Same H H' → Rep X.K F H' v d' → Q v H') →
    (∀ a, F a → H a ≠ none) → r v lo hi H Q := by
  refine ⟨_, sl_str.or (sl_list.or sl_tupA), fun F H v d d' lo hi Q r e q ft => ?_⟩
  unfold fSlc at e
  split at e
  · split at e
    · rename_i l hl
      cases e
      obtain ⟨rfl, o⟩ := r.str
      exact .inl ⟨_, rfl, by rw [S_len, sizeLine_eq]; exact hl, by rw [cutS_D]; exact q _ H (Same.refl H) (.str _ (okc_cut o))⟩
    · cases e
  · cases e
    obtain ⟨a, vs, rfl, ha, rr⟩ := r.lst
    exact .inr (.inl ⟨_, _, rfl, .of ha, fun p np => q _ _ (same_new np) (.lst upd_same (fun z => ft p z np) ((rr.cut lo hi).same (same_new np)))⟩)
  · cases e
    obtain ⟨a, vs, rfl, ha, rr⟩ := r.tup
    refine .inr (.inr ⟨_, _, rfl, ha, fun hh => ?_, fun _ p np => q _ _ (same_new np) (.tup (.of upd_same) ((rr.cut lo hi).same (same_new np)))⟩)
    rename_i ds
    have : cutD ds lo hi = ds := cut_all (by rw [← rr.length]; exact hh)
    rw [this] at q
    exact q _ H (Same.refl H) (.tup ha rr)
  · cases e
def fSl11 : FD
  | [d, .int i, .int j] => fSlc (some i) (some j) d
  | _ => none
def fSl10 : FD
  | [d, .int i] => fSlc (some i) none d
  | _ => none
def fSl01 : FD
  | [d, .int j] => fSlc none (some j) d
  | _ => none
def fSl00 : FD
  | [d] => fSlc none none d
  | _ => none
variable {X : Cx} {a b c e lo hi : Expr} {es : List Expr} {pos p2 : Pos} {oa ob oc : Op} {ml mh ma mb mc : M} {ops : List Op} {f f' : FD}
theorem pv_sl11 (ha : PE X a (tO X.K W oa)) (hl : PE X lo (tV X.K W ml)) (hh : PE X hi (tV X.K W mh)) : PE X (.Subscript a (.Slice (some lo) (some hi) none p2) pos) (tV X.K W (mOp fSl11 [oa, .ex (mInt ml), .ex (mInt mh)])) := by
  obtain ⟨r, hr, hf⟩ := lr_sl (X := X)
  refine (pe_slice hr ha (po_some hl) (po_some hh)).vimp fun σ H Q h => ?_
  have q := ops_run (r := fun vs H Q => ∃ (x : V) (i j : Int), vs = [x, V.int i, V.int j] ∧ r x (some i) (some j) H Q) (fun F H vs ds d Q ft rs e q => ?_) h
  · refine tO_mono oa (fun x H1 h1 => ?_) q
    refine tO_mono (.ex ml) (fun y H2 ⟨i, e1, h2⟩ => ⟨i, e1, ?_⟩) (int_of h1)
    refine tO_mono (.ex mh) (fun z H3 ⟨j, e2, h3⟩ => ⟨j, e2, ?_⟩) (int_of h2)
    obtain ⟨x', i', j', e, h4⟩ := h3
    cases e
    exact h4
  · unfold fSl11 at e
    split at e
    · obtain ⟨x, y, z, rfl, r1', r2', r3'⟩ := rs.three
      exact ⟨_, _, _, by rw [r2'.int, r3'.int], hf F H _ _ d _ _ Q r1' e q ft⟩
    · cases e
theorem pv_sl10 (ha : PE X a (tO X.K W oa)) (hl : PE X lo (tV X.K W ml)) : PE X (.Subscript a (.Slice (some lo) none none p2) pos) (tV X.K W (mOp fSl10 [oa, .ex (mInt ml)])) := by
  obtain ⟨r, hr, hf⟩ := lr_sl (X := X)
  refine (pe_slice hr ha (po_some hl) po_none).vimp fun σ H Q h => ?_
  have q := ops_run (r := fun vs H Q => ∃ (x : V) (i : Int), vs = [x, V.int i] ∧ r x (some i) none H Q) (fun F H vs ds d Q ft rs e q => ?_) h
  · refine tO_mono oa (fun x H1 h1 => ?_) q
    refine tO_mono (.ex ml) (fun y H2 ⟨i, e1, h2⟩ => ⟨i, e1, ?_⟩) (int_of h1)
    obtain ⟨x', i', e, h4⟩ := h2
    cases e
    exact h4
  · unfold fSl10 at e
    split at e
    · obtain ⟨x, y, rfl, r1', r2'⟩ := rs.two
      exact ⟨_, _, by rw [r2'.int], hf F H _ _ d _ _ Q r1' e q ft⟩
    · cases e
theorem pv_sl01 (ha : PE X a (tO X.K W oa)) (hh : PE X hi (tV X.K W mh)) : PE X (.Subscript a (.Slice none (some hi) none p2) pos) (tV X.K W (mOp fSl01 [oa, .ex (mInt mh)])) := by
  obtain ⟨r, hr, hf⟩ := lr_sl (X := X)
  refine (pe_slice hr ha po_none (po_some hh)).vimp fun σ H Q h => ?_
  have q := ops_run (r := fun vs H Q => ∃ (x : V) (j : Int), vs = [x, V.int j] ∧ r x none (some j) H Q) (fun F H vs ds d Q ft rs e q => ?_) h
  · refine tO_mono oa (fun x H1 h1 => ?_) q
    refine tO_mono (.ex mh) (fun z H3 ⟨j, e2, h3⟩ => ⟨j, e2, ?_⟩) (int_of h1)
    obtain ⟨x', j', e, h4⟩ := h3
    cases e
    exact h4
  · unfold fSl01 at e
    split at e
    · obtain ⟨x, y, rfl, r1', r2'⟩ := rs.two
      exact ⟨_, _, by rw [r2'.int], hf F H _ _ d _ _ Q r1' e q ft⟩
    · cases e
theorem pv_sl00 (ha : PE X a (tO X.K W oa)) : PE X (.Subscript a (.Slice none none none p2) pos) (tV X.K W (mOp fSl00 [oa])) := by
  obtain ⟨r, hr, hf⟩ := lr_sl (X := X)
  refine (pe_slice hr ha po_none po_none).vimp fun σ H Q h => ?_
  have q := ops_run (r := fun vs H Q => ∃ x : V, vs = [x] ∧ r x none none H Q) (fun F H vs ds d Q ft rs e q => ?_) h
  · refine tO_mono oa (fun x H1 h1 => ?_) q
    obtain ⟨x', e, h4⟩ := h1
    cases e
    exact h4
  · unfold fSl00 at e
    split at e
    · obtain ⟨x, rfl, r1'⟩ := rs.one
      exact ⟨_, rfl, hf F H _ _ d _ _ Q r1' e q ft⟩
    · cases e
/-! ### chains -/
def mChn (f f' : FD) (ma mb mc : M) : M := fun ρ => ma ρ >>= fun x => mb x.2 >>= fun y => match f [x.1, y.1] with
  | some (.bl true) => mc y.2 >>= fun z => match f' [y.1, z.1] with
    | some d => .ok (d, z.2)
    | none => .bad
  | some (.bl false) => .ok (.bl false, y.2)
  | _ => .bad
theorem chn_of {r r' : R2} {Q : VK} (hf : LR K (r2 r) f) (hf' : LR K (r2 r') f') (h : tV K W (mChn f f' ma mb mc) σ H Q) : tChain r r' (tV K W ma) (tV K W mb) (tV K W mc) σ H Q := by
  obtain ⟨G, ρ, E, h⟩ := h
  refine bind_V h E fun da ρ1 x H1 E1 t1 rx h1 => ?_
  refine bind_V h1 E1 fun db ρ2 y H2 E2 t2 ry h2 => ?_
  simp only at h2
  have rx2 := rx.tr t2
  cases e : f [da, db] with
  | none => rw [e] at h2; exact h2.elim
  | some d =>
    rw [e] at h2
    cases d with
    | bl k =>
      obtain ⟨x', y', e1, q⟩ := hf (Fo G ρ2 σ) H2 [x, y] [da, db] (.bl k) (fun z H3 => ∃ k, z = .bl k ∧ (if k = true then tV K W mc σ H3 fun w' H4 => r' y w' H4 Q else Q (.bl false) H3)) (fun a z => E2.fo z) (.cons (.inl rx2) (.cons (.inl ry) .nil)) e (fun z H3 sm rz => by
        cases rz
        refine ⟨k, rfl, ?_⟩
        cases k with
        | false =>
          rw [if_neg Bool.false_ne_true]
          exact h2 (.bl false) H3 (E2.same sm) (.of_same sm) (.bl _)
        | true =>
          rw [if_pos rfl]
          refine bind_V (PV.later (.of_same sm) h2) (E2.same sm) fun dc ρ3 w H4 E4 t4 rw' h4 => ?_
          simp only at h4
          cases e5 : f' [db, dc] with
          | none => rw [e5] at h4; exact h4.elim
          | some d2 =>
            rw [e5] at h4
            obtain ⟨y'', w'', e6, q6⟩ := hf' (Fo G ρ3 σ) H4 [y, w] [db, dc] d2 Q (fun a z => E4.fo z) (.cons (.inl ((ry.same sm).tr t4)) (.cons (.inl rw') .nil)) e5 fun v H5 s5 r5 => h4 v H5 (E4.same s5) (.of_same s5) r5
            cases e6
            exact q6)
      cases e1
      exact q
    | _ => exact h2.elim
theorem pv_chn {op op' : CmpOp} {r r' : R2} (ho : OpR X (compareOp op) r) (hf : LR X.K (r2 r) f) (ho' : OpR X (compareOp op') r') (hf' : LR X.K (r2 r') f') (ha : PE X a (tV X.K W ma)) (hb : PE X b (tV X.K W mb)) (hc : PE X c (tV X.K W mc))
    (hm : lastMarks [op, op'] [b, c] = false := by with_unfolding_all rfl) : PE X (.Compare a [op, op'] [b, c] pos) (tV X.K W (mChn f f' ma mb mc)) := (pe_chain ho ho' ha hb hc hm).vimp fun _ _ _ h => chn_of hf hf' h
theorem pb_chn {op op' : CmpOp} {r r' : R2} (ho : OpR X (compareOp op) r) (hf : LR X.K (r2 r) f) (ho' : OpR X (compareOp op') r') (hf' : LR X.K (r2 r') f') (ha : PE X a (tV X.K W ma)) (hb : PE X b (tV X.K W mb)) (hc : PE X c (tV X.K W mc))
    (hm : lastMarks [op, op'] [b, c] = false := by with_unfolding_all rfl) : PT X (.Compare a [op, op'] [b, c] pos) (tB X.K W (bOf (mChn f f' ma mb mc))) := (pt_chain ho ho' ha hb hc hm).vimp fun _ _ _ h => chn_of hf hf' (bof_of h)
end
end VL

/-! # texts and sequences made anew -/
namespace VL
open PySem PySem.Spec PyProof.Rows L2
section
variable {K : PySem.W.Frag} {F G : Addr → Prop} {H : Hp} {v : V} {σ : L2.St} {ρ : En} {W : WK}
/-! ### methods of texts -/
def mStr (m : M) : M := fun ρ => m ρ >>= fun x => match x.1 with
  | .str l => .ok (.str l, x.2)
  | _ => .bad
theorem str_of {m : M} {Q : VK} (h : tV K W (mStr m) σ H Q) : tV K W m σ H fun v H' => (∃ a, v = .str a) ∧ Q v H' := by
  obtain ⟨G, ρ, E, h⟩ := h
  refine ⟨G, ρ, E, ?_⟩
  unfold mStr at h
  cases e : m ρ with
  | bad => rw [e] at h; exact h.elim
  | exc x ρx => rw [e] at h; exact h
  | ok p =>
    obtain ⟨d, ρ'⟩ := p
    rw [e] at h
    intro v H' E' t r
    cases d with
    | str l =>
      refine ⟨?_, h v H' E' t r⟩
      cases r
      exact ⟨_, rfl⟩
    | _ => exact h.elim
def rM1 (r : V → List V → Hp → VK → Prop) : List V → Hp → VK → Prop := fun vs H Q => ∃ x y, vs = [x, y] ∧ r x [y] H Q
variable {X : Cx} {a b c e o : Expr} {es : List Expr} {pos apos p2 : Pos} {oa ob oc : Op} {mo ma mb mc m1 : M} {ops : List Op} {f f' : FD}
theorem pv_m1 {id : String} {name : Str} {r : V → List V → Hp → VK → Prop} (slot : Slot "str" name id) (ty : typeOf (.builtin id) = pure (.type "method_descriptor")) (rule : MtR X id r) (hf : LR X.K (rM1 r) f) (ho : PE X o (tV X.K W mo)) (he : PE X e (tO X.K W oa))
    (hs : starEach [e] X.env = [(false, eval e X.env)] := by rfl) (hbase : attributeBase o name X.env (eval o X.env) = eval o X.env := by rfl) (hline : (apos.endLine == pos.line) = true := by rfl) :
    PE X (.Call (.Attribute o name apos) [e] [] pos) (tV X.K W (mOp f [.ex (mStr mo), oa])) := (pe_m1 slot ty rule ho he hs hbase hline).vimp fun σ H Q h => by
  have q := ops_run hf h
  refine tO_mono (.ex mo) (fun x H1 ⟨h1, h2⟩ => ⟨h1, ?_⟩) (str_of q)
  refine tO_mono oa (fun y H2 h3 => ?_) h2
  obtain ⟨x', y', e, h4⟩ := h3
  cases e
  exact h4
def strsD : List Dv → Option (List (List Nat))
  | [] => some []
  | .str l :: r => (strsD r).map (l :: ·)
  | _ :: _ => none
theorem Reps.strs : ∀ {vs : List V} {ds : List Dv} {ls : List (List Nat)}, Reps K F H vs ds → strsD ds = some ls → vs = (ls.map S).map V.str ∧ ∀ l ∈ ls, okc l
  | _, _, ls, .nil, h => by
    cases h
    exact ⟨rfl, fun l hl => by simp at hl⟩
  | _, _, ls, @Reps.cons _ _ _ _ _ _ ds r rs, h => by
    cases r with
    | str l o =>
      have h' : (strsD ds).map (l :: ·) = some ls := h
      cases e : strsD ds with
      | none => rw [e] at h'; cases h'
      | some ls' =>
        rw [e] at h'
        cases h'
        obtain ⟨e1, o1⟩ := Reps.strs rs e
        refine ⟨by rw [e1]; rfl, fun x hx => ?_⟩
        rcases List.mem_cons.mp hx with rfl | hx
        · exact o
        · exact o1 x hx
    | non => cases h
    | bl _ => cases h
    | int _ => cases h
    | tup _ _ => cases h
    | lst _ _ _ => cases h
    | dic _ _ _ _ _ => cases h
    | dit _ _ _ _ _ => cases h
    | scr _ => cases h
    | ty _ => cases h
def joinOk (sep : List Nat) (ls : List (List Nat)) : Bool := decide ((ls.map (·.length)).sum + ls.length * sep.length ≤ 16777216)
def fJoinL (sep : List Nat) (ds : List Dv) : Option Dv := match strsD ds with
  | some ls => if joinOk sep ls then some (.str (TL.joinL sep ls)) else none
  | none => none
def fJoin : FD
  | [.str sep, .lst ds] => fJoinL sep ds
  | [.str sep, .tup ds] => fJoinL sep ds
  | _ => none
theorem okc_join {sep : List Nat} (h : okc sep) : ∀ {ls : List (List Nat)}, (∀ l ∈ ls, okc l) → okc (TL.joinL sep ls)
  | [], _ => fun c hc => by simp [TL.joinL] at hc
  | [p], h2 => fun c hc => h2 p (by simp) c hc
  | p :: q :: r, h2 => okc_app (h2 p (by simp)) (okc_app h (okc_join h fun l hl => h2 l (List.mem_cons_of_mem _ hl)))
theorem join_of {x : V} {sep : List Nat} {ds : List Dv} {d : Dv} {vs : List V} {p : Addr} {Q : VK} (hx : RepB K F H x (.str sep)) (hp : SqL K H p vs ∨ SqT K H p vs) (rs : Reps K F H vs ds) (h : fJoinL sep ds = some d) (q : ∀ v H', Same H H' → Rep K F H' v d → Q v H') :
    ∃ a p', ∃ ys : List Str, x = .str a ∧ [V.ref p] = [V.ref p'] ∧ (SqL K H p' (ys.map V.str) ∨ SqT K H p' (ys.map V.str)) ∧ (ys.map (·.length)).sum + ys.length * a.length ≤ 16777216 ∧ Q (.str (Txt.join a ys)) H := by
  unfold fJoinL at h
  cases e : strsD ds with
  | none => rw [e] at h; cases h
  | some ls =>
    rw [e] at h
    simp only at h
    split at h
    · rename_i hc
      cases h
      obtain ⟨e1, o⟩ := rs.strs e
      obtain ⟨rfl, os⟩ := hx.str
      subst e1
      refine ⟨_, p, ls.map S, rfl, rfl, hp, ?_, ?_⟩
      · have := of_decide_eq_true hc
        rw [List.map_map, List.length_map, S_len]
        simpa [Function.comp_def, S_len] using this
      · have := SX.join_S sep ls
        have e2 : Txt.join (S sep) (ls.map S) = S (TL.joinL sep ls) := this
        rw [e2]
        exact q _ H (Same.refl H) (.str _ (okc_join os o))
    · cases h
theorem lr_join : LR K (rM1 (fun x xs H Q => ∃ a p, ∃ ys : List Str, x = .str a ∧ xs = [.ref p] ∧ (SqL K H p (ys.map V.str) ∨ SqT K H p (ys.map V.str)) ∧ (ys.map (·.length)).sum + ys.length * a.length ≤ 16777216 ∧ Q (.str (Txt.join a ys)) H)) fJoin := fun F H vs ds d Q ft rs e q => by
  unfold fJoin at e
  split at e
  · obtain ⟨x, y, rfl, r, r'⟩ := rs.two
    obtain ⟨p, vs, rfl, hp, rr⟩ := r'.lst
    exact ⟨_, _, rfl, join_of r (.inl (.of hp)) rr e q⟩
  · obtain ⟨x, y, rfl, r, r'⟩ := rs.two
    obtain ⟨p, vs, rfl, hp, rr⟩ := r'.tup
    exact ⟨_, _, rfl, join_of r (.inr hp) rr e q⟩
  · cases e
theorem cnt_count (c : Nat) : ∀ l : List Nat, PyProof.Rows.cnt c l = ((l.count c : Nat) : Int)
  | [] => rfl
  | n :: r => by
    rw [PyProof.Rows.cnt_cons, cnt_count c r, List.count_cons]
    by_cases h : n = c
    · simp [h]; omega
    · simp [h]
def fCount : FD
  | [.str l, .str [c]] => some (.int (l.count c : Nat))
  | _ => none
theorem lr_count : LR K (rM1 (fun x xs H Q => ∃ a b, x = .str a ∧ xs = [.str b] ∧ Q (.int (Txt.count a b)) H)) fCount := fun F H vs ds d Q ft rs e q => by
  unfold fCount at e
  split at e
  · obtain ⟨x, y, rfl, r, r'⟩ := rs.two
    cases e
    refine ⟨_, _, rfl, _, _, r.str.1, by rw [r'.str.1], ?_⟩
    rename_i l c
    have : Txt.count (S l) (S [c]) = ((l.count c : Nat) : Int) := by
      have h := PyProof.Rows.count_cnt (S l) c
      rw [S_list, cnt_count] at h
      exact h
    rw [this]
    exact q _ H (Same.refl H) (.int _)
  · cases e
/-! ### list(x), tuple(x) -/
theorem call_listS (hc : X.calm = true) : CallR X (.type "list") (fun xs H Q => ∃ x : Str, xs = [.str x] ∧ x.length ≤ sizeLine ∧ ∀ p, H p = none → Q (.ref p) (upd H p (.lst (signs x.cps.toList)))) := by
  intro pins s σ H xs us Q I rs h
  obtain ⟨x, rfl, hz, q⟩ := h
  obtain ⟨u, rfl, r⟩ := vals1 rs
  obtain ⟨t, rfl⟩ := r
  refine call_list_str (I.ok.hd hc) x t (hn := hz) fun h' tk acc c' hk e hi => ?_
  refine ⟨.ref s.heap.objs.size, upd H s.heap.objs.size (.lst (signs x.cps.toList)), I.laid hk (Nat.le_refl _) ⟨by simp [signs]; exact hz, acc.toList, c', ?_, by rw [Array.toArray_toList]; exact e⟩, rfl, q _ (I.hok.fresh (Nat.le_refl _))⟩
  refine vals_of_idx _ _ (by simp [signs, hi.1]) fun j u hj => ?_
  obtain ⟨c, t', hc, rfl⟩ := hi.2 j u (by rw [← Array.getElem?_toList]; exact hj)
  refine ⟨.str ⟨#[c]⟩, ?_, ⟨_, rfl⟩⟩
  simp [signs, hc]
  rfl
theorem call_tupleS (hc : X.calm = true) : CallR X (.type "tuple") (fun xs H Q => ∃ x : Str, xs = [.str x] ∧ x.length ≤ sizeLine ∧ ∀ p, H p = none → Q (.ref p) (upd H p (.tup (signs x.cps.toList)))) := by
  intro pins s σ H xs us Q I rs h
  obtain ⟨x, rfl, hz, q⟩ := h
  obtain ⟨u, rfl, r⟩ := vals1 rs
  obtain ⟨t, rfl⟩ := r
  refine call_tuple_str (I.ok.hd hc) x t (hsz := hz) fun h' tk acc hk hi => ?_
  have I1 : Inv X pins σ H { s with heap := h', toks := tk } := I.kept hk
  have I2 := I1.laid (a := h'.objs.size) (o := .tup (signs x.cps.toList)) (h' := h'.push { cls := .type "tuple", data := .seq acc }) (t' := tk) (fun b o e => Heap.get?_push_of_some _ e) (Nat.le_refl _) (show ObjOk X.prog X.w _ _ _ (.tup _) from ⟨by simp [signs]; exact hz, acc.toList, ?_, by rw [Array.toArray_toList]; exact IsTup.new _ _⟩)
  · exact ⟨.ref h'.objs.size, _, I2, rfl, q _ (I1.hok.fresh (Nat.le_refl _))⟩
  refine vals_of_idx _ _ (by simp [signs, hi.1]) fun j u hj => ?_
  obtain ⟨c, t', hc, rfl⟩ := hi.2 j u (by rw [← Array.getElem?_toList]; exact hj)
  refine ⟨.str ⟨#[c]⟩, ?_, ⟨_, rfl⟩⟩
  simp [signs, hc]
  rfl
def fList : FD
  | [d] => (itD d).map Dv.lst
  | _ => none
def fTup : FD
  | [d] => (itD d).map Dv.tup
  | _ => none
theorem ln_list (hc : X.calm = true) : ∃ r, CallR X (.type "list") r ∧ LN X.K r fList := by
  refine ⟨_, call_list_of.or (call_listS hc), fun F H vs ds d Q ft rs e q => ?_⟩
  unfold fList at e
  split at e
  · rename_i d0
    obtain ⟨x, rfl, r⟩ := rs.one
    cases e1 : itD d0 with
    | none => rw [e1] at e; cases e
    | some es =>
      rw [e1] at e
      cases e
      cases d0 with
      | lst ds =>
        cases e1
        obtain ⟨a, vs, rfl, ha, rr⟩ := r.lst
        exact .inl ⟨a, vs, rfl, .inl (.of ha), fun p np => q p _ (same_new np) np (.lst upd_same (rr.freshen np))⟩
      | tup ds =>
        cases e1
        obtain ⟨a, vs, rfl, ha, rr⟩ := r.tup
        exact .inl ⟨a, vs, rfl, .inr ha, fun p np => q p _ (same_new np) np (.lst upd_same (rr.freshen np))⟩
      | scr ns =>
        cases e1
        obtain ⟨a, rfl, ha⟩ := r.scr
        exact .inl ⟨a, _, rfl, .inl ha.seq, fun p np => q p _ (same_new np) np (.lst upd_same (reps_ints ns))⟩
      | str l =>
        obtain ⟨rfl, o⟩ := r.str
        simp only [itD] at e1
        split at e1
        · rename_i hl
          cases e1
          exact .inr ⟨S l, rfl, by rw [S_len, sizeLine_eq]; exact hl, fun p np => q p _ (same_new np) np (.lst upd_same (by rw [S_list]; exact reps_signs l o))⟩
        · cases e1
      | _ => cases e1
  · cases e
theorem lr_tup (hc : X.calm = true) : ∃ r, CallR X (.type "tuple") r ∧ LR X.K r fTup := by
  refine ⟨_, call_tuple_of.or (call_tupleS hc), fun F H vs ds d Q ft rs e q => ?_⟩
  unfold fTup at e
  split at e
  · rename_i d0
    obtain ⟨x, rfl, r⟩ := rs.one
    cases e1 : itD d0 with
    | none => rw [e1] at e; cases e
    | some es =>
      rw [e1] at e
      cases e
      cases d0 with
      | lst ds =>
        cases e1
        obtain ⟨a, vs, rfl, ha, rr⟩ := r.lst
        exact .inl ⟨a, vs, rfl, .inl ⟨.of ha, fun p np => q _ _ (same_new np) (.tup (.of upd_same) (rr.same (same_new np)))⟩⟩
      | tup ds =>
        cases e1
        obtain ⟨a, vs, rfl, ha, rr⟩ := r.tup
        exact .inl ⟨a, vs, rfl, .inr ⟨ha, q _ H (Same.refl H) (.tup ha rr)⟩⟩
      | scr ns =>
        cases e1
        obtain ⟨a, rfl, ha⟩ := r.scr
        exact .inl ⟨a, _, rfl, .inl ⟨ha.seq, fun p np => q _ _ (same_new np) (.tup (.of upd_same) (reps_ints ns))⟩⟩
      | str l =>
        obtain ⟨rfl, o⟩ := r.str
        simp only [itD] at e1
        split at e1
        · rename_i hl
          cases e1
          exact .inr ⟨S l, rfl, by rw [S_len, sizeLine_eq]; exact hl, fun p np => q _ _ (same_new np) (.tup (.of upd_same) (by rw [S_list]; exact reps_signs l o))⟩
        · cases e1
      | _ => cases e1
  · cases e
/-! ### sums -/
def intsD : List Dv → Option (List Int)
  | [] => some []
  | .int i :: r => (intsD r).map (i :: ·)
  | _ :: _ => none
def bolsD : List Dv → Option (List Bool)
  | [] => some []
  | .bl i :: r => (bolsD r).map (i :: ·)
  | _ :: _ => none
theorem Reps.ints : ∀ {vs : List V} {ds : List Dv} {ns : List Int}, Reps K F H vs ds → intsD ds = some ns → vs = ns.map V.int
  | _, _, ls, .nil, h => by
    cases h
    rfl
  | _, _, ls, @Reps.cons _ _ _ _ _ d ds r rs, h => by
    cases d with
    | int i =>
      cases r
      have h' : (intsD ds).map (i :: ·) = some ls := h
      cases e : intsD ds with
      | none => rw [e] at h'; cases h'
      | some ns =>
        rw [e] at h'
        cases h'
        rw [Reps.ints rs e]
        rfl
    | _ => cases h
theorem Reps.bols : ∀ {vs : List V} {ds : List Dv} {ns : List Bool}, Reps K F H vs ds → bolsD ds = some ns → vs = ns.map V.bl
  | _, _, ls, .nil, h => by
    cases h
    rfl
  | _, _, ls, @Reps.cons _ _ _ _ _ d ds r rs, h => by
    cases d with
    | bl i =>
      cases r
      have h' : (bolsD ds).map (i :: ·) = some ls := h
      cases e : bolsD ds with
      | none => rw [e] at h'; cases h'
      | some ns =>
        rw [e] at h'
        cases h'
        rw [Reps.bols rs e]
        rfl
    | _ => cases h
def fSum : FD
  | [.lst ds] => (intsD ds).map fun ns => .int ns.sum
  | [.scr ns] => some (.int ns.sum)
  | _ => none
def fAll : FD
  | [.lst ds] => (bolsD ds).map fun bs => .bl (bs.all id)
  | _ => none
def fAny : FD
  | [.lst ds] => (bolsD ds).map fun bs => .bl (bs.any id)
  | _ => none
theorem lr_sum : LR K (rSum K) fSum := fun F H vs ds d Q ft rs e q => by
  unfold fSum at e
  split at e
  · rename_i ds
    obtain ⟨x, rfl, r⟩ := rs.one
    obtain ⟨a, vs, rfl, ha, rr⟩ := r.lst
    cases e1 : intsD ds with
    | none => rw [e1] at e; cases e
    | some ns =>
      rw [e1] at e
      cases e
      rw [rr.ints e1] at ha
      exact ⟨a, ns, rfl, .of ha, q _ H (Same.refl H) (.int _)⟩
  · obtain ⟨x, rfl, r⟩ := rs.one
    cases e
    obtain ⟨a, rfl, ha⟩ := r.scr
    exact ⟨a, _, rfl, ha.seq, q _ H (Same.refl H) (.int _)⟩
  · cases e
theorem lr_all : LR K (rAll K) fAll := fun F H vs ds d Q ft rs e q => by
  unfold fAll at e
  split at e
  · rename_i ds
    obtain ⟨x, rfl, r⟩ := rs.one
    obtain ⟨a, vs, rfl, ha, rr⟩ := r.lst
    cases e1 : bolsD ds with
    | none => rw [e1] at e; cases e
    | some ns =>
      rw [e1] at e
      cases e
      rw [rr.bols e1] at ha
      exact ⟨a, ns, rfl, .of ha, q _ H (Same.refl H) (.bl _)⟩
  · cases e
theorem lr_any : LR K (rAny K) fAny := fun F H vs ds d Q ft rs e q => by
  unfold fAny at e
  split at e
  · rename_i ds
    obtain ⟨x, rfl, r⟩ := rs.one
    obtain ⟨a, vs, rfl, ha, rr⟩ := r.lst
    cases e1 : bolsD ds with
    | none => rw [e1] at e; cases e
    | some ns =>
      rw [e1] at e
      cases e
      rw [rr.bols e1] at ha
      exact ⟨a, ns, rfl, .of ha, q _ H (Same.refl H) (.bl _)⟩
  · cases e
/-! ### times -/
def fRepL : FD
  | [.lst ds, .int k] => if ds.length * k.toNat ≤ 16777216 ∧ -16777216 ≤ k ∧ k ≤ 16777216 then some (.lst (List.replicate k.toNat ds).flatten) else none
  | _ => none
theorem ln_rep : LN K (r2 rRep) fRepL := fun F H vs ds d Q ft rs e q => by
  unfold fRepL at e
  split at e
  · split at e
    · rename_i hl
      obtain ⟨v, w, rfl, r1, r2'⟩ := rs.two
      cases e
      obtain ⟨a, va, rfl, ha, ra⟩ := r1.lst
      exact ⟨_, _, rfl, a, _, va, rfl, r2'.int, ha, by omega, by omega, by rw [ra.length, sizeLine_eq]; exact hl.1, fun p np => q p _ (same_new np) np (.lst upd_same ((ra.flatten_rep _).freshen np))⟩
    · cases e
  · cases e
theorem fold_flat (a : Array Nat) : ∀ (n : Nat) (acc : Array Nat), ((List.replicate n a).foldl (· ++ ·) acc).toList = acc.toList ++ (List.replicate n a.toList).flatten
  | 0, acc => by simp
  | n + 1, acc => by
    rw [List.replicate_succ, List.foldl_cons, fold_flat a n, List.replicate_succ, List.flatten_cons, Array.toList_append, List.append_assoc]
def rMulS : R2 := fun x y H Q => ∃ (l : List Nat) (n : Int), x = .str (S l) ∧ y = .int n ∧ l.length * n.toNat ≤ 16777216 ∧ -16777216 ≤ n ∧ n ≤ 16777216 ∧ Q (.str (S (List.replicate n.toNat l).flatten)) H
theorem mk_S {a : Array Nat} {l : List Nat} (h : a.toList = l) : (⟨a⟩ : Str) = S l := by
  show (⟨a⟩ : Str) = ⟨l.toArray⟩
  rw [← h]
theorem op_mulS : OpR X (binaryOp .Mult) rMulS := by
  intro pins s σ H x y v u Q I rx ry h
  obtain ⟨l, n, rfl, rfl, hl, h1, h2, q⟩ := h
  obtain ⟨t, rfl⟩ := rx
  obtain ⟨t', rfl⟩ := ry
  refine PySem.P.mul_str (by
    rw [decide_eq_false (by omega), decide_eq_false (by omega)]; rfl) (fun h3 _ => ?_) (fun h3 _ => ?_) ?_
  · rw [S_len]
    have h4 : (l.length : Int) * n ≤ 2 ^ 63 - 1 := by
      have : ((l.length * n.toNat : Nat) : Int) ≤ ((16777216 : Nat) : Int) := Int.ofNat_le.mpr hl
      rw [Int.natCast_mul, Int.toNat_of_nonneg (by omega)] at this
      omega
    have := (Int.le_ediv_iff_mul_le (a := l.length) (b := 2 ^ 63 - 1) (c := n) (by omega)).mpr h4
    omega
  · rw [S_len]
    unfold Builtin.Str.tooLong
    have := sizeLine_eq
    exact decide_eq_false (by omega)
  · by_cases c1 : n < 1
    · rw [if_pos c1]
      have e0 : n.toNat = 0 := by omega
      rw [e0] at q
      exact ⟨by decide, .str (S []), H, I.tok _, ⟨_, rfl⟩, by simpa using q⟩
    · rw [if_neg c1]
      by_cases c2 : (n == 1 || (S l).length == 0) = true
      · rw [if_pos c2]
        have e0 : (List.replicate n.toNat l).flatten = l := by
          rw [Bool.or_eq_true, beq_iff_eq, beq_iff_eq, S_len] at c2
          rcases c2 with rfl | c2
          · simp
          · rw [List.length_eq_zero_iff] at c2
            subst c2
            simp
        rw [e0] at q
        exact ⟨.str (S l), H, I, ⟨_, rfl⟩, q⟩
      · rw [if_neg c2]
        have e0 : (⟨(List.replicate n.toNat (S l).cps).foldl (· ++ ·) #[]⟩ : Str) = S (List.replicate n.toNat l).flatten := mk_S (by rw [fold_flat, S_list]; rfl)
        rw [e0]
        refine ⟨?_, .str (S (List.replicate n.toNat l).flatten), H, I.tok _, ⟨_, rfl⟩, q⟩
        rw [S_len]
        have : (List.replicate n.toNat l).flatten.length = n.toNat * l.length := by simp
        rw [this, sizeLine_eq, Nat.mul_comm]
        exact hl
/-- * of numbers, of a text and a number -/
def fTimes : FD
  | [.str l, .int n] => if l.length * n.toNat ≤ 16777216 ∧ -16777216 ≤ n ∧ n ≤ 16777216 then some (.str (List.replicate n.toNat l).flatten) else none
  | [.int a, .int b] => fMul [.int a, .int b]
  | _ => none
theorem okc_rep {l : List Nat} (h : okc l) (n : Nat) : okc (List.replicate n l).flatten := fun c hc => by
  obtain ⟨x, hx, hc⟩ := List.mem_flatten.mp hc
  rw [(List.mem_replicate.mp hx).2] at hc
  exact h c hc
theorem lr_mul : ∃ r, OpR X (binaryOp .Mult) r ∧ LR X.K (r2 r) fTimes := by
  refine ⟨_, op_mul.or op_mulS, fun F H vs ds d Q ft rs e q => ?_⟩
  unfold fTimes at e
  split at e
  · split at e
    · rename_i hl
      obtain ⟨v, w, rfl, r1, r2'⟩ := rs.two
      cases e
      obtain ⟨rfl, o⟩ := r1.str
      exact ⟨_, _, rfl, .inr ⟨_, _, rfl, r2'.int, hl.1, hl.2.1, hl.2.2, q _ H (Same.refl H) (.str _ (okc_rep o _))⟩⟩
    · cases e
  · obtain ⟨x, y, e1, h⟩ := lr_mulI F H vs _ d Q ft rs e q
    exact ⟨x, y, e1, .inl h⟩
  · cases e
end
end VL

/-! # changing what a name holds -/
namespace VL
open PySem PySem.Spec PyProof.Rows L2
section
variable {K : PySem.W.Frag} {F G : Addr → Prop} {H H' : Hp} {v : V} {σ : L2.St} {ρ : En} {W : WK} {fr : Bool}
/-- p's thing is changed: what does not lean on it stands -/
theorem Reps.updP {p : Addr} {o o' : HO} {vs : List V} {ds : List Dv} (r : Reps K F H vs ds) (hf : F p) (ho : H p = some o) (nt : ¬ isTup o) : Reps K F (upd H p o') vs ds := r.updF hf ho nt
/-- lists that a name holds -/
def slL (ρ : En) (i : Nat) : Option (Bool × List Dv) := match ρ[i]? with
  | some (.mt io false (.lst ds)) => some (io, ds)
  | _ => none
theorem slL_of {i : Nat} {io : Bool} {ds : List Dv} (h : slL ρ i = some (io, ds)) : ρ[i]? = some (.mt io false (.lst ds)) := by
  unfold slL at h
  split at h
  · rename_i e
    cases h
    exact e
  · cases h
theorem EnvOk.lst (E : EnvOk K G ρ σ H) {i : Nat} {io : Bool} {ds : List Dv} (h : slL ρ i = some (io, ds)) : ∃ p vs, σ[i]? = some (some (V.ref p)) ∧ H p = some (.lst vs) ∧ Reps K (Fo G ρ σ) H vs ds ∧ Fo G ρ σ p := by
  have h1 := slL_of h
  obtain ⟨p, e1, o⟩ := E.ok i _ h1
  cases o with
  | lst e2 rs => exact ⟨p, _, e1, e2, rs, .inr ⟨i, io, false, _, h1, e1⟩⟩
/-- the list of a name becomes another -/
theorem EnvOk.toLst (E : EnvOk K G ρ σ H) {i : Nat} {io : Bool} {ds ds' : List Dv} {p : Addr} {vs vs' : List V} (h : slL ρ i = some (io, ds)) (e1 : σ[i]? = some (some (V.ref p))) (e2 : H p = some (.lst vs)) (r : Reps K (Fo G ρ σ) H vs' ds') :
    EnvOk K G (ρ.set i (.mt io false (.lst ds'))) σ (upd H p (.lst vs')) ∧ Tr ρ σ (ρ.set i (.mt io false (.lst ds'))) σ H (upd H p (.lst vs')) := by
  have h1 := slL_of h
  have hf : Fo G ρ σ p := .inr ⟨i, io, false, _, h1, e1⟩
  exact E.mut h1 e1 (fun a o n h => by rw [upd_ne n]; exact h) (by rw [upd_same]; simp) (.lst upd_same (r.updP hf e2 (fun z => z)))
/-! ### name[i] = e -/
def ixN2 (n : Nat) (i : Int) : Option Nat := if 0 ≤ i then (if i < n then some i.toNat else none) else if -(n : Int) ≤ i then some (i + n).toNat else none
def sSetIx (i : Nat) (me mi : M) : SM := fun ρ => me ρ >>= fun x => getSl x.2 i >>= fun _ => mi x.2 >>= fun y => match slL y.2 i, y.1 with
  | some (io, ds), .int k => match ixN2 ds.length k with
    | some j => .ok (.nx (y.2.set i (.mt io false (.lst (ds.set j x.1)))))
    | none => .bad
  | _, _ => .bad
variable {X : Cx} {a b c e o ie : Expr} {es : List Expr} {pos apos p2 py : Pos} {oa ob oc : Op} {mo ma mb mc m1 mi me : M} {ms : List M} {ops : List Op} {f f' : FD}
theorem vs_setIx (i : Nat) {x : Str} (he : PE X e (tV X.K W me)) (ho : PE X (.Name x py) (tVar i)) (hi : PE X ie (tV X.K W mi))
    (ha : ∀ v, assign (.Subscript (.Name x py) ie p2) X.env v = (do
      let ov ← holding [v] (eval (.Name x py) X.env)
      let iv ← holding [v, ov] (eval ie X.env)
      standAt p2
      holding [v, ov, iv] (setItem ov iv v)
      release [v, ov, iv] []) := by intro _; rfl)
    (hs : swapsWithSole [.Subscript (.Name x py) ie p2] e pos.line X.env = pure false := by rfl) (hw : swappedStores [.Subscript (.Name x py) ie p2] e X.env = pure none := by rfl) (h1 : (assignEach [.Subscript (.Name x py) ie p2] X.env).map (·.2) = [assign (.Subscript (.Name x py) ie p2) X.env] := by rfl) :
    PS X (.Assign [.Subscript (.Name x py) ie p2] e pos) (tS X.K W fr (sSetIx i me mi)) := (ps_asg he (pg_sub ho hi set_list ha) hs hw h1).vimp fun D σ H ⟨G, ρ, E, h⟩ => by
  refine bind_VS h E fun d ρ1 v H1 E1 t1 r h1 => ?_
  simp only at h1
  cases e0 : getSl ρ1 i with
  | bad => rw [e0] at h1; exact h1.elim
  | exc x ρx => exact absurd e0 (by unfold getSl; split <;> simp)
  | ok d0 =>
    rw [e0] at h1
    obtain ⟨v0, e1, _⟩ := E1.slot e0
    refine ⟨v0, e1, ?_⟩
    simp only [bind_ok] at h1
    refine bind_VS h1 E1 fun k ρ2 w H2 E2 t2 rk h2 => ?_
    simp only at h2
    split at h2
    · rename_i io ds k eq
      split at h2
      · rename_i j ej
        obtain ⟨p, vs, q1, q2, q3, q4⟩ := E2.lst eq
        rw [e1] at q1
        cases q1
        cases rk
        obtain ⟨E3, t3⟩ := E2.toLst eq e1 q2 (q3.set j (r.tr t2))
        refine ⟨p, vs, k, j, rfl, rfl, q2, by rw [q3.length]; exact ej, ?_⟩
        exact h2 _ _ E3 t3
      · exact h2.elim
    · exact h2.elim
/-! ### name.append(e), name.extend(e) -/
def mApp (i : Nat) (me : M) : M := fun ρ => match slL ρ i with
  | none => .bad
  | some _ => me ρ >>= fun x => match slL x.2 i with
    | some (io, ds) => if ds.length < 16777216 then .ok (.non, x.2.set i (.mt io false (.lst (ds ++ [x.1])))) else .bad
    | none => .bad
def mExt (i : Nat) (me : M) : M := fun ρ => match slL ρ i with
  | none => .bad
  | some _ => me ρ >>= fun x => match slL x.2 i, x.1 with
    | some (io, ds), .lst es => if ds.length + es.length ≤ 16777216 then .ok (.non, x.2.set i (.mt io false (.lst (ds ++ es)))) else .bad
    | _, _ => .bad
def mPop (i : Nat) : M := fun ρ => match slL ρ i with
  | none => .bad
  | some (io, ds) => match ds.getLast? with
    | some d => .ok (d, ρ.set i (.mt io false (.lst ds.dropLast)))
    | none => .bad
theorem pv_app (i : Nat) {x : Str} (ho : PE X (.Name x py) (tVar i)) (he : PE X e (tV X.K W me))
    (hbase : attributeBase (.Name x py) "append" X.env (eval (.Name x py) X.env) = eval (.Name x py) X.env := by rfl)
    (hfew : ((backTo pos (starEach [e] X.env)).all (fun x => !x.1) && (backToKw pos (keywordEach [] X.env)).all (fun x => x.1.isSome)
      && decide (([e]).length + ([] : List Keyword).length + (if ([] : List Keyword).isEmpty then 0 else 1) < 30)) = true := by rfl)
    (hline : (apos.endLine == pos.line) = true := by rfl) (hs : starEach [e] X.env = (false, eval e X.env) :: starEach [] X.env := by rfl) (hplain : (backTo pos (starEach [] X.env)).any (·.1) = false := by rfl) :
    PE X (.Call (.Attribute (.Name x py) "append" apos) [e] [] pos) (tV X.K W (mApp i me)) := (pe_bm PySem.F.plainAttrs_list PySem.F.slot_list_append PySem.F.type_list_append mt_append ho (pa_cons he pa_nil hs) hbase hfew hline hs hplain).vimp fun σ H Q ⟨G, ρ, E, h⟩ => by
  unfold mApp at h
  cases e0 : slL ρ i with
  | none => rw [e0] at h; exact h.elim
  | some y =>
    obtain ⟨io0, ds0⟩ := y
    rw [e0] at h
    obtain ⟨p, vs, q1, q2, q3, q4⟩ := E.lst e0
    refine ⟨.ref p, q1, .inl ⟨rfl, _, .inl (.inl q2)⟩, ?_⟩
    refine bind_V h E fun d ρ1 v H1 E1 t1 r h1 => ?_
    simp only at h1
    split at h1
    · rename_i io ds eq
      split at h1
      · rename_i hl
        obtain ⟨p', vs', g1, g2, g3, g4⟩ := E1.lst eq
        rw [q1] at g1
        cases g1
        obtain ⟨E3, t3⟩ := E1.toLst eq q1 g2 (g3.append (.one r))
        exact ⟨p, vs', v, rfl, rfl, g2, by rw [g3.length, sizeLine_eq]; exact hl, h1 .non _ E3 t3 .non⟩
      · exact h1.elim
    · exact h1.elim
theorem pv_ext (i : Nat) {x : Str} (ho : PE X (.Name x py) (tVar i)) (he : PE X e (tV X.K W me))
    (hbase : attributeBase (.Name x py) "extend" X.env (eval (.Name x py) X.env) = eval (.Name x py) X.env := by rfl)
    (hfew : ((backTo pos (starEach [e] X.env)).all (fun x => !x.1) && (backToKw pos (keywordEach [] X.env)).all (fun x => x.1.isSome)
      && decide (([e]).length + ([] : List Keyword).length + (if ([] : List Keyword).isEmpty then 0 else 1) < 30)) = true := by rfl)
    (hline : (apos.endLine == pos.line) = true := by rfl) (hs : starEach [e] X.env = (false, eval e X.env) :: starEach [] X.env := by rfl) (hplain : (backTo pos (starEach [] X.env)).any (·.1) = false := by rfl) :
    PE X (.Call (.Attribute (.Name x py) "extend" apos) [e] [] pos) (tV X.K W (mExt i me)) := (pe_bm PySem.F.plainAttrs_list PySem.F.slot_list_extend PySem.F.type_list_extend mt_extend ho (pa_cons he pa_nil hs) hbase hfew hline hs hplain).vimp fun σ H Q ⟨G, ρ, E, h⟩ => by
  unfold mExt at h
  cases e0 : slL ρ i with
  | none => rw [e0] at h; exact h.elim
  | some y =>
    obtain ⟨io0, ds0⟩ := y
    rw [e0] at h
    obtain ⟨p, vs, q1, q2, q3, q4⟩ := E.lst e0
    refine ⟨.ref p, q1, .inl ⟨rfl, _, .inl (.inl q2)⟩, ?_⟩
    refine bind_V h E fun d ρ1 v H1 E1 t1 r h1 => ?_
    simp only at h1
    split at h1
    · rename_i io ds es eq
      split at h1
      · rename_i hl
        obtain ⟨p', vs', g1, g2, g3, g4⟩ := E1.lst eq
        rw [q1] at g1
        cases g1
        cases r with
        | lst hb nf rs =>
          obtain ⟨E3, t3⟩ := E1.toLst eq q1 g2 (g3.append rs)
          exact ⟨p, _, vs', _, rfl, rfl, g2, hb, by rw [g3.length, rs.length, sizeLine_eq]; exact hl, h1 .non _ E3 t3 .non⟩
      · exact h1.elim
    · exact h1.elim
/-! ### a, b = x, y -/
def sPar2 (i j : Nat) (ma mb : M) : SM := fun ρ => evMs [ma, mb] ρ >>= fun y => match y.1 with
  | [d, e] => if decide (i < y.2.length) && decide (j < y.2.length) then .ok (.nx ((y.2.set i (.val d)).set j (.val e))) else .bad
  | _ => .bad
def sPar3 (i j k : Nat) (ma mb mc : M) : SM := fun ρ => evMs [ma, mb, mc] ρ >>= fun y => match y.1 with
  | [d, e, f] => if decide (i < y.2.length) && decide (j < y.2.length) && decide (k < y.2.length) then .ok (.nx (((y.2.set i (.val d)).set j (.val e)).set k (.val f))) else .bad
  | _ => .bad
theorem vs_par2 (i j : Nat) {x y : Str} {px py pt : Pos} {kt k2 pt2} (hc : X.calm = true) (hN : X.N.Nodup) (ha : PA X [a, b] (tMs X.K W [ma, mb])) (hi : X.N[i]? = some x := by rfl) (hj : X.N[j]? = some y := by rfl) (hij : i ≠ j := by decide)
    (hx : X.env.scope.names.lookup x = some .local := by rfl) (hy : X.env.scope.names.lookup y = some .local := by rfl)
    (hw : swappedStores [.Tuple [.Name x px, .Name y py] kt pt] (.Tuple [a, b] k2 pt2) X.env = pure (some [x, y]) := by rfl)
    (hs : swapsWithSole [.Tuple [.Name x px, .Name y py] kt pt] (.Tuple [a, b] k2 pt2) pos.line X.env = pure false := by rfl) :
    PS X (.Assign [.Tuple [.Name x px, .Name y py] kt pt] (.Tuple [a, b] k2 pt2) pos) (tS X.K W fr (sPar2 i j ma mb)) := (ps_par hc hN hi hj hij hx hy ha hw hs).vimp fun D σ H ⟨G, ρ, E, h⟩ => by
  refine tMs_of [ma, mb] ρ H _ E ?_
  unfold sPar2 at h
  cases e : evMs [ma, mb] ρ with
  | bad => rw [e] at h; exact h.elim
  | exc x ρx => rw [e] at h; exact fun H' => h σ H'
  | ok q =>
    obtain ⟨ds, ρ'⟩ := q
    rw [e] at h
    simp only [bind_ok] at h
    intro vs H' E' t rs
    split at h
    · rename_i d e
      split at h
      · rename_i hl
        rw [Bool.and_eq_true, decide_eq_true_eq, decide_eq_true_eq] at hl
        cases rs with
        | cons r1 rs =>
          cases rs with
          | cons r2 rs =>
            cases rs
            refine ⟨_, _, rfl, ?_⟩
            obtain ⟨E2, t2⟩ := E'.put hl.1 r1
            obtain ⟨E3, t3⟩ := E2.put (i := j) (by rw [List.length_set]; exact hl.2) (r2.tr t2)
            exact h _ _ E3 ((t.trans t2).trans t3)
      · exact h.elim
    · exact h.elim
theorem vs_par3 (i j k : Nat) {x y z : Str} {px py pz pt : Pos} {kt k2 pt2} (hc : X.calm = true) (hN : X.N.Nodup) (ha : PA X [a, b, c] (tMs X.K W [ma, mb, mc])) (hi : X.N[i]? = some x := by rfl) (hj : X.N[j]? = some y := by rfl) (hk : X.N[k]? = some z := by rfl) (hij : i ≠ j := by decide) (hil : i ≠ k := by decide) (hjl : j ≠ k := by decide)
    (hx : X.env.scope.names.lookup x = some .local := by rfl) (hy : X.env.scope.names.lookup y = some .local := by rfl) (hz : X.env.scope.names.lookup z = some .local := by rfl)
    (hw : swappedStores [.Tuple [.Name x px, .Name y py, .Name z pz] kt pt] (.Tuple [a, b, c] k2 pt2) X.env = pure (some [x, y, z]) := by rfl)
    (hs : swapsWithSole [.Tuple [.Name x px, .Name y py, .Name z pz] kt pt] (.Tuple [a, b, c] k2 pt2) pos.line X.env = pure false := by rfl) :
    PS X (.Assign [.Tuple [.Name x px, .Name y py, .Name z pz] kt pt] (.Tuple [a, b, c] k2 pt2) pos) (tS X.K W fr (sPar3 i j k ma mb mc)) := (ps_par3 hc hN hi hj hk hij hil hjl hx hy hz ha hw hs).vimp fun D σ H ⟨G, ρ, E, h⟩ => by
  refine tMs_of [ma, mb, mc] ρ H _ E ?_
  unfold sPar3 at h
  cases e : evMs [ma, mb, mc] ρ with
  | bad => rw [e] at h; exact h.elim
  | exc x ρx => rw [e] at h; exact fun H' => h σ H'
  | ok q =>
    obtain ⟨ds, ρ'⟩ := q
    rw [e] at h
    simp only [bind_ok] at h
    intro vs H' E' t rs
    split at h
    · rename_i d e f
      split at h
      · rename_i hl
        rw [Bool.and_eq_true, Bool.and_eq_true, decide_eq_true_eq, decide_eq_true_eq, decide_eq_true_eq] at hl
        cases rs with
        | cons r1 rs =>
          cases rs with
          | cons r2 rs =>
            cases rs with
            | cons r3 rs =>
              cases rs
              refine ⟨_, _, _, rfl, ?_⟩
              obtain ⟨E2, t2⟩ := E'.put hl.1.1 r1
              obtain ⟨E3, t3⟩ := E2.put (i := j) (by rw [List.length_set]; exact hl.1.2) (r2.tr t2)
              obtain ⟨E4, t4⟩ := E3.put (i := k) (by rw [List.length_set, List.length_set]; exact hl.2) ((r3.tr t2).tr t3)
              exact h _ _ E4 (((t.trans t2).trans t3).trans t4)
      · exact h.elim
    · exact h.elim
/-! ### never reached -/
def sBad : SM := fun _ => .bad
theorem vs_bad {st : Stmt} : PS X st (tS X.K W fr sBad) := (ps_never (X := X) (st := st)).vimp fun D σ H ⟨G, ρ, E, h⟩ => h.elim
/-! ### e.replace of written texts -/
def fReplC (y z : List Nat) : FD
  | [.str l] => if l.length + (l.length + 1) * z.length ≤ 16777216 then some (.str (StrLaws.replL y z l)) else none
  | _ => none
theorem okc_repl {y z : List Nat} (h : okc z) : ∀ (l : List Nat) (n : Nat), okc l → okc (StrLaws.replS y z n l)
  | [], n, _ => fun c hc => by cases n <;> simp [StrLaws.replS] at hc
  | c :: r, 0, o => by
    unfold StrLaws.replS
    split
    · exact okc_app h (okc_repl h r _ fun x hx => o x (List.mem_cons_of_mem _ hx))
    · intro x hx
      rcases List.mem_cons.mp hx with rfl | hx
      · exact o _ (by simp)
      · exact okc_repl h r 0 (fun x hx => o x (List.mem_cons_of_mem _ hx)) x hx
  | c :: r, n + 1, o => by
    unfold StrLaws.replS
    exact okc_repl h r n fun x hx => o x (List.mem_cons_of_mem _ hx)
theorem pet_repl {y z : Str} {j k : Nat} {c0 c1 : Pos} (yl zl : List Nat) (ho : PE X o (tV X.K W mo)) (ey : y = S yl := by rfl) (ez : z = S zl := by rfl) (hy : 1 ≤ yl.length := by decide) (hz : zl.all (fun c => decide (c < 0x110000)) = true := by rfl) (hyz : (y == z) = false := by decide)
    (hst : starEach [.Constant (.str y) j c0, .Constant (.str z) k c1] X.env = [(false, eval (.Constant (.str y) j c0) X.env), (false, eval (.Constant (.str z) k c1) X.env)] := by rfl)
    (hbase : attributeBase o "replace" X.env (eval o X.env) = eval o X.env := by rfl) (hline : (apos.endLine == pos.line) = true := by rfl) :
    L2.PET X (.Call (.Attribute o "replace" apos) [.Constant (.str y) j c0, .Constant (.str z) k c1] [] pos) (tV X.K W (mOp (fReplC yl zl) [.ex mo])) := by
  intro pins s σ H Q h0 I h
  refine CwR.pet_replC ho hyz hst hbase hline pins s σ H Q h0 I ?_
  have q := ops_run (r := fun vs H Q => ∃ x, vs = [V.str x] ∧ x.length + (x.length + 1) * z.length ≤ 16777216 ∧ Q (.str (Txt.replace x y z)) H) (fun F H vs ds d Q ft rs e q => ?_) h
  · refine tO_mono (.ex mo) (fun x H1 ⟨x', e, h1, h2⟩ => ?_) q
    cases e
    exact ⟨x', rfl, h1, h2⟩
  · unfold fReplC at e
    split at e
    · rename_i l
      obtain ⟨v, rfl, r⟩ := rs.one
      split at e
      · rename_i hl
        cases e
        obtain ⟨rfl, o⟩ := r.str
        refine ⟨S l, rfl, by rw [ez, S_len, S_len]; exact hl, ?_⟩
        have e2 : Txt.replace (S l) y z = S (StrLaws.replL yl zl l) := by
          have := StrLaws.replace_list (x := S l) (y := y) (z := z) (by rw [ey, S_len]; exact hy)
          rw [ey, ez, S_list, S_list, S_list] at this
          rw [ey, ez]
          exact mk_S this
        rw [e2]
        exact q _ H (Same.refl H) (.str _ (okc_repl (fun c hc => of_decide_eq_true (List.all_eq_true.mp hz c hc)) l 0 o))
      · cases e
    · cases e
theorem pats_nil : L2.PAT X [] (tMs X.K W []) := L2.pat_nil
theorem pats_cons (ha : L2.PET X e (tV X.K W mo)) (hr : L2.PAT X es (tMs X.K W ms)) (hs : starEach (e :: es) X.env = (false, eval e X.env) :: starEach es X.env := by rfl) : L2.PAT X (e :: es) (tMs X.K W (mo :: ms)) := L2.pat_cons ha hr hs
/-- behind a written text a token is out -/
theorem pms_consT {x : Str} {j : Nat} {p : Pos} (l : List Nat) (hr : L2.PAT X es (tMs X.K W ms)) (e : x = S l := by rfl) (h : l.all (fun c => decide (c < 0x110000)) = true := by rfl) (hs : starEach (.Constant (.str x) j p :: es) X.env = (false, eval (.Constant (.str x) j p) X.env) :: starEach es X.env := by rfl) :
    PA X (.Constant (.str x) j p :: es) (tMs X.K W (mC (.str l) :: ms)) := by
  refine ⟨fun pos pins s σ H Q I hq => ?_⟩
  rw [hs]
  show wpAny _ _ (spliced ((false, eval (.Constant (.str x) j p) X.env) :: backTo pos (starEach es X.env))) _ _ s
  refine Calls.spliced_cons (Calls.Constant_str ?_)
  have hq' : tMs X.K W ms σ H fun xs H2 => Q (.str x :: xs) H2 := c_of (cd_str e h) hq
  exact thn (hr pos pins { s with toks := s.toks + 1 } σ H _ (by show 1 ≤ s.toks + 1; omega) (I.tok _) hq') fun us s2 ⟨xs, H2, I2, r2, q2⟩ => ⟨.str x :: xs, H2, I2, .cons ⟨s.toks, rfl⟩ r2, q2⟩
end
end VL

/-! # one rule per construct -/
namespace VL
open PySem PySem.Spec PyProof.Rows L2
section
variable {W : WK} {X : Cx} {a b c e e2 o : Expr} {es : List Expr} {pos p p2 : Pos} {oa ob oc : Op} {mo ma mb mc m1 : M} {ms : List M} {ops : List Op} {f : FD}
theorem pv_add (ha : PE X a (tO X.K W oa)) (hb : PE X b (tO X.K W ob)) : PE X (.BinOp a .Add b pos) (tV X.K W (mOp fAdd [oa, ob])) := by
  obtain ⟨r, ho, hf⟩ := lr_add (X := X)
  exact pv_bin ho hf ha hb
theorem pn_add (ha : PE X a (tO X.K W oa)) (hb : PE X b (tO X.K W ob)) : PE X (.BinOp a .Add b pos) (tN X.K W (mOp fCat [oa, ob])) := pn_bin op_cat ln_cat ha hb
theorem pv_mul (ha : PE X a (tO X.K W oa)) (hb : PE X b (tO X.K W ob)) : PE X (.BinOp a .Mult b pos) (tV X.K W (mOp fTimes [oa, ob])) := by
  obtain ⟨r, ho, hf⟩ := lr_mul (X := X)
  exact pv_bin ho hf ha hb
theorem pn_mul (ha : PE X a (tO X.K W oa)) (hb : PE X b (tO X.K W ob)) : PE X (.BinOp a .Mult b pos) (tN X.K W (mOp fRepL [oa, ob])) := pn_bin op_rep ln_rep ha hb
theorem pv_sub (ha : PE X a (tO X.K W oa)) (hb : PE X b (tO X.K W ob)) : PE X (.BinOp a .Sub b pos) (tV X.K W (mOp fSub [oa, ob])) := pv_bin op_sub lr_I2 ha hb
theorem pv_div (ha : PE X a (tO X.K W oa)) (hb : PE X b (tO X.K W ob)) : PE X (.BinOp a .FloorDiv b pos) (tV X.K W (mOp fDiv [oa, ob])) := pv_bin op_fdivW lr_div ha hb
theorem pv_mod (ha : PE X a (tO X.K W oa)) (hb : PE X b (tO X.K W ob)) : PE X (.BinOp a .Mod b pos) (tV X.K W (mOp fMod [oa, ob])) := pv_bin op_mod lr_mod ha hb
theorem pv_pow (ha : PE X a (tO X.K W oa)) (hb : PE X b (tO X.K W ob)) : PE X (.BinOp a .Pow b pos) (tV X.K W (mOp fPow [oa, ob])) := pv_bin op_pow lr_pow ha hb
theorem pv_shl (ha : PE X a (tO X.K W oa)) (hb : PE X b (tO X.K W ob)) : PE X (.BinOp a .LShift b pos) (tV X.K W (mOp fShl [oa, ob])) := pv_bin op_shl lr_shl ha hb
theorem pv_shr (ha : PE X a (tO X.K W oa)) (hb : PE X b (tO X.K W ob)) : PE X (.BinOp a .RShift b pos) (tV X.K W (mOp fShr [oa, ob])) := pv_bin op_shr lr_shr ha hb
theorem pv_band (ha : PE X a (tO X.K W oa)) (hb : PE X b (tO X.K W ob)) : PE X (.BinOp a .BitAnd b pos) (tV X.K W (mOp fBAnd [oa, ob])) := pv_bin op_and lr_I2 ha hb
theorem pv_bor (ha : PE X a (tO X.K W oa)) (hb : PE X b (tO X.K W ob)) : PE X (.BinOp a .BitOr b pos) (tV X.K W (mOp fBOr [oa, ob])) := pv_bin op_or lr_I2 ha hb
theorem pv_bxor (ha : PE X a (tO X.K W oa)) (hb : PE X b (tO X.K W ob)) : PE X (.BinOp a .BitXor b pos) (tV X.K W (mOp fBXor [oa, ob])) := pv_bin op_xor lr_I2 ha hb
theorem pv_neg (ha : PE X a (tO X.K W oa)) : PE X (.UnaryOp .USub a pos) (tV X.K W (mOp fNeg [oa])) := pv_un un_neg lr_neg ha
theorem pv_eq (hu : X.A.units + 64 < cLine) (ha : PE X a (tO X.K W oa)) (hb : PE X b (tO X.K W ob)) : PE X (.Compare a [.Eq] [b] pos) (tV X.K W (mOp fEq [oa, ob])) := pv_cmp (op_eqM hu) lr_eq ha hb (nomark _)
theorem pb_eq (hu : X.A.units + 64 < cLine) (ha : PE X a (tO X.K W oa)) (hb : PE X b (tO X.K W ob)) : PT X (.Compare a [.Eq] [b] pos) (tB X.K W (bOf (mOp fEq [oa, ob]))) := pb_cmp (op_eqM hu) lr_eq ha hb (nomark _)
theorem pv_ne (hu : X.A.units + 64 < cLine) (ha : PE X a (tO X.K W oa)) (hb : PE X b (tO X.K W ob)) : PE X (.Compare a [.NotEq] [b] pos) (tV X.K W (mOp fNe [oa, ob])) := pv_cmp (op_neM hu) lr_ne ha hb (nomark _)
theorem pb_ne (hu : X.A.units + 64 < cLine) (ha : PE X a (tO X.K W oa)) (hb : PE X b (tO X.K W ob)) : PT X (.Compare a [.NotEq] [b] pos) (tB X.K W (bOf (mOp fNe [oa, ob]))) := pb_cmp (op_neM hu) lr_ne ha hb (nomark _)
theorem pv_lt (ha : PE X a (tO X.K W oa)) (hb : PE X b (tO X.K W ob)) : PE X (.Compare a [.Lt] [b] pos) (tV X.K W (mOp fLt [oa, ob])) := pv_cmp op_lt lr_B2 ha hb (nomark _)
theorem pb_lt (ha : PE X a (tO X.K W oa)) (hb : PE X b (tO X.K W ob)) : PT X (.Compare a [.Lt] [b] pos) (tB X.K W (bOf (mOp fLt [oa, ob]))) := pb_cmp op_lt lr_B2 ha hb (nomark _)
theorem pv_le (ha : PE X a (tO X.K W oa)) (hb : PE X b (tO X.K W ob)) : PE X (.Compare a [.LtE] [b] pos) (tV X.K W (mOp fLe [oa, ob])) := pv_cmp op_le lr_B2 ha hb (nomark _)
theorem pb_le (ha : PE X a (tO X.K W oa)) (hb : PE X b (tO X.K W ob)) : PT X (.Compare a [.LtE] [b] pos) (tB X.K W (bOf (mOp fLe [oa, ob]))) := pb_cmp op_le lr_B2 ha hb (nomark _)
theorem pv_gt (ha : PE X a (tO X.K W oa)) (hb : PE X b (tO X.K W ob)) : PE X (.Compare a [.Gt] [b] pos) (tV X.K W (mOp fGt [oa, ob])) := pv_cmp op_gt lr_B2 ha hb (nomark _)
theorem pb_gt (ha : PE X a (tO X.K W oa)) (hb : PE X b (tO X.K W ob)) : PT X (.Compare a [.Gt] [b] pos) (tB X.K W (bOf (mOp fGt [oa, ob]))) := pb_cmp op_gt lr_B2 ha hb (nomark _)
theorem pv_ge (ha : PE X a (tO X.K W oa)) (hb : PE X b (tO X.K W ob)) : PE X (.Compare a [.GtE] [b] pos) (tV X.K W (mOp fGe [oa, ob])) := pv_cmp op_ge lr_B2 ha hb (nomark _)
theorem pb_ge (ha : PE X a (tO X.K W oa)) (hb : PE X b (tO X.K W ob)) : PT X (.Compare a [.GtE] [b] pos) (tB X.K W (bOf (mOp fGe [oa, ob]))) := pb_cmp op_ge lr_B2 ha hb (nomark _)
theorem pv_is (ha : PE X a (tO X.K W oa)) (hb : PE X b (tO X.K W ob)) : PE X (.Compare a [.Is] [b] pos) (tV X.K W (mOp fIsN [oa, ob])) := pv_cmp op_isN lr_isN ha hb (nomark _)
theorem pb_is (ha : PE X a (tO X.K W oa)) (hb : PE X b (tO X.K W ob)) : PT X (.Compare a [.Is] [b] pos) (tB X.K W (bOf (mOp fIsN [oa, ob]))) := pb_cmp op_isN lr_isN ha hb (nomark _)
theorem pv_isn (ha : PE X a (tO X.K W oa)) (hb : PE X b (tO X.K W ob)) : PE X (.Compare a [.IsNot] [b] pos) (tV X.K W (mOp fNotN [oa, ob])) := pv_cmp op_notN lr_notN ha hb (nomark _)
theorem pb_isn (ha : PE X a (tO X.K W oa)) (hb : PE X b (tO X.K W ob)) : PT X (.Compare a [.IsNot] [b] pos) (tB X.K W (bOf (mOp fNotN [oa, ob]))) := pb_cmp op_notN lr_notN ha hb (nomark _)
theorem pv_in (hu : X.A.units + 65 < cLine) (ha : PE X a (tO X.K W oa)) (hb : PE X b (tO X.K W ob)) (hm : behindInMarks .In b = false := by rfl) : PE X (.Compare a [.In] [b] pos) (tV X.K W (mOp fIn [oa, ob])) := by
  obtain ⟨r, ho, hf⟩ := lr_in (X := X) hu
  exact pv_cmp ho hf ha hb hm
theorem pb_in (hu : X.A.units + 65 < cLine) (ha : PE X a (tO X.K W oa)) (hb : PE X b (tO X.K W ob)) (hm : behindInMarks .In b = false := by rfl) : PT X (.Compare a [.In] [b] pos) (tB X.K W (bOf (mOp fIn [oa, ob]))) := by
  obtain ⟨r, ho, hf⟩ := lr_in (X := X) hu
  exact pb_cmp ho hf ha hb hm
theorem pv_nin (hu : X.A.units + 65 < cLine) (ha : PE X a (tO X.K W oa)) (hb : PE X b (tO X.K W ob)) (hm : behindInMarks .NotIn b = false := by rfl) : PE X (.Compare a [.NotIn] [b] pos) (tV X.K W (mOp fNotIn [oa, ob])) := by
  obtain ⟨r, ho, hf⟩ := lr_notIn (X := X) hu
  exact pv_cmp ho hf ha hb hm
theorem pb_nin (hu : X.A.units + 65 < cLine) (ha : PE X a (tO X.K W oa)) (hb : PE X b (tO X.K W ob)) (hm : behindInMarks .NotIn b = false := by rfl) : PT X (.Compare a [.NotIn] [b] pos) (tB X.K W (bOf (mOp fNotIn [oa, ob]))) := by
  obtain ⟨r, ho, hf⟩ := lr_notIn (X := X) hu
  exact pb_cmp ho hf ha hb hm
theorem pv_lele (ha : PE X a (tV X.K W ma)) (hb : PE X b (tV X.K W mb)) (hc : PE X c (tV X.K W mc)) (hm : lastMarks [.LtE, .LtE] [b, c] = false := by with_unfolding_all rfl) : PE X (.Compare a [.LtE, .LtE] [b, c] pos) (tV X.K W (mChn fLe fLe ma mb mc)) := pv_chn op_le lr_B2 op_le lr_B2 ha hb hc hm
theorem pb_lele (ha : PE X a (tV X.K W ma)) (hb : PE X b (tV X.K W mb)) (hc : PE X c (tV X.K W mc)) (hm : lastMarks [.LtE, .LtE] [b, c] = false := by with_unfolding_all rfl) : PT X (.Compare a [.LtE, .LtE] [b, c] pos) (tB X.K W (bOf (mChn fLe fLe ma mb mc))) := pb_chn op_le lr_B2 op_le lr_B2 ha hb hc hm
theorem pv_lelt (ha : PE X a (tV X.K W ma)) (hb : PE X b (tV X.K W mb)) (hc : PE X c (tV X.K W mc)) (hm : lastMarks [.LtE, .Lt] [b, c] = false := by with_unfolding_all rfl) : PE X (.Compare a [.LtE, .Lt] [b, c] pos) (tV X.K W (mChn fLe fLt ma mb mc)) := pv_chn op_le lr_B2 op_lt lr_B2 ha hb hc hm
theorem pb_lelt (ha : PE X a (tV X.K W ma)) (hb : PE X b (tV X.K W mb)) (hc : PE X c (tV X.K W mc)) (hm : lastMarks [.LtE, .Lt] [b, c] = false := by with_unfolding_all rfl) : PT X (.Compare a [.LtE, .Lt] [b, c] pos) (tB X.K W (bOf (mChn fLe fLt ma mb mc))) := pb_chn op_le lr_B2 op_lt lr_B2 ha hb hc hm
theorem pv_ltlt (ha : PE X a (tV X.K W ma)) (hb : PE X b (tV X.K W mb)) (hc : PE X c (tV X.K W mc)) (hm : lastMarks [.Lt, .Lt] [b, c] = false := by with_unfolding_all rfl) : PE X (.Compare a [.Lt, .Lt] [b, c] pos) (tV X.K W (mChn fLt fLt ma mb mc)) := pv_chn op_lt lr_B2 op_lt lr_B2 ha hb hc hm
theorem pb_ltlt (ha : PE X a (tV X.K W ma)) (hb : PE X b (tV X.K W mb)) (hc : PE X c (tV X.K W mc)) (hm : lastMarks [.Lt, .Lt] [b, c] = false := by with_unfolding_all rfl) : PT X (.Compare a [.Lt, .Lt] [b, c] pos) (tB X.K W (bOf (mChn fLt fLt ma mb mc))) := pb_chn op_lt lr_B2 op_lt lr_B2 ha hb hc hm
theorem pv_ltle (ha : PE X a (tV X.K W ma)) (hb : PE X b (tV X.K W mb)) (hc : PE X c (tV X.K W mc)) (hm : lastMarks [.Lt, .LtE] [b, c] = false := by with_unfolding_all rfl) : PE X (.Compare a [.Lt, .LtE] [b, c] pos) (tV X.K W (mChn fLt fLe ma mb mc)) := pv_chn op_lt lr_B2 op_le lr_B2 ha hb hc hm
theorem pb_ltle (ha : PE X a (tV X.K W ma)) (hb : PE X b (tV X.K W mb)) (hc : PE X c (tV X.K W mc)) (hm : lastMarks [.Lt, .LtE] [b, c] = false := by with_unfolding_all rfl) : PT X (.Compare a [.Lt, .LtE] [b, c] pos) (tB X.K W (bOf (mChn fLt fLe ma mb mc))) := pb_chn op_lt lr_B2 op_le lr_B2 ha hb hc hm
theorem pv_eqeq (hu : X.A.units + 64 < cLine) (ha : PE X a (tV X.K W ma)) (hb : PE X b (tV X.K W mb)) (hc : PE X c (tV X.K W mc)) (hm : lastMarks [.Eq, .Eq] [b, c] = false := by with_unfolding_all rfl) : PE X (.Compare a [.Eq, .Eq] [b, c] pos) (tV X.K W (mChn fEq fEq ma mb mc)) := pv_chn (op_eqM hu) lr_eq (op_eqM hu) lr_eq ha hb hc hm
theorem pb_eqeq (hu : X.A.units + 64 < cLine) (ha : PE X a (tV X.K W ma)) (hb : PE X b (tV X.K W mb)) (hc : PE X c (tV X.K W mc)) (hm : lastMarks [.Eq, .Eq] [b, c] = false := by with_unfolding_all rfl) : PT X (.Compare a [.Eq, .Eq] [b, c] pos) (tB X.K W (bOf (mChn fEq fEq ma mb mc))) := pb_chn (op_eqM hu) lr_eq (op_eqM hu) lr_eq ha hb hc hm
theorem pv_item (ha : PE X a (tO X.K W oa)) (hb : PE X b (tO X.K W ob)) (hs : PlainIx b := by exact fun _ _ => rfl) : PE X (.Subscript a b pos) (tV X.K W (mOp fIx [oa, ob])) := by
  obtain ⟨r, hr, hf⟩ := lr_ix (X := X)
  exact pv_ix hr hf ha hb hs
theorem pv_len (hm : X.mg "len" = none) (ha : PA X (e :: es) (tOs X.K W ops)) (hg : Gl X "len" := by rfl) (he : starEach (e :: es) X.env = (false, eval e X.env) :: starEach es X.env := by rfl) (hpl : (backTo pos (starEach es X.env)).any (·.1) = false := by rfl) : PE X (.Call (.Name "len" p) (e :: es) [] pos) (tV X.K W (mOp fLen ops)) := by
  obtain ⟨r, hr, hf⟩ := lr_len (X := X)
  exact pv_callB hr hf hm (by decide +kernel : bootBuiltins "len" = some (.builtin "len")) ha hg (by decide) (by decide) he hpl
theorem pv_isi (hm : X.mg "isinstance" = none) (ha : PA X (e :: es) (tOs X.K W ops)) (hg : Gl X "isinstance" := by rfl) (he : starEach (e :: es) X.env = (false, eval e X.env) :: starEach es X.env := by rfl) (hpl : (backTo pos (starEach es X.env)).any (·.1) = false := by rfl) : PE X (.Call (.Name "isinstance" p) (e :: es) [] pos) (tV X.K W (mOp fIsi ops)) := by
  obtain ⟨r, hr, hf⟩ := lr_isi (X := X)
  exact pv_callB hr hf hm (by decide +kernel : bootBuiltins "isinstance" = some (.builtin "isinstance")) ha hg (by decide) (by decide) he hpl
theorem pv_abs (hm : X.mg "abs" = none) (ha : PA X (e :: es) (tOs X.K W ops)) (hg : Gl X "abs" := by rfl) (he : starEach (e :: es) X.env = (false, eval e X.env) :: starEach es X.env := by rfl) (hpl : (backTo pos (starEach es X.env)).any (·.1) = false := by rfl) : PE X (.Call (.Name "abs" p) (e :: es) [] pos) (tV X.K W (mOp fAbs ops)) := pv_callB call_abs lr_abs hm (by decide +kernel : bootBuiltins "abs" = some (.builtin "abs")) ha hg (by decide) (by decide) he hpl
section
variable (hc : X.calm = true)
include hc
theorem pv_max2 (hm : X.mg "max" = none) (ha : PA X (e :: es) (tOs X.K W ops)) (hg : Gl X "max" := by rfl) (he : starEach (e :: es) X.env = (false, eval e X.env) :: starEach es X.env := by rfl) (hpl : (backTo pos (starEach es X.env)).any (·.1) = false := by rfl) : PE X (.Call (.Name "max" p) (e :: es) [] pos) (tV X.K W (mOp fMax2 ops)) := pv_callB (call_max2 hc) lr_max2 hm (by decide +kernel : bootBuiltins "max" = some (.builtin "max")) ha hg (by decide) (by decide) he hpl
theorem pv_min2 (hm : X.mg "min" = none) (ha : PA X (e :: es) (tOs X.K W ops)) (hg : Gl X "min" := by rfl) (he : starEach (e :: es) X.env = (false, eval e X.env) :: starEach es X.env := by rfl) (hpl : (backTo pos (starEach es X.env)).any (·.1) = false := by rfl) : PE X (.Call (.Name "min" p) (e :: es) [] pos) (tV X.K W (mOp fMin2 ops)) := pv_callB (call_min2 hc) lr_min2 hm (by decide +kernel : bootBuiltins "min" = some (.builtin "min")) ha hg (by decide) (by decide) he hpl
theorem pv_sum (hm : X.mg "sum" = none) (ha : PA X (e :: es) (tOs X.K W ops)) (hg : Gl X "sum" := by rfl) (he : starEach (e :: es) X.env = (false, eval e X.env) :: starEach es X.env := by rfl) (hpl : (backTo pos (starEach es X.env)).any (·.1) = false := by rfl) : PE X (.Call (.Name "sum" p) (e :: es) [] pos) (tV X.K W (mOp fSum ops)) := pv_callB (cr_sum hc) lr_sum hm (by decide +kernel : bootBuiltins "sum" = some (.builtin "sum")) ha hg (by decide) (by decide) he hpl
theorem pv_all (hm : X.mg "all" = none) (ha : PA X (e :: es) (tOs X.K W ops)) (hg : Gl X "all" := by rfl) (he : starEach (e :: es) X.env = (false, eval e X.env) :: starEach es X.env := by rfl) (hpl : (backTo pos (starEach es X.env)).any (·.1) = false := by rfl) : PE X (.Call (.Name "all" p) (e :: es) [] pos) (tV X.K W (mOp fAll ops)) := pv_callB (cr_all hc) lr_all hm (by decide +kernel : bootBuiltins "all" = some (.builtin "all")) ha hg (by decide) (by decide) he hpl
theorem pv_any (hm : X.mg "any" = none) (ha : PA X (e :: es) (tOs X.K W ops)) (hg : Gl X "any" := by rfl) (he : starEach (e :: es) X.env = (false, eval e X.env) :: starEach es X.env := by rfl) (hpl : (backTo pos (starEach es X.env)).any (·.1) = false := by rfl) : PE X (.Call (.Name "any" p) (e :: es) [] pos) (tV X.K W (mOp fAny ops)) := pv_callB (cr_any hc) lr_any hm (by decide +kernel : bootBuiltins "any" = some (.builtin "any")) ha hg (by decide) (by decide) he hpl
theorem pn_list (hm : X.mg "list" = none) (ha : PA X (e :: es) (tOs X.K W ops)) (hg : Gl X "list" := by rfl) (he : starEach (e :: es) X.env = (false, eval e X.env) :: starEach es X.env := by rfl) (hpl : (backTo pos (starEach es X.env)).any (·.1) = false := by rfl) : PE X (.Call (.Name "list" p) (e :: es) [] pos) (tN X.K W (mOp fList ops)) := by
  obtain ⟨r, hr, hf⟩ := ln_list (X := X) hc
  exact pn_callT hr hf hm (by decide +kernel : bootBuiltins "list" = some (.type "list")) ha hg (by decide) (by decide) he hpl
theorem pv_tuple (hm : X.mg "tuple" = none) (ha : PA X (e :: es) (tOs X.K W ops)) (hg : Gl X "tuple" := by rfl) (he : starEach (e :: es) X.env = (false, eval e X.env) :: starEach es X.env := by rfl) (hpl : (backTo pos (starEach es X.env)).any (·.1) = false := by rfl) : PE X (.Call (.Name "tuple" p) (e :: es) [] pos) (tV X.K W (mOp fTup ops)) := by
  obtain ⟨r, hr, hf⟩ := lr_tup (X := X) hc
  exact pv_callT hr hf hm (by decide +kernel : bootBuiltins "tuple" = some (.type "tuple")) ha hg (by decide) (by decide) he hpl
end
theorem pv_intc (hm : X.mg "int" = none) (ha : PA X (e :: es) (tOs X.K W ops)) (hg : Gl X "int" := by rfl) (he : starEach (e :: es) X.env = (false, eval e X.env) :: starEach es X.env := by rfl) (hpl : (backTo pos (starEach es X.env)).any (·.1) = false := by rfl) : PE X (.Call (.Name "int" p) (e :: es) [] pos) (tV X.K W (mOp fInt ops)) := by
  obtain ⟨r, hr, hf⟩ := lr_int (X := X)
  exact pv_callT hr hf hm (by decide +kernel : bootBuiltins "int" = some (.type "int")) ha hg (by decide) (by decide) he hpl
theorem pv_str_ (hm : X.mg "str" = none) (ha : PA X (e :: es) (tOs X.K W ops)) (hg : Gl X "str" := by rfl) (he : starEach (e :: es) X.env = (false, eval e X.env) :: starEach es X.env := by rfl) (hpl : (backTo pos (starEach es X.env)).any (·.1) = false := by rfl) : PE X (.Call (.Name "str" p) (e :: es) [] pos) (tV X.K W (mOp fStrI ops)) := by
  obtain ⟨r, hr, hf⟩ := lr_str (X := X)
  exact pv_callT hr hf hm (by decide +kernel : bootBuiltins "str" = some (.type "str")) ha hg (by decide) (by decide) he hpl
theorem pv_join {apos : Pos} (ho : PE X o (tV X.K W mo)) (he : PE X e (tO X.K W oa)) (hs : starEach [e] X.env = [(false, eval e X.env)] := by rfl) (hbase : attributeBase o "join" X.env (eval o X.env) = eval o X.env := by rfl) (hline : (apos.endLine == pos.line) = true := by rfl) : PE X (.Call (.Attribute o "join" apos) [e] [] pos) (tV X.K W (mOp fJoin [.ex (mStr mo), oa])) := pv_m1 PySem.F.slot_str_join PySem.F.type_str_join mt_join lr_join ho he hs hbase hline
theorem pv_count {apos : Pos} (ho : PE X o (tV X.K W mo)) (he : PE X e (tO X.K W oa)) (hs : starEach [e] X.env = [(false, eval e X.env)] := by rfl) (hbase : attributeBase o "count" X.env (eval o X.env) = eval o X.env := by rfl) (hline : (apos.endLine == pos.line) = true := by rfl) : PE X (.Call (.Attribute o "count" apos) [e] [] pos) (tV X.K W (mOp fCount [.ex (mStr mo), oa])) := pv_m1 PySem.F.slot_str_count PySem.F.type_str_count mt_count lr_count ho he hs hbase hline
theorem po_nm (i : Nat) {x : Str} (hN : X.N[i]? = some x := by rfl) (hv : Vis X.env.scope x := by first | exact Or.inl rfl | exact Or.inr (Or.inl rfl) | exact Or.inr (Or.inr rfl)) (hd : (x == ("__debug__" : Str)) = false := by decide) (hcd : (x == ("__classdict__" : Str)) = false := by decide) : PE X (.Name x pos) (tVar i) := pe_var hN hv hd hcd
/-- what the top has written -/
def Gv (X : Cx) (x : Str) (d : Dv) : Prop := ∃ v u, X.mg x = some u ∧ RelV v u ∧ CD X.K v d
theorem pv_gv {x : Str} {d : Dv} (h : ∃ v u, X.mg x = some u ∧ RelV v u ∧ CD X.K v d) (hg : Gl X x := by rfl) (hd : (x == ("__debug__" : Str)) = false := by decide) : PE X (.Name x pos) (tV X.K W (mC d)) := by
  obtain ⟨v, u, hm, r, cd⟩ := h
  exact pv_glob hm r cd hg hd
theorem cd_ty {K : PySem.W.Frag} {n : String} : CD K (.ty n) (.ty n) := fun _ _ => .ty n
/-- a built-in type as a value -/
theorem pv_ty {x : Str} {n : String} (hm : X.mg x = none) (hv : bootBuiltins x = some (.type n) := by decide +kernel) (hg : Gl X x := by rfl) (hn : x ≠ "__name__" := by decide) (hd : (x == ("__debug__" : Str)) = false := by decide) : PE X (.Name x pos) (tV X.K W (mC (.ty n))) := (pe_bltn hg hm hv (v := .ty n) rfl hn hd).vimp fun _ _ _ h => c_of cd_ty h
/-- a def of the text that keeps its promise -/
structure Kn (P : Program) (w : World) (K : PySem.W.Frag) (mg : Str → Option Value) (base : Heap) (x : Str) (k : Nat) (ps : List Str) (sp : Sp) : Prop where
  ex : ∃ f fd, FnOk P w K mg base CX0 k f fd ps sp ∧ mg x = some (.ref f) ∧ PySem.W.keepIn K (.ref f) = true ∧ Binds K fd ps []
/-- a def as it stands behind the top -/
structure Ds (K : PySem.W.Frag) (mg : Str → Option Value) (x : Str) (st : Stmt) (ps : List Str) : Prop where
  ex : ∃ f fd, Fun K x x st f fd ∧ mg x = some (.ref f) ∧ Binds K fd ps []
section
variable {x y : Str} {k j n : Nat} {ps : List Str} {g : List Dv → Rs Dv} {gio : Dv → List Dv → Rs (Dv × Dv)} {py : Pos}
theorem kv_call (h : Kn X.prog X.w X.K X.mg X.base x k ps (spV X.K n g)) (hr : Room j X.A) (hk : k ≤ j) (hn : ms.length = n) (ha : PA X (e :: es) (tMs X.K W ms)) (hg : Gl X x := by rfl) (hdb : (x == ("__debug__" : Str)) = false := by decide) (he : starEach (e :: es) X.env = (false, eval e X.env) :: starEach es X.env := by rfl) (hpl : (backTo pos (starEach es X.env)).any (·.1) = false := by rfl) :
    PE X (.Call (.Name x p) (e :: es) [] pos) (tV X.K W (mCall g ms)) := by
  obtain ⟨f, fd, F, hm, hkp, hb⟩ := h.ex
  exact pv_call F (hr.mono hk) hm hkp hb hn ha hg hdb he hpl
theorem kv_call0 (h : Kn X.prog X.w X.K X.mg X.base x k ps (spV X.K 0 g)) (hr : Room j X.A) (hk : k ≤ j) (hg : Gl X x := by rfl) (hdb : (x == ("__debug__" : Str)) = false := by decide) :
    PE X (.Call (.Name x p) [] [] pos) (tV X.K W (mCall g [])) := by
  obtain ⟨f, fd, F, hm, hkp, hb⟩ := h.ex
  exact pv_call0 F (hr.mono hk) hm hkp hb hg hdb
theorem kn_call (h : Kn X.prog X.w X.K X.mg X.base x k ps (spN X.K n g)) (hr : Room j X.A) (hk : k ≤ j) (hn : ms.length = n) (ha : PA X (e :: es) (tMs X.K W ms)) (hg : Gl X x := by rfl) (hdb : (x == ("__debug__" : Str)) = false := by decide) (he : starEach (e :: es) X.env = (false, eval e X.env) :: starEach es X.env := by rfl) (hpl : (backTo pos (starEach es X.env)).any (·.1) = false := by rfl) :
    PE X (.Call (.Name x p) (e :: es) [] pos) (tN X.K W (mCall g ms)) := by
  obtain ⟨f, fd, F, hm, hkp, hb⟩ := h.ex
  exact pn_call F (hr.mono hk) hm hkp hb hn ha hg hdb he hpl
theorem kio_call (i : Nat) (h : Kn X.prog X.w X.K X.mg X.base x k ps (spIO X.K n gio)) (hr : Room j X.A) (hk : k ≤ j) (hn : ms.length = n) (hi : PE X (.Name y py) (tVar i)) (ha : PA X es (tMs X.K W ms)) (hg : Gl X x := by rfl) (hdb : (x == ("__debug__" : Str)) = false := by decide) (he : starEach (.Name y py :: es) X.env = (false, eval (.Name y py) X.env) :: starEach es X.env := by rfl) (hpl : (backTo pos (starEach es X.env)).any (·.1) = false := by rfl) :
    PE X (.Call (.Name x p) (.Name y py :: es) [] pos) (tV X.K W (mCallIO gio i ms)) := by
  obtain ⟨f, fd, F, hm, hkp, hb⟩ := h.ex
  exact pv_callIO i F (hr.mono hk) hm hkp hb hn hi ha hg hdb he hpl
end
section
variable {P : Program} {w : World} {K : PySem.W.Frag} {mg : Str → Option Value} {base : Heap} {x : Str} {st : Stmt} {N ps : List Str} {k j : Nat} {m : SM}
theorem kn_V (D : Ds K mg x st ps) (S : FnScope N ps (defScope st)) (hN : N.length = ps.length + j)
    (hb : ∀ (f : Addr) (cdv : Value) (A : Around) (outer : List Env) (s : Shared) (H : Hp) (E : XK), Room k (A.deeper (envOfC x (defScope st) s.heap.objs.size f cdv)) → PSs (cxOf CX0 P w K mg base N x (defScope st) f cdv A outer s H E).nox (defBody st) (tS K W0 false m)) :
    Kn P w K mg base x (k + 1) ps (spV K ps.length (runV j m)) := by
  obtain ⟨f, fd, F, hm, hbs⟩ := D.ex
  exact ⟨f, fd, def_V F S hN fun cdv A outer s H E hr => hb f cdv A outer s H E hr, hm, F.kp, hbs⟩
theorem kn_N (D : Ds K mg x st ps) (S : FnScope N ps (defScope st)) (hN : N.length = ps.length + j)
    (hb : ∀ (f : Addr) (cdv : Value) (A : Around) (outer : List Env) (s : Shared) (H : Hp) (E : XK), Room k (A.deeper (envOfC x (defScope st) s.heap.objs.size f cdv)) → PSs (cxOf CX0 P w K mg base N x (defScope st) f cdv A outer s H E).nox (defBody st) (tS K W0 true m)) :
    Kn P w K mg base x (k + 1) ps (spN K ps.length (runN j m)) := by
  obtain ⟨f, fd, F, hm, hbs⟩ := D.ex
  exact ⟨f, fd, def_N F S hN fun cdv A outer s H E hr => hb f cdv A outer s H E hr, hm, F.kp, hbs⟩
theorem kn_IO {p0 : Str} {pr : List Str} (D : Ds K mg x st (p0 :: pr)) (S : FnScope N (p0 :: pr) (defScope st)) (hN : N.length = pr.length + 1 + j)
    (hb : ∀ (f : Addr) (cdv : Value) (A : Around) (outer : List Env) (s : Shared) (H : Hp) (E : XK), Room k (A.deeper (envOfC x (defScope st) s.heap.objs.size f cdv)) → PSs (cxOf CX0 P w K mg base N x (defScope st) f cdv A outer s H E).nox (defBody st) (tS K W0 false m)) :
    Kn P w K mg base x (k + 1) (p0 :: pr) (spIO K pr.length (runIO j m)) := by
  obtain ⟨f, fd, F, hm, hbs⟩ := D.ex
  exact ⟨f, fd, def_IO F S hN fun cdv A outer s H E hr => hb f cdv A outer s H E hr, hm, F.kp, hbs⟩
/-- no promise at all -/
theorem kn_V0 (D : Ds K mg x st ps) {n : Nat} : Kn P w K mg base x k ps (spV K n fun _ => .bad) := by
  obtain ⟨f, fd, F, hm, hbs⟩ := D.ex
  exact ⟨f, fd, ⟨fun vs H Q E ⟨_, _, _, _, _, d, h, _⟩ => (by cases h), fun A outer s H args us vs Q E _ _ _ _ ⟨_, _, _, _, _, d, h, _⟩ => (by cases h)⟩, hm, F.kp, hbs⟩
theorem kn_IO0 (D : Ds K mg x st ps) {n : Nat} : Kn P w K mg base x k ps (spIO K n fun _ _ => .bad) := by
  obtain ⟨f, fd, F, hm, hbs⟩ := D.ex
  exact ⟨f, fd, ⟨fun vs H Q E ⟨_, _, _, _, _, _, _, _, _, _, _, d, d1, h, _⟩ => (by cases h), fun A outer s H args us vs Q E _ _ _ _ ⟨_, _, _, _, _, _, _, _, _, _, _, d, d1, h, _⟩ => (by cases h)⟩, hm, F.kp, hbs⟩
/-- the law's own promise -/
theorem law_sp {r : List Dv → Rs Dv} {H : Hp} {a : Addr} {ns : List Int} (h : r [.scr ns] = .ok (.bl true)) (on : Only H) (hs : SqL K H a (ns.map V.int)) : spV K 1 r [.ref a] H (fun v _ => v = .bl true) fun _ _ _ => False := by
  refine ⟨fun _ => False, [.scr ns], fun _ z => z.elim, .cons (.scr ?_) .nil, rfl, _, h, fun v H' _ r => by cases r; rfl⟩
  rcases hs with (hs | ⟨o, hs⟩) | hs
  · rcases on a with q | ⟨o, xs, q⟩
    · rw [hs] at q; cases q
    · rw [hs] at q; cases q
  · exact .inl ⟨o, hs⟩
  · exact .inr hs
end
end
end VL

/-! # comprehensions of two clauses -/
namespace VL
open PySem PySem.Spec PyProof.Rows L2
/-- a step that may change D, too -/
structure TrD (D : Addr) (ρ : En) (σ : L2.St) (ρ' : En) (σ' : L2.St) (H H' : Hp) : Prop where
  keep : ∀ a o, a ≠ D → H a = some o → ¬ Own ρ σ a → H' a = some o
  tup : ∀ a o, a ≠ D → H a = some o → isTup o → H' a = some o
  stay : ∀ a, H a ≠ none → H' a ≠ none
  ow : ∀ (i : Nat) (io lk : Bool) (d' : Dv) (p : Addr), ρ'[i]? = some (.mt io lk d') → σ'[i]? = some (some (V.ref p)) → (∃ d lk', ρ[i]? = some (.mt io lk' d) ∧ σ[i]? = some (some (V.ref p))) ∨ (io = false ∧ H p = none)
section
variable {K : PySem.W.Frag} {F G : Addr → Prop} {D : Addr} {H H' H1 H2 : Hp} {ρ ρ' ρ1 ρ2 : En} {σ σ' σ1 σ2 : L2.St}
theorem Tr.toD (t : Tr ρ σ ρ' σ' H H') : TrD D ρ σ ρ' σ' H H' := ⟨fun a o _ => t.keep a o, fun a o _ => t.tup a o, t.stay, t.ow⟩
theorem TrD.own (t : TrD D ρ σ ρ' σ' H H') {a : Addr} (h : Own ρ' σ' a) : Own ρ σ a ∨ H a = none := by
  obtain ⟨i, io, lk, d, h1, h2⟩ := h
  rcases t.ow i io lk d a h1 h2 with ⟨d2, lk2, q1, q2⟩ | ⟨_, q⟩
  · exact .inl ⟨i, io, lk2, d2, q1, q2⟩
  · exact .inr q
theorem TrD.trans (t : TrD D ρ σ ρ1 σ1 H H1) (u : TrD D ρ1 σ1 ρ2 σ2 H1 H2) : TrD D ρ σ ρ2 σ2 H H2 where
  keep a o n h1 h2 := u.keep a o n (t.keep a o n h1 h2) fun z => (t.own z).elim h2 fun q => by rw [h1] at q; cases q
  tup a o n h1 h2 := u.tup a o n (t.tup a o n h1 h2) h2
  stay a h := u.stay a (t.stay a h)
  ow i io lk d' p h1 h2 := by
    rcases u.ow i io lk d' p h1 h2 with ⟨d, lk', q1, q2⟩ | ⟨q1, q2⟩
    · exact t.ow i io lk' d p q1 q2
    · refine .inr ⟨q1, ?_⟩
      cases q : H p with
      | none => rfl
      | some o => exact absurd q2 (t.stay p (by rw [q]; simp))
theorem TrD.updD {o' : HO} (t : TrD D ρ σ ρ' σ' H H') (hs : H' D ≠ none) : TrD D ρ σ ρ' σ' H (upd H' D o') where
  keep a o n h1 h2 := by rw [upd_ne n]; exact t.keep a o n h1 h2
  tup a o n h1 h2 := by rw [upd_ne n]; exact t.tup a o n h1 h2
  stay a h := by
    by_cases e : a = D
    · subst e; rw [upd_same]; simp
    · rw [upd_ne e]; exact t.stay a h
  ow := t.ow
theorem Tr.thenD (t : Tr ρ σ ρ1 σ1 H H1) (u : TrD D ρ1 σ1 ρ2 σ2 H1 H2) (n : H D = none) : Tr ρ σ ρ2 σ2 H H2 := by
  have v := t.toD.trans u
  have ne : ∀ a o, H a = some o → a ≠ D := fun a o h e => by rw [e, n] at h; cases h
  exact ⟨fun a o h => v.keep a o (ne a o h) h, fun a o h => v.tup a o (ne a o h) h, v.stay, v.ow⟩
/-- the inner turns: D grows -/
theorem lc_inner {J : It} {ds : List Dv} {t : Tg} {own : List Nat} {e : M} {acc0 : List V} {accD0 zs : List Dv} {ρe : En} {Nx : Hp → Prop} (hG : G D) (E : EnvOk K G ρ σ H1) (w : Wk K (Fo G ρ σ) H1 J ds) (ht : ∀ i ∈ t.sl, i ∈ own)
    (hD : H1 D = some (.lst acc0)) (ra0 : Reps K (Fo G ρ σ) H1 acc0 accD0) (nO0 : ¬ Own ρ σ D) (hgo : lcGo t own bYes e ds (wipeE ρ own) = .ok (zs, ρe)) (hz : accD0.length + zs.length ≤ sizeLine)
    (hd : ∀ H' acc', EnvOk K G ρe (wipe σ own) H' → TrD D ρ σ ρe (wipe σ own) H1 H' → H' D = some (.lst acc') → Reps K (Fo G ρe (wipe σ own)) H' acc' (accD0 ++ zs) → Nx H') :
    ∃ W1 : Nat → Nat → Hp → Prop, (∃ m, W1 0 m H1) ∧ ∀ j k H, W1 j k H → (J.stop j H ∧ Nx H) ∨ (J.go j H ∧ ∃ Nx1 : Hp → Prop, (∀ H', Nx1 H' → ∃ k', k' < k ∧ W1 (j + 1) k' H') ∧ ∀ x H', J.yld j H x H' → gT K t x (wipe σ own) H' fun σ3 H5 => wipe σ3 own = wipe σ own ∧ tB K W0 bYes σ3 H5 fun b H6 =>
        if b = true then tV K W0 e σ3 H6 fun y H7 => ∃ acc, H7 D = some (.lst acc) ∧ acc.length < sizeLine ∧ Nx1 (upd H7 D (.lst (acc ++ [y]))) else Nx1 H6) := by
  obtain ⟨hl, w⟩ := w
  obtain ⟨Ew, tw⟩ := E.wipe own
  let Pv : Nat → Hp → Prop := fun i H => ∃ (ρi : En) (acc : List V) (accD rest : List Dv), EnvOk K G ρi (wipe σ own) H ∧ TrD D ρ σ ρi (wipe σ own) H1 H ∧ H D = some (.lst acc) ∧ Reps K (Fo G ρi (wipe σ own)) H acc accD ∧
    lcGo t own bYes e (ds.drop i) ρi = .ok (rest, ρe) ∧ accD ++ rest = accD0 ++ zs
  have nown : ∀ {ρi : En} {σi : L2.St} {H : Hp}, EnvOk K G ρi σi H → TrD D ρ σ ρi σi H1 H → ¬ Own ρi σi D := fun {ρi σi H} Ei ti z => by
    rcases z with ⟨j, io, lk, d, h1, h2⟩
    cases io with
    | false => exact Ei.ng j lk d D h1 h2 hG
    | true =>
      rcases ti.ow j true lk d D h1 h2 with ⟨d2, lk2, q1, q2⟩ | ⟨q1, _⟩
      · exact nO0 ⟨j, true, lk2, d2, q1, q2⟩
      · cases q1
  have later : ∀ {i H}, Pv i H → Later (Fo G ρ σ) H1 H := fun {i H} ⟨ρi, acc, accD, rest, Ei, ti, _⟩ => by
    refine ⟨fun a o h n => ti.keep a o (fun z => n (.inl (by rw [z]; exact hG))) h fun z => n (.inr z), fun a o h ht => ti.tup a o (fun z => ?_) h ht⟩
    rw [z, hD] at h
    cases h
    exact ht
  refine ⟨fun i m H => m = ds.length - i ∧ i ≤ ds.length ∧ Pv i H, ⟨ds.length, by simp, Nat.zero_le _, ?_⟩, ?_⟩
  · exact ⟨wipeE ρ own, acc0, accD0, zs, Ew, tw.toD, hD, ra0.tr tw, by rw [List.drop_zero]; exact hgo, rfl⟩
  · rintro i m H ⟨rfl, hi, p⟩
    have lt := later p
    by_cases hlt : i < ds.length
    · refine .inr ⟨w.goes i H hlt lt, Pv (i + 1), fun H' p' => ⟨ds.length - (i + 1), by omega, rfl, hlt, p'⟩, fun x H' y => ?_⟩
      obtain ⟨sm, d, hdi, hrep⟩ := w.yields i H x H' hlt lt y
      obtain ⟨ρi, acc, accD, rest, Ei, ti, hDi, ra, hg, hsum⟩ := p
      have hdrop : ds.drop i = d :: ds.drop (i + 1) := by
        obtain ⟨hlt, e⟩ := List.getElem?_eq_some_iff.mp hdi
        rw [List.drop_eq_getElem_cons hlt, e]
      rw [hdrop] at hg
      simp only [lcGo] at hg
      have no := nown Ei ti
      cases e1 : asg t d ρi with
      | none => rw [e1] at hg; cases hg
      | some ρ1 =>
        rw [e1] at hg
        simp only [show bYes ρ1 = .ok (true, ρ1) from rfl, bind_ok] at hg
        refine ⟨G, ρi, d, ρ1, Ei.same sm, hrep _ fun a z => ?_, e1, fun σ2 E2 t2 off => ?_⟩
        · rcases z with z | z
          · exact .inl (.inl z)
          · rcases ti.own z with q | q
            · exact .inl (.inr q)
            · exact .inr q
        have hw : wipe σ2 own = wipe σ own := (wipe_off off ht).trans (wipe_wipe σ own)
        refine ⟨hw, G, ρ1, E2, fun H3 E3 t3 => ?_⟩
        dsimp only
        rw [if_pos rfl]
        have tt3 : Tr ρi (wipe σ own) ρ1 σ2 H H3 := ((Tr.of_same sm).trans t2).trans t3
        refine ⟨G, ρ1, E3, ?_⟩
        cases e3 : e ρ1 with
        | bad => rw [e3] at hg; cases hg
        | exc _ _ => rw [e3] at hg; cases hg
        | ok q =>
          obtain ⟨y, ρ3⟩ := q
          rw [e3] at hg
          simp only [bind_ok] at hg
          cases e4 : lcGo t own bYes e (ds.drop (i + 1)) (wipeE ρ3 own) with
          | bad => rw [e4] at hg; cases hg
          | exc _ _ => rw [e4] at hg; cases hg
          | ok z =>
            obtain ⟨rest', ρe'⟩ := z
            rw [e4] at hg
            simp only [bind_ok] at hg
            cases hg
            intro v H4 E4 t4 r4
            have tt4 : Tr ρi (wipe σ own) ρ3 σ2 H H4 := tt3.trans t4
            have hD4 : H4 D = some (.lst acc) := tt4.keep D _ hDi no
            obtain ⟨Ew4, tw4⟩ := E4.wipe own
            rw [hw] at Ew4 tw4
            have tt5 : Tr ρi (wipe σ own) (wipeE ρ3 own) (wipe σ own) H H4 := tt4.trans tw4
            have t15 := ti.trans tt5.toD
            have no5 := nown Ew4 t15
            have hlen : acc.length < sizeLine := by
              have h1 := ra.length
              have h2 := congrArg List.length hsum
              rw [List.length_append, List.length_append, List.length_cons] at h2
              omega
            refine ⟨acc, hD4, hlen, wipeE ρ3 own, acc ++ [v], accD ++ [y], rest', Ew4.updG hG hD4 (fun z => z) no5, t15.updD (by rw [hD4]; simp), upd_same, ?_, e4, ?_⟩
            · refine ((ra.tr tt5).updF (.inl hG) hD4 fun z => z).append ?_
              exact ((Reps.one r4).tr tw4).updF (.inl hG) hD4 fun z => z
            · rw [List.append_assoc]
              exact hsum
    · have e0 : i = ds.length := by omega
      subst e0
      refine .inl ⟨w.stops H lt, ?_⟩
      obtain ⟨ρi, acc, accD, rest, Ei, ti, hDi, ra, hg, hsum⟩ := p
      rw [List.drop_length] at hg
      simp only [lcGo] at hg
      cases hg
      rw [List.append_nil] at hsum
      subst hsum
      exact hd H acc Ei ti hDi ra
end
def lc2Go (t : Tg) (own : List Nat) (mi1 : MI) (t1 : Tg) (own1 : List Nat) (e : M) : List Dv → En → Rs (List Dv × En)
  | [], ρ => .ok ([], ρ)
  | d :: r, ρ => match asg t d ρ with
    | none => .bad
    | some ρ1 => mi1 ρ1 >>= fun x => lcGo t1 own1 bYes e x.1 (wipeE x.2 own1) >>= fun y => lc2Go t own mi1 t1 own1 e r (wipeE y.2 own) >>= fun z => .ok (y.1 ++ z.1, z.2)
def mLc2 (mi : MI) (t : Tg) (own : List Nat) (mi1 : MI) (t1 : Tg) (own1 : List Nat) (e : M) : M := fun ρ => mi ρ >>= fun x => match noMt x.2 own with
  | false => .bad
  | true => match lc2Go t own mi1 t1 own1 e x.1 (wipeE x.2 own) with
    | .ok (zs, ρ') => if zs.length ≤ 16777216 then .ok (.lst zs, restE x.2 ρ' own) else .bad
    | _ => .bad
section
variable {K : PySem.W.Frag} {G : Addr → Prop} {H1 : Hp} {ρ : En} {σ : L2.St}
theorem off_wipe (σ : L2.St) (vs : List Nat) : Off vs σ (wipe σ vs) := ⟨wipe_length _ _, fun j h => wipe_out h⟩
theorem lc2_turns {J : It} {ds : List Dv} {t t1 : Tg} {own own1 : List Nat} {mi1 : MI} {e : M} {D : Addr} {Qd : Hp → Prop} (E : EnvOk K G ρ σ H1) (w : Wk K (Fo G ρ σ) H1 J ds) (ht : ∀ i ∈ t.sl, i ∈ own) (ht1 : ∀ i ∈ t1.sl, i ∈ own1) (hsub : ∀ i ∈ own1, i ∈ own)
    (nD : H1 D = none) {zs : List Dv} {ρe : En} (hgo : lc2Go t own mi1 t1 own1 e ds (wipeE ρ own) = .ok (zs, ρe)) (hz : zs.length ≤ sizeLine)
    (hd : ∀ H', EnvOk K (Gp G D) ρe (wipe σ own) H' → Tr (wipeE ρ own) (wipe σ own) ρe (wipe σ own) H1 H' → OwnRep K (Fo (Gp G D) ρe (wipe σ own)) H' false D (.lst zs) → Qd H') :
    ∃ Wi : Nat → Nat → Hp → Prop, (∃ m, Wi 0 m (upd H1 D (.lst []))) ∧ ∀ i m H, Wi i m H → (J.stop i H ∧ Qd H) ∨ (J.go i H ∧ ∃ Nx : Hp → Prop, (∀ H', Nx H' → ∃ m', m' < m ∧ Wi (i + 1) m' H') ∧ ∀ x H', J.yld i H x H' →
      gT K t x (wipe σ own) H' fun σ2 H2 => wipe σ2 own = wipe σ own ∧ tB K W0 bYes σ2 H2 fun b H3 => if b = true then tI K W0 mi1 σ2 H3 fun J1 H4 => ∃ W1 : Nat → Nat → Hp → Prop, (∃ m, W1 0 m H4) ∧ ∀ j k H, W1 j k H →
        (J1.stop j H ∧ Nx H) ∨ (J1.go j H ∧ ∃ Nx1 : Hp → Prop, (∀ H', Nx1 H' → ∃ k', k' < k ∧ W1 (j + 1) k' H') ∧ ∀ x H', J1.yld j H x H' → gT K t1 x (wipe σ2 own1) H' fun σ3 H5 => wipe σ3 own1 = wipe σ2 own1 ∧ tB K W0 bYes σ3 H5 fun b H6 =>
          if b = true then tV K W0 e σ3 H6 fun y H7 => ∃ acc, H7 D = some (.lst acc) ∧ acc.length < sizeLine ∧ Nx1 (upd H7 D (.lst (acc ++ [y]))) else Nx1 H6)
      else Nx H3) := by
  obtain ⟨hl, w⟩ := w
  obtain ⟨Ew, tw⟩ := E.wipe own
  let Pv : Nat → Hp → Prop := fun i H => ∃ (ρi : En) (acc : List V) (accD rest : List Dv), EnvOk K (Gp G D) ρi (wipe σ own) H ∧ Tr (wipeE ρ own) (wipe σ own) ρi (wipe σ own) H1 H ∧ H D = some (.lst acc) ∧ Reps K (Fo (Gp G D) ρi (wipe σ own)) H acc accD ∧
    lc2Go t own mi1 t1 own1 e (ds.drop i) ρi = .ok (rest, ρe) ∧ accD ++ rest = zs
  have nown : ∀ {ρi : En} {σi : L2.St} {H : Hp}, EnvOk K (Gp G D) ρi σi H → Tr (wipeE ρ own) (wipe σ own) ρi σi H1 H → ¬ Own ρi σi D := fun {ρi σi H} Ei ti z => by
    rcases z with ⟨j, io, lk, d, h1, h2⟩
    cases io with
    | false => exact Ei.ng j lk d D h1 h2 (.inr rfl)
    | true =>
      rcases ti.ow j true lk d D h1 h2 with ⟨d2, lk2, q1, q2⟩ | ⟨q1, _⟩
      · obtain ⟨o, e, _⟩ := Ew.own ⟨j, true, lk2, d2, q1, q2⟩
        rw [nD] at e
        cases e
      · cases q1
  have later : ∀ {i H}, Pv i H → Later (Fo G ρ σ) H1 H := fun {i H} ⟨ρi, acc, accD, rest, Ei, ti, _⟩ => ⟨fun a o h n => ti.keep a o h fun z => n (.inr (wipe_own z)), ti.tup⟩
  refine ⟨fun i m H => m = ds.length - i ∧ i ≤ ds.length ∧ Pv i H, ⟨ds.length, by simp, Nat.zero_le _, ?_⟩, ?_⟩
  · exact ⟨wipeE ρ own, [], [], zs, Ew.fresh (same_new nD) nD (by rw [upd_same]; simp), .of_same (same_new nD), upd_same, .nil, by rw [List.drop_zero]; exact hgo, rfl⟩
  · rintro i m H ⟨rfl, hi, p⟩
    have lt := later p
    by_cases hlt : i < ds.length
    · refine .inr ⟨w.goes i H hlt lt, Pv (i + 1), fun H' p' => ⟨ds.length - (i + 1), by omega, rfl, hlt, p'⟩, fun x H' y => ?_⟩
      obtain ⟨sm, d, hdi, hrep⟩ := w.yields i H x H' hlt lt y
      obtain ⟨ρi, acc, accD, rest, Ei, ti, hD, ra, hg, hsum⟩ := p
      have hdrop : ds.drop i = d :: ds.drop (i + 1) := by
        obtain ⟨hlt, e⟩ := List.getElem?_eq_some_iff.mp hdi
        rw [List.drop_eq_getElem_cons hlt, e]
      rw [hdrop] at hg
      simp only [lc2Go] at hg
      have no := nown Ei ti
      cases e1 : asg t d ρi with
      | none => rw [e1] at hg; cases hg
      | some ρ1 =>
        rw [e1] at hg
        simp only at hg
        refine ⟨Gp G D, ρi, d, ρ1, Ei.same sm, hrep _ fun a z => ?_, e1, fun σ2 E2 t2 off => ?_⟩
        · rcases z with (z | z) | z
          · exact .inl (.inl z)
          · exact .inr (by rw [z]; exact nD)
          · rcases ti.own z with q | q
            · exact .inl (.inr (wipe_own q))
            · exact .inr q
        have hw : wipe σ2 own = wipe σ own := (wipe_off off ht).trans (wipe_wipe σ own)
        refine ⟨hw, Gp G D, ρ1, E2, fun H3 E3 t3 => ?_⟩
        dsimp only
        rw [if_pos rfl]
        have tt3 : Tr ρi (wipe σ own) ρ1 σ2 H H3 := ((Tr.of_same sm).trans t2).trans t3
        refine ⟨Gp G D, ρ1, E3, ?_⟩
        cases e2 : mi1 ρ1 with
        | bad => rw [e2] at hg; cases hg
        | exc _ _ => rw [e2] at hg; cases hg
        | ok q =>
          obtain ⟨es, ρ2⟩ := q
          rw [e2] at hg
          simp only [bind_ok] at hg
          cases e3 : lcGo t1 own1 bYes e es (wipeE ρ2 own1) with
          | bad => rw [e3] at hg; cases hg
          | exc _ _ => rw [e3] at hg; cases hg
          | ok q2 =>
            obtain ⟨zs1, ρ3⟩ := q2
            rw [e3] at hg
            simp only [bind_ok] at hg
            cases e4 : lc2Go t own mi1 t1 own1 e (ds.drop (i + 1)) (wipeE ρ3 own) with
            | bad => rw [e4] at hg; cases hg
            | exc _ _ => rw [e4] at hg; cases hg
            | ok q3 =>
              obtain ⟨rest', ρe'⟩ := q3
              rw [e4] at hg
              simp only [bind_ok] at hg
              cases hg
              intro J1 H4 E4 t4 w4
              have tt4 : Tr ρi (wipe σ own) ρ2 σ2 H H4 := tt3.trans t4
              have hD4 : H4 D = some (.lst acc) := tt4.keep D _ hD no
              have t14 := ti.trans tt4
              have no4 := nown E4 t14
              refine lc_inner (.inr rfl) E4 w4 ht1 hD4 (ra.tr tt4) no4 e3 ?_ fun H5 acc5 E5 t5 hD5 ra5 => ?_
              · have h2 := congrArg List.length hsum
                rw [List.length_append, List.length_append] at h2
                omega
              · obtain ⟨E6, t6⟩ := E5.wipe own
                have hw2 : wipe (wipe σ2 own1) own = wipe σ own := by rw [wipe_off (off_wipe σ2 own1) hsub, hw]
                rw [hw2] at E6 t6
                refine ⟨wipeE ρ3 own, acc5, accD ++ zs1, rest', E6, (t14.thenD t5 nD).trans t6, hD5, ra5.tr t6, e4, ?_⟩
                rw [List.append_assoc]
                exact hsum
    · have e0 : i = ds.length := by omega
      subst e0
      refine .inl ⟨w.stops H lt, ?_⟩
      obtain ⟨ρi, acc, accD, rest, Ei, ti, hD, ra, hg, hsum⟩ := p
      rw [List.drop_length] at hg
      simp only [lc2Go] at hg
      cases hg
      rw [List.append_nil] at hsum
      subst hsum
      exact hd H Ei ti (.lst hD ra)
variable {X : Cx} {elt tg iter tg1 iter1 : Expr} {scope : Scope} {pos spos py : Pos} {y : Str} {W : WK} {mi mi1 : MI} {t t1 : Tg} {own : List (Str × Nat)} {vs1 : List Nat} {m : M} {fr : Bool}
theorem lc2_read {H : Hp} {Q : VK} (ht : ∀ i ∈ t.sl, i ∈ own.map (·.2)) (ht1 : ∀ i ∈ t1.sl, i ∈ vs1) (hv : ∀ i ∈ vs1, i ∈ own.map (·.2)) (h : tN X.K W (mLc2 mi t (own.map (·.2)) mi1 t1 vs1 m) σ H Q) :
    tLc2 (tI X.K W mi) (gT X.K t) (tB X.K W0 bYes) (tI X.K W0 mi1) (gT X.K t1) (tB X.K W0 bYes) (tV X.K W0 m) (own.map (·.2)) vs1 σ H Q := by
  obtain ⟨G, ρ, E, h⟩ := h
  refine ⟨G, ρ, E, ?_⟩
  unfold mLc2 at h
  cases e : mi ρ with
  | bad => rw [e] at h; exact h.elim
  | exc x ρx => rw [e] at h; exact h
  | ok q =>
    obtain ⟨ds, ρ'⟩ := q
    rw [e] at h
    simp only [bind_ok] at h
    intro J H1 E1 t1' w D nD
    cases nm : noMt ρ' (own.map (·.2)) with
    | false => rw [nm] at h; exact h.elim
    | true =>
      rw [nm] at h
      simp only at h
      cases e2 : lc2Go t (own.map (·.2)) mi1 t1 vs1 m ds (wipeE ρ' (own.map (·.2))) with
      | bad => rw [e2] at h; exact h.elim
      | exc _ _ => rw [e2] at h; exact h.elim
      | ok z =>
        obtain ⟨zs, ρe⟩ := z
        rw [e2] at h
        simp only at h
        split at h
        · rename_i hz
          refine lc2_turns E1 w ht ht1 hv nD e2 (by rw [sizeLine_eq]; exact hz) fun H' E2 t2 o => ?_
          obtain ⟨E3, t3, hF⟩ := E1.rest nm (G' := Gp G D) (fun a z => z.elim .inl fun q => .inr (by rw [q]; exact nD)) (fun a z => .inl z) E2 t2
          refine h D H' E3 (t1'.trans t3) ?_ (o.less hF)
          cases q : H D with
          | none => rfl
          | some o => exact absurd nD (t1'.stay D (by rw [q]; simp))
        · exact h.elim
theorem pn_lc2 (hc : X.calm = true) (hN : X.N.Nodup) (hi : PI X tg iter (tI X.K W mi)) (ok : BlkOk X.N X.env.scope scope own) (ht : ∀ i ∈ t.sl, i ∈ own.map (·.2)) (ht1 : ∀ i ∈ t1.sl, i ∈ vs1) (hv : ∀ i ∈ vs1, i ∈ own.map (·.2))
    (hg : ∀ (s : Shared) (H : Hp) (C : Addr) (cl : List (Str × Addr)) (fp : List Addr), PG (X.blk s H scope (compEnvC scope cl C X.env) fp) tg (gT X.K t))
    (hi1 : ∀ (s : Shared) (H : Hp) (C : Addr) (cl : List (Str × Addr)) (fp : List Addr), PI (X.blk s H scope (compEnvC scope cl C X.env) fp) tg1 iter1 (tI X.K W0 mi1))
    (hg1 : ∀ (s : Shared) (H : Hp) (C : Addr) (cl : List (Str × Addr)) (fp : List Addr), PG (X.blk s H scope (compEnvC scope cl C X.env) fp) tg1 (gT X.K t1))
    (he : ∀ (s : Shared) (H : Hp) (C : Addr) (cl : List (Str × Addr)) (fp : List Addr), PE (X.blk s H scope (compEnvC scope cl C X.env) fp) elt (tV X.K W0 m)) (hs : ∀ x, foldedSetIterable iter X.env x = pure x := by intro _; rfl) (hs1 : ∀ env x, foldedSetIterable iter1 env x = pure x := by intro _ _; rfl) :
    PE X (.ListComp elt [⟨tg, iter, [], 0⟩, ⟨tg1, iter1, [], 0⟩] scope pos) (tN X.K W (mLc2 mi t (own.map (·.2)) mi1 t1 vs1 m)) :=
  (pe_lc2 hc hN hi ok hv hg (fun _ _ _ _ _ => pts_yes) hi1 hg1 (fun _ _ _ _ _ => pts_yes) he hs hs1).vimp fun σ H Q h => lc2_read ht ht1 hv h
theorem vs_setLc2N (i : Nat) (hc : X.calm = true) (hN : X.N.Nodup) (hsw : swapsWith (.ListComp elt [⟨tg, iter, [], 0⟩, ⟨tg1, iter1, [], 0⟩] scope pos) (some (.Name y py)) spos.line X.env = pure true)
    (hi : PI X tg iter (tI X.K W mi)) (ok : BlkOk X.N X.env.scope scope own) (ht : ∀ i ∈ t.sl, i ∈ own.map (·.2)) (ht1 : ∀ i ∈ t1.sl, i ∈ vs1) (hv : ∀ i ∈ vs1, i ∈ own.map (·.2))
    (hg : ∀ (s : Shared) (H : Hp) (C : Addr) (cl : List (Str × Addr)) (fp : List Addr), PG (X.blk s H scope (compEnvC scope cl C X.env) fp) tg (gT X.K t))
    (hi1 : ∀ (s : Shared) (H : Hp) (C : Addr) (cl : List (Str × Addr)) (fp : List Addr), PI (X.blk s H scope (compEnvC scope cl C X.env) fp) tg1 iter1 (tI X.K W0 mi1))
    (hg1 : ∀ (s : Shared) (H : Hp) (C : Addr) (cl : List (Str × Addr)) (fp : List Addr), PG (X.blk s H scope (compEnvC scope cl C X.env) fp) tg1 (gT X.K t1))
    (he : ∀ (s : Shared) (H : Hp) (C : Addr) (cl : List (Str × Addr)) (fp : List Addr), PE (X.blk s H scope (compEnvC scope cl C X.env) fp) elt (tV X.K W0 m)) (hy : X.N[i]? = some y := by rfl) (hyl : X.env.scope.names.lookup y = some .local := by rfl) (hs : ∀ x, foldedSetIterable iter X.env x = pure x := by intro _; rfl) (hs1 : ∀ env x, foldedSetIterable iter1 env x = pure x := by intro _ _; rfl) :
    PS X (.Assign [.Name y py] (.ListComp elt [⟨tg, iter, [], 0⟩, ⟨tg1, iter1, [], 0⟩] scope pos) spos) (tS X.K W fr (sSetN i (mLc2 mi t (own.map (·.2)) mi1 t1 vs1 m))) :=
  (ps_setLc2 hc hN hy hyl hsw hi ok hv hg (fun _ _ _ _ _ => pts_yes) hi1 hg1 (fun _ _ _ _ _ => pts_yes) he hs hs1).vimp fun D σ H ⟨G, ρ, E, h⟩ =>
    lc2_read ht ht1 hv (Q := fun x H1 => gName i x σ H1 D.nx) (bind_NS h E fun d ρ1 p H1 E1 t1 n o h1 => setN_end E E1 t1 n o h1)
theorem u65 {k : Nat} {A : Around} (r : Room k A) : A.units + 65 < cLine := by have := r.un; omega
end
end VL

/-! # the mirrors run, step by step: each row is by rfl -/
namespace VL
section
variable {ρ ρ' ρ1 ρ2 : En} {d d' : Dv} {ds es : List Dv} {a b : SM} {m ma mb mc : M} {ms : List M} {ba bb bc : MT} {i j : Nat} {f f' : FD} {ops : List Op} {o : Op} {g : List Dv → Rs Dv} {gio : Dv → List Dv → Rs (Dv × Dv)} {t : Tg} {mi : MI}
/-- what follows, held apart so that nothing is opened too soon -/
def kSeq (r : Rs Fl) (b : SM) : Rs Fl := r >>= fun f => match f with
  | .nx ρ' => b ρ'
  | .rt d ρ' => .ok (.rt d ρ')
@[simp] theorem e_seq : sSeq a b ρ = kSeq (a ρ) b := rfl
@[simp] theorem e_seqn : kSeq (.ok (.nx ρ)) b = b ρ := rfl
@[simp] theorem e_seqr : kSeq (.ok (.rt d ρ)) b = .ok (.rt d ρ) := rfl
@[simp] theorem e_nil : sNil ρ = .ok (.nx ρ) := rfl
def kSet (i : Nat) (r : Rs (Dv × En)) : Rs Fl := r >>= fun x => if i < x.2.length then .ok (.nx (x.2.set i (.val x.1))) else .bad
@[simp] theorem e_set : sSet i m ρ = kSet i (m ρ) := rfl
@[simp] theorem e_set1 : kSet i (.ok (d, ρ)) = if i < ρ.length then .ok (.nx (ρ.set i (.val d))) else .bad := rfl
def kSetN (i : Nat) (r : Rs (Dv × En)) : Rs Fl := r >>= fun x => if i < x.2.length then .ok (.nx (x.2.set i (.mt false false x.1))) else .bad
@[simp] theorem e_setN : sSetN i m ρ = kSetN i (m ρ) := rfl
@[simp] theorem e_setN1 : kSetN i (.ok (d, ρ)) = if i < ρ.length then .ok (.nx (ρ.set i (.mt false false d))) else .bad := rfl
def kAsg (t : Tg) (r : Rs (Dv × En)) : Rs Fl := r >>= fun x => match asg t x.1 x.2 with
  | some ρ' => .ok (.nx ρ')
  | none => .bad
@[simp] theorem e_asg : sAsg t m ρ = kAsg t (m ρ) := rfl
def kNx (r : Option En) : Rs Fl := match r with
  | some ρ' => .ok (.nx ρ')
  | none => .bad
@[simp] theorem e_asg1 : kAsg t (.ok (d, ρ)) = kNx (asg t d ρ) := rfl
@[simp] theorem e_nx : kNx (some ρ) = .ok (.nx ρ) := rfl
@[simp] theorem e_asgn : asg (.nm i) d ρ = if i < ρ.length then some (ρ.set i (.val d)) else none := rfl
@[simp] theorem e_asgt {ts : List Tg} : asg (.tp ts) (.tup ds) ρ = asgs ts ds ρ := rfl
@[simp] theorem e_asg0 : asgs [] [] ρ = some ρ := rfl
def kAsgs (r : Option En) (ts : List Tg) (ds : List Dv) : Option En := match r with
  | some ρ1 => asgs ts ds ρ1
  | none => none
@[simp] theorem e_asgc {ts : List Tg} : asgs (t :: ts) (d :: ds) ρ = kAsgs (asg t d ρ) ts ds := rfl
@[simp] theorem e_asgk {ts : List Tg} : kAsgs (some ρ) ts ds = asgs ts ds ρ := rfl
def kRet (r : Rs (Dv × En)) : Rs Fl := r >>= fun x => .ok (.rt x.1 x.2)
@[simp] theorem e_ret : sRet m ρ = kRet (m ρ) := rfl
@[simp] theorem e_ret1 : kRet (.ok (d, ρ)) = .ok (.rt d ρ) := rfl
@[simp] theorem e_retC : sRetC ρ = .ok (.rt .non ρ) := rfl
def kDrop (r : Rs (Dv × En)) : Rs Fl := r >>= fun x => .ok (.nx x.2)
@[simp] theorem e_drop : sDrop m ρ = kDrop (m ρ) := rfl
@[simp] theorem e_drop1 : kDrop (.ok (d, ρ)) = .ok (.nx ρ) := rfl
def kIf (r : Rs (Bool × En)) (a b : SM) : Rs Fl := r >>= fun x => match x.1 with
  | true => a x.2
  | false => b x.2
@[simp] theorem e_if : sIf bc a b ρ = kIf (bc ρ) a b := rfl
@[simp] theorem e_ifT : kIf (.ok (true, ρ)) a b = a ρ := rfl
@[simp] theorem e_ifF : kIf (.ok (false, ρ)) a b = b ρ := rfl
/-! ### expressions -/
@[simp] theorem e_C : mC d ρ = .ok (d, ρ) := rfl
def kVar (s : Option Sl) (i : Nat) (ρ : En) : Rs (Dv × En) := match s with
  | some (.val d) => .ok (d, ρ)
  | some (.mt false false d) => .ok (d, ρ.set i (.val d))
  | _ => .bad
@[simp] theorem e_var : mVar i ρ = kVar ρ[i]? i ρ := rfl
@[simp] theorem e_varV : kVar (some (.val d)) i ρ = .ok (d, ρ) := rfl
@[simp] theorem e_varM : kVar (some (.mt false false d)) i ρ = .ok (d, ρ.set i (.val d)) := rfl
def kSl (s : Option Sl) : Rs Dv := match s with
  | some (.val d) => .ok d
  | some (.mt _ _ d) => .ok d
  | _ => .bad
@[simp] theorem e_sl : getSl ρ i = kSl ρ[i]? := rfl
@[simp] theorem e_slV : kSl (some (.val d)) = .ok d := rfl
@[simp] theorem e_slM {io lk : Bool} : kSl (some (.mt io lk d)) = .ok d := rfl
def kCons (d : Dv) (r : Rs (List Dv × En)) : Rs (List Dv × En) := r >>= fun y => .ok (d :: y.1, y.2)
@[simp] theorem e_cons : kCons d (.ok (ds, ρ)) = .ok (d :: ds, ρ) := rfl
def kOps (r : Rs (Dv × En)) (ops : List Op) : Rs (List Dv × En) := r >>= fun x => kCons x.1 (evOps ops x.2)
def kOpc (i : Nat) (r : Rs (List Dv × En)) : Rs (List Dv × En) := r >>= fun y => getSl y.2 i >>= fun d => .ok (d :: y.1, y.2)
def kOpd (r : Rs Dv) (ds : List Dv) (ρ : En) : Rs (List Dv × En) := r >>= fun d => .ok (d :: ds, ρ)
def kOpb (r : Rs Dv) (i : Nat) (q : Rs (List Dv × En)) : Rs (List Dv × En) := r >>= fun _ => kOpc i q
@[simp] theorem e_ops0 : evOps [] ρ = .ok ([], ρ) := rfl
@[simp] theorem e_opsX : evOps (.ex m :: ops) ρ = kOps (m ρ) ops := rfl
@[simp] theorem e_opsX1 : kOps (.ok (d, ρ)) ops = kCons d (evOps ops ρ) := rfl
@[simp] theorem e_opsS : evOps (.sl i :: ops) ρ = kOpb (getSl ρ i) i (evOps ops ρ) := rfl
@[simp] theorem e_opsb {q : Rs (List Dv × En)} : kOpb (.ok d) i q = kOpc i q := rfl
@[simp] theorem e_opsc : kOpc i (.ok (ds, ρ)) = kOpd (getSl ρ i) ds ρ := rfl
@[simp] theorem e_opsd : kOpd (.ok d) ds ρ = .ok (d :: ds, ρ) := rfl
def kR (r : Option Dv) (ρ : En) : Rs (Dv × En) := match r with
  | some d => .ok (d, ρ)
  | none => .bad
def kOp (f : FD) (r : Rs (List Dv × En)) : Rs (Dv × En) := r >>= fun y => kR (f y.1) y.2
@[simp] theorem e_op : mOp f ops ρ = kOp f (evOps ops ρ) := rfl
@[simp] theorem e_op1 : kOp f (.ok (ds, ρ)) = kR (f ds) ρ := rfl
@[simp] theorem e_R : kR (some d) ρ = .ok (d, ρ) := rfl
def kMs (r : Rs (Dv × En)) (ms : List M) : Rs (List Dv × En) := r >>= fun x => kCons x.1 (evMs ms x.2)
@[simp] theorem e_ms0 : evMs [] ρ = .ok ([], ρ) := rfl
@[simp] theorem e_ms : evMs (m :: ms) ρ = kMs (m ρ) ms := rfl
@[simp] theorem e_ms1 : kMs (.ok (d, ρ)) ms = kCons d (evMs ms ρ) := rfl
def kTup (r : Rs (List Dv × En)) : Rs (Dv × En) := r >>= fun y => .ok (.tup y.1, y.2)
def kLst (r : Rs (List Dv × En)) : Rs (Dv × En) := r >>= fun y => .ok (.lst y.1, y.2)
@[simp] theorem e_tup : mTup ms ρ = kTup (evMs ms ρ) := rfl
@[simp] theorem e_tup1 : kTup (.ok (ds, ρ)) = .ok (.tup ds, ρ) := rfl
@[simp] theorem e_lst : mLst ms ρ = kLst (evMs ms ρ) := rfl
@[simp] theorem e_lst1 : kLst (.ok (ds, ρ)) = .ok (.lst ds, ρ) := rfl
def kCr (r : Rs Dv) (ρ : En) : Rs (Dv × En) := match r with
  | .ok d => .ok (d, ρ)
  | _ => .bad
def kCall (g : List Dv → Rs Dv) (r : Rs (List Dv × En)) : Rs (Dv × En) := r >>= fun y => kCr (g y.1) y.2
@[simp] theorem e_call : mCall g ms ρ = kCall g (evMs ms ρ) := rfl
@[simp] theorem e_call1 : kCall g (.ok (ds, ρ)) = kCr (g ds) ρ := rfl
@[simp] theorem e_cr : kCr (.ok d) ρ = .ok (d, ρ) := rfl
def kIr (r : Rs (Dv × Dv)) (i : Nat) (io : Bool) (ρ : En) : Rs (Dv × En) := match r with
  | .ok (d, d1) => .ok (d, ρ.set i (.mt io false d1))
  | _ => .bad
def kIs (gio : Dv → List Dv → Rs (Dv × Dv)) (i : Nat) (s : Option Sl) (ds : List Dv) (ρ : En) : Rs (Dv × En) := match s with
  | some (.mt io false d0) => kIr (gio d0 ds) i io ρ
  | _ => .bad
def kIo (gio : Dv → List Dv → Rs (Dv × Dv)) (i : Nat) (r : Rs (List Dv × En)) : Rs (Dv × En) := r >>= fun y => kIs gio i y.2[i]? y.1 y.2
def kIg (r : Rs Dv) (q : Rs (Dv × En)) : Rs (Dv × En) := r >>= fun _ => q
theorem kIs_eq (s : Option Sl) : kIs gio i s ds ρ = (match s with
  | some (.mt io false d0) => match gio d0 ds with
    | .ok (d, d1) => .ok (d, ρ.set i (.mt io false d1))
    | _ => .bad
  | _ => .bad) := by
  unfold kIs kIr
  rfl
@[simp] theorem e_io : mCallIO gio i ms ρ = kIg (getSl ρ i) (kIo gio i (evMs ms ρ)) := by
  unfold mCallIO kIg kIo
  congr 1
@[simp] theorem e_io0 {q : Rs (Dv × En)} : kIg (.ok d) q = q := rfl
@[simp] theorem e_io1 : kIo gio i (.ok (ds, ρ)) = kIs gio i ρ[i]? ds ρ := rfl
@[simp] theorem e_io2 {io : Bool} {d0 : Dv} : kIs gio i (some (.mt io false d0)) ds ρ = kIr (gio d0 ds) i io ρ := rfl
@[simp] theorem e_io3 {io : Bool} : kIr (.ok (d, d')) i io ρ = .ok (d, ρ.set i (.mt io false d')) := rfl
/-! ### tests -/
def kB (r : Option Bool) (ρ : En) : Rs (Bool × En) := match r with
  | some b => .ok (b, ρ)
  | none => .bad
def kBo (r : Rs (Dv × En)) : Rs (Bool × En) := r >>= fun x => kB (toB x.1) x.2
@[simp] theorem e_bo : bOf m ρ = kBo (m ρ) := rfl
@[simp] theorem e_bo1 {k : Bool} : kBo (.ok (.bl k, ρ)) = .ok (k, ρ) := rfl
def kAnd (r : Rs (Bool × En)) (b : MT) : Rs (Bool × En) := r >>= fun x => match x.1 with
  | true => b x.2
  | false => .ok (false, x.2)
def kOr (r : Rs (Bool × En)) (b : MT) : Rs (Bool × En) := r >>= fun x => match x.1 with
  | true => .ok (true, x.2)
  | false => b x.2
def kNot (r : Rs (Bool × En)) : Rs (Bool × En) := r >>= fun x => .ok (!x.1, x.2)
@[simp] theorem e_and : bAnd ba bb ρ = kAnd (ba ρ) bb := rfl
@[simp] theorem e_andT : kAnd (.ok (true, ρ)) bb = bb ρ := rfl
@[simp] theorem e_andF : kAnd (.ok (false, ρ)) bb = .ok (false, ρ) := rfl
@[simp] theorem e_or : bOr ba bb ρ = kOr (ba ρ) bb := rfl
@[simp] theorem e_orT : kOr (.ok (true, ρ)) bb = .ok (true, ρ) := rfl
@[simp] theorem e_orF : kOr (.ok (false, ρ)) bb = bb ρ := rfl
@[simp] theorem e_not : bNot ba ρ = kNot (ba ρ) := rfl
@[simp] theorem e_not1 {k : Bool} : kNot (.ok (k, ρ)) = .ok (!k, ρ) := rfl
@[simp] theorem e_yes : bYes ρ = .ok (true, ρ) := rfl
def kAndV (r : Rs (Dv × En)) (b : M) : Rs (Dv × En) := r >>= fun x => match toB x.1 with
  | some true => b x.2
  | some false => .ok (.bl false, x.2)
  | none => .bad
def kOrV (r : Rs (Dv × En)) (b : M) : Rs (Dv × En) := r >>= fun x => match toB x.1 with
  | some true => .ok (.bl true, x.2)
  | some false => b x.2
  | none => .bad
def kNotV (r : Rs (Dv × En)) : Rs (Dv × En) := r >>= fun x => match toB x.1 with
  | some b => .ok (.bl (!b), x.2)
  | none => .bad
@[simp] theorem e_mand : mAnd ma mb ρ = kAndV (ma ρ) mb := rfl
@[simp] theorem e_mandT : kAndV (.ok (.bl true, ρ)) mb = mb ρ := rfl
@[simp] theorem e_mandF : kAndV (.ok (.bl false, ρ)) mb = .ok (.bl false, ρ) := rfl
@[simp] theorem e_mor : mOr ma mb ρ = kOrV (ma ρ) mb := rfl
@[simp] theorem e_morT : kOrV (.ok (.bl true, ρ)) mb = .ok (.bl true, ρ) := rfl
@[simp] theorem e_morF : kOrV (.ok (.bl false, ρ)) mb = mb ρ := rfl
@[simp] theorem e_mnot : mNot ma ρ = kNotV (ma ρ) := rfl
@[simp] theorem e_mnot1 {k : Bool} : kNotV (.ok (.bl k, ρ)) = .ok (.bl (!k), ρ) := rfl
def kIfV (r : Rs (Bool × En)) (a b : M) : Rs (Dv × En) := r >>= fun x => match x.1 with
  | true => a x.2
  | false => b x.2
@[simp] theorem e_mif : mIf bc ma mb ρ = kIfV (bc ρ) ma mb := rfl
@[simp] theorem e_mifT : kIfV (.ok (true, ρ)) ma mb = ma ρ := rfl
@[simp] theorem e_mifF : kIfV (.ok (false, ρ)) ma mb = mb ρ := rfl
def kChc (r : Rs (Dv × En)) (f' : FD) (b : Dv) : Rs (Dv × En) := r >>= fun z => kR (f' [b, z.1]) z.2
def kChr (r : Option Dv) (f' : FD) (b : Dv) (mc : M) (ρ : En) : Rs (Dv × En) := match r with
  | some (.bl true) => kChc (mc ρ) f' b
  | some (.bl false) => .ok (.bl false, ρ)
  | _ => .bad
def kChb (r : Rs (Dv × En)) (f f' : FD) (a : Dv) (mc : M) : Rs (Dv × En) := r >>= fun y => kChr (f [a, y.1]) f' y.1 mc y.2
def kCha (r : Rs (Dv × En)) (f f' : FD) (mb mc : M) : Rs (Dv × En) := r >>= fun x => kChb (mb x.2) f f' x.1 mc
theorem kChr_eq (r : Option Dv) (b : Dv) : kChr r f' b mc ρ = (match r with
  | some (.bl true) => mc ρ >>= fun z => match f' [b, z.1] with
    | some d => .ok (d, z.2)
    | none => .bad
  | some (.bl false) => .ok (.bl false, ρ)
  | _ => .bad) := by
  unfold kChr kChc kR
  rfl
@[simp] theorem e_ch : mChn f f' ma mb mc ρ = kCha (ma ρ) f f' mb mc := by
  unfold mChn kCha kChb
  congr 1
@[simp] theorem e_cha : kCha (.ok (d, ρ)) f f' mb mc = kChb (mb ρ) f f' d mc := rfl
@[simp] theorem e_chb {x : Dv} : kChb (.ok (d, ρ)) f f' x mc = kChr (f [x, d]) f' d mc ρ := rfl
@[simp] theorem e_chT : kChr (some (.bl true)) f' d mc ρ = kChc (mc ρ) f' d := rfl
@[simp] theorem e_chF : kChr (some (.bl false)) f' d mc ρ = .ok (.bl false, ρ) := rfl
@[simp] theorem e_chc {x : Dv} : kChc (.ok (d, ρ)) f' x = kR (f' [x, d]) ρ := rfl
def kInt (r : Rs (Dv × En)) : Rs (Dv × En) := r >>= fun x => match x.1 with
  | .int i => .ok (.int i, x.2)
  | _ => .bad
@[simp] theorem e_int : mInt m ρ = kInt (m ρ) := rfl
@[simp] theorem e_int1 {n : Int} : kInt (.ok (.int n, ρ)) = .ok (.int n, ρ) := rfl
def kStr (r : Rs (Dv × En)) : Rs (Dv × En) := r >>= fun x => match x.1 with
  | .str i => .ok (.str i, x.2)
  | _ => .bad
@[simp] theorem e_str : mStr m ρ = kStr (m ρ) := rfl
@[simp] theorem e_str1 {n : List Nat} : kStr (.ok (.str n, ρ)) = .ok (.str n, ρ) := rfl
/-! ### walks, blocks -/
def kI (r : Option (List Dv)) (ρ : En) : Rs (List Dv × En) := match r with
  | some es => .ok (es, ρ)
  | none => .bad
def kIt (f : List Dv → Option (List Dv)) (r : Rs (List Dv × En)) : Rs (List Dv × En) := r >>= fun y => kI (f y.1) y.2
@[simp] theorem e_it {f : List Dv → Option (List Dv)} : mIt f ms ρ = kIt f (evMs ms ρ) := rfl
@[simp] theorem e_it1 {f : List Dv → Option (List Dv)} : kIt f (.ok (ds, ρ)) = kI (f ds) ρ := rfl
@[simp] theorem e_I : kI (some ds) ρ = .ok (ds, ρ) := rfl
def kFor (r : Rs (List Dv × En)) (t : Tg) (b : SM) : Rs Fl := r >>= fun x => forGo t b x.1 x.2
@[simp] theorem e_for : sFor mi t b ρ = kFor (mi ρ) t b := rfl
@[simp] theorem e_for1 : kFor (.ok (ds, ρ)) t b = forGo t b ds ρ := rfl
@[simp] theorem e_wipe0 : wipeE ρ [] = ρ := rfl
@[simp] theorem e_wipe {vs : List Nat} : wipeE ρ (i :: vs) = (wipeE ρ vs).set i .no := rfl
@[simp] theorem e_rest0 : restE ρ ρ' [] = ρ' := rfl
@[simp] theorem e_rest {vs : List Nat} : restE ρ ρ' (i :: vs) = (restE ρ ρ' vs).set i (ρ[i]?.getD .no) := rfl
/-! ### operations -/
variable {x y : Int} {u v : List Nat} {p q : Bool}
@[simp] theorem f_addI : fAdd [.int x, .int y] = some (.int (x + y)) := rfl
@[simp] theorem f_addS (h : u.length + v.length ≤ 16777216) : fAdd [.str u, .str v] = some (.str (u ++ v)) := if_pos h
@[simp] theorem f_addT (h : ds.length + es.length ≤ 16777216) : fAdd [.tup ds, .tup es] = some (.tup (ds ++ es)) := if_pos h
@[simp] theorem f_addL (h : ds.length + es.length ≤ 16777216) : fAdd [.lst ds, .lst es] = some (.lst (ds ++ es)) := if_pos h
@[simp] theorem f_catL (h : ds.length + es.length ≤ 16777216) : fCat [.lst ds, .lst es] = some (.lst (ds ++ es)) := if_pos h
@[simp] theorem f_sub : fSub [.int x, .int y] = some (.int (x - y)) := rfl
@[simp] theorem f_mulI (h : x.natAbs < 18446744073709551616 ∨ y.natAbs < 18446744073709551616) : fTimes [.int x, .int y] = some (.int (x * y)) := by
  show (if _ then _ else _) = _
  rw [if_pos]
  rw [Bool.or_eq_true, decide_eq_true_eq, decide_eq_true_eq]
  exact h
@[simp] theorem f_mulS (h : u.length * y.toNat ≤ 16777216 ∧ -16777216 ≤ y ∧ y ≤ 16777216) : fTimes [.str u, .int y] = some (.str (List.replicate y.toNat u).flatten) := if_pos h
@[simp] theorem f_repL (h : ds.length * y.toNat ≤ 16777216 ∧ -16777216 ≤ y ∧ y ≤ 16777216) : fRepL [.lst ds, .int y] = some (.lst (List.replicate y.toNat ds).flatten) := if_pos h
@[simp] theorem f_div (h : 0 < y) (h2 : y < 18446744073709551616) : fDiv [.int x, .int y] = some (.int (x / y)) := by
  show (if _ then _ else _) = _
  rw [if_pos]
  rw [Bool.and_eq_true, decide_eq_true_eq, decide_eq_true_eq]
  refine ⟨h, ?_⟩
  have h3 : y.natAbs < 2 ^ 64 := by rw [← n64]; omega
  have h4 : y.natAbs ≠ 0 := by omega
  have := (Nat.log2_lt h4).mpr h3
  omega
@[simp] theorem f_mod (h : 0 < y) : fMod [.int x, .int y] = some (.int (x % y)) := if_pos (decide_eq_true h)
@[simp] theorem f_pow (h : 0 ≤ y) (h1 : y ≤ 1000000) (h2 : x.natAbs < 18446744073709551616) : fPow [.int x, .int y] = some (.int (x ^ y.toNat)) := by
  show (if _ then _ else _) = _
  rw [if_pos]
  simp [h, h1, h2]
@[simp] theorem f_neg : fNeg [.int x] = some (.int (-x)) := rfl
@[simp] theorem f_abs : fAbs [.int x] = some (.int (if x < 0 then -x else x)) := rfl
@[simp] theorem f_max2 : fMax2 [.int x, .int y] = some (.int (if y > x then y else x)) := rfl
@[simp] theorem f_min2 : fMin2 [.int x, .int y] = some (.int (if y < x then y else x)) := rfl
@[simp] theorem f_lt : fLt [.int x, .int y] = some (.bl (decide (x < y))) := rfl
@[simp] theorem f_le : fLe [.int x, .int y] = some (.bl (decide (x ≤ y))) := rfl
@[simp] theorem f_gt : fGt [.int x, .int y] = some (.bl (decide (y < x))) := rfl
@[simp] theorem f_ge : fGe [.int x, .int y] = some (.bl (decide (y ≤ x))) := rfl
@[simp] theorem f_eqI : fEq [.int x, .int y] = some (.bl (x == y)) := rfl
@[simp] theorem f_neI : fNe [.int x, .int y] = some (.bl (x != y)) := rfl
@[simp] theorem f_eqS : fEq [.str u, .str v] = some (.bl (u == v)) := rfl
@[simp] theorem f_neS : fNe [.str u, .str v] = some (.bl (u != v)) := rfl
@[simp] theorem f_eqB : fEq [.bl p, .bl q] = some (.bl (p == q)) := rfl
@[simp] theorem f_neB : fNe [.bl p, .bl q] = some (.bl (p != q)) := rfl
theorem f_eqP (h : isP d = true) (h' : isP d' = true) (hm : min (dep d) (dep d') ≤ 64) : fEq [d, d'] = some (.bl (eqD d d')) := by
  show (if _ then _ else _) = _
  rw [if_pos]
  simp [h, h', hm]
theorem f_neP (h : isP d = true) (h' : isP d' = true) (hm : min (dep d) (dep d') ≤ 64) : fNe [d, d'] = some (.bl (!eqD d d')) := by
  show (if _ then _ else _) = _
  rw [if_pos]
  simp [h, h', hm]
@[simp] theorem f_intI : fInt [.int x] = some (.int x) := rfl
@[simp] theorem f_lenS (h : u.length ≤ 16777216) : fLen [.str u] = some (.int (u.length : Nat)) := if_pos h
@[simp] theorem f_lenT : fLen [.tup ds] = some (.int (ds.length : Nat)) := rfl
@[simp] theorem f_lenL : fLen [.lst ds] = some (.int (ds.length : Nat)) := rfl
@[simp] theorem f_lenC {ns : List Int} : fLen [.scr ns] = some (.int (ns.length : Nat)) := rfl
@[simp] theorem f_ixL : fIx [.lst ds, .int x] = ixD ds x := rfl
@[simp] theorem f_ixT : fIx [.tup ds, .int x] = ixD ds x := rfl
@[simp] theorem f_ixS (h : u.length ≤ 16777216) : fIx [.str u, .int x] = (ixD u x).map fun c => .str [c] := if_pos h
@[simp] theorem f_isN : fIsN [d, .non] = some (.bl (isNon d)) := rfl
@[simp] theorem f_notN : fNotN [d, .non] = some (.bl (!isNon d)) := rfl
@[simp] theorem f_sl11 : fSl11 [d, .int x, .int y] = fSlc (some x) (some y) d := rfl
@[simp] theorem f_sl10 : fSl10 [d, .int x] = fSlc (some x) none d := rfl
@[simp] theorem f_sl01 : fSl01 [d, .int x] = fSlc none (some x) d := rfl
@[simp] theorem f_sl00 : fSl00 [d] = fSlc none none d := rfl
@[simp] theorem f_slcS {lo hi : Option Int} (h : u.length ≤ 16777216) : fSlc lo hi (.str u) = some (.str (cutD u lo hi)) := if_pos h
@[simp] theorem f_slcL {lo hi : Option Int} : fSlc lo hi (.lst ds) = some (.lst (cutD ds lo hi)) := rfl
@[simp] theorem f_slcT {lo hi : Option Int} : fSlc lo hi (.tup ds) = some (.tup (cutD ds lo hi)) := rfl
@[simp] theorem f_listL : fList [.lst ds] = some (.lst ds) := rfl
@[simp] theorem f_listT : fList [.tup ds] = some (.lst ds) := rfl
@[simp] theorem f_listC {ns : List Int} : fList [.scr ns] = some (.lst (ns.map .int)) := rfl
@[simp] theorem f_listS (h : u.length ≤ 16777216) : fList [.str u] = some (.lst (u.map fun c => .str [c])) := by
  show (itD (.str u)).map Dv.lst = _
  simp [itD, h]
@[simp] theorem f_tupL : fTup [.lst ds] = some (.tup ds) := rfl
@[simp] theorem f_tupT : fTup [.tup ds] = some (.tup ds) := rfl
@[simp] theorem f_tupS (h : u.length ≤ 16777216) : fTup [.str u] = some (.tup (u.map fun c => .str [c])) := by
  show (itD (.str u)).map Dv.tup = _
  simp [itD, h]
@[simp] theorem f_itL : it1 [.lst ds] = some ds := rfl
@[simp] theorem f_itT : it1 [.tup ds] = some ds := rfl
@[simp] theorem f_itS (h : u.length ≤ 16777216) : it1 [.str u] = some (u.map fun c => .str [c]) := if_pos h
@[simp] theorem f_itZS (h : u.length ≤ 16777216) (h2 : v.length ≤ 16777216) : itZ [.str u, .str v] = some (zipD (u.map fun c => .str [c]) (v.map fun c => .str [c])) := by simp [itZ, itD, h, h2]
@[simp] theorem f_itZT : itZ [.tup ds, .tup es] = some (zipD ds es) := rfl
@[simp] theorem f_itZL : itZ [.lst ds, .lst es] = some (zipD ds es) := rfl
@[simp] theorem f_itR1 (h : -16777216 ≤ x ∧ x ≤ 16777216) : itR1 [.int x] = some (rng 0 x.toNat) := if_pos h
end
end VL

/-! # what all laws share: the cup, likeness -/
namespace PL
open VL
def m__law_cup : SM := (sSeq (sSet 1 (mOp fAbs [.ex (mOp fIx [.ex (mOp fAdd [.ex (mOp fList [.sl 0]), .ex (mLst [(mC (.int 0))])]), .ex (mC (.int 0))])])) (sRet (mLst [(mIf (bOf (mOp fGe [.sl 1, .ex (mOp fPow [.ex (mC (.int 10)), .ex (mC (.int 18))])])) (mOp fDiv [.sl 1, .ex (mC (.int 73))]) (mC (.int 0))), (mOp fAdd [.ex (mOp fMod [.ex (mOp fInt [.ex (mOp fAdd [.ex (mOp fTimes [.sl 1, .ex (mC (.int 283))]), .ex (mC (.int 3907))])]), .ex (mC (.int 2077503167))]), .ex (mC (.int 167))])])))
def r__law_cup : List Dv → Rs Dv := runN 1 m__law_cup
def m__law_roll : SM := (sSeq (sIf (bOf (mOp fGt [.ex (mOp fIx [.sl 0, .ex (mC (.int 0))]), .ex (mC (.int 0))])) (sSeq (sSet 3 (mOp fMod [.ex (mOp fInt [.ex (mOp fIx [.sl 0, .ex (mC (.int 0))])]), .sl 1])) (sSeq (sSetIx 0 (mOp fDiv [.ex (mOp fIx [.sl 0, .ex (mC (.int 0))]), .sl 1]) (mC (.int 0))) (sRet (mVar 3)))) sNil) (sSeq (sSetIx 0 (mOp fMod [.ex (mOp fInt [.ex (mOp fAdd [.ex (mOp fTimes [.ex (mOp fIx [.sl 0, .ex (mC (.int 1))]), .ex (mC (.int 31051))]), .ex (mC (.int 7993))])]), .ex (mC (.int 2147483543))]) (mC (.int 1))) (sSeq (sSet 2 (mOp fMod [.ex (mOp fInt [.ex (mOp fTimes [.ex (mOp fIx [.sl 0, .ex (mC (.int 1))]), .ex (mOp fAdd [.ex (mOp fIx [.sl 0, .ex (mC (.int 1))]), .ex (mC (.int 229))])])]), .ex (mC (.int 2147483587))])) (sRet (mOp fMod [.ex (mOp fInt [.ex (mOp fDiv [.sl 2, .ex (mC (.int 821))])]), .sl 1])))))
def r__law_roll : Dv → List Dv → Rs (Dv × Dv) := runIO 2 m__law_roll
def m__law_some : SM := (sRet (mOp fIx [.sl 1, .ex (mCallIO r__law_roll 0 [(mOp fLen [.sl 1])])]))
def r__law_some : Dv → List Dv → Rs (Dv × Dv) := runIO 0 m__law_some
def m__law_sort : SM := (sSeq (sIf (bOr (bOf (mOp fIsN [.sl 0, .ex (mC .non)])) (bOf (mOp fIsi [.sl 0, .ex (mC (.ty "bool"))]))) (sRet (mIf (bOf (mOp fIsN [.sl 0, .ex (mC .non)])) (mC (.int 0)) (mC (.int 1)))) sNil) (sSeq (sIf (bOr (bOf (mOp fIsi [.sl 0, .ex (mC (.ty "int"))])) (bOf (mOp fIsi [.sl 0, .ex (mC (.ty "str"))]))) (sRet (mIf (bOf (mOp fIsi [.sl 0, .ex (mC (.ty "int"))])) (mC (.int 2)) (mC (.int 3)))) sNil) (sRet (mIf (bOf (mOp fIsi [.sl 0, .ex (mC (.ty "tuple"))])) (mC (.int 4)) (mIf (bOf (mOp fIsi [.sl 0, .ex (mC (.ty "list"))])) (mC (.int 5)) (mC (.int 6)))))))
def r__law_sort : List Dv → Rs Dv := runV 0 m__law_sort
def m__law_like (rec : List Dv → Rs Dv) : SM := (sSeq (sSet 2 (mCall r__law_sort [(mVar 1)])) (sSeq (sIf (bOr (bOf (mOp fNe [.ex (mCall r__law_sort [(mVar 0)]), .sl 2])) (bOf (mOp fEq [.sl 2, .ex (mC (.int 6))]))) (sRet (mC (.bl false))) sNil) (sSeq (sIf (bOf (mOp fIn [.sl 2, .ex (mTup [(mC (.int 4)), (mC (.int 5))])])) (sRet (mAnd (mOp fEq [.ex (mOp fLen [.sl 0]), .ex (mOp fLen [.sl 1])]) (mOp fEq [.ex (mLc (mIt itZ [(mVar 0), (mVar 1)]) (.tp [(.nm 3), (.nm 4)]) [3, 4] (bNot (bOf (mCall rec [(mVar 3), (mVar 4)]))) (mC (.int 1))), .ex (mLst [])]))) sNil) (sRet (mOp fEq [.sl 0, .sl 1])))))
def r__law_like : Nat → List Dv → Rs Dv
  | 0 => fun _ => .bad
  | n + 1 => runV 3 (m__law_like (r__law_like n))
/-! ### comprehensions -/
/-- one turn -/
def lcOne (t : Tg) (own : List Nat) (c : MT) (e : M) (d : Dv) (ρ : En) : Rs (Option Dv × En) := match asg t d ρ with
  | none => .bad
  | some ρ1 => c ρ1 >>= fun x => match x.1 with
    | true => e x.2 >>= fun y => .ok (some y.1, wipeE y.2 own)
    | false => .ok (none, wipeE x.2 own)
theorem lcGo_one {t : Tg} {own : List Nat} {c : MT} {e : M} {d : Dv} {r : List Dv} {ρ ρ1 ρ2 : En} {z : Option Dv} {zs : List Dv} (h : lcOne t own c e d ρ = .ok (z, ρ1)) (h2 : lcGo t own c e r ρ1 = .ok (zs, ρ2)) : lcGo t own c e (d :: r) ρ = .ok (z.toList ++ zs, ρ2) := by
  unfold lcOne at h
  simp only [lcGo]
  cases e1 : asg t d ρ with
  | none => rw [e1] at h; cases h
  | some ρa =>
    rw [e1] at h
    simp only at h ⊢
    cases e2 : c ρa with
    | bad => rw [e2] at h; cases h
    | exc _ _ => rw [e2] at h; cases h
    | ok x =>
      obtain ⟨b, ρb⟩ := x
      rw [e2] at h
      simp only [bind_ok] at h ⊢
      cases b with
      | false =>
        simp only at h ⊢
        cases h
        rw [h2]
        rfl
      | true =>
        simp only at h ⊢
        cases e3 : e ρb with
        | bad => rw [e3] at h; cases h
        | exc _ _ => rw [e3] at h; cases h
        | ok y =>
          rw [e3] at h
          simp only [bind_ok] at h ⊢
          cases h
          rw [h2]
          rfl
theorem lcGo_all {t : Tg} {own : List Nat} {c : MT} {e : M} {ρ : En} {g : Dv → Option Dv} : ∀ {ds : List Dv}, (∀ d ∈ ds, lcOne t own c e d ρ = .ok (g d, ρ)) → lcGo t own c e ds ρ = .ok (ds.filterMap g, ρ)
  | [], _ => rfl
  | d :: ds, h => by
    rw [lcGo_one (h d (by simp)) (lcGo_all fun x hx => h x (List.mem_cons_of_mem _ hx))]
    cases e : g d <;> simp [e]
/-- over the signs of a text -/
def sg (l : List Nat) : List Dv := l.map fun c => .str [c]
theorem lcGo_sg {t : Tg} {own : List Nat} {c : MT} {e : M} {ρ : En} {g : Nat → Option Dv} : ∀ {l : List Nat}, (∀ a ∈ l, lcOne t own c e (.str [a]) ρ = .ok (g a, ρ)) → lcGo t own c e (sg l) ρ = .ok (l.filterMap g, ρ)
  | [], _ => rfl
  | a :: l, h => by
    show lcGo t own c e (.str [a] :: sg l) ρ = _
    rw [lcGo_one (h a (by simp)) (lcGo_sg fun x hx => h x (List.mem_cons_of_mem _ hx))]
    cases e : g a <;> simp [e]
theorem lcGo_zip {t : Tg} {own : List Nat} {c : MT} {e : M} {ρ : En} {g : Dv → Dv → Option Dv} : ∀ {l m : List Dv}, (∀ a b, (a, b) ∈ l.zip m → lcOne t own c e (.tup [a, b]) ρ = .ok (g a b, ρ)) → lcGo t own c e (zipD l m) ρ = .ok ((l.zip m).filterMap fun p => g p.1 p.2, ρ)
  | [], _, _ => rfl
  | _ :: _, [], _ => rfl
  | a :: l, b :: m, h => by
    show lcGo t own c e (.tup [a, b] :: zipD l m) ρ = _
    rw [lcGo_one (h a b (by simp)) (lcGo_zip fun x y hx => h x y (by simp [hx]))]
    cases e : g a b <;> simp [e]
theorem lcGo_zsg {t : Tg} {own : List Nat} {c : MT} {e : M} {ρ : En} {g : Nat → Nat → Option Dv} : ∀ {l m : List Nat}, (∀ a b, (a, b) ∈ l.zip m → lcOne t own c e (.tup [.str [a], .str [b]]) ρ = .ok (g a b, ρ)) → lcGo t own c e (zipD (sg l) (sg m)) ρ = .ok ((l.zip m).filterMap fun p => g p.1 p.2, ρ)
  | [], _, _ => rfl
  | _ :: _, [], _ => rfl
  | a :: l, b :: m, h => by
    show lcGo t own c e (.tup [.str [a], .str [b]] :: zipD (sg l) (sg m)) ρ = _
    rw [lcGo_one (h a b (by simp)) (lcGo_zsg fun x y hx => h x y (by simp [hx]))]
    cases e : g a b <;> simp [e]
theorem mLc_of {mi : MI} {t : Tg} {own : List Nat} {c : MT} {e : M} {ρ ρ1 ρ2 : En} {ds zs : List Dv} (h1 : mi ρ = .ok (ds, ρ1)) (h2 : noMt ρ1 own = true) (h3 : lcGo t own c e ds (wipeE ρ1 own) = .ok (zs, ρ2)) : mLc mi t own c e ρ = .ok (.lst zs, restE ρ1 ρ2 own) := by
  unfold mLc
  rw [h1]
  simp only [bind_ok]
  rw [h2]
  simp only
  rw [h3]
/-! ### likeness -/
def srt : Dv → Int
  | .non => 0
  | .bl _ => 1
  | .int _ => 2
  | .str _ => 3
  | .tup _ => 4
  | .lst _ => 5
  | _ => 6
theorem sort_ok {d : Dv} (h : isP d = true) : r__law_sort [d] = .ok (.int (srt d)) := by
  cases d <;> first | rfl | cases h
mutual
def likeB : Dv → Dv → Bool
  | .non, .non => true
  | .bl a, .bl b => a == b
  | .int i, .int j => i == j
  | .str x, .str y => x == y
  | .lst xs, .lst ys => likeBs xs ys
  | .tup xs, .tup ys => likeBs xs ys
  | _, _ => false
def likeBs : List Dv → List Dv → Bool
  | [], [] => true
  | x :: xs, y :: ys => likeB x y && likeBs xs ys
  | _, _ => false
end
theorem isPs_mem : ∀ {ds : List Dv} {d : Dv}, isPs ds = true → d ∈ ds → isP d = true
  | e :: ds, d, h, hd => by
    simp only [isPs, Bool.and_eq_true] at h
    rcases List.mem_cons.mp hd with rfl | hd
    · exact h.1
    · exact isPs_mem h.2 hd
theorem deps_mem : ∀ {ds : List Dv} {d : Dv}, d ∈ ds → dep d ≤ deps ds
  | e :: ds, d, hd => by
    simp only [deps]
    rcases List.mem_cons.mp hd with rfl | hd
    · omega
    · have := deps_mem hd; omega
def unl (p : Dv × Dv) : Option Dv := if likeB p.1 p.2 then none else some (.int 1)
theorem isPs_unl : ∀ l : List (Dv × Dv), isPs (l.filterMap unl) = true ∧ deps (l.filterMap unl) = 0
  | [] => ⟨rfl, rfl⟩
  | p :: l => by
    obtain ⟨h1, h2⟩ := isPs_unl l
    unfold unl at h1 h2
    rw [List.filterMap_cons]
    unfold unl
    split
    · exact ⟨h1, h2⟩
    · rename_i b e
      split at e
      · cases e
      · cases e
        exact ⟨by simp only [isPs, isP, Bool.true_and]; exact h1, by simp only [deps, dep]; omega⟩
theorem likeBs_zip : ∀ l m : List Dv, l.length = m.length → eqDs ((l.zip m).filterMap unl) [] = likeBs l m
  | [], [], _ => rfl
  | [], _ :: _, h => by simp at h
  | _ :: _, [], h => by simp at h
  | a :: l, b :: m, h => by
    have ih := likeBs_zip l m (by simpa using h)
    rw [List.zip_cons_cons, List.filterMap_cons]
    simp only [likeBs]
    unfold unl at ih ⊢
    simp only
    cases e : likeB a b with
    | true => simp only [if_true]; rw [Bool.true_and]; exact ih
    | false => simp [eqDs]
theorem likeBs_len : ∀ l m : List Dv, l.length ≠ m.length → likeBs l m = false
  | [], [], h => absurd rfl h
  | [], _ :: _, _ => rfl
  | _ :: _, [], _ => rfl
  | a :: l, b :: m, h => by
    simp only [likeBs]
    rw [likeBs_len l m (by simpa using h), Bool.and_false]
/-- the heart of likeness: two rows -/
theorem like_rows {rec : List Dv → Rs Dv} {xs ys : List Dv} (k : List Dv → Dv) (hk : k = .tup ∨ k = .lst) (hr : ∀ a b, (a, b) ∈ xs.zip ys → rec [a, b] = .ok (.bl (likeB a b))) : runV 3 (m__law_like rec) [k xs, k ys] = .ok (.bl (likeBs xs ys)) := by
  have step : ∀ n : Int, lcGo (.tp [(.nm 3), (.nm 4)]) [3, 4] (bNot (bOf (mCall rec [(mVar 3), (mVar 4)]))) (mC (.int 1)) (zipD xs ys) [.val (k xs), .val (k ys), .val (.int n), .no, .no] = .ok ((xs.zip ys).filterMap unl, [.val (k xs), .val (k ys), .val (.int n), .no, .no]) := fun n => by
    have := lcGo_zip (t := .tp [(.nm 3), (.nm 4)]) (own := [3, 4]) (c := bNot (bOf (mCall rec [(mVar 3), (mVar 4)]))) (e := mC (.int 1)) (ρ := [.val (k xs), .val (k ys), .val (.int n), .no, .no]) (g := fun a b => unl (a, b)) (l := xs) (m := ys) fun a b h => by
      have e := hr a b h
      cases e2 : likeB a b <;> simp [lcOne, e, e2, unl]
    exact this
  obtain ⟨p1, p2⟩ := isPs_unl (xs.zip ys)
  have eqz : fEq [.lst ((xs.zip ys).filterMap unl), .lst []] = some (.bl (eqDs ((xs.zip ys).filterMap unl) [])) := f_eqP p1 rfl (by simp [dep, p2, deps])
  have inz : fIn [.int 4, .tup [.int 4, .int 5]] = some (.bl true) := rfl
  have inz5 : fIn [.int 5, .tup [.int 4, .int 5]] = some (.bl true) := rfl
  have srt4 : ∀ ds, r__law_sort [.tup ds] = .ok (.int 4) := fun _ => rfl
  have srt5 : ∀ ds, r__law_sort [.lst ds] = .ok (.int 5) := fun _ => rfl
  by_cases hl : xs.length = ys.length
  · have ez := likeBs_zip xs ys hl
    rcases hk with rfl | rfl
    · have lc := mLc_of (mi := mIt itZ [mVar 0, mVar 1]) (ρ := [.val (.tup xs), .val (.tup ys), .val (.int 4), .no, .no]) (ρ1 := [.val (.tup xs), .val (.tup ys), .val (.int 4), .no, .no]) (own := [3, 4]) rfl rfl (step 4)
      simp [runV, m__law_like, srt4, inz, hl, lc, eqz, ez, ends]
    · have lc := mLc_of (mi := mIt itZ [mVar 0, mVar 1]) (ρ := [.val (.lst xs), .val (.lst ys), .val (.int 5), .no, .no]) (ρ1 := [.val (.lst xs), .val (.lst ys), .val (.int 5), .no, .no]) (own := [3, 4]) rfl rfl (step 5)
      simp [runV, m__law_like, srt5, inz5, hl, lc, eqz, ez, ends]
  · have ez := likeBs_len xs ys hl
    have hl' : ((xs.length : Int) == (ys.length : Int)) = false := by
      rw [beq_eq_false_iff_ne]
      omega
    rcases hk with rfl | rfl
    · simp [runV, m__law_like, srt4, inz, hl', ez, ends]
    · simp [runV, m__law_like, srt5, inz5, hl', ez, ends]
theorem s0 : r__law_sort [.non] = .ok (.int 0) := rfl
theorem s1 {b : Bool} : r__law_sort [.bl b] = .ok (.int 1) := rfl
theorem s2 {b : Int} : r__law_sort [.int b] = .ok (.int 2) := rfl
theorem s3 {b : List Nat} : r__law_sort [.str b] = .ok (.int 3) := rfl
theorem s4 {b : List Dv} : r__law_sort [.tup b] = .ok (.int 4) := rfl
theorem s5 {b : List Dv} : r__law_sort [.lst b] = .ok (.int 5) := rfl
theorem fin0 : fIn [.int 0, .tup [.int 4, .int 5]] = some (.bl false) := rfl
theorem fin1 : fIn [.int 1, .tup [.int 4, .int 5]] = some (.bl false) := rfl
theorem fin2 : fIn [.int 2, .tup [.int 4, .int 5]] = some (.bl false) := rfl
theorem fin3 : fIn [.int 3, .tup [.int 4, .int 5]] = some (.bl false) := rfl
theorem fin4 : fIn [.int 4, .tup [.int 4, .int 5]] = some (.bl true) := rfl
theorem fin5 : fIn [.int 5, .tup [.int 4, .int 5]] = some (.bl true) := rfl
theorem eqNN : fEq [.non, .non] = some (.bl true) := rfl
theorem like_ok : ∀ (n : Nat) (a b : Dv), isP a = true → isP b = true → dep a < n → r__law_like n [a, b] = .ok (.bl (likeB a b))
  | 0, _, _, _, _, h => absurd h (Nat.not_lt_zero _)
  | n + 1, .tup xs, .tup ys, ha, hb, hn => by
    refine like_rows (k := .tup) (.inl rfl) fun a b h => like_ok n a b (isPs_mem ha (List.of_mem_zip h).1) (isPs_mem hb (List.of_mem_zip h).2) ?_
    have := deps_mem (List.of_mem_zip h).1
    simp only [dep] at hn
    omega
  | n + 1, .lst xs, .lst ys, ha, hb, hn => by
    refine like_rows (k := .lst) (.inr rfl) fun a b h => like_ok n a b (isPs_mem ha (List.of_mem_zip h).1) (isPs_mem hb (List.of_mem_zip h).2) ?_
    have := deps_mem (List.of_mem_zip h).1
    simp only [dep] at hn
    omega
  | n + 1, .non, b, ha, hb, hn => by cases b <;> first | (cases hb; done) | simp [r__law_like, runV, m__law_like, s0, s1, s2, s3, s4, s5, ends, likeB, fin4, fin5, fin3, fin2, fin1, fin0, eqNN]
  | n + 1, .bl x, b, ha, hb, hn => by cases b <;> first | (cases hb; done) | simp [r__law_like, runV, m__law_like, s0, s1, s2, s3, s4, s5, ends, likeB, fin4, fin5, fin3, fin2, fin1, fin0]
  | n + 1, .int x, b, ha, hb, hn => by cases b <;> first | (cases hb; done) | simp [r__law_like, runV, m__law_like, s0, s1, s2, s3, s4, s5, ends, likeB, fin4, fin5, fin3, fin2, fin1, fin0]
  | n + 1, .str x, b, ha, hb, hn => by cases b <;> first | (cases hb; done) | simp [r__law_like, runV, m__law_like, s0, s1, s2, s3, s4, s5, ends, likeB, fin4, fin5, fin3, fin2, fin1, fin0]
  | n + 1, .tup xs, .non, ha, hb, hn => by simp [r__law_like, runV, m__law_like, s0, s1, s2, s3, s4, s5, ends, likeB]
  | n + 1, .tup xs, .bl _, ha, hb, hn => by simp [r__law_like, runV, m__law_like, s0, s1, s2, s3, s4, s5, ends, likeB]
  | n + 1, .tup xs, .int _, ha, hb, hn => by simp [r__law_like, runV, m__law_like, s0, s1, s2, s3, s4, s5, ends, likeB]
  | n + 1, .tup xs, .str _, ha, hb, hn => by simp [r__law_like, runV, m__law_like, s0, s1, s2, s3, s4, s5, ends, likeB]
  | n + 1, .tup xs, .lst _, ha, hb, hn => by simp [r__law_like, runV, m__law_like, s0, s1, s2, s3, s4, s5, ends, likeB]
  | n + 1, .lst xs, .non, ha, hb, hn => by simp [r__law_like, runV, m__law_like, s0, s1, s2, s3, s4, s5, ends, likeB]
  | n + 1, .lst xs, .bl _, ha, hb, hn => by simp [r__law_like, runV, m__law_like, s0, s1, s2, s3, s4, s5, ends, likeB]
  | n + 1, .lst xs, .int _, ha, hb, hn => by simp [r__law_like, runV, m__law_like, s0, s1, s2, s3, s4, s5, ends, likeB]
  | n + 1, .lst xs, .str _, ha, hb, hn => by simp [r__law_like, runV, m__law_like, s0, s1, s2, s3, s4, s5, ends, likeB]
  | n + 1, .lst xs, .tup _, ha, hb, hn => by simp [r__law_like, runV, m__law_like, s0, s1, s2, s3, s4, s5, ends, likeB]
mutual
theorem likeB_refl : ∀ d : Dv, isP d = true → likeB d d = true
  | .non, _ => rfl
  | .bl b, _ => by simp [likeB]
  | .int b, _ => by simp [likeB]
  | .str b, _ => by simp [likeB]
  | .tup xs, h => likeBs_refl xs h
  | .lst xs, h => likeBs_refl xs h
theorem likeBs_refl : ∀ ds : List Dv, isPs ds = true → likeBs ds ds = true
  | [], _ => rfl
  | d :: ds, h => by
    simp only [isPs, Bool.and_eq_true] at h
    simp only [likeBs]
    rw [likeB_refl d h.1, likeBs_refl ds h.2]
    rfl
end
/-- the same is alike -/
theorem like_same {n : Nat} {a b : Dv} (e : a = b) (h : isP a = true) (hn : dep a < n) : r__law_like n [a, b] = .ok (.bl true) := by
  subst e
  rw [like_ok n a a h h hn, likeB_refl a h]
end PL

/-! # the cup -/
namespace PL
open VL
@[simp] theorem ix0 {α : Type} {x : α} {l : List α} : ixD (x :: l) 0 = some x := rfl
@[simp] theorem ix1 {α : Type} {x y : α} {l : List α} : ixD (x :: y :: l) 1 = some y := rfl
def Cup (c : Dv) : Prop := ∃ a b : Int, c = .lst [.int a, .int b] ∧ 0 ≤ a ∧ 0 ≤ b
def kIx (i : Nat) (r : Rs (Dv × En)) (mi : M) : Rs Fl := r >>= fun x => getSl x.2 i >>= fun _ => mi x.2 >>= fun y => match slL y.2 i, y.1 with
  | some (io, ds), .int k => match ixN2 ds.length k with
    | some j => .ok (.nx (y.2.set i (.mt io false (.lst (ds.set j x.1)))))
    | none => .bad
  | _, _ => .bad
@[simp] theorem e_six {i : Nat} {me mi : M} {ρ : En} : sSetIx i me mi ρ = kIx i (me ρ) mi := rfl
theorem six_of {i : Nat} {mi : M} {ρ : En} {d : Dv} {io : Bool} {ds : List Dv} {k : Int} {j : Nat} (h0 : ρ[i]? = some (.mt io false (.lst ds))) (h1 : mi ρ = .ok (.int k, ρ)) (h2 : ixN2 ds.length k = some j) : kIx i (.ok (d, ρ)) mi = .ok (.nx (ρ.set i (.mt io false (.lst (ds.set j d))))) := by
  unfold kIx
  simp only [bind_ok, getSl, h0, h1, slL, h2]
theorem roll_ok {c : Dv} (h : Cup c) {n : Int} (hn : 0 < n) (h2 : n < 18446744073709551616) : ∃ k c', r__law_roll c [.int n] = .ok (.int k, c') ∧ 0 ≤ k ∧ k < n ∧ Cup c' := by
  obtain ⟨a, b, rfl, ha, hb⟩ := h
  by_cases h0 : 0 < a
  · refine ⟨a % n, .lst [.int (a / n), .int b], ?_, Int.emod_nonneg _ (by omega), Int.emod_lt_of_pos _ hn, a / n, b, rfl, Int.ediv_nonneg ha (by omega), hb⟩
    have st : ∀ ρ1 d, (kIx 0 (.ok (d, .mt true false (.lst [.int a, .int b]) :: ρ1)) (mC (.int 0))) = .ok (.nx (.mt true false (.lst [d, .int b]) :: ρ1)) := fun ρ1 d => six_of (ds := [.int a, .int b]) (j := 0) rfl rfl rfl
    simp [r__law_roll, runIO, m__law_roll, h0, hn, h2, endsIO, st, List.replicate]
  · obtain ⟨b1, e1⟩ : ∃ b1, (b * 31051 + 7993) % 2147483543 = b1 := ⟨_, rfl⟩
    have hb0 : 0 ≤ b1 := by rw [← e1]; exact Int.emod_nonneg _ (by decide)
    have hb1 : b1 < 2147483543 := by rw [← e1]; exact Int.emod_lt_of_pos _ (by decide)
    refine ⟨((b1 * (b1 + 229)) % 2147483587 / 821) % n, .lst [.int a, .int b1], ?_, Int.emod_nonneg _ (by omega), Int.emod_lt_of_pos _ hn, a, b1, rfl, ha, hb0⟩
    have st : ∀ ρ1 d, (kIx 0 (.ok (d, .mt true false (.lst [.int a, .int b]) :: ρ1)) (mC (.int 1))) = .ok (.nx (.mt true false (.lst [.int a, d]) :: ρ1)) := fun ρ1 d => six_of (ds := [.int a, .int b]) (j := 1) rfl rfl rfl
    have hm : b1.natAbs < 18446744073709551616 := by omega
    simp [r__law_roll, runIO, m__law_roll, h0, hn, h2, endsIO, st, List.replicate, e1, hm]
theorem cup_ok (ns : List Int) (hl : ns.length ≤ 63) : ∃ c, r__law_cup [.scr ns] = .ok c ∧ Cup c := by
  obtain ⟨x, r, e⟩ : ∃ x r, ns.map Dv.int ++ [.int 0] = Dv.int x :: r := by
    cases ns with
    | nil => exact ⟨0, [], rfl⟩
    | cons x r => exact ⟨x, _, rfl⟩
  let a : Int := if x < 0 then -x else x
  have ha : 0 ≤ a := by show 0 ≤ (if x < 0 then -x else x); split <;> omega
  have hl2 : ns.length + 1 ≤ 16777216 := by omega
  refine ⟨.lst [.int (if 10 ^ 18 ≤ a then a / 73 else 0), .int ((a * 283 + 3907) % 2077503167 + 167)], ?_, _, _, rfl, ?_, ?_⟩
  · have hx : (if x < 0 then -x else x) = a := rfl
    by_cases hc : (1000000000000000000 : Int) ≤ a
    · simp [r__law_cup, runN, m__law_cup, hl2, e, hx, hc]
    · simp [r__law_cup, runN, m__law_cup, hl2, e, hx, hc]
  · split
    · exact Int.ediv_nonneg ha (by decide)
    · exact Int.le_refl 0
  · have : 0 ≤ (a * 283 + 3907) % 2077503167 := Int.emod_nonneg _ (by decide)
    omega
end PL

/-! # more of what laws share -/
namespace PL
open VL
@[simp] theorem isi_N_int  : fIsi [.non, .ty "int"] = some (.bl false) := by
  show (isiT.lookup ("NoneType", "int")).map Dv.bl = _
  rw [show isiT.lookup ("NoneType", "int") = some false by decide +kernel]
  rfl
@[simp] theorem isi_N_bool  : fIsi [.non, .ty "bool"] = some (.bl false) := by
  show (isiT.lookup ("NoneType", "bool")).map Dv.bl = _
  rw [show isiT.lookup ("NoneType", "bool") = some false by decide +kernel]
  rfl
@[simp] theorem isi_N_str  : fIsi [.non, .ty "str"] = some (.bl false) := by
  show (isiT.lookup ("NoneType", "str")).map Dv.bl = _
  rw [show isiT.lookup ("NoneType", "str") = some false by decide +kernel]
  rfl
@[simp] theorem isi_N_tuple  : fIsi [.non, .ty "tuple"] = some (.bl false) := by
  show (isiT.lookup ("NoneType", "tuple")).map Dv.bl = _
  rw [show isiT.lookup ("NoneType", "tuple") = some false by decide +kernel]
  rfl
@[simp] theorem isi_N_list  : fIsi [.non, .ty "list"] = some (.bl false) := by
  show (isiT.lookup ("NoneType", "list")).map Dv.bl = _
  rw [show isiT.lookup ("NoneType", "list") = some false by decide +kernel]
  rfl
@[simp] theorem isi_B_int {b : Bool} : fIsi [.bl b, .ty "int"] = some (.bl true) := by
  show (isiT.lookup ("bool", "int")).map Dv.bl = _
  rw [show isiT.lookup ("bool", "int") = some true by decide +kernel]
  rfl
@[simp] theorem isi_B_bool {b : Bool} : fIsi [.bl b, .ty "bool"] = some (.bl true) := by
  show (isiT.lookup ("bool", "bool")).map Dv.bl = _
  rw [show isiT.lookup ("bool", "bool") = some true by decide +kernel]
  rfl
@[simp] theorem isi_B_str {b : Bool} : fIsi [.bl b, .ty "str"] = some (.bl false) := by
  show (isiT.lookup ("bool", "str")).map Dv.bl = _
  rw [show isiT.lookup ("bool", "str") = some false by decide +kernel]
  rfl
@[simp] theorem isi_B_tuple {b : Bool} : fIsi [.bl b, .ty "tuple"] = some (.bl false) := by
  show (isiT.lookup ("bool", "tuple")).map Dv.bl = _
  rw [show isiT.lookup ("bool", "tuple") = some false by decide +kernel]
  rfl
@[simp] theorem isi_B_list {b : Bool} : fIsi [.bl b, .ty "list"] = some (.bl false) := by
  show (isiT.lookup ("bool", "list")).map Dv.bl = _
  rw [show isiT.lookup ("bool", "list") = some false by decide +kernel]
  rfl
@[simp] theorem isi_I_int {b : Int} : fIsi [.int b, .ty "int"] = some (.bl true) := by
  show (isiT.lookup ("int", "int")).map Dv.bl = _
  rw [show isiT.lookup ("int", "int") = some true by decide +kernel]
  rfl
@[simp] theorem isi_I_bool {b : Int} : fIsi [.int b, .ty "bool"] = some (.bl false) := by
  show (isiT.lookup ("int", "bool")).map Dv.bl = _
  rw [show isiT.lookup ("int", "bool") = some false by decide +kernel]
  rfl
@[simp] theorem isi_I_str {b : Int} : fIsi [.int b, .ty "str"] = some (.bl false) := by
  show (isiT.lookup ("int", "str")).map Dv.bl = _
  rw [show isiT.lookup ("int", "str") = some false by decide +kernel]
  rfl
@[simp] theorem isi_I_tuple {b : Int} : fIsi [.int b, .ty "tuple"] = some (.bl false) := by
  show (isiT.lookup ("int", "tuple")).map Dv.bl = _
  rw [show isiT.lookup ("int", "tuple") = some false by decide +kernel]
  rfl
@[simp] theorem isi_I_list {b : Int} : fIsi [.int b, .ty "list"] = some (.bl false) := by
  show (isiT.lookup ("int", "list")).map Dv.bl = _
  rw [show isiT.lookup ("int", "list") = some false by decide +kernel]
  rfl
@[simp] theorem isi_S_int {b : List Nat} : fIsi [.str b, .ty "int"] = some (.bl false) := by
  show (isiT.lookup ("str", "int")).map Dv.bl = _
  rw [show isiT.lookup ("str", "int") = some false by decide +kernel]
  rfl
@[simp] theorem isi_S_bool {b : List Nat} : fIsi [.str b, .ty "bool"] = some (.bl false) := by
  show (isiT.lookup ("str", "bool")).map Dv.bl = _
  rw [show isiT.lookup ("str", "bool") = some false by decide +kernel]
  rfl
@[simp] theorem isi_S_str {b : List Nat} : fIsi [.str b, .ty "str"] = some (.bl true) := by
  show (isiT.lookup ("str", "str")).map Dv.bl = _
  rw [show isiT.lookup ("str", "str") = some true by decide +kernel]
  rfl
@[simp] theorem isi_S_tuple {b : List Nat} : fIsi [.str b, .ty "tuple"] = some (.bl false) := by
  show (isiT.lookup ("str", "tuple")).map Dv.bl = _
  rw [show isiT.lookup ("str", "tuple") = some false by decide +kernel]
  rfl
@[simp] theorem isi_S_list {b : List Nat} : fIsi [.str b, .ty "list"] = some (.bl false) := by
  show (isiT.lookup ("str", "list")).map Dv.bl = _
  rw [show isiT.lookup ("str", "list") = some false by decide +kernel]
  rfl
@[simp] theorem isi_T_int {b : List Dv} : fIsi [.tup b, .ty "int"] = some (.bl false) := by
  show (isiT.lookup ("tuple", "int")).map Dv.bl = _
  rw [show isiT.lookup ("tuple", "int") = some false by decide +kernel]
  rfl
@[simp] theorem isi_T_bool {b : List Dv} : fIsi [.tup b, .ty "bool"] = some (.bl false) := by
  show (isiT.lookup ("tuple", "bool")).map Dv.bl = _
  rw [show isiT.lookup ("tuple", "bool") = some false by decide +kernel]
  rfl
@[simp] theorem isi_T_str {b : List Dv} : fIsi [.tup b, .ty "str"] = some (.bl false) := by
  show (isiT.lookup ("tuple", "str")).map Dv.bl = _
  rw [show isiT.lookup ("tuple", "str") = some false by decide +kernel]
  rfl
@[simp] theorem isi_T_tuple {b : List Dv} : fIsi [.tup b, .ty "tuple"] = some (.bl true) := by
  show (isiT.lookup ("tuple", "tuple")).map Dv.bl = _
  rw [show isiT.lookup ("tuple", "tuple") = some true by decide +kernel]
  rfl
@[simp] theorem isi_T_list {b : List Dv} : fIsi [.tup b, .ty "list"] = some (.bl false) := by
  show (isiT.lookup ("tuple", "list")).map Dv.bl = _
  rw [show isiT.lookup ("tuple", "list") = some false by decide +kernel]
  rfl
@[simp] theorem isi_L_int {b : List Dv} : fIsi [.lst b, .ty "int"] = some (.bl false) := by
  show (isiT.lookup ("list", "int")).map Dv.bl = _
  rw [show isiT.lookup ("list", "int") = some false by decide +kernel]
  rfl
@[simp] theorem isi_L_bool {b : List Dv} : fIsi [.lst b, .ty "bool"] = some (.bl false) := by
  show (isiT.lookup ("list", "bool")).map Dv.bl = _
  rw [show isiT.lookup ("list", "bool") = some false by decide +kernel]
  rfl
@[simp] theorem isi_L_str {b : List Dv} : fIsi [.lst b, .ty "str"] = some (.bl false) := by
  show (isiT.lookup ("list", "str")).map Dv.bl = _
  rw [show isiT.lookup ("list", "str") = some false by decide +kernel]
  rfl
@[simp] theorem isi_L_tuple {b : List Dv} : fIsi [.lst b, .ty "tuple"] = some (.bl false) := by
  show (isiT.lookup ("list", "tuple")).map Dv.bl = _
  rw [show isiT.lookup ("list", "tuple") = some false by decide +kernel]
  rfl
@[simp] theorem isi_L_list {b : List Dv} : fIsi [.lst b, .ty "list"] = some (.bl true) := by
  show (isiT.lookup ("list", "list")).map Dv.bl = _
  rw [show isiT.lookup ("list", "list") = some true by decide +kernel]
  rfl
@[simp] theorem isi_C_int {b : List Int} : fIsi [.scr b, .ty "int"] = some (.bl false) := by
  show (isiT.lookup ("list", "int")).map Dv.bl = _
  rw [show isiT.lookup ("list", "int") = some false by decide +kernel]
  rfl
@[simp] theorem isi_C_bool {b : List Int} : fIsi [.scr b, .ty "bool"] = some (.bl false) := by
  show (isiT.lookup ("list", "bool")).map Dv.bl = _
  rw [show isiT.lookup ("list", "bool") = some false by decide +kernel]
  rfl
@[simp] theorem isi_C_str {b : List Int} : fIsi [.scr b, .ty "str"] = some (.bl false) := by
  show (isiT.lookup ("list", "str")).map Dv.bl = _
  rw [show isiT.lookup ("list", "str") = some false by decide +kernel]
  rfl
@[simp] theorem isi_C_tuple {b : List Int} : fIsi [.scr b, .ty "tuple"] = some (.bl false) := by
  show (isiT.lookup ("list", "tuple")).map Dv.bl = _
  rw [show isiT.lookup ("list", "tuple") = some false by decide +kernel]
  rfl
@[simp] theorem isi_C_list {b : List Int} : fIsi [.scr b, .ty "list"] = some (.bl true) := by
  show (isiT.lookup ("list", "list")).map Dv.bl = _
  rw [show isiT.lookup ("list", "list") = some true by decide +kernel]
  rfl
theorem bols_map {α : Type} (p : α → Bool) : ∀ u : List α, bolsD (u.map fun a => .bl (p a)) = some (u.map p)
  | [] => rfl
  | a :: u => by
    show (bolsD (u.map fun a => .bl (p a))).map (p a :: ·) = _
    rw [bols_map p u]
    rfl
theorem ints_map {α : Type} (p : α → Int) : ∀ u : List α, intsD (u.map fun a => .int (p a)) = some (u.map p)
  | [] => rfl
  | a :: u => by
    show (intsD (u.map fun a => .int (p a))).map (p a :: ·) = _
    rw [ints_map p u]
    rfl
theorem strs_map {α : Type} (p : α → List Nat) : ∀ u : List α, strsD (u.map fun a => .str (p a)) = some (u.map p)
  | [] => rfl
  | a :: u => by
    show (strsD (u.map fun a => .str (p a))).map (p a :: ·) = _
    rw [strs_map p u]
    rfl
theorem join_one {α : Type} (p : α → Nat) : ∀ u : List α, TL.joinL [] (u.map fun a => [p a]) = u.map p
  | [] => rfl
  | [a] => rfl
  | a :: b :: u => by
    show [p a] ++ ([] ++ TL.joinL [] ((b :: u).map fun a => [p a])) = _
    rw [join_one p (b :: u)]
    rfl
theorem joinOk_one {α : Type} (p : α → Nat) (u : List α) (h : u.length ≤ 16777216) : joinOk [] (u.map fun a => [p a]) = true := by
  unfold joinOk
  rw [decide_eq_true_eq, List.map_map]
  have : ((fun x : List Nat => x.length) ∘ fun a => [p a]) = fun _ : α => 1 := rfl
  rw [this]
  simp
  have : ∀ l : List α, (l.map fun _ => 1).sum = l.length := fun l => by induction l with
    | nil => rfl
    | cons a l ih => simp [ih]; omega
  rw [this]
  exact h
/-- ''.join of single signs -/
theorem f_join1 {α : Type} (p : α → Nat) (u : List α) (h : u.length ≤ 16777216) : fJoin [.str [], .lst (u.map fun a => .str [p a])] = some (.str (u.map p)) := by
  show fJoinL _ _ = _
  unfold fJoinL
  rw [strs_map (fun a => [p a]) u]
  simp only
  rw [if_pos (joinOk_one p u h), join_one]
theorem f_all {α : Type} (p : α → Bool) (u : List α) : fAll [.lst (u.map fun a => .bl (p a))] = some (.bl (u.all p)) := by
  show (bolsD _).map _ = _
  rw [bols_map p u]
  simp
theorem f_sum {α : Type} (p : α → Int) (u : List α) : fSum [.lst (u.map fun a => .int (p a))] = some (.int (u.map p).sum) := by
  show (intsD _).map _ = _
  rw [ints_map p u]
  rfl
section
variable {t : Tg} {own : List Nat} {c : MT} {e : M} {ρ : En}
theorem lcGo_sgm {g : Nat → Dv} {l : List Nat} (h : ∀ a ∈ l, lcOne t own c e (.str [a]) ρ = .ok (some (g a), ρ)) : lcGo t own c e (l.map fun c => .str [c]) ρ = .ok (l.map g, ρ) := by
  have := lcGo_sg (g := fun a => some (g a)) h
  rwa [show (l.filterMap fun a => some (g a)) = l.map g by
    rw [← List.filterMap_eq_map]
    rfl] at this
theorem lcGo_sgf {p : Nat → Bool} {g : Nat → Dv} {l : List Nat} (h : ∀ a ∈ l, lcOne t own c e (.str [a]) ρ = .ok (if p a then some (g a) else none, ρ)) : lcGo t own c e (l.map fun c => .str [c]) ρ = .ok ((l.filter p).map g, ρ) := by
  have := lcGo_sg (g := fun a => if p a then some (g a) else none) h
  rw [show (l.filterMap fun a => if p a then some (g a) else none) = (l.filter p).map g by
    clear this h
    induction l with
    | nil => rfl
    | cons a l ih => cases e : p a <;> simp [e, ih]] at this
  exact this
theorem lcGo_zsm {g : Nat → Nat → Dv} {l m : List Nat} (h : ∀ a b, (a, b) ∈ l.zip m → lcOne t own c e (.tup [.str [a], .str [b]]) ρ = .ok (some (g a b), ρ)) : lcGo t own c e (zipD (l.map fun c => .str [c]) (m.map fun c => .str [c])) ρ = .ok ((l.zip m).map fun p => g p.1 p.2, ρ) := by
  have := lcGo_zsg (g := fun a b => some (g a b)) h
  rwa [show ((l.zip m).filterMap fun p => some (g p.1 p.2)) = (l.zip m).map fun p => g p.1 p.2 by
    rw [← List.filterMap_eq_map]
    rfl] at this
theorem lcGo_zsf {p : Nat → Nat → Bool} {g : Nat → Nat → Dv} {l m : List Nat} (h : ∀ a b, (a, b) ∈ l.zip m → lcOne t own c e (.tup [.str [a], .str [b]]) ρ = .ok (if p a b then some (g a b) else none, ρ)) : lcGo t own c e (zipD (l.map fun c => .str [c]) (m.map fun c => .str [c])) ρ = .ok (((l.zip m).filter fun q => p q.1 q.2).map fun q => g q.1 q.2, ρ) := by
  have := lcGo_zsg (g := fun a b => if p a b then some (g a b) else none) h
  rw [show ((l.zip m).filterMap fun q => if p q.1 q.2 then some (g q.1 q.2) else none) = ((l.zip m).filter fun q => p q.1 q.2).map fun q => g q.1 q.2 by
    clear this h
    induction l.zip m with
    | nil => rfl
    | cons a l ih => cases e : p a.1 a.2 <;> simp [e, ih]] at this
  exact this
theorem lcGo_map {g : Dv → Dv} {ds : List Dv} (h : ∀ d ∈ ds, lcOne t own c e d ρ = .ok (some (g d), ρ)) : lcGo t own c e ds ρ = .ok (ds.map g, ρ) := by
  have := lcGo_all (g := fun d => some (g d)) h
  rwa [show (ds.filterMap fun a => some (g a)) = ds.map g by
    rw [← List.filterMap_eq_map]
    rfl] at this
theorem lcGo_none {ds : List Dv} (h : ∀ d ∈ ds, lcOne t own c e d ρ = .ok (none, ρ)) : lcGo t own c e ds ρ = .ok ([], ρ) := by
  have := lcGo_all (g := fun d => none) h
  rwa [show (ds.filterMap fun a => (none : Option Dv)) = [] by
    clear this h
    induction ds with
    | nil => rfl
    | cons a l ih => simp] at this
end
end PL

/-! # drawing -/
namespace PL
open VL
/-- a comprehension that draws: the cup in a slot -/
theorem lcGo_io {t : Tg} {own : List Nat} {c : MT} {e : M} {E : Dv → En} {α : Type} {P : α → Prop} {g : α → Dv} : ∀ {ds : List Dv} {c0 : Dv}, Cup c0 → (∀ c1, Cup c1 → ∀ d ∈ ds, ∃ a c2, Cup c2 ∧ P a ∧ lcOne t own c e d (E c1) = .ok (some (g a), E c2)) →
    ∃ (us : List α) (c2 : Dv), Cup c2 ∧ us.length = ds.length ∧ (∀ u ∈ us, P u) ∧ lcGo t own c e ds (E c0) = .ok (us.map g, E c2)
  | [], c0, hc, _ => ⟨[], c0, hc, rfl, fun u h => by simp at h, rfl⟩
  | d :: ds, c0, hc, h => by
    obtain ⟨a, c1, h1, hp, e1⟩ := h c0 hc d (by simp)
    obtain ⟨us, c2, h2, hl, hps, e2⟩ := lcGo_io (ds := ds) h1 fun c' hc' x hx => h c' hc' x (List.mem_cons_of_mem _ hx)
    refine ⟨a :: us, c2, h2, by simp [hl], fun u hu => ?_, ?_⟩
    · rcases List.mem_cons.mp hu with rfl | hu
      · exact hp
      · exact hps u hu
    · rw [lcGo_one e1 e2]
      rfl
theorem ixD_nat {α : Type} {l : List α} {k : Int} (h0 : 0 ≤ k) (h1 : k < (l.length : Nat)) : ∃ a ∈ l, ixD l k = some a := by
  have hk : k.toNat < l.length := by omega
  refine ⟨l[k.toNat], List.getElem_mem hk, ?_⟩
  unfold ixD
  rw [if_pos h0, List.getElem?_eq_getElem hk]
theorem someS_ok {c : Dv} (h : Cup c) {l : List Nat} (hl : l ≠ []) (hz : l.length ≤ 16777216) : ∃ a c', a ∈ l ∧ Cup c' ∧ r__law_some c [.str l] = .ok (.str [a], c') := by
  have h0 : 0 < l.length := by
    cases l with
    | nil => exact absurd rfl hl
    | cons _ _ => simp
  obtain ⟨k, c', e, hk0, hk1, hc'⟩ := roll_ok h (n := (l.length : Nat)) (by omega) (by omega)
  obtain ⟨a, ha, e2⟩ := ixD_nat hk0 hk1
  refine ⟨a, c', ha, hc', ?_⟩
  simp [r__law_some, runIO, m__law_some, hz, e, e2, endsIO]
theorem someL_ok {c : Dv} (h : Cup c) {l : List Dv} (hl : l ≠ []) (hz : l.length ≤ 16777216) : ∃ a c', a ∈ l ∧ Cup c' ∧ r__law_some c [.lst l] = .ok (a, c') := by
  have h0 : 0 < l.length := by
    cases l with
    | nil => exact absurd rfl hl
    | cons _ _ => simp
  obtain ⟨k, c', e, hk0, hk1, hc'⟩ := roll_ok h (n := (l.length : Nat)) (by omega) (by omega)
  obtain ⟨a, ha, e2⟩ := ixD_nat hk0 hk1
  refine ⟨a, c', ha, hc', ?_⟩
  simp [r__law_some, runIO, m__law_some, e, e2, endsIO]
theorem someT_ok {c : Dv} (h : Cup c) {l : List Dv} (hl : l ≠ []) (hz : l.length ≤ 16777216) : ∃ a c', a ∈ l ∧ Cup c' ∧ r__law_some c [.tup l] = .ok (a, c') := by
  have h0 : 0 < l.length := by
    cases l with
    | nil => exact absurd rfl hl
    | cons _ _ => simp
  obtain ⟨k, c', e, hk0, hk1, hc'⟩ := roll_ok h (n := (l.length : Nat)) (by omega) (by omega)
  obtain ⟨a, ha, e2⟩ := ixD_nat hk0 hk1
  refine ⟨a, c', ha, hc', ?_⟩
  simp [r__law_some, runIO, m__law_some, e, e2, endsIO]
theorem rng_len (lo : Int) (n : Nat) : (rng lo n).length = n := by simp [rng]
/-- a for that draws, and goes through -/
theorem forGo_io {E : Dv → Sl → En} {t : Tg} {b : SM} : ∀ {ds : List Dv} {c0 : Dv} {s0 : Sl}, Cup c0 → (∀ d ∈ ds, ∀ c1 s, Cup c1 → ∃ c2, Cup c2 ∧ asg t d (E c1 s) = some (E c1 (.val d)) ∧ b (E c1 (.val d)) = .ok (.nx (E c2 (.val d)))) → ∃ c2 s2, Cup c2 ∧ forGo t b ds (E c0 s0) = .ok (.nx (E c2 s2))
  | [], c0, s0, hc, _ => ⟨c0, s0, hc, rfl⟩
  | d :: ds, c0, s0, hc, h => by
    obtain ⟨c1, h1, e1, e2⟩ := h d (by simp) c0 s0 hc
    obtain ⟨c2, s2, h2, e3⟩ := forGo_io (ds := ds) (s0 := .val d) h1 fun x hx => h x (List.mem_cons_of_mem _ hx)
    refine ⟨c2, s2, h2, ?_⟩
    simp only [forGo]
    rw [e1]
    simp only
    rw [e2]
    exact e3
def okB (r : Rs Dv) : Bool := match r with
  | .ok (.bl true) => true
  | _ => false
theorem okB_of {r : Rs Dv} (h : okB r = true) : r = .ok (.bl true) := by
  unfold okB at h
  split at h
  · rfl
  · cases h
end PL

namespace K70
open PySem PySem.Spec PyProof.Rows L2 VL PL
/-! ### what the defs compute -/
abbrev c_LETTERS : Dv := (.str [48, 49, 50])
abbrev c_MOST : Dv := (.int 6)
def m_is_integer : SM := (sRet (mAnd (mOp fIsi [.sl 0, .ex (mC (.ty "int"))]) (mNot (mOp fIsi [.sl 0, .ex (mC (.ty "bool"))]))))
def r_is_integer : List Dv → Rs Dv := runV 0 m_is_integer
def m_is_whole : SM := (sRet (mAnd (mCall r_is_integer [(mVar 0)]) (mChn fLe fLe (mVar 1) (mVar 0) (mVar 2))))
def r_is_whole : List Dv → Rs Dv := runV 0 m_is_whole
def m_need_whole : SM := (sIf (bNot (bOf (mCall r_is_whole [(mVar 0), (mVar 1), (mVar 2)]))) sBad sNil)
def r_need_whole : List Dv → Rs Dv := runV 0 m_need_whole
def m_is_text_of : SM := (sRet (mAnd (mOp fIsi [.sl 0, .ex (mC (.ty "str"))]) (mAnd (mChn fLe fLe (mVar 2) (mOp fLen [.sl 0]) (mVar 3)) (mOp fAll [.ex (mLc (mIt it1 [(mVar 0)]) (.nm 4) [4] bYes (mOp fIn [.sl 4, .sl 1]))]))))
def r_is_text_of : List Dv → Rs Dv := runV 1 m_is_text_of
def m_fits_three : SM := (sRet (mCall r_is_text_of [(mVar 0), (mC c_LETTERS), (mC (.int 1)), (mC c_MOST)]))
def r_fits_three : List Dv → Rs Dv := runV 0 m_fits_three
def m_need_three : SM := (sIf (bNot (bOf (mCall r_fits_three [(mVar 0)]))) sBad sNil)
def r_need_three : List Dv → Rs Dv := runV 0 m_need_three
def m_need_two : SM := (sSeq (sDrop (mCall r_need_three [(mVar 0)])) (sIf (bOr (bNot (bOf (mCall r_fits_three [(mVar 1)]))) (bOf (mOp fNe [.ex (mOp fLen [.sl 1]), .ex (mOp fLen [.sl 0])]))) sBad sNil))
def r_need_two : List Dv → Rs Dv := runV 0 m_need_two
def m_sum_in_three : SM := (sRet (mOp fJoin [.ex (mStr (mC (.str []))), .ex (mLc (mIt itZ [(mVar 0), (mVar 1)]) (.tp [(.nm 2), (.nm 3)]) [2, 3] bYes (mOp fStrI [.ex (mOp fMod [.ex (mOp fAdd [.ex (mOp fInt [.sl 2]), .ex (mOp fInt [.sl 3])]), .ex (mC (.int 3))])]))]))
def r_sum_in_three : List Dv → Rs Dv := runV 2 m_sum_in_three
def m_times_in_three : SM := (sRet (mOp fJoin [.ex (mStr (mC (.str []))), .ex (mLc (mIt it1 [(mVar 0)]) (.nm 2) [2] bYes (mOp fStrI [.ex (mOp fMod [.ex (mOp fTimes [.ex (mOp fInt [.sl 2]), .sl 1]), .ex (mC (.int 3))])]))]))
def r_times_in_three : List Dv → Rs Dv := runV 1 m_times_in_three
def m_far_in_three : SM := (sRet (mOp fLen [.ex (mLc (mIt itZ [(mVar 0), (mVar 1)]) (.tp [(.nm 2), (.nm 3)]) [2, 3] (bOf (mOp fNe [.sl 2, .sl 3])) (mC (.int 1)))]))
def r_far_in_three : List Dv → Rs Dv := runV 2 m_far_in_three
def m_cross_in : SM := (sRet (mOp fEq [.ex (mOp fMod [.ex (mOp fSum [.ex (mLc (mIt itZ [(mVar 0), (mVar 1)]) (.tp [(.nm 2), (.nm 3)]) [2, 3] bYes (mOp fTimes [.ex (mOp fInt [.sl 2]), .ex (mOp fInt [.sl 3])]))]), .ex (mC (.int 3))]), .ex (mC (.int 0))]))
def r_cross_in : List Dv → Rs Dv := runV 2 m_cross_in
def m_all_three : SM := (sSeq (sSetN 1 (mLst [(mC (.str []))])) (sSeq (sFor (mIt itR1 [(mVar 0)]) (.nm 2) (sSetN 1 (mLc2 (mIt it1 [(mVar 1)]) (.nm 3) [3, 4] (mIt it1 [(mC c_LETTERS)]) (.nm 4) [4] (mOp fAdd [.sl 3, .sl 4])))) (sRet (mVar 1))))
def r_all_three : List Dv → Rs Dv := runV 4 m_all_three
def m_is_three_word : SM := (sRet (mCall r_fits_three [(mVar 0)]))
def r_is_three_word : List Dv → Rs Dv := runV 0 m_is_three_word
def m_three_weight : SM := (sSeq (sDrop (mCall r_need_three [(mVar 0)])) (sRet (mOp fSub [.ex (mOp fLen [.sl 0]), .ex (mOp fCount [.ex (mStr (mVar 0)), .ex (mC (.str [48]))])])))
def r_three_weight : List Dv → Rs Dv := runV 0 m_three_weight
def m_three_sum : SM := (sSeq (sDrop (mCall r_need_two [(mVar 0), (mVar 1)])) (sRet (mCall r_sum_in_three [(mVar 0), (mVar 1)])))
def r_three_sum : List Dv → Rs Dv := runV 0 m_three_sum
def m_three_times : SM := (sSeq (sDrop (mCall r_need_three [(mVar 0)])) (sSeq (sDrop (mCall r_need_whole [(mVar 1), (mC (.int 0)), (mC (.int 2))])) (sRet (mCall r_times_in_three [(mVar 0), (mVar 1)]))))
def r_three_times : List Dv → Rs Dv := runV 0 m_three_times
def m_three_distance : SM := (sSeq (sDrop (mCall r_need_two [(mVar 0), (mVar 1)])) (sRet (mCall r_far_in_three [(mVar 0), (mVar 1)])))
def r_three_distance : List Dv → Rs Dv := runV 0 m_three_distance
def m_do_cross : SM := (sSeq (sDrop (mCall r_need_two [(mVar 0), (mVar 1)])) (sRet (mCall r_cross_in [(mVar 0), (mVar 1)])))
def r_do_cross : List Dv → Rs Dv := runV 0 m_do_cross
def m_three_words : SM := (sSeq (sDrop (mCall r_need_whole [(mVar 0), (mC (.int 1)), (mC c_MOST)])) (sRet (mOp fTup [.ex (mCall r_all_three [(mVar 0)])])))
def r_three_words : List Dv → Rs Dv := runV 0 m_three_words
def m__law_bent (rec : Dv → List Dv → Rs (Dv × Dv)) : SM := (sSeq (sSetN 2 (mLst [(mC .non), (mC (.bl true)), (mC (.int 0)), (mC (.int 1)), (mC (.int 2)), (mOp fNeg [.ex (mC (.int 1))]), (mC (.str [])), (mC (.str [48])), (mC (.str [49])), (mC (.str [48, 49])), (mTup []), (mLst []), (mTup [(mC (.str [48]))]), (mC (.str [50]))])) (sSeq (sIf (bAnd (bOf (mOp fIsi [.sl 1, .ex (mC (.ty "str"))])) (bAnd (bOf (mOp fNe [.sl 1, .ex (mC (.str []))])) (bOf (mOp fEq [.ex (mCallIO r__law_roll 0 [(mC (.int 2))]), .ex (mC (.int 0))])))) (sSeq (sSet 3 (mCallIO r__law_roll 0 [(mOp fLen [.sl 1])])) (sRet (mOp fAdd [.ex (mOp fAdd [.ex (mOp fSl01 [.sl 1, .ex (mInt (mVar 3))]), .ex (mCallIO r__law_some 0 [(mLst [(mC (.str [])), (mC (.str [48])), (mC (.str [49])), (mC (.str [48, 48])), (mC (.str [50]))])])]), .ex (mOp fSl10 [.sl 1, .ex (mInt (mOp fAdd [.sl 3, .ex (mC (.int 1))]))])]))) sNil) (sSeq (sIf (bOr (bNot (bOf (mOp fIsi [.sl 1, .ex (mC (.ty "tuple"))]))) (bOf (mOp fEq [.sl 1, .ex (mTup [])]))) (sRet (mCallIO r__law_some 0 [(mVar 2)])) sNil) (sSeq (sPar2 3 4 (mCallIO r__law_roll 0 [(mOp fLen [.sl 1])]) (mCallIO r__law_roll 0 [(mC (.int 7))])) (sSeq (sIf (bOf (mOp fLt [.sl 4, .ex (mC (.int 3))])) (sRet (mOp fIx [.ex (mLst [(mOp fAdd [.ex (mOp fSl01 [.sl 1, .ex (mInt (mVar 3))]), .ex (mOp fSl10 [.sl 1, .ex (mInt (mOp fAdd [.sl 3, .ex (mC (.int 1))]))])]), (mOp fAdd [.ex (mOp fSl01 [.sl 1, .ex (mInt (mOp fAdd [.sl 3, .ex (mC (.int 1))]))]), .ex (mOp fSl10 [.sl 1, .ex (mInt (mVar 3))])]), (mOp fList [.sl 1])]), .sl 4])) sNil) (sSeq (sIf (bOf (mOp fLt [.sl 4, .ex (mC (.int 6))])) (sRet (mOp fAdd [.ex (mOp fAdd [.ex (mOp fSl01 [.sl 1, .ex (mInt (mVar 3))]), .ex (mTup [(mCallIO rec 0 [(mOp fIx [.sl 1, .sl 3])])])]), .ex (mOp fSl10 [.sl 1, .ex (mInt (mOp fAdd [.sl 3, .ex (mC (.int 1))]))])])) sNil) (sRet (mOp fAdd [.ex (mOp fAdd [.ex (mOp fSl01 [.sl 1, .ex (mInt (mVar 3))]), .ex (mTup [(mCallIO r__law_some 0 [(mVar 2)])])]), .ex (mOp fSl10 [.sl 1, .ex (mInt (mOp fAdd [.sl 3, .ex (mC (.int 1))]))])]))))))))
def r__law_bent : Nat → Dv → List Dv → Rs (Dv × Dv)
  | 0 => fun _ _ => .bad
  | n + 1 => runIO 3 (m__law_bent (r__law_bent n))
def m__law_threes : SM := (sSeq (sSetN 1 (mLst [(mC (.str []))])) (sSeq (sFor (mIt itR1 [(mVar 0)]) (.nm 2) (sSeq (sSetN 3 (mLst [])) (sSeq (sFor (mIt it1 [(mVar 1)]) (.nm 4) (sDrop (mExt 3 (mLc (mIt it1 [(mC (.str [48, 49, 50]))]) (.nm 5) [5] bYes (mOp fAdd [.sl 4, .sl 5]))))) (sSet 1 (mVar 3))))) (sRet (mVar 1))))
def r__law_threes : List Dv → Rs Dv := runV 5 m__law_threes
def m__law_three : SM := (sRet (mOp fJoin [.ex (mStr (mC (.str []))), .ex (mLc (mIt itR1 [(mVar 1)]) (.nm 2) [2] bYes (mCallIO r__law_some 0 [(mC (.str [48, 48, 49, 50]))]))]))
def r__law_three : Dv → List Dv → Rs (Dv × Dv) := runIO 1 m__law_three
def m__law_plus : SM := (sRet (mOp fJoin [.ex (mStr (mC (.str []))), .ex (mLc (mIt itZ [(mVar 0), (mVar 1)]) (.tp [(.nm 3), (.nm 4)]) [3, 4] bYes (mOp fStrI [.ex (mOp fMod [.ex (mOp fInt [.ex (mOp fAdd [.ex (mOp fInt [.sl 3]), .ex (mOp fTimes [.sl 2, .ex (mOp fInt [.sl 4])])])]), .ex (mC (.int 3))])]))]))
def r__law_plus : List Dv → Rs Dv := runV 2 m__law_plus
def m__law_apart : SM := (sRet (mOp fLen [.ex (mLc (mIt itZ [(mVar 0), (mVar 1)]) (.tp [(.nm 2), (.nm 3)]) [2, 3] (bOf (mOp fNe [.sl 2, .sl 3])) (mC (.int 1)))]))
def r__law_apart : List Dv → Rs Dv := runV 2 m__law_apart
def m__law_is_three : SM := (sRet (mAnd (mOp fIsi [.sl 0, .ex (mC (.ty "str"))]) (mAnd (mChn fLe fLe (mC (.int 1)) (mOp fLen [.sl 0]) (mC (.int 6))) (mOp fEq [.ex (mLc (mIt it1 [(mVar 0)]) (.nm 1) [1] (bOf (mOp fNotIn [.sl 1, .ex (mC (.str [48, 49, 50]))])) (mVar 1)), .ex (mLst [])]))))
def r__law_is_three : List Dv → Rs Dv := runV 1 m__law_is_three
def m__law_right : SM := (sSeq (sPar2 2 3 (mCallIO r__law_three 0 [(mVar 1)]) (mCallIO r__law_three 0 [(mVar 1)])) (sSeq (sSet 4 (mOp fEq [.ex (mOp fMod [.ex (mOp fInt [.ex (mOp fSum [.ex (mLc (mIt itZ [(mVar 2), (mVar 3)]) (.tp [(.nm 11), (.nm 12)]) [11, 12] bYes (mOp fTimes [.ex (mOp fInt [.sl 11]), .ex (mOp fInt [.sl 12])]))])]), .ex (mC (.int 3))]), .ex (mC (.int 0))])) (sSeq (sSetN 5 (mLst [(mCall r_three_sum [(mVar 2), (mVar 3)]), (mCall r_three_distance [(mVar 2), (mVar 3)]), (mCall r_do_cross [(mVar 2), (mVar 3)]), (mCall r_three_weight [(mVar 2)]), (mCall r_three_distance [(mVar 2), (mOp fTimes [.ex (mC (.str [48])), .sl 1])])])) (sSeq (sSetN 6 (mLst [(mCall r__law_plus [(mVar 2), (mVar 3), (mC (.int 1))]), (mCall r__law_apart [(mVar 2), (mVar 3)]), (mVar 4), (mOp fLen [.ex (mLc (mIt it1 [(mVar 2)]) (.nm 10) [10] (bOf (mOp fNe [.sl 10, .ex (mC (.str [48]))])) (mVar 10))]), (mCall r_three_weight [(mVar 2)])])) (sSeq (sIf (bNot (bOf (mCall (r__law_like 10) [(mVar 5), (mVar 6)]))) (sRet (mC (.bl false))) sNil) (sSeq (sSetN 5 (mLst [(mCall r_three_times [(mVar 2), (mC (.int 0))]), (mCall r_three_times [(mVar 2), (mC (.int 1))]), (mCall r_three_times [(mVar 2), (mC (.int 2))]), (mCall r_three_sum [(mVar 2), (mCall r_three_times [(mVar 2), (mC (.int 2))])]), (mCall r_three_sum [(mCall r_three_sum [(mVar 2), (mVar 3)]), (mCall r_three_times [(mVar 3), (mC (.int 2))])])])) (sSeq (sIf (bNot (bOf (mCall (r__law_like 10) [(mVar 5), (mLst [(mOp fTimes [.ex (mC (.str [48])), .sl 1]), (mVar 2), (mCall r_three_sum [(mVar 2), (mVar 2)]), (mOp fTimes [.ex (mC (.str [48])), .sl 1]), (mVar 2)])]))) (sRet (mC (.bl false))) sNil) (sSeq (sSet 7 (mCallIO r__law_three 0 [(mVar 1)])) (sSeq (sIf (bOr (bOf (mOp fNe [.ex (mCall r_three_weight [(mCall r_three_sum [(mVar 2), (mCall r_three_times [(mVar 3), (mC (.int 2))])])]), .ex (mCall r_three_distance [(mVar 2), (mVar 3)])])) (bOf (mOp fNe [.ex (mCall r_three_distance [(mCall r_three_sum [(mVar 2), (mVar 7)]), (mCall r_three_sum [(mVar 3), (mVar 7)])]), .ex (mCall r_three_distance [(mVar 2), (mVar 3)])]))) (sRet (mC (.bl false))) sNil) (sSeq (sIf (bAnd (bOf (mCall r_do_cross [(mVar 2), (mVar 7)])) (bAnd (bOf (mCall r_do_cross [(mVar 3), (mVar 7)])) (bNot (bOf (mCall r_do_cross [(mCall r_three_sum [(mVar 2), (mVar 3)]), (mVar 7)]))))) (sRet (mC (.bl false))) sNil) (sSeq (sSetN 8 (mLst [(mVar 2), (mOp fAdd [.sl 2, .ex (mC (.str [48]))]), (mOp fAdd [.sl 2, .ex (mC (.str [51]))]), (mOp fSl10 [.sl 2, .ex (mInt (mC (.int 1)))]), (mC (.str [])), (mOp fList [.sl 2]), (mTup [(mVar 2)]), (mC .non), (mC (.int 0)), (mC (.int 12)), (mOp fAdd [.sl 2, .ex (mC (.str [48, 49, 50, 48, 49, 50]))]), (mOp (fReplC [48] [97]) [.ex (mVar 2)]), (mCallIO (r__law_bent 10) 0 [(mVar 2)]), (mCallIO (r__law_bent 10) 0 [(mVar 2)])])) (sRet (mOp fEq [.ex (mLc (mIt it1 [(mVar 8)]) (.nm 9) [9] (bNot (bOf (mCall (r__law_like 10) [(mCall r_is_three_word [(mVar 9)]), (mCall r__law_is_three [(mVar 9)])]))) (mVar 9)), .ex (mLst [])])))))))))))))
def r__law_right : Dv → List Dv → Rs (Dv × Dv) := runIO 11 m__law_right
def m__law_written_right : SM := (sSeq (sSetN 0 (mLst [(mCall r_is_three_word [(mC (.str [48, 49, 50, 48]))]), (mCall r_is_three_word [(mC (.str [48, 49, 51]))]), (mCall r_is_three_word [(mC (.str [48, 49, 50, 48, 49, 50, 48]))]), (mCall r_three_weight [(mC (.str [48, 49, 50, 48]))]), (mCall r_three_sum [(mC (.str [48, 49, 50, 49])), (mC (.str [50, 50, 50, 50]))]), (mCall r_three_times [(mC (.str [48, 49, 50, 49])), (mC (.int 2))])])) (sSeq (sSet 0 (mOp fAdd [.sl 0, .ex (mLst [(mCall r_three_distance [(mC (.str [48, 49, 50, 48])), (mC (.str [48, 50, 49, 48]))]), (mCall r_do_cross [(mC (.str [49, 48, 49, 49])), (mC (.str [48, 49, 49, 50]))]), (mCall r_do_cross [(mC (.str [49, 50])), (mC (.str [49, 49]))]), (mCall r_do_cross [(mC (.str [49])), (mC (.str [49]))]), (mOp fLen [.ex (mCall r_three_words [(mC (.int 4))])]), (mCall r_three_words [(mC (.int 1))])])])) (sRet (mCall (r__law_like 10) [(mVar 0), (mLst [(mC (.bl true)), (mC (.bl false)), (mC (.bl false)), (mC (.int 2)), (mC (.str [50, 48, 49, 48])), (mC (.str [48, 50, 49, 50])), (mC (.int 2)), (mC (.bl true)), (mC (.bl true)), (mC (.bl false)), (mC (.int 81)), (mTup [(mC (.str [48])), (mC (.str [49])), (mC (.str [50]))])])]))))
def r__law_written_right : List Dv → Rs Dv := runV 1 m__law_written_right
def m_law : SM := (sSeq (sSetN 1 (mCall r__law_cup [(mVar 0)])) (sSeq (sIf (bNot (bOf (mCall r__law_written_right []))) (sRet (mC (.bl false))) sNil) (sSeq (sFor (mIt it1 [(mTup [(mC (.int 1)), (mC (.int 2)), (mC (.int 3)), (mC (.int 4)), (mC (.int 5)), (mC (.int 6))])]) (.nm 2) (sIf (bOr (bNot (bOf (mCallIO r__law_right 1 [(mVar 2)]))) (bOr (bNot (bOf (mCallIO r__law_right 1 [(mVar 2)]))) (bNot (bOf (mCall (r__law_like 10) [(mCall r_three_words [(mVar 2)]), (mOp fTup [.ex (mCall r__law_threes [(mVar 2)])])]))))) (sRet (mC (.bl false))) sNil)) (sRet (mC (.bl true))))))
def r_law : List Dv → Rs Dv := runV 2 m_law
end K70

namespace K70
open VL PL
/-! ### words -/
def T3 (u : List Nat) : Prop := ∀ c ∈ u, c = 48 ∨ c = 49 ∨ c = 50
def isT (u : List Nat) : Bool := u.all fun a => [48, 49, 50].contains a
def fits (u : List Nat) : Bool := decide ((1 : Int) ≤ (u.length : Nat)) && (decide (((u.length : Nat) : Int) ≤ 6) && isT u)
theorem isT_of {u : List Nat} (h : T3 u) : isT u = true := by
  unfold isT
  rw [List.all_eq_true]
  intro x hx
  rcases h x hx with rfl | rfl | rfl <;> rfl
theorem text_ok {u s : List Nat} {lo hi : Int} (h : u.length ≤ 16777216) : r_is_text_of [.str u, .str s, .int lo, .int hi] = .ok (.bl (decide (lo ≤ (u.length : Nat)) && (decide ((u.length : Nat) ≤ hi) && u.all fun a => s.contains a))) := by
  have st := lcGo_sgm (t := .nm 4) (own := [4]) (c := bYes) (e := mOp fIn [.sl 4, .sl 1]) (ρ := [.val (.str u), .val (.str s), .val (.int lo), .val (.int hi), .no]) (g := fun a => .bl (s.contains a)) (l := u) fun a ha => by
      simp [lcOne, fIn, fInB]
  by_cases c1 : lo ≤ (u.length : Nat)
  · by_cases c2 : ((u.length : Nat) : Int) ≤ hi
    · have lc := mLc_of (mi := mIt it1 [mVar 0]) (ρ := [.val (.str u), .val (.str s), .val (.int lo), .val (.int hi), .no]) (ρ1 := [.val (.str u), .val (.str s), .val (.int lo), .val (.int hi), .no]) (own := [4]) (by simp [h]) rfl st
      simp [r_is_text_of, runV, m_is_text_of, h, c1, c2, lc, ends, f_all]
    · simp [r_is_text_of, runV, m_is_text_of, h, c1, c2, ends]
  · simp [r_is_text_of, runV, m_is_text_of, h, c1, ends]
theorem fits_ok {u : List Nat} (h : u.length ≤ 16777216) : r_fits_three [.str u] = .ok (.bl (fits u)) := by
  simp [r_fits_three, runV, m_fits_three, text_ok h, ends, fits, isT]
/-- what is not a text -/
def noS : Dv → Bool
  | .str _ => false
  | .non => true
  | .bl _ => true
  | .int _ => true
  | .tup _ => true
  | .lst _ => true
  | _ => false
theorem fits_no {d : Dv} (h : noS d = true) : r_fits_three [d] = .ok (.bl false) := by
  cases d <;> first | (cases h; done) | simp [r_fits_three, runV, m_fits_three, r_is_text_of, m_is_text_of, ends]
theorem fits_T {u : List Nat} (h : T3 u) (h1 : 1 ≤ u.length) (h6 : u.length ≤ 6) : fits u = true := by
  have a1 : (1 : Int) ≤ (u.length : Nat) := by omega
  have a2 : ((u.length : Nat) : Int) ≤ 6 := by omega
  simp [fits, isT_of h, a1, a2]
section
variable {u v : List Nat} (hu : T3 u) (hv : T3 v) (h1 : 1 ≤ u.length) (h6 : u.length ≤ 6) (hl : v.length = u.length)
include hu h1 h6
theorem need3_ok : r_need_three [.str u] = .ok .non := by
  have h : u.length ≤ 16777216 := by omega
  simp [r_need_three, runV, m_need_three, fits_ok h, fits_T hu h1 h6, ends]
include hv hl
theorem need2_ok : r_need_two [.str u, .str v] = .ok .non := by
  have h : u.length ≤ 16777216 := by omega
  have h' : v.length ≤ 16777216 := by omega
  have fv : fits v = true := fits_T hv (by omega) (by omega)
  simp [r_need_two, runV, m_need_two, need3_ok hu h1 h6, fits_ok h', fv, h, hl, ends]
end
/-! ### sums, products, distances by signs -/
def a3 (a b : Nat) : Nat := 48 + (a + b) % 3
def t3 (k a : Nat) : Nat := 48 + (a * k) % 3
theorem num3 : ∀ n : Nat, n < 3 → TL.numL n = [48 + n] := by
  intro n h
  match n, h with
  | 0, _ => rfl
  | 1, _ => rfl
  | 2, _ => rfl
theorem sum_ok {u v : List Nat} (hu : T3 u) (hv : T3 v) (h : u.length ≤ 16777216) (h' : v.length ≤ 16777216) : r_sum_in_three [.str u, .str v] = .ok (.str ((u.zip v).map fun p => a3 p.1 p.2)) := by
  have st := lcGo_zsm (t := (.tp [(.nm 2), (.nm 3)])) (own := [2, 3]) (c := bYes) (e := (mOp fStrI [.ex (mOp fMod [.ex (mOp fAdd [.ex (mOp fInt [.sl 2]), .ex (mOp fInt [.sl 3])]), .ex (mC (.int 3))])])) (ρ := [.val (.str u), .val (.str v), .no, .no]) (g := fun a b => .str [a3 a b]) (l := u) (m := v) fun a b hab => by
    have ha := hu a (List.of_mem_zip hab).1
    have hb := hv b (List.of_mem_zip hab).2
    rcases ha with rfl | rfl | rfl <;> rcases hb with rfl | rfl | rfl <;> rfl
  have lc := mLc_of (mi := mIt itZ [mVar 0, mVar 1]) (ρ := [.val (.str u), .val (.str v), .no, .no]) (ρ1 := [.val (.str u), .val (.str v), .no, .no]) (own := [2, 3]) (by simp [h, h']) rfl st
  have hz : (u.zip v).length ≤ 16777216 := by rw [List.length_zip]; omega
  simp [r_sum_in_three, runV, m_sum_in_three, lc, f_join1 (fun p : Nat × Nat => a3 p.1 p.2) _ hz, ends]
theorem times_ok {u : List Nat} (hu : T3 u) (h : u.length ≤ 16777216) {k : Nat} (hk : k = 0 ∨ k = 1 ∨ k = 2) : r_times_in_three [.str u, .int (k : Nat)] = .ok (.str (u.map (t3 k))) := by
  have st := lcGo_sgm (t := (.nm 2)) (own := [2]) (c := bYes) (e := (mOp fStrI [.ex (mOp fMod [.ex (mOp fTimes [.ex (mOp fInt [.sl 2]), .sl 1]), .ex (mC (.int 3))])])) (ρ := [.val (.str u), .val (.int (k : Nat)), .no]) (g := fun a => .str [t3 k a]) (l := u) fun a hab => by
    have ha := hu a hab
    rcases ha with rfl | rfl | rfl <;> rcases hk with rfl | rfl | rfl <;> rfl
  have lc := mLc_of (mi := mIt it1 [mVar 0]) (ρ := [.val (.str u), .val (.int (k : Nat)), .no]) (ρ1 := [.val (.str u), .val (.int (k : Nat)), .no]) (own := [2]) (by simp [h]) rfl st
  simp [r_times_in_three, runV, m_times_in_three, lc, f_join1 (t3 k) _ h, ends]
def dist (u v : List Nat) : Nat := ((u.zip v).filter fun p => p.1 != p.2).length
theorem far_ok {u v : List Nat} (h : u.length ≤ 16777216) (h' : v.length ≤ 16777216) : r_far_in_three [.str u, .str v] = .ok (.int (dist u v)) := by
  have st := lcGo_zsf (t := (.tp [(.nm 2), (.nm 3)])) (own := [2, 3]) (c := (bOf (mOp fNe [.sl 2, .sl 3]))) (e := (mC (.int 1))) (ρ := [.val (.str u), .val (.str v), .no, .no]) (p := fun a b => a != b) (g := fun a b => .int 1) (l := u) (m := v) fun a b hab => by
    by_cases e : a = b
    · subst e
      simp [lcOne]
    · have e2 : ([a] != [b]) = true := by simp [e]
      have e3 : (a != b) = true := by simp [e]
      simp [lcOne, e2, e3]
  have lc := mLc_of (mi := mIt itZ [mVar 0, mVar 1]) (ρ := [.val (.str u), .val (.str v), .no, .no]) (ρ1 := [.val (.str u), .val (.str v), .no, .no]) (own := [2, 3]) (by simp [h, h']) rfl st
  simp [r_far_in_three, runV, m_far_in_three, lc, ends, dist]
theorem apart_ok {u v : List Nat} (h : u.length ≤ 16777216) (h' : v.length ≤ 16777216) : r__law_apart [.str u, .str v] = .ok (.int (dist u v)) := far_ok h h'
def prods (u v : List Nat) : Int := ((u.zip v).map fun p => ((p.1 - 48 : Nat) : Int) * ((p.2 - 48 : Nat) : Int)).sum
theorem prod_lc {u v : List Nat} (hu : T3 u) (hv : T3 v) (ρ : En) (i j : Nat) (hst : ∀ a b : Nat, (a = 48 ∨ a = 49 ∨ a = 50) → (b = 48 ∨ b = 49 ∨ b = 50) → lcOne (.tp [.nm i, .nm j]) [i, j] bYes (mOp fTimes [.ex (mOp fInt [.sl i]), .ex (mOp fInt [.sl j])]) (.tup [.str [a], .str [b]]) ρ = .ok (some (.int (((a - 48 : Nat) : Int) * ((b - 48 : Nat) : Int))), ρ)) :
    lcGo (.tp [.nm i, .nm j]) [i, j] bYes (mOp fTimes [.ex (mOp fInt [.sl i]), .ex (mOp fInt [.sl j])]) (zipD (u.map fun c => .str [c]) (v.map fun c => .str [c])) ρ = .ok ((u.zip v).map fun p => .int (((p.1 - 48 : Nat) : Int) * ((p.2 - 48 : Nat) : Int)), ρ) :=
  lcGo_zsm (g := fun a b => .int (((a - 48 : Nat) : Int) * ((b - 48 : Nat) : Int))) fun a b hab => hst a b (hu a (List.of_mem_zip hab).1) (hv b (List.of_mem_zip hab).2)
theorem cross_ok {u v : List Nat} (hu : T3 u) (hv : T3 v) (h : u.length ≤ 16777216) (h' : v.length ≤ 16777216) : r_cross_in [.str u, .str v] = .ok (.bl (prods u v % 3 == 0)) := by
  have st := prod_lc hu hv [.val (.str u), .val (.str v), .no, .no] 2 3 fun a b ha hb => by
    rcases ha with rfl | rfl | rfl <;> rcases hb with rfl | rfl | rfl <;> rfl
  have lc := mLc_of (mi := mIt itZ [mVar 0, mVar 1]) (ρ := [.val (.str u), .val (.str v), .no, .no]) (ρ1 := [.val (.str u), .val (.str v), .no, .no]) (own := [2, 3]) (by simp [h, h']) rfl st
  simp [r_cross_in, runV, m_cross_in, lc, f_sum (fun p : Nat × Nat => ((p.1 - 48 : Nat) : Int) * ((p.2 - 48 : Nat) : Int)), ends, prods]
theorem plus_ok {u v : List Nat} (hu : T3 u) (hv : T3 v) (h : u.length ≤ 16777216) (h' : v.length ≤ 16777216) : r__law_plus [.str u, .str v, .int 1] = .ok (.str ((u.zip v).map fun p => a3 p.1 p.2)) := by
  have st := lcGo_zsm (t := (.tp [(.nm 3), (.nm 4)])) (own := [3, 4]) (c := bYes) (e := (mOp fStrI [.ex (mOp fMod [.ex (mOp fInt [.ex (mOp fAdd [.ex (mOp fInt [.sl 3]), .ex (mOp fTimes [.sl 2, .ex (mOp fInt [.sl 4])])])]), .ex (mC (.int 3))])])) (ρ := [.val (.str u), .val (.str v), .val (.int 1), .no, .no]) (g := fun a b => .str [a3 a b]) (l := u) (m := v) fun a b hab => by
    have ha := hu a (List.of_mem_zip hab).1
    have hb := hv b (List.of_mem_zip hab).2
    rcases ha with rfl | rfl | rfl <;> rcases hb with rfl | rfl | rfl <;> rfl
  have lc := mLc_of (mi := mIt itZ [mVar 0, mVar 1]) (ρ := [.val (.str u), .val (.str v), .val (.int 1), .no, .no]) (ρ1 := [.val (.str u), .val (.str v), .val (.int 1), .no, .no]) (own := [3, 4]) (by simp [h, h']) rfl st
  have hz : (u.zip v).length ≤ 16777216 := by rw [List.length_zip]; omega
  simp [r__law_plus, runV, m__law_plus, lc, f_join1 (fun p : Nat × Nat => a3 p.1 p.2) _ hz, ends]
/-! ### the law's own judge of a word -/
theorem isPs_sg (u : List Nat) : isPs (u.map fun a => .str [a]) = true ∧ deps (u.map fun a => .str [a]) = 0 := by
  induction u with
  | nil => exact ⟨rfl, rfl⟩
  | cons a u ih => exact ⟨by simp [isPs, isP, ih.1], by simp [deps, dep, ih.2]⟩
theorem eqDs_nil (ds : List Dv) : eqDs ds [] = ds.isEmpty := by cases ds <;> rfl
theorem filter_all {α : Type} (p : α → Bool) (g : α → Dv) (u : List α) : ((u.filter fun a => !p a).map g).isEmpty = u.all p := by
  induction u with
  | nil => rfl
  | cons a u ih => cases e : p a <;> simp_all
def in3 (a : Nat) : Bool := ([48, 49, 50] : List Nat).contains a
theorem isthree_ok {u : List Nat} (h : u.length ≤ 16777216) : r__law_is_three [.str u] = .ok (.bl (fits u)) := by
  have st := lcGo_sgf (t := .nm 1) (own := [1]) (c := (bOf (mOp fNotIn [.sl 1, .ex (mC (.str [48, 49, 50]))]))) (e := mVar 1) (ρ := [.val (.str u), .no]) (p := fun a => !in3 a) (g := fun a => .str [a]) (l := u) fun a ha => by
    have e2 : fNotIn [.str [a], .str [48, 49, 50]] = some (.bl (!in3 a)) := rfl
    cases e : in3 a <;> simp [lcOne, e2, e]
  have lc := mLc_of (mi := mIt it1 [mVar 0]) (ρ := [.val (.str u), .no]) (ρ1 := [.val (.str u), .no]) (own := [1]) (by simp [h]) rfl st
  obtain ⟨p1, p2⟩ := isPs_sg (u.filter fun a => !in3 a)
  have eqz : fEq [.lst ((u.filter fun a => !in3 a).map fun a => .str [a]), .lst []] = some (.bl (isT u)) := by
    rw [f_eqP (d := .lst _) (d' := .lst []) p1 rfl (by simp only [dep, p2, deps]; decide)]
    show some (Dv.bl (eqDs _ [])) = _
    rw [eqDs_nil, filter_all]
    rfl
  by_cases c1 : (1 : Int) ≤ (u.length : Nat)
  · by_cases c2 : ((u.length : Nat) : Int) ≤ 6
    · simp only [r__law_is_three, runV, m__law_is_three]
      simp [h, c1, c2, lc, eqz, ends, fits]
    · simp [r__law_is_three, runV, m__law_is_three, h, c1, c2, ends, fits]
  · simp [r__law_is_three, runV, m__law_is_three, h, c1, ends, fits]
theorem isthree_no {d : Dv} (h : noS d = true) : r__law_is_three [d] = .ok (.bl false) := by
  cases d <;> first | (cases h; done) | simp [r__law_is_three, runV, m__law_is_three, ends]
/-! ### the package's names -/
def plus (u v : List Nat) : List Nat := (u.zip v).map fun p => a3 p.1 p.2
def wt (u : List Nat) : Nat := u.length - u.count 48
section
variable {u v : List Nat} (hu : T3 u) (hv : T3 v) (h1 : 1 ≤ u.length) (h6 : u.length ≤ 6) (hl : v.length = u.length)
include hu h1 h6
theorem weight_ok : r_three_weight [.str u] = .ok (.int (wt u : Nat)) := by
  have h : u.length ≤ 16777216 := by omega
  have hc : u.count 48 ≤ u.length := List.count_le_length
  have e : ((u.length : Nat) : Int) - ((u.count 48 : Nat) : Int) = ((wt u : Nat) : Int) := by unfold wt; omega
  simp [r_three_weight, runV, m_three_weight, need3_ok hu h1 h6, h, fCount, e, ends]
theorem ttimes_ok {k : Nat} (hk : k = 0 ∨ k = 1 ∨ k = 2) : r_three_times [.str u, .int (k : Nat)] = .ok (.str (u.map (t3 k))) := by
  have h : u.length ≤ 16777216 := by omega
  have nw : r_need_whole [.int (k : Nat), .int 0, .int 2] = .ok .non := by
    rcases hk with rfl | rfl | rfl <;> simp [r_need_whole, runV, m_need_whole, r_is_whole, m_is_whole, r_is_integer, m_is_integer, ends]
  simp [r_three_times, runV, m_three_times, need3_ok hu h1 h6, nw, times_ok hu h hk, ends]
include hv hl
theorem tsum_ok : r_three_sum [.str u, .str v] = .ok (.str (plus u v)) := by
  have h : u.length ≤ 16777216 := by omega
  have h' : v.length ≤ 16777216 := by omega
  simp [r_three_sum, runV, m_three_sum, need2_ok hu hv h1 h6 hl, sum_ok hu hv h h', ends, plus]
theorem tdist_ok : r_three_distance [.str u, .str v] = .ok (.int (dist u v : Nat)) := by
  have h : u.length ≤ 16777216 := by omega
  have h' : v.length ≤ 16777216 := by omega
  simp [r_three_distance, runV, m_three_distance, need2_ok hu hv h1 h6 hl, far_ok h h', ends]
theorem tcross_ok : r_do_cross [.str u, .str v] = .ok (.bl (prods u v % 3 == 0)) := by
  have h : u.length ≤ 16777216 := by omega
  have h' : v.length ≤ 16777216 := by omega
  simp [r_do_cross, runV, m_do_cross, need2_ok hu hv h1 h6 hl, cross_ok hu hv h h', ends]
end
/-! ### what is so of words -/
theorem T3_cons {a : Nat} {u : List Nat} : T3 (a :: u) ↔ (a = 48 ∨ a = 49 ∨ a = 50) ∧ T3 u := by
  constructor
  · exact fun h => ⟨h a (by simp), fun c hc => h c (List.mem_cons_of_mem _ hc)⟩
  · rintro ⟨h1, h2⟩ c hc
    rcases List.mem_cons.mp hc with rfl | hc
    · exact h1
    · exact h2 c hc
theorem T3_nil : T3 [] := fun c hc => by simp at hc
theorem a3_T {a b : Nat} : a3 a b = 48 ∨ a3 a b = 49 ∨ a3 a b = 50 := by unfold a3; omega
theorem t3_T {k a : Nat} : t3 k a = 48 ∨ t3 k a = 49 ∨ t3 k a = 50 := by unfold t3; omega
theorem plus_T (u v : List Nat) : T3 (plus u v) := fun c hc => by
  obtain ⟨p, _, rfl⟩ := List.mem_map.mp hc
  exact a3_T
theorem map_T (k : Nat) (u : List Nat) : T3 (u.map (t3 k)) := fun c hc => by
  obtain ⟨p, _, rfl⟩ := List.mem_map.mp hc
  exact t3_T
theorem plus_len {u v : List Nat} (h : v.length = u.length) : (plus u v).length = u.length := by
  unfold plus
  rw [List.length_map, List.length_zip, h, Nat.min_self]
theorem plus_cons (a b : Nat) (u v : List Nat) : plus (a :: u) (b :: v) = a3 a b :: plus u v := rfl
theorem dist_cons (a b : Nat) (u v : List Nat) : dist (a :: u) (b :: v) = (if a = b then 0 else 1) + dist u v := by
  unfold dist
  rw [List.zip_cons_cons, List.filter_cons]
  by_cases e : a = b
  · simp [e]
  · simp [e]; omega
theorem wt_cons (a : Nat) (u : List Nat) : wt (a :: u) = (if a = 48 then 0 else 1) + wt u := by
  unfold wt
  have hc : u.count 48 ≤ u.length := List.count_le_length
  rw [List.count_cons, List.length_cons]
  by_cases e : a = 48
  · simp [e]
  · simp [e]; omega
theorem prods_cons (a b : Nat) (u v : List Nat) : prods (a :: u) (b :: v) = ((a - 48 : Nat) : Int) * ((b - 48 : Nat) : Int) + prods u v := by
  unfold prods
  rw [List.zip_cons_cons, List.map_cons, List.sum_cons]
theorem times0 {u : List Nat} (h : T3 u) : u.map (t3 0) = List.replicate u.length 48 := by
  induction u with
  | nil => rfl
  | cons a u ih =>
    rw [T3_cons] at h
    rw [List.map_cons, ih h.2, List.length_cons, List.replicate_succ]
    simp [t3]
theorem times1 {u : List Nat} (h : T3 u) : u.map (t3 1) = u := by
  induction u with
  | nil => rfl
  | cons a u ih =>
    rw [T3_cons] at h
    rw [List.map_cons, ih h.2]
    rcases h.1 with rfl | rfl | rfl <;> rfl
theorem times2 {u : List Nat} (h : T3 u) : u.map (t3 2) = plus u u := by
  induction u with
  | nil => rfl
  | cons a u ih =>
    rw [T3_cons] at h
    rw [List.map_cons, ih h.2, plus_cons]
    rcases h.1 with rfl | rfl | rfl <;> rfl
theorem plus_self {u : List Nat} (h : T3 u) : plus u (u.map (t3 2)) = List.replicate u.length 48 := by
  induction u with
  | nil => rfl
  | cons a u ih =>
    rw [T3_cons] at h
    rw [List.map_cons, plus_cons, ih h.2, List.length_cons, List.replicate_succ]
    rcases h.1 with rfl | rfl | rfl <;> rfl
theorem plus_back : ∀ {u v : List Nat}, T3 u → T3 v → v.length = u.length → plus (plus u v) (v.map (t3 2)) = u
  | [], [], _, _, _ => rfl
  | [], _ :: _, _, _, h => by simp at h
  | _ :: _, [], _, _, h => by simp at h
  | a :: u, b :: v, hu, hv, h => by
    rw [T3_cons] at hu hv
    rw [List.map_cons, plus_cons, plus_cons, plus_back hu.2 hv.2 (by simpa using h)]
    rcases hu.1 with rfl | rfl | rfl <;> rcases hv.1 with rfl | rfl | rfl <;> rfl
theorem dist_zero : ∀ u : List Nat, dist u (List.replicate u.length 48) = wt u
  | [] => rfl
  | a :: u => by rw [List.length_cons, List.replicate_succ, dist_cons, wt_cons, dist_zero u]
theorem wt_diff : ∀ {u v : List Nat}, T3 u → T3 v → v.length = u.length → wt (plus u (v.map (t3 2))) = dist u v
  | [], [], _, _, _ => rfl
  | [], _ :: _, _, _, h => by simp at h
  | _ :: _, [], _, _, h => by simp at h
  | a :: u, b :: v, hu, hv, h => by
    rw [T3_cons] at hu hv
    rw [List.map_cons, plus_cons, wt_cons, dist_cons, wt_diff hu.2 hv.2 (by simpa using h)]
    rcases hu.1 with rfl | rfl | rfl <;> rcases hv.1 with rfl | rfl | rfl <;> rfl
theorem dist_shift : ∀ {u v w : List Nat}, T3 u → T3 v → T3 w → v.length = u.length → w.length = u.length → dist (plus u w) (plus v w) = dist u v
  | [], [], _, _, _, _, _, _ => rfl
  | [], _ :: _, _, _, _, _, h, _ => by simp at h
  | _ :: _, [], _, _, _, _, h, _ => by simp at h
  | _ :: _, _ :: _, [], _, _, _, _, h => by simp at h
  | a :: u, b :: v, c :: w, hu, hv, hw, h, h2 => by
    rw [T3_cons] at hu hv hw
    rw [plus_cons, plus_cons, dist_cons, dist_cons, dist_shift hu.2 hv.2 hw.2 (by simpa using h) (by simpa using h2)]
    rcases hu.1 with rfl | rfl | rfl <;> rcases hv.1 with rfl | rfl | rfl <;> rcases hw.1 with rfl | rfl | rfl <;> rfl
theorem prods_plus : ∀ {u v w : List Nat}, T3 u → T3 v → T3 w → v.length = u.length → w.length = u.length → prods (plus u v) w % 3 = (prods u w + prods v w) % 3
  | [], [], _, _, _, _, _, _ => rfl
  | [], _ :: _, _, _, _, _, h, _ => by simp at h
  | _ :: _, [], _, _, _, _, h, _ => by simp at h
  | _ :: _, _ :: _, [], _, _, _, _, h => by simp at h
  | a :: u, b :: v, c :: w, hu, hv, hw, h, h2 => by
    rw [T3_cons] at hu hv hw
    have ih := prods_plus hu.2 hv.2 hw.2 (by simpa using h) (by simpa using h2)
    rw [plus_cons, prods_cons, prods_cons, prods_cons]
    have e : (((a3 a b - 48 : Nat) : Int) * ((c - 48 : Nat) : Int)) % 3 = ((((a - 48 : Nat) : Int) * ((c - 48 : Nat) : Int)) + (((b - 48 : Nat) : Int) * ((c - 48 : Nat) : Int))) % 3 := by
      rcases hu.1 with rfl | rfl | rfl <;> rcases hv.1 with rfl | rfl | rfl <;> rcases hw.1 with rfl | rfl | rfl <;> rfl
    omega
theorem filter_wt : ∀ u : List Nat, (u.filter fun a => a != 48).length = wt u
  | [] => rfl
  | a :: u => by
    rw [List.filter_cons, wt_cons, ← filter_wt u]
    by_cases e : a = 48
    · simp [e]
    · simp [e]; omega
/-! ### drawn words -/
theorem three_ok {c : Dv} (h : Cup c) {n : Nat} (hn : n ≤ 6) : ∃ u c', T3 u ∧ u.length = n ∧ Cup c' ∧ r__law_three c [.int (n : Nat)] = .ok (.str u, c') := by
  obtain ⟨us, c2, h2, hl, hp, e⟩ := lcGo_io (t := .nm 2) (own := [2]) (c := bYes) (e := mCallIO r__law_some 0 [(mC (.str [48, 48, 49, 50]))]) (E := fun c => [.mt true false c, .val (.int (n : Nat)), .no]) (P := fun a => a = 48 ∨ a = 49 ∨ a = 50) (g := fun a => .str [a]) (ds := rng 0 n) h fun c1 hc1 d hd => by
    obtain ⟨a, c', ha, hc', e⟩ := someS_ok hc1 (l := [48, 48, 49, 50]) (by simp) (by decide)
    refine ⟨a, c', hc', by simpa using ha, ?_⟩
    simp [lcOne, e]
  rw [rng_len] at hl
  have lc := mLc_of (mi := mIt itR1 [mVar 1]) (ρ := [.mt true false c, .val (.int (n : Nat)), .no]) (ρ1 := [.mt true false c, .val (.int (n : Nat)), .no]) (own := [2]) (by
    have : -16777216 ≤ ((n : Nat) : Int) ∧ ((n : Nat) : Int) ≤ 16777216 := by omega
    simp [this]) rfl e
  refine ⟨us, c2, hp, hl, h2, ?_⟩
  have j := f_join1 (fun a : Nat => a) us (by omega)
  rw [List.map_id'] at j
  simp [r__law_three, runIO, m__law_three, lc, j, endsIO]
/-! ### what is bent -/
/-- no text, or a short one -/
def Odd (d : Dv) : Prop := noS d = true ∨ ∃ u, d = .str u ∧ u.length ≤ 1000
theorem bent_ok {c : Dv} (h : Cup c) {u : List Nat} (hu : u.length ≤ 6) : ∃ d c', Odd d ∧ Cup c' ∧ r__law_bent 10 c [.str u] = .ok (d, c') := by
  let some0 : List Dv := [.non, .bl true, .int 0, .int 1, .int 2, .int (-1), .str [], .str [48], .str [49], .str [48, 49], .tup [], .lst [], .tup [.str [48]], .str [50]]
  have oddS : ∀ d ∈ some0, Odd d := fun d hd => by
    simp only [some0, List.mem_cons, List.not_mem_nil, or_false] at hd
    rcases hd with rfl | rfl | rfl | rfl | rfl | rfl | rfl | rfl | rfl | rfl | rfl | rfl | rfl | rfl <;> first | exact .inl rfl | exact .inr ⟨_, rfl, by decide⟩
  have hz : u.length ≤ 16777216 := by omega
  -- the last road
  have last : ∀ c1, Cup c1 → ∃ d c', Odd d ∧ Cup c' ∧ r__law_some c1 [.lst some0] = .ok (d, c') := fun c1 h1 => by
    obtain ⟨d, c', hd, hc', e⟩ := someL_ok h1 (l := some0) (by simp [some0]) (by decide)
    exact ⟨d, c', oddS d hd, hc', e⟩
  by_cases hu0 : u = []
  · subst hu0
    obtain ⟨d, c', hd, hc', e⟩ := last c h
    refine ⟨d, c', hd, hc', ?_⟩
    simp only [some0] at e
    simp [r__law_bent, runIO, m__law_bent, e, endsIO]
  · have hb : (u != []) = true := by simp [hu0]
    have hpos : 0 < u.length := by
      cases u with
      | nil => exact absurd rfl hu0
      | cons _ _ => simp
    obtain ⟨k, c1, e1, hk0, hk1, hc1⟩ := roll_ok h (n := 2) (by decide) (by decide)
    by_cases hk : k = 0
    · subst hk
      obtain ⟨at', c2, e2, ha0, ha1, hc2⟩ := roll_ok hc1 (n := (u.length : Nat)) (by omega) (by omega)
      obtain ⟨d, c3, hd, hc3, e3⟩ := someL_ok hc2 (l := [.str [], .str [48], .str [49], .str [48, 48], .str [50]]) (by simp) (by decide)
      obtain ⟨m, rfl, hm⟩ : ∃ m, d = .str m ∧ m.length ≤ 2 := by
        simp only [List.mem_cons, List.not_mem_nil, or_false] at hd
        rcases hd with rfl | rfl | rfl | rfl | rfl <;> exact ⟨_, rfl, by decide⟩
      have l1 : ∀ lo hi, (cutD u lo hi).length ≤ u.length := fun lo hi => by
        unfold cutD
        rw [List.length_take, List.length_drop]
        omega
      have l2 := l1 none (some at')
      have l3 := l1 (some (at' + 1)) none
      have z1 : (cutD u none (some at')).length + m.length ≤ 16777216 := by omega
      have z2 : (cutD u none (some at')).length + m.length + (cutD u (some (at' + 1)) none).length ≤ 16777216 := by omega
      refine ⟨.str ((cutD u none (some at') ++ m) ++ cutD u (some (at' + 1)) none), c3, .inr ⟨_, rfl, ?_⟩, hc3, ?_⟩
      · rw [List.length_append, List.length_append]
        omega
      · simp [r__law_bent, runIO, m__law_bent, e1, e2, e3, hb, hz, z1, z2, endsIO]
    · have hk' : (k == 0) = false := by simp [hk]
      obtain ⟨d, c', hd, hc', e⟩ := last c1 hc1
      refine ⟨d, c', hd, hc', ?_⟩
      simp only [some0] at e
      simp [r__law_bent, runIO, m__law_bent, e1, e, hb, hk', endsIO]
theorem judge_ok {d : Dv} (h : Odd d) : ∃ b, r_is_three_word [d] = .ok (.bl b) ∧ r__law_is_three [d] = .ok (.bl b) := by
  rcases h with h | ⟨u, rfl, hu⟩
  · refine ⟨false, ?_, isthree_no h⟩
    simp [r_is_three_word, runV, m_is_three_word, fits_no h, ends]
  · have hz : u.length ≤ 16777216 := by omega
    refine ⟨fits u, ?_, isthree_ok hz⟩
    simp [r_is_three_word, runV, m_is_three_word, fits_ok hz, ends]
theorem like_bl (b : Bool) : r__law_like 10 [.bl b, .bl b] = .ok (.bl true) := like_same rfl rfl (by cases b <;> decide)
theorem like10 {a b : Dv} (e : a = b) (h : isP a = true) (hn : dep a < 10) : r__law_like 10 [a, b] = .ok (.bl true) := like_same e h hn
theorem repl_len (l : List Nat) : (PySem.StrLaws.replL [48] [97] l).length = l.length := by
  unfold PySem.StrLaws.replL
  induction l with
  | nil => simp [PySem.StrLaws.replS]
  | cons c l ih =>
    unfold PySem.StrLaws.replS
    split
    · simp only [List.length_append, List.length_cons, List.length_nil] at ih ⊢
      rw [ih]
      omega
    · rw [List.length_cons, ih, List.length_cons]
theorem odd_str {u : List Nat} (h : u.length ≤ 1000) : Odd (.str u) := .inr ⟨u, rfl, h⟩
theorem zeros_T (n : Nat) : T3 (List.replicate n 48) := fun c hc => .inl (List.mem_replicate.mp hc).2
theorem right_ok {c : Dv} (h : Cup c) {n : Nat} (h1 : 1 ≤ n) (h6 : n ≤ 6) : ∃ c', Cup c' ∧ r__law_right c [.int (n : Nat)] = .ok (.bl true, c') := by
  obtain ⟨u, c1, hu, lu, hc1, e1⟩ := three_ok h h6
  obtain ⟨v, c2, hv, lv, hc2, e2⟩ := three_ok hc1 h6
  obtain ⟨w, c3, hw, lw, hc3, e3⟩ := three_ok hc2 h6
  obtain ⟨d1, c4, hd1, hc4, e4⟩ := bent_ok hc3 (u := u) (by omega)
  obtain ⟨d2, c5, hd2, hc5, e5⟩ := bent_ok hc4 (u := u) (by omega)
  refine ⟨c5, hc5, ?_⟩
  subst lu
  have zu : u.length ≤ 16777216 := by omega
  have zv : v.length ≤ 16777216 := by omega
  -- the first row
  have st1 := prod_lc hu hv [.mt true false c2, .val (.int (u.length : Nat)), .val (.str u), .val (.str v), .no, .no, .no, .no, .no, .no, .no, .no, .no] 11 12 fun a b ha hb => by
    rcases ha with rfl | rfl | rfl <;> rcases hb with rfl | rfl | rfl <;> rfl
  have lc1 := mLc_of (mi := mIt itZ [mVar 2, mVar 3]) (ρ := [.mt true false c2, .val (.int (u.length : Nat)), .val (.str u), .val (.str v), .no, .no, .no, .no, .no, .no, .no, .no, .no]) (ρ1 := [.mt true false c2, .val (.int (u.length : Nat)), .val (.str u), .val (.str v), .no, .no, .no, .no, .no, .no, .no, .no, .no]) (own := [11, 12]) (by simp [zu, zv]) rfl st1
  have f1 : sPar2 2 3 (mCallIO r__law_three 0 [(mVar 1)]) (mCallIO r__law_three 0 [(mVar 1)]) [.mt true false c, .val (.int (u.length : Nat)), .no, .no, .no, .no, .no, .no, .no, .no, .no, .no, .no] = .ok (.nx [.mt true false c2, .val (.int (u.length : Nat)), .val (.str u), .val (.str v), .no, .no, .no, .no, .no, .no, .no, .no, .no]) := by
    simp [sPar2, e1, e2]
  have tz : (List.replicate u.length 48).length = u.length := List.length_replicate ..
  have q0 : r_three_distance [.str u, .str (List.replicate u.length 48)] = .ok (.int (wt u : Nat)) := by
    rw [tdist_ok hu (zeros_T _) h1 h6 tz, dist_zero]
  have sm := f_sum (fun p : Nat × Nat => ((p.1 - 48 : Nat) : Int) * ((p.2 - 48 : Nat) : Int)) (u.zip v)
  have f2 : ∀ b : SM, kSeq (sSet 4 (mOp fEq [.ex (mOp fMod [.ex (mOp fInt [.ex (mOp fSum [.ex (mLc (mIt itZ [(mVar 2), (mVar 3)]) (.tp [(.nm 11), (.nm 12)]) [11, 12] bYes (mOp fTimes [.ex (mOp fInt [.sl 11]), .ex (mOp fInt [.sl 12])]))])]), .ex (mC (.int 3))]), .ex (mC (.int 0))]) [.mt true false c2, .val (.int (u.length : Nat)), .val (.str u), .val (.str v), .no, .no, .no, .no, .no, .no, .no, .no, .no]) b
      = b [.mt true false c2, .val (.int (u.length : Nat)), .val (.str u), .val (.str v), .val (.bl (prods u v % 3 == 0)), .no, .no, .no, .no, .no, .no, .no, .no] := fun b => by
    simp [lc1, sm, prods]
  have st2 := lcGo_sgf (t := .nm 10) (own := [10]) (c := (bOf (mOp fNe [.sl 10, .ex (mC (.str [48]))]))) (e := mVar 10) (p := fun a => a != 48) (g := fun a => .str [a]) (l := u) (ρ := [.mt true false c2, .val (.int (u.length : Nat)), .val (.str u), .val (.str v), .val (.bl (prods u v % 3 == 0)), .mt false false (.lst [.str (plus u v), .int (dist u v : Nat), .bl (prods u v % 3 == 0), .int (wt u : Nat), .int (wt u : Nat)]), .no, .no, .no, .no, .no, .no, .no]) fun a ha => by
    by_cases e : a = 48
    · subst e
      simp [lcOne]
    · have e2 : ([a] != [48]) = true := by simp [e]
      have e3 : (a != 48) = true := by simp [e]
      simp [lcOne, e2, e3]
  have lc2 := mLc_of (mi := mIt it1 [mVar 2]) (ρ := [.mt true false c2, .val (.int (u.length : Nat)), .val (.str u), .val (.str v), .val (.bl (prods u v % 3 == 0)), .mt false false (.lst [.str (plus u v), .int (dist u v : Nat), .bl (prods u v % 3 == 0), .int (wt u : Nat), .int (wt u : Nat)]), .no, .no, .no, .no, .no, .no, .no]) (ρ1 := [.mt true false c2, .val (.int (u.length : Nat)), .val (.str u), .val (.str v), .val (.bl (prods u v % 3 == 0)), .mt false false (.lst [.str (plus u v), .int (dist u v : Nat), .bl (prods u v % 3 == 0), .int (wt u : Nat), .int (wt u : Nat)]), .no, .no, .no, .no, .no, .no, .no]) (own := [10]) (by simp [zu]) rfl st2
  have t1 := tsum_ok hu hv h1 h6 lv
  have t2 := tdist_ok hu hv h1 h6 lv
  have t3' := tcross_ok hu hv h1 h6 lv
  have t4 := weight_ok hu h1 h6
  have t5 := plus_ok hu hv zu zv
  have t6 := apart_ok zu zv
  have k0 : r_three_times [.str u, .int 0] = .ok (.str (u.map (t3 0))) := ttimes_ok hu h1 h6 (k := 0) (by omega)
  have k1 : r_three_times [.str u, .int 1] = .ok (.str (u.map (t3 1))) := ttimes_ok hu h1 h6 (k := 1) (by omega)
  have k2 : r_three_times [.str u, .int 2] = .ok (.str (u.map (t3 2))) := ttimes_ok hu h1 h6 (k := 2) (by omega)
  have kv2 : r_three_times [.str v, .int 2] = .ok (.str (v.map (t3 2))) := ttimes_ok hv (by omega) (by omega) (k := 2) (by omega)
  rw [times0 hu] at k0
  rw [times1 hu] at k1
  rw [times2 hu] at k2
  have s1 := tsum_ok hu (plus_T u u) h1 h6 (plus_len rfl)
  have s2 := tsum_ok (plus_T u v) (map_T 2 v) (by rw [plus_len lv]; exact h1) (by rw [plus_len lv]; exact h6) (by rw [plus_len lv, List.length_map]; exact lv)
  rw [plus_back hu hv lv] at s2
  have s3 := tsum_ok hu hu h1 h6 rfl
  have pe : plus u (plus u u) = List.replicate u.length 48 := by rw [← times2 hu]; exact plus_self hu
  rw [pe] at s1
  have s4 := tsum_ok hu (map_T 2 v) h1 h6 (by rw [List.length_map]; exact lv)
  have w4 := weight_ok (plus_T u (v.map (t3 2))) (by rw [plus_len (by rw [List.length_map]; exact lv)]; exact h1) (by rw [plus_len (by rw [List.length_map]; exact lv)]; exact h6)
  rw [wt_diff hu hv lv] at w4
  have s5 := tsum_ok hu hw h1 h6 lw
  have s6 := tsum_ok hv hw (by omega) (by omega) (by omega)
  have d7 := tdist_ok (plus_T u w) (plus_T v w) (by rw [plus_len lw]; exact h1) (by rw [plus_len lw]; exact h6) (by rw [plus_len lw, plus_len (by omega)]; exact lv)
  rw [dist_shift hu hv hw lv lw] at d7
  have x1 := tcross_ok hu hw h1 h6 lw
  have x2 := tcross_ok hv hw (by omega) (by omega) (by omega)
  have x3 := tcross_ok (plus_T u v) hw (by rw [plus_len lv]; exact h1) (by rw [plus_len lv]; exact h6) (by rw [plus_len lv]; exact lw)
  have xx : (prods u w % 3 == 0) = true → (prods v w % 3 == 0) = true → (prods (plus u v) w % 3 == 0) = true := fun a b => by
    rw [beq_iff_eq] at a b ⊢
    rw [prods_plus hu hv hw lv lw]
    omega
  have pl : ∀ l : List Nat, plus u v = l → True := fun _ _ => trivial
  simp only [r__law_right, runIO, m__law_right, List.replicate, List.map, List.cons_append, List.nil_append]
  rw [e_seq, f1, e_seqn, e_seq, f2]
  rw [show ((u.zip v).map fun p => a3 p.1 p.2) = plus u v from rfl] at t5
  have tf : fTimes [.str [48], .int (u.length : Nat)] = some (.str (List.replicate u.length 48)) := by
    rw [f_mulS (by simp; omega)]
    simp
  have fw := filter_wt u
  obtain ⟨tl, htl⟩ : ∃ tl : SM, tl = (sSeq (sSetN 8 (mLst [(mVar 2), (mOp fAdd [.sl 2, .ex (mC (.str [48]))]), (mOp fAdd [.sl 2, .ex (mC (.str [51]))]), (mOp fSl10 [.sl 2, .ex (mInt (mC (.int 1)))]), (mC (.str [])), (mOp fList [.sl 2]), (mTup [(mVar 2)]), (mC .non), (mC (.int 0)), (mC (.int 12)), (mOp fAdd [.sl 2, .ex (mC (.str [48, 49, 50, 48, 49, 50]))]), (mOp (fReplC [48] [97]) [.ex (mVar 2)]), (mCallIO (r__law_bent 10) 0 [(mVar 2)]), (mCallIO (r__law_bent 10) 0 [(mVar 2)])])) (sRet (mOp fEq [.ex (mLc (mIt it1 [(mVar 8)]) (.nm 9) [9] (bNot (bOf (mCall (r__law_like 10) [(mCall r_is_three_word [(mVar 9)]), (mCall r__law_is_three [(mVar 9)])]))) (mVar 9)), .ex (mLst [])]))) := ⟨_, rfl⟩
  have rest : ∃ tail, tl [.mt true false c3, .val (.int (u.length : Nat)), .val (.str u), .val (.str v), .val (.bl (prods u v % 3 == 0)), .val (.lst [.str (List.replicate u.length 48), .str u, .str (plus u u), .str (List.replicate u.length 48), .str u]), .val (.lst [.str (plus u v), .int (dist u v : Nat), .bl (prods u v % 3 == 0), .int (wt u : Nat), .int (wt u : Nat)]), .val (.str w), .no, .no, .no, .no, .no] = .ok (.rt (.bl true) (.mt true false c5 :: tail)) := by
    rw [htl]
    have a1 : u.length + 1 ≤ 16777216 := by omega
    have a6 : u.length + 6 ≤ 16777216 := by omega
    have rp : fReplC [48] [97] [.str u] = some (.str (PySem.StrLaws.replL [48] [97] u)) := if_pos (by simp; omega)
    let odds : List Dv := [.str u, .str (u ++ [48]), .str (u ++ [51]), .str (cutD u (some 1) none), .str [], .lst (u.map fun c => .str [c]), .tup [.str u], .non, .int 0, .int 12, .str (u ++ [48, 49, 50, 48, 49, 50]), .str (PySem.StrLaws.replL [48] [97] u), d1, d2]
    have oddA : ∀ d ∈ odds, Odd d := fun d hd => by
      have hc : (cutD u (some 1) none).length ≤ 1000 := by
        unfold cutD
        rw [List.length_take, List.length_drop]
        omega
      simp only [odds, List.mem_cons, List.not_mem_nil, or_false] at hd
      rcases hd with rfl | rfl | rfl | rfl | rfl | rfl | rfl | rfl | rfl | rfl | rfl | rfl | rfl | rfl
      · exact odd_str (by omega)
      · exact odd_str (by simp; omega)
      · exact odd_str (by simp; omega)
      · exact odd_str hc
      · exact odd_str (by simp)
      · exact .inl rfl
      · exact .inl rfl
      · exact .inl rfl
      · exact .inl rfl
      · exact .inl rfl
      · exact odd_str (by simp; omega)
      · exact odd_str (by rw [repl_len]; omega)
      · exact hd1
      · exact hd2
    have st3 := lcGo_none (t := .nm 9) (own := [9]) (c := (bNot (bOf (mCall (r__law_like 10) [(mCall r_is_three_word [(mVar 9)]), (mCall r__law_is_three [(mVar 9)])])))) (e := mVar 9) (ds := odds) (ρ := [.mt true false c5, .val (.int (u.length : Nat)), .val (.str u), .val (.str v), .val (.bl (prods u v % 3 == 0)), .val (.lst [.str (List.replicate u.length 48), .str u, .str (plus u u), .str (List.replicate u.length 48), .str u]), .val (.lst [.str (plus u v), .int (dist u v : Nat), .bl (prods u v % 3 == 0), .int (wt u : Nat), .int (wt u : Nat)]), .val (.str w), .val (.lst odds), .no, .no, .no, .no]) fun d hd => by
      obtain ⟨b, j1, j2⟩ := judge_ok (oddA d hd)
      simp [lcOne, j1, j2, like_bl]
    have lc3 := mLc_of (mi := mIt it1 [mVar 8]) (ρ := [.mt true false c5, .val (.int (u.length : Nat)), .val (.str u), .val (.str v), .val (.bl (prods u v % 3 == 0)), .val (.lst [.str (List.replicate u.length 48), .str u, .str (plus u u), .str (List.replicate u.length 48), .str u]), .val (.lst [.str (plus u v), .int (dist u v : Nat), .bl (prods u v % 3 == 0), .int (wt u : Nat), .int (wt u : Nat)]), .val (.str w), .mt false false (.lst odds), .no, .no, .no, .no]) (ρ1 := [.mt true false c5, .val (.int (u.length : Nat)), .val (.str u), .val (.str v), .val (.bl (prods u v % 3 == 0)), .val (.lst [.str (List.replicate u.length 48), .str u, .str (plus u u), .str (List.replicate u.length 48), .str u]), .val (.lst [.str (plus u v), .int (dist u v : Nat), .bl (prods u v % 3 == 0), .int (wt u : Nat), .int (wt u : Nat)]), .val (.str w), .val (.lst odds), .no, .no, .no, .no]) (own := [9]) (by simp) rfl st3
    have ee : fEq [.lst [], .lst []] = some (.bl true) := rfl
    refine ⟨[.val (.int (u.length : Nat)), .val (.str u), .val (.str v), .val (.bl (prods u v % 3 == 0)), .val (.lst [.str (List.replicate u.length 48), .str u, .str (plus u u), .str (List.replicate u.length 48), .str u]), .val (.lst [.str (plus u v), .int (dist u v : Nat), .bl (prods u v % 3 == 0), .int (wt u : Nat), .int (wt u : Nat)]), .val (.str w), .val (.lst odds), .no, .no, .no, .no], ?_⟩
    simp only [odds] at lc3 ⊢
    simp [zu, a1, a6, rp, e4, e5, lc3, ee]
  obtain ⟨tail, rest⟩ := rest
  rw [← htl]
  cases p1 : (prods u w % 3 == 0) with
  | false => simp [t1, t2, t3', t4, t5, t6, q0, lc2, tf, fw, like10, isP, isPs, dep, deps, k0, k1, k2, s1, s2, s3, e3, kv2, s4, w4, s5, s6, d7, x1, p1, rest, endsIO]
  | true =>
    cases p2 : (prods v w % 3 == 0) with
    | false => simp [t1, t2, t3', t4, t5, t6, q0, lc2, tf, fw, like10, isP, isPs, dep, deps, k0, k1, k2, s1, s2, s3, e3, kv2, s4, w4, s5, s6, d7, x1, p1, x2, p2, rest, endsIO]
    | true =>
      have p3 := xx p1 p2
      simp [t1, t2, t3', t4, t5, t6, q0, lc2, tf, fw, like10, isP, isPs, dep, deps, k0, k1, k2, s1, s2, s3, e3, kv2, s4, w4, s5, s6, d7, x1, p1, x2, p2, x3, p3, rest, endsIO]
/-! ### what is written, and the law -/
theorem written_ok : r__law_written_right [] = .ok (.bl true) := okB_of (by decide +kernel)
def wordsB (n : Int) : Bool := match r_three_words [.int n], r__law_threes [.int n] with
  | .ok (.tup a), .ok (.lst b) => likeBs a b && isPs a && isPs b && decide (deps a < 5)
  | _, _ => false
theorem words_of {n : Int} (h : wordsB n = true) : ∃ a b, r_three_words [.int n] = .ok (.tup a) ∧ r__law_threes [.int n] = .ok (.lst b) ∧ r__law_like 10 [.tup a, .tup b] = .ok (.bl true) := by
  unfold wordsB at h
  split at h
  · rename_i a b e1 e2
    simp only [Bool.and_eq_true, decide_eq_true_eq] at h
    refine ⟨a, b, e1, e2, ?_⟩
    rw [like_ok 10 (.tup a) (.tup b) h.1.1.2 h.1.2 (by simp only [dep]; omega)]
    show Rs.ok (Dv.bl (likeBs a b)) = _
    rw [h.1.1.1]
  · cases h
theorem words_all : wordsB 1 = true ∧ wordsB 2 = true ∧ wordsB 3 = true ∧ wordsB 4 = true ∧ wordsB 5 = true ∧ wordsB 6 = true := by decide +kernel
theorem law_ok (ns : List Int) (hl : ns.length ≤ 63) : r_law [.scr ns] = .ok (.bl true) := by
  obtain ⟨c, e, hc⟩ := cup_ok ns hl
  obtain ⟨w1, w2, w3, w4, w5, w6⟩ := words_all
  have step : ∀ d ∈ [Dv.int 1, .int 2, .int 3, .int 4, .int 5, .int 6], ∀ c1 s, Cup c1 → ∃ c2, Cup c2 ∧ asg (.nm 2) d [.val (.scr ns), .mt false false c1, s] = some [.val (.scr ns), .mt false false c1, .val d] ∧ (sIf (bOr (bNot (bOf (mCallIO r__law_right 1 [(mVar 2)]))) (bOr (bNot (bOf (mCallIO r__law_right 1 [(mVar 2)]))) (bNot (bOf (mCall (r__law_like 10) [(mCall r_three_words [(mVar 2)]), (mOp fTup [.ex (mCall r__law_threes [(mVar 2)])])]))))) (sRet (mC (.bl false))) sNil) [.val (.scr ns), .mt false false c1, .val d] = .ok (.nx [.val (.scr ns), .mt false false c2, .val d]) := fun d hd c1 s h1 => by
    have go : ∀ n : Nat, 1 ≤ n → n ≤ 6 → wordsB (n : Nat) = true → ∃ c2, Cup c2 ∧ asg (.nm 2) (.int (n : Nat)) [.val (.scr ns), .mt false false c1, s] = some [.val (.scr ns), .mt false false c1, .val (.int (n : Nat))] ∧ (sIf (bOr (bNot (bOf (mCallIO r__law_right 1 [(mVar 2)]))) (bOr (bNot (bOf (mCallIO r__law_right 1 [(mVar 2)]))) (bNot (bOf (mCall (r__law_like 10) [(mCall r_three_words [(mVar 2)]), (mOp fTup [.ex (mCall r__law_threes [(mVar 2)])])]))))) (sRet (mC (.bl false))) sNil) [.val (.scr ns), .mt false false c1, .val (.int (n : Nat))] = .ok (.nx [.val (.scr ns), .mt false false c2, .val (.int (n : Nat))]) := fun n hn1 hn6 hw => by
      obtain ⟨c2, h2, e2⟩ := right_ok h1 hn1 hn6
      obtain ⟨c3, h3, e3⟩ := right_ok h2 hn1 hn6
      obtain ⟨a, b, q1, q2, q3⟩ := words_of hw
      refine ⟨c3, h3, by simp, ?_⟩
      simp [e2, e3, q1, q2, q3]
    simp only [List.mem_cons, List.not_mem_nil, or_false] at hd
    rcases hd with rfl | rfl | rfl | rfl | rfl | rfl
    · exact go 1 (by decide) (by decide) w1
    · exact go 2 (by decide) (by decide) w2
    · exact go 3 (by decide) (by decide) w3
    · exact go 4 (by decide) (by decide) w4
    · exact go 5 (by decide) (by decide) w5
    · exact go 6 (by decide) (by decide) w6
  obtain ⟨c2, s2, h2, e2⟩ := forGo_io (E := fun c s => [.val (.scr ns), .mt false false c, s]) (t := .nm 2) (s0 := .no) hc step
  simp [r_law, runV, m_law, e, written_ok, e2, ends]
end K70

namespace K70
open PySem PySem.Spec PyProof.Rows L2 VL PL
/-! ### the text -/
def topS (i : Nat) : Stmt := PySem.Challenge.pw_wordsapart_k70_whole_words_of_three_sign.main.body.getD i (.Pass ⟨0, 0, 0, 0⟩)
abbrev s_is_integer : Stmt := topS 5
theorem sc_is_integer : FnScope ["value"] ["value"] (defScope s_is_integer) := ⟨rfl, rfl, rfl, by decide +kernel, rfl, by decide +kernel, by decide +kernel⟩
abbrev s_is_whole : Stmt := topS 6
theorem sc_is_whole : FnScope ["value", "low", "high"] ["value", "low", "high"] (defScope s_is_whole) := ⟨rfl, rfl, rfl, by decide +kernel, rfl, by decide +kernel, by decide +kernel⟩
abbrev s_need_whole : Stmt := topS 7
theorem sc_need_whole : FnScope ["value", "low", "high"] ["value", "low", "high"] (defScope s_need_whole) := ⟨rfl, rfl, rfl, by decide +kernel, rfl, by decide +kernel, by decide +kernel⟩
abbrev s_is_text_of : Stmt := topS 8
theorem sc_is_text_of : FnScope ["value", "signs", "low", "high", "sign"] ["value", "signs", "low", "high"] (defScope s_is_text_of) := ⟨rfl, rfl, rfl, by decide +kernel, rfl, by decide +kernel, by decide +kernel⟩
abbrev s_fits_three : Stmt := topS 12
theorem sc_fits_three : FnScope ["value"] ["value"] (defScope s_fits_three) := ⟨rfl, rfl, rfl, by decide +kernel, rfl, by decide +kernel, by decide +kernel⟩
abbrev s_need_three : Stmt := topS 13
theorem sc_need_three : FnScope ["value"] ["value"] (defScope s_need_three) := ⟨rfl, rfl, rfl, by decide +kernel, rfl, by decide +kernel, by decide +kernel⟩
abbrev s_need_two : Stmt := topS 14
theorem sc_need_two : FnScope ["word", "other"] ["word", "other"] (defScope s_need_two) := ⟨rfl, rfl, rfl, by decide +kernel, rfl, by decide +kernel, by decide +kernel⟩
abbrev s_sum_in_three : Stmt := topS 15
theorem sc_sum_in_three : FnScope ["word", "other", "one", "two"] ["word", "other"] (defScope s_sum_in_three) := ⟨rfl, rfl, rfl, by decide +kernel, rfl, by decide +kernel, by decide +kernel⟩
abbrev s_times_in_three : Stmt := topS 16
theorem sc_times_in_three : FnScope ["word", "number", "sign"] ["word", "number"] (defScope s_times_in_three) := ⟨rfl, rfl, rfl, by decide +kernel, rfl, by decide +kernel, by decide +kernel⟩
abbrev s_far_in_three : Stmt := topS 17
theorem sc_far_in_three : FnScope ["word", "other", "one", "two"] ["word", "other"] (defScope s_far_in_three) := ⟨rfl, rfl, rfl, by decide +kernel, rfl, by decide +kernel, by decide +kernel⟩
abbrev s_cross_in : Stmt := topS 18
theorem sc_cross_in : FnScope ["word", "other", "one", "two"] ["word", "other"] (defScope s_cross_in) := ⟨rfl, rfl, rfl, by decide +kernel, rfl, by decide +kernel, by decide +kernel⟩
abbrev s_all_three : Stmt := topS 19
theorem sc_all_three : FnScope ["length", "found", "turn", "word", "sign"] ["length"] (defScope s_all_three) := ⟨rfl, rfl, rfl, by decide +kernel, rfl, by decide +kernel, by decide +kernel⟩
abbrev s_is_three_word : Stmt := topS 20
theorem sc_is_three_word : FnScope ["value"] ["value"] (defScope s_is_three_word) := ⟨rfl, rfl, rfl, by decide +kernel, rfl, by decide +kernel, by decide +kernel⟩
abbrev s_three_weight : Stmt := topS 21
theorem sc_three_weight : FnScope ["word"] ["word"] (defScope s_three_weight) := ⟨rfl, rfl, rfl, by decide +kernel, rfl, by decide +kernel, by decide +kernel⟩
abbrev s_three_sum : Stmt := topS 22
theorem sc_three_sum : FnScope ["word", "other"] ["word", "other"] (defScope s_three_sum) := ⟨rfl, rfl, rfl, by decide +kernel, rfl, by decide +kernel, by decide +kernel⟩
abbrev s_three_times : Stmt := topS 23
theorem sc_three_times : FnScope ["word", "number"] ["word", "number"] (defScope s_three_times) := ⟨rfl, rfl, rfl, by decide +kernel, rfl, by decide +kernel, by decide +kernel⟩
abbrev s_three_distance : Stmt := topS 24
theorem sc_three_distance : FnScope ["word", "other"] ["word", "other"] (defScope s_three_distance) := ⟨rfl, rfl, rfl, by decide +kernel, rfl, by decide +kernel, by decide +kernel⟩
abbrev s_do_cross : Stmt := topS 25
theorem sc_do_cross : FnScope ["word", "other"] ["word", "other"] (defScope s_do_cross) := ⟨rfl, rfl, rfl, by decide +kernel, rfl, by decide +kernel, by decide +kernel⟩
abbrev s_three_words : Stmt := topS 26
theorem sc_three_words : FnScope ["length"] ["length"] (defScope s_three_words) := ⟨rfl, rfl, rfl, by decide +kernel, rfl, by decide +kernel, by decide +kernel⟩
abbrev s__law_cup : Stmt := topS 28
theorem sc__law_cup : FnScope ["script", "cell"] ["script"] (defScope s__law_cup) := ⟨rfl, rfl, rfl, by decide +kernel, rfl, by decide +kernel, by decide +kernel⟩
abbrev s__law_roll : Stmt := topS 29
theorem sc__law_roll : FnScope ["cup", "many", "deep", "found"] ["cup", "many"] (defScope s__law_roll) := ⟨rfl, rfl, rfl, by decide +kernel, rfl, by decide +kernel, by decide +kernel⟩
abbrev s__law_some : Stmt := topS 30
theorem sc__law_some : FnScope ["cup", "things"] ["cup", "things"] (defScope s__law_some) := ⟨rfl, rfl, rfl, by decide +kernel, rfl, by decide +kernel, by decide +kernel⟩
abbrev s__law_sort : Stmt := topS 31
theorem sc__law_sort : FnScope ["value"] ["value"] (defScope s__law_sort) := ⟨rfl, rfl, rfl, by decide +kernel, rfl, by decide +kernel, by decide +kernel⟩
abbrev s__law_like : Stmt := topS 32
theorem sc__law_like : FnScope ["one", "other", "sort", "first", "second"] ["one", "other"] (defScope s__law_like) := ⟨rfl, rfl, rfl, by decide +kernel, rfl, by decide +kernel, by decide +kernel⟩
abbrev s__law_bent : Stmt := topS 33
theorem sc__law_bent : FnScope ["cup", "value", "some", "at", "way"] ["cup", "value"] (defScope s__law_bent) := ⟨rfl, rfl, rfl, by decide +kernel, rfl, by decide +kernel, by decide +kernel⟩
abbrev s__law_threes : Stmt := topS 34
theorem sc__law_threes : FnScope ["length", "found", "turn", "longer", "some", "sign"] ["length"] (defScope s__law_threes) := ⟨rfl, rfl, rfl, by decide +kernel, rfl, by decide +kernel, by decide +kernel⟩
abbrev s__law_three : Stmt := topS 35
theorem sc__law_three : FnScope ["cup", "length", "turn"] ["cup", "length"] (defScope s__law_three) := ⟨rfl, rfl, rfl, by decide +kernel, rfl, by decide +kernel, by decide +kernel⟩
abbrev s__law_plus : Stmt := topS 36
theorem sc__law_plus : FnScope ["one", "other", "times", "left", "right"] ["one", "other", "times"] (defScope s__law_plus) := ⟨rfl, rfl, rfl, by decide +kernel, rfl, by decide +kernel, by decide +kernel⟩
abbrev s__law_apart : Stmt := topS 37
theorem sc__law_apart : FnScope ["one", "other", "left", "right"] ["one", "other"] (defScope s__law_apart) := ⟨rfl, rfl, rfl, by decide +kernel, rfl, by decide +kernel, by decide +kernel⟩
abbrev s__law_is_three : Stmt := topS 38
theorem sc__law_is_three : FnScope ["value", "sign"] ["value"] (defScope s__law_is_three) := ⟨rfl, rfl, rfl, by decide +kernel, rfl, by decide +kernel, by decide +kernel⟩
abbrev s__law_right : Stmt := topS 39
theorem sc__law_right : FnScope ["cup", "length", "one", "other", "crossed", "told", "due", "third", "odds", "value", "sign", "left", "right"] ["cup", "length"] (defScope s__law_right) := ⟨rfl, rfl, rfl, by decide +kernel, rfl, by decide +kernel, by decide +kernel⟩
abbrev s__law_written_right : Stmt := topS 40
theorem sc__law_written_right : FnScope ["told"] [] (defScope s__law_written_right) := ⟨rfl, rfl, rfl, by decide +kernel, rfl, by decide +kernel, by decide +kernel⟩
abbrev s_law : Stmt := topS 41
theorem sc_law : FnScope ["script", "cup", "length"] ["script"] (defScope s_law) := ⟨rfl, rfl, rfl, by decide +kernel, rfl, by decide +kernel, by decide +kernel⟩
structure Bs (K : PySem.W.Frag) (mg : Str → Option Value) : Prop where
  abs : mg "abs" = none
  all : mg "all" = none
  bool : mg "bool" = none
  int : mg "int" = none
  isinstance : mg "isinstance" = none
  len : mg "len" = none
  list : mg "list" = none
  range : mg "range" = none
  str : mg "str" = none
  sum : mg "sum" = none
  tuple : mg "tuple" = none
  zip : mg "zip" = none
  LETTERS : ∃ v u, mg "LETTERS" = some u ∧ RelV v u ∧ CD K v c_LETTERS
  MOST : ∃ v u, mg "MOST" = some u ∧ RelV v u ∧ CD K v c_MOST
structure Dall (K : PySem.W.Frag) (mg : Str → Option Value) : Prop where
  d_is_integer : Ds K mg "is_integer" s_is_integer ["value"]
  d_is_whole : Ds K mg "is_whole" s_is_whole ["value", "low", "high"]
  d_need_whole : Ds K mg "need_whole" s_need_whole ["value", "low", "high"]
  d_is_text_of : Ds K mg "is_text_of" s_is_text_of ["value", "signs", "low", "high"]
  d_fits_three : Ds K mg "fits_three" s_fits_three ["value"]
  d_need_three : Ds K mg "need_three" s_need_three ["value"]
  d_need_two : Ds K mg "need_two" s_need_two ["word", "other"]
  d_sum_in_three : Ds K mg "sum_in_three" s_sum_in_three ["word", "other"]
  d_times_in_three : Ds K mg "times_in_three" s_times_in_three ["word", "number"]
  d_far_in_three : Ds K mg "far_in_three" s_far_in_three ["word", "other"]
  d_cross_in : Ds K mg "cross_in" s_cross_in ["word", "other"]
  d_all_three : Ds K mg "all_three" s_all_three ["length"]
  d_is_three_word : Ds K mg "is_three_word" s_is_three_word ["value"]
  d_three_weight : Ds K mg "three_weight" s_three_weight ["word"]
  d_three_sum : Ds K mg "three_sum" s_three_sum ["word", "other"]
  d_three_times : Ds K mg "three_times" s_three_times ["word", "number"]
  d_three_distance : Ds K mg "three_distance" s_three_distance ["word", "other"]
  d_do_cross : Ds K mg "do_cross" s_do_cross ["word", "other"]
  d_three_words : Ds K mg "three_words" s_three_words ["length"]
  d__law_cup : Ds K mg "_law_cup" s__law_cup ["script"]
  d__law_roll : Ds K mg "_law_roll" s__law_roll ["cup", "many"]
  d__law_some : Ds K mg "_law_some" s__law_some ["cup", "things"]
  d__law_sort : Ds K mg "_law_sort" s__law_sort ["value"]
  d__law_like : Ds K mg "_law_like" s__law_like ["one", "other"]
  d__law_bent : Ds K mg "_law_bent" s__law_bent ["cup", "value"]
  d__law_threes : Ds K mg "_law_threes" s__law_threes ["length"]
  d__law_three : Ds K mg "_law_three" s__law_three ["cup", "length"]
  d__law_plus : Ds K mg "_law_plus" s__law_plus ["one", "other", "times"]
  d__law_apart : Ds K mg "_law_apart" s__law_apart ["one", "other"]
  d__law_is_three : Ds K mg "_law_is_three" s__law_is_three ["value"]
  d__law_right : Ds K mg "_law_right" s__law_right ["cup", "length"]
  d__law_written_right : Ds K mg "_law_written_right" s__law_written_right []
  d_law : Ds K mg "law" s_law ["script"]
section
variable {P : Program} {w : World} {K : PySem.W.Frag} {mg : Str → Option Value} {base : Heap}
theorem k_is_integer (B : Bs K mg) (D : Dall K mg) : Kn P w K mg base "is_integer" 1 ["value"] (spV K 1 r_is_integer) := kn_V (k := 0) D.d_is_integer sc_is_integer rfl (fun f cdv A outer s H E hr => (vs_one (vs_ret (pv_and (pv_isi B.isinstance (pos_cons (po_sl 0) (pos_cons (po_ex (pv_ty B.int)) pos_nil))) (pv_one (pv_not (pv_isi B.isinstance (pos_cons (po_sl 0) (pos_cons (po_ex (pv_ty B.bool)) pos_nil)))))))))
theorem k_is_whole (B : Bs K mg) (D : Dall K mg) : Kn P w K mg base "is_whole" 2 ["value", "low", "high"] (spV K 3 r_is_whole) := kn_V (k := 1) D.d_is_whole sc_is_whole rfl (fun f cdv A outer s H E hr => (vs_one (vs_ret (pv_and (kv_call (k_is_integer B D) hr (by decide) rfl (pms_cons (pv_var 0) pms_nil)) (pv_one (pv_lele (pv_var 1) (pv_var 0) (pv_var 2)))))))
theorem k_need_whole (B : Bs K mg) (D : Dall K mg) : Kn P w K mg base "need_whole" 3 ["value", "low", "high"] (spV K 3 r_need_whole) := kn_V (k := 2) D.d_need_whole sc_need_whole rfl (fun f cdv A outer s H E hr => (vs_one (vs_if (pb_not (pb_val (kv_call (k_is_whole B D) hr (by decide) rfl (pms_cons (pv_var 0) (pms_cons (pv_var 1) (pms_cons (pv_var 2) pms_nil)))))) (vs_one vs_bad) vs_nil)))
theorem k_is_text_of (B : Bs K mg) (D : Dall K mg) : Kn P w K mg base "is_text_of" 1 ["value", "signs", "low", "high"] (spV K 4 r_is_text_of) := kn_V (k := 0) D.d_is_text_of sc_is_text_of rfl (fun f cdv A outer s H E hr => (vs_one (vs_ret (pv_and (pv_isi B.isinstance (pos_cons (po_sl 0) (pos_cons (po_ex (pv_ty B.str)) pos_nil))) (pv_and (pv_lele (pv_var 2) (pv_len B.len (pos_cons (po_sl 0) pos_nil)) (pv_var 3)) (pv_one (pv_all rfl B.all (pos_cons (po_ex (pv_new (pn_lc (own := [("sign", 4)]) rfl sc_is_text_of.nd (pi_vS rfl (pv_var 0)) (blkOk_by (N := ["value", "signs", "low", "high", "sign"]) (sc := defScope s_is_text_of) (by decide +kernel)) (by decide) (fun _ _ _ _ _ => (pgT_nm 4 sc_is_text_of.nd)) (fun _ _ _ _ _ => pts_yes) (fun _ _ _ _ _ => (pv_in (u65 hr) (po_sl 4) (po_sl 1)))))) pos_nil))))))))
theorem k_fits_three (B : Bs K mg) (D : Dall K mg) : Kn P w K mg base "fits_three" 2 ["value"] (spV K 1 r_fits_three) := kn_V (k := 1) D.d_fits_three sc_fits_three rfl (fun f cdv A outer s H E hr => (vs_one (vs_ret (kv_call (k_is_text_of B D) hr (by decide) rfl (pms_cons (pv_var 0) (pms_cons (pv_gv B.LETTERS) (pms_cons pv_int (pms_cons (pv_gv B.MOST) pms_nil))))))))
theorem k_need_three (B : Bs K mg) (D : Dall K mg) : Kn P w K mg base "need_three" 3 ["value"] (spV K 1 r_need_three) := kn_V (k := 2) D.d_need_three sc_need_three rfl (fun f cdv A outer s H E hr => (vs_one (vs_if (pb_not (pb_val (kv_call (k_fits_three B D) hr (by decide) rfl (pms_cons (pv_var 0) pms_nil)))) (vs_one vs_bad) vs_nil)))
theorem k_need_two (B : Bs K mg) (D : Dall K mg) : Kn P w K mg base "need_two" 4 ["word", "other"] (spV K 2 r_need_two) := kn_V (k := 3) D.d_need_two sc_need_two rfl (fun f cdv A outer s H E hr => (vs_cons (vs_drop (kv_call (k_need_three B D) hr (by decide) rfl (pms_cons (pv_var 0) pms_nil))) (vs_one (vs_if (L2.PW.pt (pb_or (pb_not (pb_val (kv_call (k_fits_three B D) hr (by decide) rfl (pms_cons (pv_var 1) pms_nil)))) (pb_or1 (pb_ne hr.units (po_ex (pv_len B.len (pos_cons (po_sl 1) pos_nil))) (po_ex (pv_len B.len (pos_cons (po_sl 0) pos_nil))))))) (vs_one vs_bad) vs_nil))))
theorem k_sum_in_three (B : Bs K mg) (D : Dall K mg) : Kn P w K mg base "sum_in_three" 1 ["word", "other"] (spV K 2 r_sum_in_three) := kn_V (k := 0) D.d_sum_in_three sc_sum_in_three rfl (fun f cdv A outer s H E hr => (vs_one (vs_ret (pv_join (pv_str []) (po_ex (pv_new (pn_lc (own := [("one", 2), ("two", 3)]) rfl sc_sum_in_three.nd (pi_vZ rfl B.zip (pms_cons (pv_var 0) (pms_cons (pv_var 1) pms_nil))) (blkOk_by (N := ["word", "other", "one", "two"]) (sc := defScope s_sum_in_three) (by decide +kernel)) (by decide) (fun _ _ _ _ _ => (pgT_tp rfl (pgTs_cons (pgT_nm 2 sc_sum_in_three.nd) (pgTs_cons (pgT_nm 3 sc_sum_in_three.nd) pgTs_nil)))) (fun _ _ _ _ _ => pts_yes) (fun _ _ _ _ _ => (pv_str_ B.str (pos_cons (po_ex (pv_mod (po_ex (pv_add (po_ex (pv_intc B.int (pos_cons (po_sl 2) pos_nil))) (po_ex (pv_intc B.int (pos_cons (po_sl 3) pos_nil))))) (po_ex pv_int))) pos_nil))))))))))
theorem k_times_in_three (B : Bs K mg) (D : Dall K mg) : Kn P w K mg base "times_in_three" 1 ["word", "number"] (spV K 2 r_times_in_three) := kn_V (k := 0) D.d_times_in_three sc_times_in_three rfl (fun f cdv A outer s H E hr => (vs_one (vs_ret (pv_join (pv_str []) (po_ex (pv_new (pn_lc (own := [("sign", 2)]) rfl sc_times_in_three.nd (pi_vS rfl (pv_var 0)) (blkOk_by (N := ["word", "number", "sign"]) (sc := defScope s_times_in_three) (by decide +kernel)) (by decide) (fun _ _ _ _ _ => (pgT_nm 2 sc_times_in_three.nd)) (fun _ _ _ _ _ => pts_yes) (fun _ _ _ _ _ => (pv_str_ B.str (pos_cons (po_ex (pv_mod (po_ex (pv_mul (po_ex (pv_intc B.int (pos_cons (po_sl 2) pos_nil))) (po_sl 1))) (po_ex pv_int))) pos_nil))))))))))
theorem k_far_in_three (B : Bs K mg) (D : Dall K mg) : Kn P w K mg base "far_in_three" 1 ["word", "other"] (spV K 2 r_far_in_three) := kn_V (k := 0) D.d_far_in_three sc_far_in_three rfl (fun f cdv A outer s H E hr => (vs_one (vs_ret (pv_len B.len (pos_cons (po_ex (pv_new (pn_lc (own := [("one", 2), ("two", 3)]) rfl sc_far_in_three.nd (pi_vZ rfl B.zip (pms_cons (pv_var 0) (pms_cons (pv_var 1) pms_nil))) (blkOk_by (N := ["word", "other", "one", "two"]) (sc := defScope s_far_in_three) (by decide +kernel)) (by decide) (fun _ _ _ _ _ => (pgT_tp rfl (pgTs_cons (pgT_nm 2 sc_far_in_three.nd) (pgTs_cons (pgT_nm 3 sc_far_in_three.nd) pgTs_nil)))) (fun _ _ _ _ _ => pts_one (pb_ne hr.units (po_sl 2) (po_sl 3))) (fun _ _ _ _ _ => pv_int)))) pos_nil)))))
theorem k_cross_in (B : Bs K mg) (D : Dall K mg) : Kn P w K mg base "cross_in" 1 ["word", "other"] (spV K 2 r_cross_in) := kn_V (k := 0) D.d_cross_in sc_cross_in rfl (fun f cdv A outer s H E hr => (vs_one (vs_ret (pv_eq hr.units (po_ex (pv_mod (po_ex (pv_sum rfl B.sum (pos_cons (po_ex (pv_new (pn_lc (own := [("one", 2), ("two", 3)]) rfl sc_cross_in.nd (pi_vZ rfl B.zip (pms_cons (pv_var 0) (pms_cons (pv_var 1) pms_nil))) (blkOk_by (N := ["word", "other", "one", "two"]) (sc := defScope s_cross_in) (by decide +kernel)) (by decide) (fun _ _ _ _ _ => (pgT_tp rfl (pgTs_cons (pgT_nm 2 sc_cross_in.nd) (pgTs_cons (pgT_nm 3 sc_cross_in.nd) pgTs_nil)))) (fun _ _ _ _ _ => pts_yes) (fun _ _ _ _ _ => (pv_mul (po_ex (pv_intc B.int (pos_cons (po_sl 2) pos_nil))) (po_ex (pv_intc B.int (pos_cons (po_sl 3) pos_nil)))))))) pos_nil))) (po_ex pv_int))) (po_ex pv_int)))))
theorem k_all_three (B : Bs K mg) (D : Dall K mg) : Kn P w K mg base "all_three" 1 ["length"] (spV K 1 r_all_three) := kn_V (k := 0) D.d_all_three sc_all_three rfl (fun f cdv A outer s H E hr => (vs_cons (vs_setN 1 sc_all_three.nd (pn_lst (pms_cons (pv_str []) pms_nil))) (vs_cons (vs_for PassesOwn.never rfl (pi_vR1 B.range (pms_cons (pv_var 0) pms_nil)) (pgT_nm 2 sc_all_three.nd) (vs_one (vs_setLc2N (own := [("word", 3), ("sign", 4)]) (vs1 := [4]) 1 rfl sc_all_three.nd rfl (pi_vS rfl (pv_var 1)) (blkOk_by (N := ["length", "found", "turn", "word", "sign"]) (sc := defScope s_all_three) (by decide +kernel)) (by decide) (by decide) (by decide) (fun _ _ _ _ _ => (pgT_nm 3 sc_all_three.nd)) (fun _ _ _ _ _ => (pi_vS rfl (pv_gv B.LETTERS))) (fun _ _ _ _ _ => (pgT_nm 4 sc_all_three.nd)) (fun _ _ _ _ _ => (pv_add (po_sl 3) (po_sl 4)))))) (vs_one (vs_ret (pv_var 1))))))
theorem k_is_three_word (B : Bs K mg) (D : Dall K mg) : Kn P w K mg base "is_three_word" 3 ["value"] (spV K 1 r_is_three_word) := kn_V (k := 2) D.d_is_three_word sc_is_three_word rfl (fun f cdv A outer s H E hr => (vs_one (vs_ret (kv_call (k_fits_three B D) hr (by decide) rfl (pms_cons (pv_var 0) pms_nil)))))
theorem k_three_weight (B : Bs K mg) (D : Dall K mg) : Kn P w K mg base "three_weight" 4 ["word"] (spV K 1 r_three_weight) := kn_V (k := 3) D.d_three_weight sc_three_weight rfl (fun f cdv A outer s H E hr => (vs_cons (vs_drop (kv_call (k_need_three B D) hr (by decide) rfl (pms_cons (pv_var 0) pms_nil))) (vs_one (vs_ret (pv_sub (po_ex (pv_len B.len (pos_cons (po_sl 0) pos_nil))) (po_ex (pv_count (pv_var 0) (po_ex (pv_str [48])))))))))
theorem k_three_sum (B : Bs K mg) (D : Dall K mg) : Kn P w K mg base "three_sum" 5 ["word", "other"] (spV K 2 r_three_sum) := kn_V (k := 4) D.d_three_sum sc_three_sum rfl (fun f cdv A outer s H E hr => (vs_cons (vs_drop (kv_call (k_need_two B D) hr (by decide) rfl (pms_cons (pv_var 0) (pms_cons (pv_var 1) pms_nil)))) (vs_one (vs_ret (kv_call (k_sum_in_three B D) hr (by decide) rfl (pms_cons (pv_var 0) (pms_cons (pv_var 1) pms_nil)))))))
theorem k_three_times (B : Bs K mg) (D : Dall K mg) : Kn P w K mg base "three_times" 4 ["word", "number"] (spV K 2 r_three_times) := kn_V (k := 3) D.d_three_times sc_three_times rfl (fun f cdv A outer s H E hr => (vs_cons (vs_drop (kv_call (k_need_three B D) hr (by decide) rfl (pms_cons (pv_var 0) pms_nil))) (vs_cons (vs_drop (kv_call (k_need_whole B D) hr (by decide) rfl (pms_cons (pv_var 1) (pms_cons pv_int (pms_cons pv_int pms_nil))))) (vs_one (vs_ret (kv_call (k_times_in_three B D) hr (by decide) rfl (pms_cons (pv_var 0) (pms_cons (pv_var 1) pms_nil))))))))
theorem k_three_distance (B : Bs K mg) (D : Dall K mg) : Kn P w K mg base "three_distance" 5 ["word", "other"] (spV K 2 r_three_distance) := kn_V (k := 4) D.d_three_distance sc_three_distance rfl (fun f cdv A outer s H E hr => (vs_cons (vs_drop (kv_call (k_need_two B D) hr (by decide) rfl (pms_cons (pv_var 0) (pms_cons (pv_var 1) pms_nil)))) (vs_one (vs_ret (kv_call (k_far_in_three B D) hr (by decide) rfl (pms_cons (pv_var 0) (pms_cons (pv_var 1) pms_nil)))))))
theorem k_do_cross (B : Bs K mg) (D : Dall K mg) : Kn P w K mg base "do_cross" 5 ["word", "other"] (spV K 2 r_do_cross) := kn_V (k := 4) D.d_do_cross sc_do_cross rfl (fun f cdv A outer s H E hr => (vs_cons (vs_drop (kv_call (k_need_two B D) hr (by decide) rfl (pms_cons (pv_var 0) (pms_cons (pv_var 1) pms_nil)))) (vs_one (vs_ret (kv_call (k_cross_in B D) hr (by decide) rfl (pms_cons (pv_var 0) (pms_cons (pv_var 1) pms_nil)))))))
theorem k_three_words (B : Bs K mg) (D : Dall K mg) : Kn P w K mg base "three_words" 4 ["length"] (spV K 1 r_three_words) := kn_V (k := 3) D.d_three_words sc_three_words rfl (fun f cdv A outer s H E hr => (vs_cons (vs_drop (kv_call (k_need_whole B D) hr (by decide) rfl (pms_cons (pv_var 0) (pms_cons pv_int (pms_cons (pv_gv B.MOST) pms_nil))))) (vs_one (vs_ret (pv_tuple rfl B.tuple (pos_cons (po_ex (kv_call (k_all_three B D) hr (by decide) rfl (pms_cons (pv_var 0) pms_nil))) pos_nil))))))
theorem k__law_cup (B : Bs K mg) (D : Dall K mg) : Kn P w K mg base "_law_cup" 1 ["script"] (spN K 1 r__law_cup) := kn_N (k := 0) D.d__law_cup sc__law_cup rfl (fun f cdv A outer s H E hr => (vs_cons (vs_set 1 sc__law_cup.nd (pv_abs B.abs (pos_cons (po_ex (pv_item (po_ex (pv_add (po_ex (pv_new (pn_list rfl B.list (pos_cons (po_sl 0) pos_nil)))) (po_ex (pv_new (pn_lst (pms_cons pv_int pms_nil)))))) (po_ex pv_int))) pos_nil))) (vs_one (vs_retN (pn_lst (pms_cons (pv_if (pb_ge (po_sl 1) (po_ex (pv_pow (po_ex pv_int) (po_ex pv_int)))) (pv_div (po_sl 1) (po_ex pv_int)) pv_int) (pms_cons (pv_add (po_ex (pv_mod (po_ex (pv_intc B.int (pos_cons (po_ex (pv_add (po_ex (pv_mul (po_sl 1) (po_ex pv_int))) (po_ex pv_int))) pos_nil))) (po_ex pv_int))) (po_ex pv_int)) pms_nil)))))))
theorem k__law_roll (B : Bs K mg) (D : Dall K mg) : Kn P w K mg base "_law_roll" 1 ["cup", "many"] (spIO K 1 r__law_roll) := kn_IO (k := 0) D.d__law_roll sc__law_roll rfl (fun f cdv A outer s H E hr => (vs_cons (vs_if (pb_gt (po_ex (pv_item (po_sl 0) (po_ex pv_int))) (po_ex pv_int)) (vs_cons (vs_set 3 sc__law_roll.nd (pv_mod (po_ex (pv_intc B.int (pos_cons (po_ex (pv_item (po_sl 0) (po_ex pv_int))) pos_nil))) (po_sl 1))) (vs_cons (vs_setIx 0 (pv_div (po_ex (pv_item (po_sl 0) (po_ex pv_int))) (po_sl 1)) (po_nm 0) pv_int) (vs_one (vs_ret (pv_var 3))))) vs_nil) (vs_cons (vs_setIx 0 (pv_mod (po_ex (pv_intc B.int (pos_cons (po_ex (pv_add (po_ex (pv_mul (po_ex (pv_item (po_sl 0) (po_ex pv_int))) (po_ex pv_int))) (po_ex pv_int))) pos_nil))) (po_ex pv_int)) (po_nm 0) pv_int) (vs_cons (vs_set 2 sc__law_roll.nd (pv_mod (po_ex (pv_intc B.int (pos_cons (po_ex (pv_mul (po_ex (pv_item (po_sl 0) (po_ex pv_int))) (po_ex (pv_add (po_ex (pv_item (po_sl 0) (po_ex pv_int))) (po_ex pv_int))))) pos_nil))) (po_ex pv_int))) (vs_one (vs_ret (pv_mod (po_ex (pv_intc B.int (pos_cons (po_ex (pv_div (po_sl 2) (po_ex pv_int))) pos_nil))) (po_sl 1))))))))
theorem k__law_some (B : Bs K mg) (D : Dall K mg) : Kn P w K mg base "_law_some" 2 ["cup", "things"] (spIO K 1 r__law_some) := kn_IO (k := 1) D.d__law_some sc__law_some rfl (fun f cdv A outer s H E hr => (vs_one (vs_ret (pv_item (po_sl 1) (po_ex (kio_call 0 (k__law_roll B D) hr (by decide) rfl (po_nm 0) (pms_cons (pv_len B.len (pos_cons (po_sl 1) pos_nil)) pms_nil)))))))
theorem k__law_sort (B : Bs K mg) (D : Dall K mg) : Kn P w K mg base "_law_sort" 1 ["value"] (spV K 1 r__law_sort) := kn_V (k := 0) D.d__law_sort sc__law_sort rfl (fun f cdv A outer s H E hr => (vs_cons (vs_if (L2.PW.pt (pb_or (pb_is (po_sl 0) (po_ex pv_non)) (pb_or1 (pb_val (pv_isi B.isinstance (pos_cons (po_sl 0) (pos_cons (po_ex (pv_ty B.bool)) pos_nil))))))) (vs_one (vs_ret (pv_if (pb_is (po_sl 0) (po_ex pv_non)) pv_int pv_int))) vs_nil) (vs_cons (vs_if (L2.PW.pt (pb_or (pb_val (pv_isi B.isinstance (pos_cons (po_sl 0) (pos_cons (po_ex (pv_ty B.int)) pos_nil)))) (pb_or1 (pb_val (pv_isi B.isinstance (pos_cons (po_sl 0) (pos_cons (po_ex (pv_ty B.str)) pos_nil))))))) (vs_one (vs_ret (pv_if (pb_val (pv_isi B.isinstance (pos_cons (po_sl 0) (pos_cons (po_ex (pv_ty B.int)) pos_nil)))) pv_int pv_int))) vs_nil) (vs_one (vs_ret (pv_if (pb_val (pv_isi B.isinstance (pos_cons (po_sl 0) (pos_cons (po_ex (pv_ty B.tuple)) pos_nil)))) pv_int (pv_if (pb_val (pv_isi B.isinstance (pos_cons (po_sl 0) (pos_cons (po_ex (pv_ty B.list)) pos_nil)))) pv_int pv_int)))))))
theorem k__law_like (B : Bs K mg) (D : Dall K mg) : ∀ n, Kn P w K mg base "_law_like" (1 + n) ["one", "other"] (spV K 2 (r__law_like n))
  | 0 => kn_V0 D.d__law_like
  | n + 1 => kn_V (k := 1 + n) D.d__law_like sc__law_like rfl (fun f cdv A outer s H E hr => (vs_cons (vs_set 2 sc__law_like.nd (kv_call (k__law_sort B D) hr (by omega) rfl (pms_cons (pv_var 1) pms_nil))) (vs_cons (vs_if (L2.PW.pt (pb_or (pb_ne hr.units (po_ex (kv_call (k__law_sort B D) hr (by omega) rfl (pms_cons (pv_var 0) pms_nil))) (po_sl 2)) (pb_or1 (pb_eq hr.units (po_sl 2) (po_ex pv_int))))) (vs_one (vs_ret pv_bl)) vs_nil) (vs_cons (vs_if (pb_in (u65 hr) (po_sl 2) (po_ex (pv_tup (pms_cons pv_int (pms_cons pv_int pms_nil))))) (vs_one (vs_ret (pv_and (pv_eq hr.units (po_ex (pv_len B.len (pos_cons (po_sl 0) pos_nil))) (po_ex (pv_len B.len (pos_cons (po_sl 1) pos_nil)))) (pv_one (pv_eq hr.units (po_ex (pv_new (pn_lc (own := [("first", 3), ("second", 4)]) rfl sc__law_like.nd (pi_vZ rfl B.zip (pms_cons (pv_var 0) (pms_cons (pv_var 1) pms_nil))) (blkOk_by (N := ["one", "other", "sort", "first", "second"]) (sc := defScope s__law_like) (by decide +kernel)) (by decide) (fun _ _ _ _ _ => (pgT_tp rfl (pgTs_cons (pgT_nm 3 sc__law_like.nd) (pgTs_cons (pgT_nm 4 sc__law_like.nd) pgTs_nil)))) (fun _ _ _ _ _ => pts_one (pb_not (pb_val (kv_call (k__law_like B D n) hr (Nat.le_refl _) rfl (pms_cons (pv_var 3) (pms_cons (pv_var 4) pms_nil)))))) (fun _ _ _ _ _ => pv_int)))) (po_ex (pv_new (pn_lst pms_nil)))))))) vs_nil) (vs_one (vs_ret (pv_eq hr.units (po_sl 0) (po_sl 1))))))))
theorem k__law_bent (B : Bs K mg) (D : Dall K mg) : ∀ n, Kn P w K mg base "_law_bent" (2 + n) ["cup", "value"] (spIO K 1 (r__law_bent n))
  | 0 => kn_IO0 D.d__law_bent
  | n + 1 => kn_IO (k := 2 + n) D.d__law_bent sc__law_bent rfl (fun f cdv A outer s H E hr => (vs_cons (vs_setN 2 sc__law_bent.nd (pn_lst (pms_cons pv_non (pms_cons pv_bl (pms_cons pv_int (pms_cons pv_int (pms_cons pv_int (pms_cons (pv_neg (po_ex pv_int)) (pms_cons (pv_str []) (pms_cons (pv_str [48]) (pms_cons (pv_str [49]) (pms_cons (pv_str [48, 49]) (pms_cons (pv_tup pms_nil) (pms_cons (pv_new (pn_lst pms_nil)) (pms_cons (pv_tup (pms_cons (pv_str [48]) pms_nil)) (pms_cons (pv_str [50]) pms_nil)))))))))))))))) (vs_cons (vs_if (L2.PW.pt (pb_and (pb_val (pv_isi B.isinstance (pos_cons (po_sl 1) (pos_cons (po_ex (pv_ty B.str)) pos_nil)))) (pb_and (pb_ne hr.units (po_sl 1) (po_ex (pv_str []))) (pb_and1 (pb_eq hr.units (po_ex (kio_call 0 (k__law_roll B D) hr (by omega) rfl (po_nm 0) (pms_cons pv_int pms_nil))) (po_ex pv_int)))))) (vs_cons (vs_set 3 sc__law_bent.nd (kio_call 0 (k__law_roll B D) hr (by omega) rfl (po_nm 0) (pms_cons (pv_len B.len (pos_cons (po_sl 1) pos_nil)) pms_nil))) (vs_one (vs_ret (pv_add (po_ex (pv_add (po_ex (pv_sl01 (po_sl 1) (pv_var 3))) (po_ex (kio_call 0 (k__law_some B D) hr (by omega) rfl (po_nm 0) (pms_cons (pv_new (pn_lst (pms_cons (pv_str []) (pms_cons (pv_str [48]) (pms_cons (pv_str [49]) (pms_cons (pv_str [48, 48]) (pms_cons (pv_str [50]) pms_nil))))))) pms_nil))))) (po_ex (pv_sl10 (po_sl 1) (pv_add (po_sl 3) (po_ex pv_int)))))))) vs_nil) (vs_cons (vs_if (L2.PW.pt (pb_or (pb_not (pb_val (pv_isi B.isinstance (pos_cons (po_sl 1) (pos_cons (po_ex (pv_ty B.tuple)) pos_nil))))) (pb_or1 (pb_eq hr.units (po_sl 1) (po_ex (pv_tup pms_nil)))))) (vs_one (vs_ret (kio_call 0 (k__law_some B D) hr (by omega) rfl (po_nm 0) (pms_cons (pv_var 2) pms_nil)))) vs_nil) (vs_cons (vs_par2 3 4 rfl sc__law_bent.nd (pms_cons (kio_call 0 (k__law_roll B D) hr (by omega) rfl (po_nm 0) (pms_cons (pv_len B.len (pos_cons (po_sl 1) pos_nil)) pms_nil)) (pms_cons (kio_call 0 (k__law_roll B D) hr (by omega) rfl (po_nm 0) (pms_cons pv_int pms_nil)) pms_nil))) (vs_cons (vs_if (pb_lt (po_sl 4) (po_ex pv_int)) (vs_one (vs_ret (pv_item (po_ex (pv_new (pn_lst (pms_cons (pv_add (po_ex (pv_sl01 (po_sl 1) (pv_var 3))) (po_ex (pv_sl10 (po_sl 1) (pv_add (po_sl 3) (po_ex pv_int))))) (pms_cons (pv_add (po_ex (pv_sl01 (po_sl 1) (pv_add (po_sl 3) (po_ex pv_int)))) (po_ex (pv_sl10 (po_sl 1) (pv_var 3)))) (pms_cons (pv_new (pn_list rfl B.list (pos_cons (po_sl 1) pos_nil))) pms_nil)))))) (po_sl 4)))) vs_nil) (vs_cons (vs_if (pb_lt (po_sl 4) (po_ex pv_int)) (vs_one (vs_ret (pv_add (po_ex (pv_add (po_ex (pv_sl01 (po_sl 1) (pv_var 3))) (po_ex (pv_tup (pms_cons (kio_call 0 (k__law_bent B D n) hr (Nat.le_refl _) rfl (po_nm 0) (pms_cons (pv_item (po_sl 1) (po_sl 3)) pms_nil)) pms_nil))))) (po_ex (pv_sl10 (po_sl 1) (pv_add (po_sl 3) (po_ex pv_int))))))) vs_nil) (vs_one (vs_ret (pv_add (po_ex (pv_add (po_ex (pv_sl01 (po_sl 1) (pv_var 3))) (po_ex (pv_tup (pms_cons (kio_call 0 (k__law_some B D) hr (by omega) rfl (po_nm 0) (pms_cons (pv_var 2) pms_nil)) pms_nil))))) (po_ex (pv_sl10 (po_sl 1) (pv_add (po_sl 3) (po_ex pv_int))))))))))))))
theorem k__law_threes (B : Bs K mg) (D : Dall K mg) : Kn P w K mg base "_law_threes" 1 ["length"] (spV K 1 r__law_threes) := kn_V (k := 0) D.d__law_threes sc__law_threes rfl (fun f cdv A outer s H E hr => (vs_cons (vs_setN 1 sc__law_threes.nd (pn_lst (pms_cons (pv_str []) pms_nil))) (vs_cons (vs_for PassesOwn.never rfl (pi_vR1 B.range (pms_cons (pv_var 0) pms_nil)) (pgT_nm 2 sc__law_threes.nd) (vs_cons (vs_setN 3 sc__law_threes.nd (pn_lst pms_nil)) (vs_cons (vs_for PassesOwn.never rfl (pi_vS rfl (pv_var 1)) (pgT_nm 4 sc__law_threes.nd) (vs_one (vs_drop (pv_ext 3 (po_nm 3) (pv_new (pn_lc (own := [("sign", 5)]) rfl sc__law_threes.nd (pi_vS rfl (pv_str [48, 49, 50])) (blkOk_by (N := ["length", "found", "turn", "longer", "some", "sign"]) (sc := defScope s__law_threes) (by decide +kernel)) (by decide) (fun _ _ _ _ _ => (pgT_nm 5 sc__law_threes.nd)) (fun _ _ _ _ _ => pts_yes) (fun _ _ _ _ _ => (pv_add (po_sl 4) (po_sl 5))))))))) (vs_one (vs_set 1 sc__law_threes.nd (pv_var 3)))))) (vs_one (vs_ret (pv_var 1))))))
theorem k__law_three (B : Bs K mg) (D : Dall K mg) : Kn P w K mg base "_law_three" 3 ["cup", "length"] (spIO K 1 r__law_three) := kn_IO (k := 2) D.d__law_three sc__law_three rfl (fun f cdv A outer s H E hr => (vs_one (vs_ret (pv_join (pv_str []) (po_ex (pv_new (pn_lc (own := [("turn", 2)]) rfl sc__law_three.nd (pi_vR1 B.range (pms_cons (pv_var 1) pms_nil)) (blkOk_by (N := ["cup", "length", "turn"]) (sc := defScope s__law_three) (by decide +kernel)) (by decide) (fun _ _ _ _ _ => (pgT_nm 2 sc__law_three.nd)) (fun _ _ _ _ _ => pts_yes) (fun _ _ _ _ _ => (kio_call 0 (k__law_some B D) hr (by decide) rfl (po_nm 0) (pms_cons (pv_str [48, 48, 49, 50]) pms_nil))))))))))
theorem k__law_plus (B : Bs K mg) (D : Dall K mg) : Kn P w K mg base "_law_plus" 1 ["one", "other", "times"] (spV K 3 r__law_plus) := kn_V (k := 0) D.d__law_plus sc__law_plus rfl (fun f cdv A outer s H E hr => (vs_one (vs_ret (pv_join (pv_str []) (po_ex (pv_new (pn_lc (own := [("left", 3), ("right", 4)]) rfl sc__law_plus.nd (pi_vZ rfl B.zip (pms_cons (pv_var 0) (pms_cons (pv_var 1) pms_nil))) (blkOk_by (N := ["one", "other", "times", "left", "right"]) (sc := defScope s__law_plus) (by decide +kernel)) (by decide) (fun _ _ _ _ _ => (pgT_tp rfl (pgTs_cons (pgT_nm 3 sc__law_plus.nd) (pgTs_cons (pgT_nm 4 sc__law_plus.nd) pgTs_nil)))) (fun _ _ _ _ _ => pts_yes) (fun _ _ _ _ _ => (pv_str_ B.str (pos_cons (po_ex (pv_mod (po_ex (pv_intc B.int (pos_cons (po_ex (pv_add (po_ex (pv_intc B.int (pos_cons (po_sl 3) pos_nil))) (po_ex (pv_mul (po_sl 2) (po_ex (pv_intc B.int (pos_cons (po_sl 4) pos_nil))))))) pos_nil))) (po_ex pv_int))) pos_nil))))))))))
theorem k__law_apart (B : Bs K mg) (D : Dall K mg) : Kn P w K mg base "_law_apart" 1 ["one", "other"] (spV K 2 r__law_apart) := kn_V (k := 0) D.d__law_apart sc__law_apart rfl (fun f cdv A outer s H E hr => (vs_one (vs_ret (pv_len B.len (pos_cons (po_ex (pv_new (pn_lc (own := [("left", 2), ("right", 3)]) rfl sc__law_apart.nd (pi_vZ rfl B.zip (pms_cons (pv_var 0) (pms_cons (pv_var 1) pms_nil))) (blkOk_by (N := ["one", "other", "left", "right"]) (sc := defScope s__law_apart) (by decide +kernel)) (by decide) (fun _ _ _ _ _ => (pgT_tp rfl (pgTs_cons (pgT_nm 2 sc__law_apart.nd) (pgTs_cons (pgT_nm 3 sc__law_apart.nd) pgTs_nil)))) (fun _ _ _ _ _ => pts_one (pb_ne hr.units (po_sl 2) (po_sl 3))) (fun _ _ _ _ _ => pv_int)))) pos_nil)))))
theorem k__law_is_three (B : Bs K mg) (D : Dall K mg) : Kn P w K mg base "_law_is_three" 1 ["value"] (spV K 1 r__law_is_three) := kn_V (k := 0) D.d__law_is_three sc__law_is_three rfl (fun f cdv A outer s H E hr => (vs_one (vs_ret (pv_and (pv_isi B.isinstance (pos_cons (po_sl 0) (pos_cons (po_ex (pv_ty B.str)) pos_nil))) (pv_and (pv_lele pv_int (pv_len B.len (pos_cons (po_sl 0) pos_nil)) pv_int) (pv_one (pv_eq hr.units (po_ex (pv_new (pn_lc (own := [("sign", 1)]) rfl sc__law_is_three.nd (pi_vS rfl (pv_var 0)) (blkOk_by (N := ["value", "sign"]) (sc := defScope s__law_is_three) (by decide +kernel)) (by decide) (fun _ _ _ _ _ => (pgT_nm 1 sc__law_is_three.nd)) (fun _ _ _ _ _ => pts_one (pb_nin (u65 hr) (po_sl 1) (po_ex (pv_str [48, 49, 50])))) (fun _ _ _ _ _ => (pv_var 1))))) (po_ex (pv_new (pn_lst pms_nil))))))))))
theorem k__law_right (B : Bs K mg) (D : Dall K mg) : Kn P w K mg base "_law_right" 13 ["cup", "length"] (spIO K 1 r__law_right) := kn_IO (k := 12) D.d__law_right sc__law_right rfl (fun f cdv A outer s H E hr => (vs_cons (vs_par2 2 3 rfl sc__law_right.nd (pms_cons (kio_call 0 (k__law_three B D) hr (by decide) rfl (po_nm 0) (pms_cons (pv_var 1) pms_nil)) (pms_cons (kio_call 0 (k__law_three B D) hr (by decide) rfl (po_nm 0) (pms_cons (pv_var 1) pms_nil)) pms_nil))) (vs_cons (vs_set 4 sc__law_right.nd (pv_eq hr.units (po_ex (pv_mod (po_ex (pv_intc B.int (pos_cons (po_ex (pv_sum rfl B.sum (pos_cons (po_ex (pv_new (pn_lc (own := [("left", 11), ("right", 12)]) rfl sc__law_right.nd (pi_vZ rfl B.zip (pms_cons (pv_var 2) (pms_cons (pv_var 3) pms_nil))) (blkOk_by (N := ["cup", "length", "one", "other", "crossed", "told", "due", "third", "odds", "value", "sign", "left", "right"]) (sc := defScope s__law_right) (by decide +kernel)) (by decide) (fun _ _ _ _ _ => (pgT_tp rfl (pgTs_cons (pgT_nm 11 sc__law_right.nd) (pgTs_cons (pgT_nm 12 sc__law_right.nd) pgTs_nil)))) (fun _ _ _ _ _ => pts_yes) (fun _ _ _ _ _ => (pv_mul (po_ex (pv_intc B.int (pos_cons (po_sl 11) pos_nil))) (po_ex (pv_intc B.int (pos_cons (po_sl 12) pos_nil)))))))) pos_nil))) pos_nil))) (po_ex pv_int))) (po_ex pv_int))) (vs_cons (vs_setN 5 sc__law_right.nd (pn_lst (pms_cons (kv_call (k_three_sum B D) hr (by decide) rfl (pms_cons (pv_var 2) (pms_cons (pv_var 3) pms_nil))) (pms_cons (kv_call (k_three_distance B D) hr (by decide) rfl (pms_cons (pv_var 2) (pms_cons (pv_var 3) pms_nil))) (pms_cons (kv_call (k_do_cross B D) hr (by decide) rfl (pms_cons (pv_var 2) (pms_cons (pv_var 3) pms_nil))) (pms_cons (kv_call (k_three_weight B D) hr (by decide) rfl (pms_cons (pv_var 2) pms_nil)) (pms_cons (kv_call (k_three_distance B D) hr (by decide) rfl (pms_cons (pv_var 2) (pms_cons (pv_mul (po_ex (pv_str [48])) (po_sl 1)) pms_nil))) pms_nil))))))) (vs_cons (vs_setN 6 sc__law_right.nd (pn_lst (pms_cons (kv_call (k__law_plus B D) hr (by decide) rfl (pms_cons (pv_var 2) (pms_cons (pv_var 3) (pms_cons pv_int pms_nil)))) (pms_cons (kv_call (k__law_apart B D) hr (by decide) rfl (pms_cons (pv_var 2) (pms_cons (pv_var 3) pms_nil))) (pms_cons (pv_var 4) (pms_cons (pv_len B.len (pos_cons (po_ex (pv_new (pn_lc (own := [("sign", 10)]) rfl sc__law_right.nd (pi_vS rfl (pv_var 2)) (blkOk_by (N := ["cup", "length", "one", "other", "crossed", "told", "due", "third", "odds", "value", "sign", "left", "right"]) (sc := defScope s__law_right) (by decide +kernel)) (by decide) (fun _ _ _ _ _ => (pgT_nm 10 sc__law_right.nd)) (fun _ _ _ _ _ => pts_one (pb_ne hr.units (po_sl 10) (po_ex (pv_str [48])))) (fun _ _ _ _ _ => (pv_var 10))))) pos_nil)) (pms_cons (kv_call (k_three_weight B D) hr (by decide) rfl (pms_cons (pv_var 2) pms_nil)) pms_nil))))))) (vs_cons (vs_if (pb_not (pb_val (kv_call (k__law_like B D 10) hr (by decide) rfl (pms_cons (pv_var 5) (pms_cons (pv_var 6) pms_nil))))) (vs_one (vs_ret pv_bl)) vs_nil) (vs_cons (vs_setN 5 sc__law_right.nd (pn_lst (pms_cons (kv_call (k_three_times B D) hr (by decide) rfl (pms_cons (pv_var 2) (pms_cons pv_int pms_nil))) (pms_cons (kv_call (k_three_times B D) hr (by decide) rfl (pms_cons (pv_var 2) (pms_cons pv_int pms_nil))) (pms_cons (kv_call (k_three_times B D) hr (by decide) rfl (pms_cons (pv_var 2) (pms_cons pv_int pms_nil))) (pms_cons (kv_call (k_three_sum B D) hr (by decide) rfl (pms_cons (pv_var 2) (pms_cons (kv_call (k_three_times B D) hr (by decide) rfl (pms_cons (pv_var 2) (pms_cons pv_int pms_nil))) pms_nil))) (pms_cons (kv_call (k_three_sum B D) hr (by decide) rfl (pms_cons (kv_call (k_three_sum B D) hr (by decide) rfl (pms_cons (pv_var 2) (pms_cons (pv_var 3) pms_nil))) (pms_cons (kv_call (k_three_times B D) hr (by decide) rfl (pms_cons (pv_var 3) (pms_cons pv_int pms_nil))) pms_nil))) pms_nil))))))) (vs_cons (vs_if (pb_not (pb_val (kv_call (k__law_like B D 10) hr (by decide) rfl (pms_cons (pv_var 5) (pms_cons (pv_new (pn_lst (pms_cons (pv_mul (po_ex (pv_str [48])) (po_sl 1)) (pms_cons (pv_var 2) (pms_cons (kv_call (k_three_sum B D) hr (by decide) rfl (pms_cons (pv_var 2) (pms_cons (pv_var 2) pms_nil))) (pms_cons (pv_mul (po_ex (pv_str [48])) (po_sl 1)) (pms_cons (pv_var 2) pms_nil))))))) pms_nil))))) (vs_one (vs_ret pv_bl)) vs_nil) (vs_cons (vs_set 7 sc__law_right.nd (kio_call 0 (k__law_three B D) hr (by decide) rfl (po_nm 0) (pms_cons (pv_var 1) pms_nil))) (vs_cons (vs_if (L2.PW.pt (pb_or (pb_ne hr.units (po_ex (kv_call (k_three_weight B D) hr (by decide) rfl (pms_cons (kv_call (k_three_sum B D) hr (by decide) rfl (pms_cons (pv_var 2) (pms_cons (kv_call (k_three_times B D) hr (by decide) rfl (pms_cons (pv_var 3) (pms_cons pv_int pms_nil))) pms_nil))) pms_nil))) (po_ex (kv_call (k_three_distance B D) hr (by decide) rfl (pms_cons (pv_var 2) (pms_cons (pv_var 3) pms_nil))))) (pb_or1 (pb_ne hr.units (po_ex (kv_call (k_three_distance B D) hr (by decide) rfl (pms_cons (kv_call (k_three_sum B D) hr (by decide) rfl (pms_cons (pv_var 2) (pms_cons (pv_var 7) pms_nil))) (pms_cons (kv_call (k_three_sum B D) hr (by decide) rfl (pms_cons (pv_var 3) (pms_cons (pv_var 7) pms_nil))) pms_nil)))) (po_ex (kv_call (k_three_distance B D) hr (by decide) rfl (pms_cons (pv_var 2) (pms_cons (pv_var 3) pms_nil)))))))) (vs_one (vs_ret pv_bl)) vs_nil) (vs_cons (vs_if (L2.PW.pt (pb_and (pb_val (kv_call (k_do_cross B D) hr (by decide) rfl (pms_cons (pv_var 2) (pms_cons (pv_var 7) pms_nil)))) (pb_and (pb_val (kv_call (k_do_cross B D) hr (by decide) rfl (pms_cons (pv_var 3) (pms_cons (pv_var 7) pms_nil)))) (pb_and1 (pb_not (pb_val (kv_call (k_do_cross B D) hr (by decide) rfl (pms_cons (kv_call (k_three_sum B D) hr (by decide) rfl (pms_cons (pv_var 2) (pms_cons (pv_var 3) pms_nil))) (pms_cons (pv_var 7) pms_nil))))))))) (vs_one (vs_ret pv_bl)) vs_nil) (vs_cons (vs_setN 8 sc__law_right.nd (pn_lst (pms_cons (pv_var 2) (pms_cons (pv_add (po_sl 2) (po_ex (pv_str [48]))) (pms_cons (pv_add (po_sl 2) (po_ex (pv_str [51]))) (pms_cons (pv_sl10 (po_sl 2) pv_int) (pms_consT [] (pats_cons (CwR.PET.of (pv_new (pn_list rfl B.list (pos_cons (po_sl 2) pos_nil)))) (pats_cons (CwR.PET.of (pv_tup (pms_cons (pv_var 2) pms_nil))) (pats_cons (CwR.PET.of pv_non) (pats_cons (CwR.PET.of pv_int) (pats_cons (CwR.PET.of pv_int) (pats_cons (CwR.PET.of (pv_add (po_sl 2) (po_ex (pv_str [48, 49, 50, 48, 49, 50])))) (pats_cons (pet_repl [48] [97] (pv_var 2)) (pats_cons (CwR.PET.of (kio_call 0 (k__law_bent B D 10) hr (by decide) rfl (po_nm 0) (pms_cons (pv_var 2) pms_nil))) (pats_cons (CwR.PET.of (kio_call 0 (k__law_bent B D 10) hr (by decide) rfl (po_nm 0) (pms_cons (pv_var 2) pms_nil))) pats_nil)))))))))))))))) (vs_one (vs_ret (pv_eq hr.units (po_ex (pv_new (pn_lc (own := [("value", 9)]) rfl sc__law_right.nd (pi_vS rfl (pv_var 8)) (blkOk_by (N := ["cup", "length", "one", "other", "crossed", "told", "due", "third", "odds", "value", "sign", "left", "right"]) (sc := defScope s__law_right) (by decide +kernel)) (by decide) (fun _ _ _ _ _ => (pgT_nm 9 sc__law_right.nd)) (fun _ _ _ _ _ => pts_one (pb_not (pb_val (kv_call (k__law_like B D 10) hr (by decide) rfl (pms_cons (kv_call (k_is_three_word B D) hr (by decide) rfl (pms_cons (pv_var 9) pms_nil)) (pms_cons (kv_call (k__law_is_three B D) hr (by decide) rfl (pms_cons (pv_var 9) pms_nil)) pms_nil)))))) (fun _ _ _ _ _ => (pv_var 9))))) (po_ex (pv_new (pn_lst pms_nil))))))))))))))))))
theorem k__law_written_right (B : Bs K mg) (D : Dall K mg) : Kn P w K mg base "_law_written_right" 12 [] (spV K 0 r__law_written_right) := kn_V (k := 11) D.d__law_written_right sc__law_written_right rfl (fun f cdv A outer s H E hr => (vs_cons (vs_setN 0 sc__law_written_right.nd (pn_lst (pms_cons (kv_call (k_is_three_word B D) hr (by decide) rfl (pms_cons (pv_str [48, 49, 50, 48]) pms_nil)) (pms_cons (kv_call (k_is_three_word B D) hr (by decide) rfl (pms_cons (pv_str [48, 49, 51]) pms_nil)) (pms_cons (kv_call (k_is_three_word B D) hr (by decide) rfl (pms_cons (pv_str [48, 49, 50, 48, 49, 50, 48]) pms_nil)) (pms_cons (kv_call (k_three_weight B D) hr (by decide) rfl (pms_cons (pv_str [48, 49, 50, 48]) pms_nil)) (pms_cons (kv_call (k_three_sum B D) hr (by decide) rfl (pms_cons (pv_str [48, 49, 50, 49]) (pms_cons (pv_str [50, 50, 50, 50]) pms_nil))) (pms_cons (kv_call (k_three_times B D) hr (by decide) rfl (pms_cons (pv_str [48, 49, 50, 49]) (pms_cons pv_int pms_nil))) pms_nil)))))))) (vs_cons (vs_set 0 sc__law_written_right.nd (pv_add (po_sl 0) (po_ex (pv_new (pn_lst (pms_cons (kv_call (k_three_distance B D) hr (by decide) rfl (pms_cons (pv_str [48, 49, 50, 48]) (pms_cons (pv_str [48, 50, 49, 48]) pms_nil))) (pms_cons (kv_call (k_do_cross B D) hr (by decide) rfl (pms_cons (pv_str [49, 48, 49, 49]) (pms_cons (pv_str [48, 49, 49, 50]) pms_nil))) (pms_cons (kv_call (k_do_cross B D) hr (by decide) rfl (pms_cons (pv_str [49, 50]) (pms_cons (pv_str [49, 49]) pms_nil))) (pms_cons (kv_call (k_do_cross B D) hr (by decide) rfl (pms_cons (pv_str [49]) (pms_cons (pv_str [49]) pms_nil))) (pms_cons (pv_len B.len (pos_cons (po_ex (kv_call (k_three_words B D) hr (by decide) rfl (pms_cons pv_int pms_nil))) pos_nil)) (pms_cons (kv_call (k_three_words B D) hr (by decide) rfl (pms_cons pv_int pms_nil)) pms_nil))))))))))) (vs_one (vs_ret (kv_call (k__law_like B D 10) hr (by decide) rfl (pms_cons (pv_var 0) (pms_cons (pv_new (pn_lst (pms_cons pv_bl (pms_cons pv_bl (pms_cons pv_bl (pms_cons pv_int (pms_cons (pv_str [50, 48, 49, 48]) (pms_cons (pv_str [48, 50, 49, 50]) (pms_cons pv_int (pms_cons pv_bl (pms_cons pv_bl (pms_cons pv_bl (pms_cons pv_int (pms_cons (pv_tup (pms_cons (pv_str [48]) (pms_cons (pv_str [49]) (pms_cons (pv_str [50]) pms_nil)))) pms_nil)))))))))))))) pms_nil))))))))
theorem k_law (B : Bs K mg) (D : Dall K mg) : Kn P w K mg base "law" 14 ["script"] (spV K 1 r_law) := kn_V (k := 13) D.d_law sc_law rfl (fun f cdv A outer s H E hr => (vs_cons (vs_setN 1 sc_law.nd (kn_call (k__law_cup B D) hr (by decide) rfl (pms_cons (pv_var 0) pms_nil))) (vs_cons (vs_if (pb_not (pb_val (kv_call0 (k__law_written_right B D) hr (by decide)))) (vs_one (vs_ret pv_bl)) vs_nil) (vs_cons (vs_for PassesOwn.never rfl (pi_vS rfl (pv_tup (pms_cons pv_int (pms_cons pv_int (pms_cons pv_int (pms_cons pv_int (pms_cons pv_int (pms_cons pv_int pms_nil)))))))) (pgT_nm 2 sc_law.nd) (vs_one (vs_if (L2.PW.pt (pb_or (pb_not (pb_val (kio_call 1 (k__law_right B D) hr (by decide) rfl (po_nm 1) (pms_cons (pv_var 2) pms_nil)))) (pb_or (pb_not (pb_val (kio_call 1 (k__law_right B D) hr (by decide) rfl (po_nm 1) (pms_cons (pv_var 2) pms_nil)))) (pb_or1 (pb_not (pb_val (kv_call (k__law_like B D 10) hr (by decide) rfl (pms_cons (kv_call (k_three_words B D) hr (by decide) rfl (pms_cons (pv_var 2) pms_nil)) (pms_cons (pv_tuple rfl B.tuple (pos_cons (po_ex (kv_call (k__law_threes B D) hr (by decide) rfl (pms_cons (pv_var 2) pms_nil))) pos_nil)) pms_nil))))))))) (vs_one (vs_ret pv_bl)) vs_nil))) (vs_one (vs_ret pv_bl))))))
end
end K70

namespace K70
open PySem PySem.Spec PyProof.Rows L2 VL PL
theorem ok_law {P : Program} {w : World} {K : PySem.W.Frag} {mg : Str → Option Value} {base : Heap} {f : Addr} {fd : FuncData} (B : Bs K mg) (D : Dall K mg) (Fn : Fun K "law" "law" s_law f fd) : FnOk P w K mg base CX0 14 f fd ["script"] (spV K 1 r_law) := def_V (k := 13) Fn sc_law rfl (fun cdv A outer s H E hr => (vs_cons (vs_setN 1 sc_law.nd (kn_call (k__law_cup B D) hr (by decide) rfl (pms_cons (pv_var 0) pms_nil))) (vs_cons (vs_if (pb_not (pb_val (kv_call0 (k__law_written_right B D) hr (by decide)))) (vs_one (vs_ret pv_bl)) vs_nil) (vs_cons (vs_for PassesOwn.never rfl (pi_vS rfl (pv_tup (pms_cons pv_int (pms_cons pv_int (pms_cons pv_int (pms_cons pv_int (pms_cons pv_int (pms_cons pv_int pms_nil)))))))) (pgT_nm 2 sc_law.nd) (vs_one (vs_if (L2.PW.pt (pb_or (pb_not (pb_val (kio_call 1 (k__law_right B D) hr (by decide) rfl (po_nm 1) (pms_cons (pv_var 2) pms_nil)))) (pb_or (pb_not (pb_val (kio_call 1 (k__law_right B D) hr (by decide) rfl (po_nm 1) (pms_cons (pv_var 2) pms_nil)))) (pb_or1 (pb_not (pb_val (kv_call (k__law_like B D 10) hr (by decide) rfl (pms_cons (kv_call (k_three_words B D) hr (by decide) rfl (pms_cons (pv_var 2) pms_nil)) (pms_cons (pv_tuple rfl B.tuple (pos_cons (po_ex (kv_call (k__law_threes B D) hr (by decide) rfl (pms_cons (pv_var 2) pms_nil))) pos_nil)) pms_nil))))))))) (vs_one (vs_ret pv_bl)) vs_nil))) (vs_one (vs_ret pv_bl))))))
theorem all_mk {l : PySem.W.OpenLaw} {w : World} {K : PySem.W.Frag} {h : Heap} {mg : Str → Option Value} {fa : Addr} (X : K.In h) (G : h.Ns mainGlobals mg) (hfa : mg "law" = some (.ref fa))
    {f0 : Addr} {od0 an0 : Option Addr} {sl0 : Array (Option Value)} {oc0 kV0 dc0 pm0 cd0 ct0 : Value} {f1 : Addr} {od1 an1 : Option Addr} {sl1 : Array (Option Value)} {oc1 kV1 dc1 pm1 cd1 ct1 : Value} {f2 : Addr} {od2 an2 : Option Addr} {sl2 : Array (Option Value)} {oc2 kV2 dc2 pm2 cd2 ct2 : Value} {f3 : Addr} {od3 an3 : Option Addr} {sl3 : Array (Option Value)} {oc3 kV3 dc3 pm3 cd3 ct3 : Value} {f4 : Addr} {od4 an4 : Option Addr} {sl4 : Array (Option Value)} {oc4 kV4 dc4 pm4 cd4 ct4 : Value} {f5 : Addr} {od5 an5 : Option Addr} {sl5 : Array (Option Value)} {oc5 kV5 dc5 pm5 cd5 ct5 : Value} {f6 : Addr} {od6 an6 : Option Addr} {sl6 : Array (Option Value)} {oc6 kV6 dc6 pm6 cd6 ct6 : Value} {f7 : Addr} {od7 an7 : Option Addr} {sl7 : Array (Option Value)} {oc7 kV7 dc7 pm7 cd7 ct7 : Value} {f8 : Addr} {od8 an8 : Option Addr} {sl8 : Array (Option Value)} {oc8 kV8 dc8 pm8 cd8 ct8 : Value} {f9 : Addr} {od9 an9 : Option Addr} {sl9 : Array (Option Value)} {oc9 kV9 dc9 pm9 cd9 ct9 : Value} {f10 : Addr} {od10 an10 : Option Addr} {sl10 : Array (Option Value)} {oc10 kV10 dc10 pm10 cd10 ct10 : Value} {f11 : Addr} {od11 an11 : Option Addr} {sl11 : Array (Option Value)} {oc11 kV11 dc11 pm11 cd11 ct11 : Value} {f12 : Addr} {od12 an12 : Option Addr} {sl12 : Array (Option Value)} {oc12 kV12 dc12 pm12 cd12 ct12 : Value} {f13 : Addr} {od13 an13 : Option Addr} {sl13 : Array (Option Value)} {oc13 kV13 dc13 pm13 cd13 ct13 : Value} {f14 : Addr} {od14 an14 : Option Addr} {sl14 : Array (Option Value)} {oc14 kV14 dc14 pm14 cd14 ct14 : Value} {f15 : Addr} {od15 an15 : Option Addr} {sl15 : Array (Option Value)} {oc15 kV15 dc15 pm15 cd15 ct15 : Value} {f16 : Addr} {od16 an16 : Option Addr} {sl16 : Array (Option Value)} {oc16 kV16 dc16 pm16 cd16 ct16 : Value} {f17 : Addr} {od17 an17 : Option Addr} {sl17 : Array (Option Value)} {oc17 kV17 dc17 pm17 cd17 ct17 : Value} {f18 : Addr} {od18 an18 : Option Addr} {sl18 : Array (Option Value)} {oc18 kV18 dc18 pm18 cd18 ct18 : Value} {f19 : Addr} {od19 an19 : Option Addr} {sl19 : Array (Option Value)} {oc19 kV19 dc19 pm19 cd19 ct19 : Value} {f20 : Addr} {od20 an20 : Option Addr} {sl20 : Array (Option Value)} {oc20 kV20 dc20 pm20 cd20 ct20 : Value} {f21 : Addr} {od21 an21 : Option Addr} {sl21 : Array (Option Value)} {oc21 kV21 dc21 pm21 cd21 ct21 : Value} {f22 : Addr} {od22 an22 : Option Addr} {sl22 : Array (Option Value)} {oc22 kV22 dc22 pm22 cd22 ct22 : Value} {f23 : Addr} {od23 an23 : Option Addr} {sl23 : Array (Option Value)} {oc23 kV23 dc23 pm23 cd23 ct23 : Value} {f24 : Addr} {od24 an24 : Option Addr} {sl24 : Array (Option Value)} {oc24 kV24 dc24 pm24 cd24 ct24 : Value} {f25 : Addr} {od25 an25 : Option Addr} {sl25 : Array (Option Value)} {oc25 kV25 dc25 pm25 cd25 ct25 : Value} {f26 : Addr} {od26 an26 : Option Addr} {sl26 : Array (Option Value)} {oc26 kV26 dc26 pm26 cd26 ct26 : Value} {f27 : Addr} {od27 an27 : Option Addr} {sl27 : Array (Option Value)} {oc27 kV27 dc27 pm27 cd27 ct27 : Value} {f28 : Addr} {od28 an28 : Option Addr} {sl28 : Array (Option Value)} {oc28 kV28 dc28 pm28 cd28 ct28 : Value} {f29 : Addr} {od29 an29 : Option Addr} {sl29 : Array (Option Value)} {oc29 kV29 dc29 pm29 cd29 ct29 : Value} {f30 : Addr} {od30 an30 : Option Addr} {sl30 : Array (Option Value)} {oc30 kV30 dc30 pm30 cd30 ct30 : Value} {f31 : Addr} {od31 an31 : Option Addr} {sl31 : Array (Option Value)} {oc31 kV31 dc31 pm31 cd31 ct31 : Value} {f32 : Addr} {od32 an32 : Option Addr} {sl32 : Array (Option Value)} {oc32 kV32 dc32 pm32 cd32 ct32 : Value} {t_LETTERS : Tok} {t_MOST : Tok}
    (a0 : PySem.W.nsIn K mainGlobals "is_integer" = some (some (.ref f0))) (l0 : K.lookup f0 = some ⟨oc0, od0, .func (PySem.W.fnOf "is_integer" "is_integer" (defArgs s_is_integer) (defBody s_is_integer) (defScope s_is_integer) .none kV0 dc0 pm0 an0 cd0 ct0), sl0⟩) (c0 : PySem.W.codeIn K cd0 "is_integer" = true) (k0 : PySem.W.keepIn K (.ref f0) = true)
    (a1 : PySem.W.nsIn K mainGlobals "is_whole" = some (some (.ref f1))) (l1 : K.lookup f1 = some ⟨oc1, od1, .func (PySem.W.fnOf "is_whole" "is_whole" (defArgs s_is_whole) (defBody s_is_whole) (defScope s_is_whole) .none kV1 dc1 pm1 an1 cd1 ct1), sl1⟩) (c1 : PySem.W.codeIn K cd1 "is_whole" = true) (k1 : PySem.W.keepIn K (.ref f1) = true)
    (a2 : PySem.W.nsIn K mainGlobals "need_whole" = some (some (.ref f2))) (l2 : K.lookup f2 = some ⟨oc2, od2, .func (PySem.W.fnOf "need_whole" "need_whole" (defArgs s_need_whole) (defBody s_need_whole) (defScope s_need_whole) .none kV2 dc2 pm2 an2 cd2 ct2), sl2⟩) (c2 : PySem.W.codeIn K cd2 "need_whole" = true) (k2 : PySem.W.keepIn K (.ref f2) = true)
    (a3 : PySem.W.nsIn K mainGlobals "is_text_of" = some (some (.ref f3))) (l3 : K.lookup f3 = some ⟨oc3, od3, .func (PySem.W.fnOf "is_text_of" "is_text_of" (defArgs s_is_text_of) (defBody s_is_text_of) (defScope s_is_text_of) .none kV3 dc3 pm3 an3 cd3 ct3), sl3⟩) (c3 : PySem.W.codeIn K cd3 "is_text_of" = true) (k3 : PySem.W.keepIn K (.ref f3) = true)
    (a4 : PySem.W.nsIn K mainGlobals "fits_three" = some (some (.ref f4))) (l4 : K.lookup f4 = some ⟨oc4, od4, .func (PySem.W.fnOf "fits_three" "fits_three" (defArgs s_fits_three) (defBody s_fits_three) (defScope s_fits_three) .none kV4 dc4 pm4 an4 cd4 ct4), sl4⟩) (c4 : PySem.W.codeIn K cd4 "fits_three" = true) (k4 : PySem.W.keepIn K (.ref f4) = true)
    (a5 : PySem.W.nsIn K mainGlobals "need_three" = some (some (.ref f5))) (l5 : K.lookup f5 = some ⟨oc5, od5, .func (PySem.W.fnOf "need_three" "need_three" (defArgs s_need_three) (defBody s_need_three) (defScope s_need_three) .none kV5 dc5 pm5 an5 cd5 ct5), sl5⟩) (c5 : PySem.W.codeIn K cd5 "need_three" = true) (k5 : PySem.W.keepIn K (.ref f5) = true)
    (a6 : PySem.W.nsIn K mainGlobals "need_two" = some (some (.ref f6))) (l6 : K.lookup f6 = some ⟨oc6, od6, .func (PySem.W.fnOf "need_two" "need_two" (defArgs s_need_two) (defBody s_need_two) (defScope s_need_two) .none kV6 dc6 pm6 an6 cd6 ct6), sl6⟩) (c6 : PySem.W.codeIn K cd6 "need_two" = true) (k6 : PySem.W.keepIn K (.ref f6) = true)
    (a7 : PySem.W.nsIn K mainGlobals "sum_in_three" = some (some (.ref f7))) (l7 : K.lookup f7 = some ⟨oc7, od7, .func (PySem.W.fnOf "sum_in_three" "sum_in_three" (defArgs s_sum_in_three) (defBody s_sum_in_three) (defScope s_sum_in_three) .none kV7 dc7 pm7 an7 cd7 ct7), sl7⟩) (c7 : PySem.W.codeIn K cd7 "sum_in_three" = true) (k7 : PySem.W.keepIn K (.ref f7) = true)
    (a8 : PySem.W.nsIn K mainGlobals "times_in_three" = some (some (.ref f8))) (l8 : K.lookup f8 = some ⟨oc8, od8, .func (PySem.W.fnOf "times_in_three" "times_in_three" (defArgs s_times_in_three) (defBody s_times_in_three) (defScope s_times_in_three) .none kV8 dc8 pm8 an8 cd8 ct8), sl8⟩) (c8 : PySem.W.codeIn K cd8 "times_in_three" = true) (k8 : PySem.W.keepIn K (.ref f8) = true)
    (a9 : PySem.W.nsIn K mainGlobals "far_in_three" = some (some (.ref f9))) (l9 : K.lookup f9 = some ⟨oc9, od9, .func (PySem.W.fnOf "far_in_three" "far_in_three" (defArgs s_far_in_three) (defBody s_far_in_three) (defScope s_far_in_three) .none kV9 dc9 pm9 an9 cd9 ct9), sl9⟩) (c9 : PySem.W.codeIn K cd9 "far_in_three" = true) (k9 : PySem.W.keepIn K (.ref f9) = true)
    (a10 : PySem.W.nsIn K mainGlobals "cross_in" = some (some (.ref f10))) (l10 : K.lookup f10 = some ⟨oc10, od10, .func (PySem.W.fnOf "cross_in" "cross_in" (defArgs s_cross_in) (defBody s_cross_in) (defScope s_cross_in) .none kV10 dc10 pm10 an10 cd10 ct10), sl10⟩) (c10 : PySem.W.codeIn K cd10 "cross_in" = true) (k10 : PySem.W.keepIn K (.ref f10) = true)
    (a11 : PySem.W.nsIn K mainGlobals "all_three" = some (some (.ref f11))) (l11 : K.lookup f11 = some ⟨oc11, od11, .func (PySem.W.fnOf "all_three" "all_three" (defArgs s_all_three) (defBody s_all_three) (defScope s_all_three) .none kV11 dc11 pm11 an11 cd11 ct11), sl11⟩) (c11 : PySem.W.codeIn K cd11 "all_three" = true) (k11 : PySem.W.keepIn K (.ref f11) = true)
    (a12 : PySem.W.nsIn K mainGlobals "is_three_word" = some (some (.ref f12))) (l12 : K.lookup f12 = some ⟨oc12, od12, .func (PySem.W.fnOf "is_three_word" "is_three_word" (defArgs s_is_three_word) (defBody s_is_three_word) (defScope s_is_three_word) .none kV12 dc12 pm12 an12 cd12 ct12), sl12⟩) (c12 : PySem.W.codeIn K cd12 "is_three_word" = true) (k12 : PySem.W.keepIn K (.ref f12) = true)
    (a13 : PySem.W.nsIn K mainGlobals "three_weight" = some (some (.ref f13))) (l13 : K.lookup f13 = some ⟨oc13, od13, .func (PySem.W.fnOf "three_weight" "three_weight" (defArgs s_three_weight) (defBody s_three_weight) (defScope s_three_weight) .none kV13 dc13 pm13 an13 cd13 ct13), sl13⟩) (c13 : PySem.W.codeIn K cd13 "three_weight" = true) (k13 : PySem.W.keepIn K (.ref f13) = true)
    (a14 : PySem.W.nsIn K mainGlobals "three_sum" = some (some (.ref f14))) (l14 : K.lookup f14 = some ⟨oc14, od14, .func (PySem.W.fnOf "three_sum" "three_sum" (defArgs s_three_sum) (defBody s_three_sum) (defScope s_three_sum) .none kV14 dc14 pm14 an14 cd14 ct14), sl14⟩) (c14 : PySem.W.codeIn K cd14 "three_sum" = true) (k14 : PySem.W.keepIn K (.ref f14) = true)
    (a15 : PySem.W.nsIn K mainGlobals "three_times" = some (some (.ref f15))) (l15 : K.lookup f15 = some ⟨oc15, od15, .func (PySem.W.fnOf "three_times" "three_times" (defArgs s_three_times) (defBody s_three_times) (defScope s_three_times) .none kV15 dc15 pm15 an15 cd15 ct15), sl15⟩) (c15 : PySem.W.codeIn K cd15 "three_times" = true) (k15 : PySem.W.keepIn K (.ref f15) = true)
    (a16 : PySem.W.nsIn K mainGlobals "three_distance" = some (some (.ref f16))) (l16 : K.lookup f16 = some ⟨oc16, od16, .func (PySem.W.fnOf "three_distance" "three_distance" (defArgs s_three_distance) (defBody s_three_distance) (defScope s_three_distance) .none kV16 dc16 pm16 an16 cd16 ct16), sl16⟩) (c16 : PySem.W.codeIn K cd16 "three_distance" = true) (k16 : PySem.W.keepIn K (.ref f16) = true)
    (a17 : PySem.W.nsIn K mainGlobals "do_cross" = some (some (.ref f17))) (l17 : K.lookup f17 = some ⟨oc17, od17, .func (PySem.W.fnOf "do_cross" "do_cross" (defArgs s_do_cross) (defBody s_do_cross) (defScope s_do_cross) .none kV17 dc17 pm17 an17 cd17 ct17), sl17⟩) (c17 : PySem.W.codeIn K cd17 "do_cross" = true) (k17 : PySem.W.keepIn K (.ref f17) = true)
    (a18 : PySem.W.nsIn K mainGlobals "three_words" = some (some (.ref f18))) (l18 : K.lookup f18 = some ⟨oc18, od18, .func (PySem.W.fnOf "three_words" "three_words" (defArgs s_three_words) (defBody s_three_words) (defScope s_three_words) .none kV18 dc18 pm18 an18 cd18 ct18), sl18⟩) (c18 : PySem.W.codeIn K cd18 "three_words" = true) (k18 : PySem.W.keepIn K (.ref f18) = true)
    (a19 : PySem.W.nsIn K mainGlobals "_law_cup" = some (some (.ref f19))) (l19 : K.lookup f19 = some ⟨oc19, od19, .func (PySem.W.fnOf "_law_cup" "_law_cup" (defArgs s__law_cup) (defBody s__law_cup) (defScope s__law_cup) .none kV19 dc19 pm19 an19 cd19 ct19), sl19⟩) (c19 : PySem.W.codeIn K cd19 "_law_cup" = true) (k19 : PySem.W.keepIn K (.ref f19) = true)
    (a20 : PySem.W.nsIn K mainGlobals "_law_roll" = some (some (.ref f20))) (l20 : K.lookup f20 = some ⟨oc20, od20, .func (PySem.W.fnOf "_law_roll" "_law_roll" (defArgs s__law_roll) (defBody s__law_roll) (defScope s__law_roll) .none kV20 dc20 pm20 an20 cd20 ct20), sl20⟩) (c20 : PySem.W.codeIn K cd20 "_law_roll" = true) (k20 : PySem.W.keepIn K (.ref f20) = true)
    (a21 : PySem.W.nsIn K mainGlobals "_law_some" = some (some (.ref f21))) (l21 : K.lookup f21 = some ⟨oc21, od21, .func (PySem.W.fnOf "_law_some" "_law_some" (defArgs s__law_some) (defBody s__law_some) (defScope s__law_some) .none kV21 dc21 pm21 an21 cd21 ct21), sl21⟩) (c21 : PySem.W.codeIn K cd21 "_law_some" = true) (k21 : PySem.W.keepIn K (.ref f21) = true)
    (a22 : PySem.W.nsIn K mainGlobals "_law_sort" = some (some (.ref f22))) (l22 : K.lookup f22 = some ⟨oc22, od22, .func (PySem.W.fnOf "_law_sort" "_law_sort" (defArgs s__law_sort) (defBody s__law_sort) (defScope s__law_sort) .none kV22 dc22 pm22 an22 cd22 ct22), sl22⟩) (c22 : PySem.W.codeIn K cd22 "_law_sort" = true) (k22 : PySem.W.keepIn K (.ref f22) = true)
    (a23 : PySem.W.nsIn K mainGlobals "_law_like" = some (some (.ref f23))) (l23 : K.lookup f23 = some ⟨oc23, od23, .func (PySem.W.fnOf "_law_like" "_law_like" (defArgs s__law_like) (defBody s__law_like) (defScope s__law_like) .none kV23 dc23 pm23 an23 cd23 ct23), sl23⟩) (c23 : PySem.W.codeIn K cd23 "_law_like" = true) (k23 : PySem.W.keepIn K (.ref f23) = true)
    (a24 : PySem.W.nsIn K mainGlobals "_law_bent" = some (some (.ref f24))) (l24 : K.lookup f24 = some ⟨oc24, od24, .func (PySem.W.fnOf "_law_bent" "_law_bent" (defArgs s__law_bent) (defBody s__law_bent) (defScope s__law_bent) .none kV24 dc24 pm24 an24 cd24 ct24), sl24⟩) (c24 : PySem.W.codeIn K cd24 "_law_bent" = true) (k24 : PySem.W.keepIn K (.ref f24) = true)
    (a25 : PySem.W.nsIn K mainGlobals "_law_threes" = some (some (.ref f25))) (l25 : K.lookup f25 = some ⟨oc25, od25, .func (PySem.W.fnOf "_law_threes" "_law_threes" (defArgs s__law_threes) (defBody s__law_threes) (defScope s__law_threes) .none kV25 dc25 pm25 an25 cd25 ct25), sl25⟩) (c25 : PySem.W.codeIn K cd25 "_law_threes" = true) (k25 : PySem.W.keepIn K (.ref f25) = true)
    (a26 : PySem.W.nsIn K mainGlobals "_law_three" = some (some (.ref f26))) (l26 : K.lookup f26 = some ⟨oc26, od26, .func (PySem.W.fnOf "_law_three" "_law_three" (defArgs s__law_three) (defBody s__law_three) (defScope s__law_three) .none kV26 dc26 pm26 an26 cd26 ct26), sl26⟩) (c26 : PySem.W.codeIn K cd26 "_law_three" = true) (k26 : PySem.W.keepIn K (.ref f26) = true)
    (a27 : PySem.W.nsIn K mainGlobals "_law_plus" = some (some (.ref f27))) (l27 : K.lookup f27 = some ⟨oc27, od27, .func (PySem.W.fnOf "_law_plus" "_law_plus" (defArgs s__law_plus) (defBody s__law_plus) (defScope s__law_plus) .none kV27 dc27 pm27 an27 cd27 ct27), sl27⟩) (c27 : PySem.W.codeIn K cd27 "_law_plus" = true) (k27 : PySem.W.keepIn K (.ref f27) = true)
    (a28 : PySem.W.nsIn K mainGlobals "_law_apart" = some (some (.ref f28))) (l28 : K.lookup f28 = some ⟨oc28, od28, .func (PySem.W.fnOf "_law_apart" "_law_apart" (defArgs s__law_apart) (defBody s__law_apart) (defScope s__law_apart) .none kV28 dc28 pm28 an28 cd28 ct28), sl28⟩) (c28 : PySem.W.codeIn K cd28 "_law_apart" = true) (k28 : PySem.W.keepIn K (.ref f28) = true)
    (a29 : PySem.W.nsIn K mainGlobals "_law_is_three" = some (some (.ref f29))) (l29 : K.lookup f29 = some ⟨oc29, od29, .func (PySem.W.fnOf "_law_is_three" "_law_is_three" (defArgs s__law_is_three) (defBody s__law_is_three) (defScope s__law_is_three) .none kV29 dc29 pm29 an29 cd29 ct29), sl29⟩) (c29 : PySem.W.codeIn K cd29 "_law_is_three" = true) (k29 : PySem.W.keepIn K (.ref f29) = true)
    (a30 : PySem.W.nsIn K mainGlobals "_law_right" = some (some (.ref f30))) (l30 : K.lookup f30 = some ⟨oc30, od30, .func (PySem.W.fnOf "_law_right" "_law_right" (defArgs s__law_right) (defBody s__law_right) (defScope s__law_right) .none kV30 dc30 pm30 an30 cd30 ct30), sl30⟩) (c30 : PySem.W.codeIn K cd30 "_law_right" = true) (k30 : PySem.W.keepIn K (.ref f30) = true)
    (a31 : PySem.W.nsIn K mainGlobals "_law_written_right" = some (some (.ref f31))) (l31 : K.lookup f31 = some ⟨oc31, od31, .func (PySem.W.fnOf "_law_written_right" "_law_written_right" (defArgs s__law_written_right) (defBody s__law_written_right) (defScope s__law_written_right) .none kV31 dc31 pm31 an31 cd31 ct31), sl31⟩) (c31 : PySem.W.codeIn K cd31 "_law_written_right" = true) (k31 : PySem.W.keepIn K (.ref f31) = true)
    (a32 : PySem.W.nsIn K mainGlobals "law" = some (some (.ref f32))) (l32 : K.lookup f32 = some ⟨oc32, od32, .func (PySem.W.fnOf "law" "law" (defArgs s_law) (defBody s_law) (defScope s_law) .none kV32 dc32 pm32 an32 cd32 ct32), sl32⟩) (c32 : PySem.W.codeIn K cd32 "law" = true) (k32 : PySem.W.keepIn K (.ref f32) = true)
    (z_abs : PySem.W.nsIn K mainGlobals "abs" = some none)
    (z_all : PySem.W.nsIn K mainGlobals "all" = some none)
    (z_bool : PySem.W.nsIn K mainGlobals "bool" = some none)
    (z_int : PySem.W.nsIn K mainGlobals "int" = some none)
    (z_isinstance : PySem.W.nsIn K mainGlobals "isinstance" = some none)
    (z_len : PySem.W.nsIn K mainGlobals "len" = some none)
    (z_list : PySem.W.nsIn K mainGlobals "list" = some none)
    (z_range : PySem.W.nsIn K mainGlobals "range" = some none)
    (z_str : PySem.W.nsIn K mainGlobals "str" = some none)
    (z_sum : PySem.W.nsIn K mainGlobals "sum" = some none)
    (z_tuple : PySem.W.nsIn K mainGlobals "tuple" = some none)
    (z_zip : PySem.W.nsIn K mainGlobals "zip" = some none)
    (g_LETTERS : PySem.W.nsIn K mainGlobals "LETTERS" = some (some (.str "012" t_LETTERS)))
    (g_MOST : PySem.W.nsIn K mainGlobals "MOST" = some (some (.int 6 t_MOST))) :
    ∃ fd : FuncData, (∀ (s : Shared) (v : Value), BindsTo s fd ⟨[v], []⟩ [("script", v)]) ∧ ∀ base : Heap, K.In base → base.Ns mainGlobals mg → FnOk l.prog w K mg base CX0 14 fa fd ["script"] (spV K 1 r_law) := by
  have e := hfa.symm.trans (PySem.W.mg_of X G a32)
  cases e
  have F0 := fun_mk (st := s_is_integer) l0 c0 k0
  have F1 := fun_mk (st := s_is_whole) l1 c1 k1
  have F2 := fun_mk (st := s_need_whole) l2 c2 k2
  have F3 := fun_mk (st := s_is_text_of) l3 c3 k3
  have F4 := fun_mk (st := s_fits_three) l4 c4 k4
  have F5 := fun_mk (st := s_need_three) l5 c5 k5
  have F6 := fun_mk (st := s_need_two) l6 c6 k6
  have F7 := fun_mk (st := s_sum_in_three) l7 c7 k7
  have F8 := fun_mk (st := s_times_in_three) l8 c8 k8
  have F9 := fun_mk (st := s_far_in_three) l9 c9 k9
  have F10 := fun_mk (st := s_cross_in) l10 c10 k10
  have F11 := fun_mk (st := s_all_three) l11 c11 k11
  have F12 := fun_mk (st := s_is_three_word) l12 c12 k12
  have F13 := fun_mk (st := s_three_weight) l13 c13 k13
  have F14 := fun_mk (st := s_three_sum) l14 c14 k14
  have F15 := fun_mk (st := s_three_times) l15 c15 k15
  have F16 := fun_mk (st := s_three_distance) l16 c16 k16
  have F17 := fun_mk (st := s_do_cross) l17 c17 k17
  have F18 := fun_mk (st := s_three_words) l18 c18 k18
  have F19 := fun_mk (st := s__law_cup) l19 c19 k19
  have F20 := fun_mk (st := s__law_roll) l20 c20 k20
  have F21 := fun_mk (st := s__law_some) l21 c21 k21
  have F22 := fun_mk (st := s__law_sort) l22 c22 k22
  have F23 := fun_mk (st := s__law_like) l23 c23 k23
  have F24 := fun_mk (st := s__law_bent) l24 c24 k24
  have F25 := fun_mk (st := s__law_threes) l25 c25 k25
  have F26 := fun_mk (st := s__law_three) l26 c26 k26
  have F27 := fun_mk (st := s__law_plus) l27 c27 k27
  have F28 := fun_mk (st := s__law_apart) l28 c28 k28
  have F29 := fun_mk (st := s__law_is_three) l29 c29 k29
  have F30 := fun_mk (st := s__law_right) l30 c30 k30
  have F31 := fun_mk (st := s__law_written_right) l31 c31 k31
  have F32 := fun_mk (st := s_law) l32 c32 k32
  have B : Bs K mg := ⟨PySem.W.mg_none_of X G z_abs, PySem.W.mg_none_of X G z_all, PySem.W.mg_none_of X G z_bool, PySem.W.mg_none_of X G z_int, PySem.W.mg_none_of X G z_isinstance, PySem.W.mg_none_of X G z_len, PySem.W.mg_none_of X G z_list, PySem.W.mg_none_of X G z_range, PySem.W.mg_none_of X G z_str, PySem.W.mg_none_of X G z_sum, PySem.W.mg_none_of X G z_tuple, PySem.W.mg_none_of X G z_zip, ⟨.str "012", _, PySem.W.mg_of X G g_LETTERS, ⟨t_LETTERS, rfl⟩, cd_str rfl rfl⟩, ⟨.int 6, _, PySem.W.mg_of X G g_MOST, ⟨t_MOST, rfl⟩, cd_int⟩⟩
  have D : Dall K mg := ⟨⟨_, _, F0, PySem.W.mg_of X G a0, F0.binds (ps := ["value"]) fun _ _ _ _ _ _ us hl => match us, hl with | [_], _ => rfl⟩,
    ⟨_, _, F1, PySem.W.mg_of X G a1, F1.binds (ps := ["value", "low", "high"]) fun _ _ _ _ _ _ us hl => match us, hl with | [_, _, _], _ => rfl⟩,
    ⟨_, _, F2, PySem.W.mg_of X G a2, F2.binds (ps := ["value", "low", "high"]) fun _ _ _ _ _ _ us hl => match us, hl with | [_, _, _], _ => rfl⟩,
    ⟨_, _, F3, PySem.W.mg_of X G a3, F3.binds (ps := ["value", "signs", "low", "high"]) fun _ _ _ _ _ _ us hl => match us, hl with | [_, _, _, _], _ => rfl⟩,
    ⟨_, _, F4, PySem.W.mg_of X G a4, F4.binds (ps := ["value"]) fun _ _ _ _ _ _ us hl => match us, hl with | [_], _ => rfl⟩,
    ⟨_, _, F5, PySem.W.mg_of X G a5, F5.binds (ps := ["value"]) fun _ _ _ _ _ _ us hl => match us, hl with | [_], _ => rfl⟩,
    ⟨_, _, F6, PySem.W.mg_of X G a6, F6.binds (ps := ["word", "other"]) fun _ _ _ _ _ _ us hl => match us, hl with | [_, _], _ => rfl⟩,
    ⟨_, _, F7, PySem.W.mg_of X G a7, F7.binds (ps := ["word", "other"]) fun _ _ _ _ _ _ us hl => match us, hl with | [_, _], _ => rfl⟩,
    ⟨_, _, F8, PySem.W.mg_of X G a8, F8.binds (ps := ["word", "number"]) fun _ _ _ _ _ _ us hl => match us, hl with | [_, _], _ => rfl⟩,
    ⟨_, _, F9, PySem.W.mg_of X G a9, F9.binds (ps := ["word", "other"]) fun _ _ _ _ _ _ us hl => match us, hl with | [_, _], _ => rfl⟩,
    ⟨_, _, F10, PySem.W.mg_of X G a10, F10.binds (ps := ["word", "other"]) fun _ _ _ _ _ _ us hl => match us, hl with | [_, _], _ => rfl⟩,
    ⟨_, _, F11, PySem.W.mg_of X G a11, F11.binds (ps := ["length"]) fun _ _ _ _ _ _ us hl => match us, hl with | [_], _ => rfl⟩,
    ⟨_, _, F12, PySem.W.mg_of X G a12, F12.binds (ps := ["value"]) fun _ _ _ _ _ _ us hl => match us, hl with | [_], _ => rfl⟩,
    ⟨_, _, F13, PySem.W.mg_of X G a13, F13.binds (ps := ["word"]) fun _ _ _ _ _ _ us hl => match us, hl with | [_], _ => rfl⟩,
    ⟨_, _, F14, PySem.W.mg_of X G a14, F14.binds (ps := ["word", "other"]) fun _ _ _ _ _ _ us hl => match us, hl with | [_, _], _ => rfl⟩,
    ⟨_, _, F15, PySem.W.mg_of X G a15, F15.binds (ps := ["word", "number"]) fun _ _ _ _ _ _ us hl => match us, hl with | [_, _], _ => rfl⟩,
    ⟨_, _, F16, PySem.W.mg_of X G a16, F16.binds (ps := ["word", "other"]) fun _ _ _ _ _ _ us hl => match us, hl with | [_, _], _ => rfl⟩,
    ⟨_, _, F17, PySem.W.mg_of X G a17, F17.binds (ps := ["word", "other"]) fun _ _ _ _ _ _ us hl => match us, hl with | [_, _], _ => rfl⟩,
    ⟨_, _, F18, PySem.W.mg_of X G a18, F18.binds (ps := ["length"]) fun _ _ _ _ _ _ us hl => match us, hl with | [_], _ => rfl⟩,
    ⟨_, _, F19, PySem.W.mg_of X G a19, F19.binds (ps := ["script"]) fun _ _ _ _ _ _ us hl => match us, hl with | [_], _ => rfl⟩,
    ⟨_, _, F20, PySem.W.mg_of X G a20, F20.binds (ps := ["cup", "many"]) fun _ _ _ _ _ _ us hl => match us, hl with | [_, _], _ => rfl⟩,
    ⟨_, _, F21, PySem.W.mg_of X G a21, F21.binds (ps := ["cup", "things"]) fun _ _ _ _ _ _ us hl => match us, hl with | [_, _], _ => rfl⟩,
    ⟨_, _, F22, PySem.W.mg_of X G a22, F22.binds (ps := ["value"]) fun _ _ _ _ _ _ us hl => match us, hl with | [_], _ => rfl⟩,
    ⟨_, _, F23, PySem.W.mg_of X G a23, F23.binds (ps := ["one", "other"]) fun _ _ _ _ _ _ us hl => match us, hl with | [_, _], _ => rfl⟩,
    ⟨_, _, F24, PySem.W.mg_of X G a24, F24.binds (ps := ["cup", "value"]) fun _ _ _ _ _ _ us hl => match us, hl with | [_, _], _ => rfl⟩,
    ⟨_, _, F25, PySem.W.mg_of X G a25, F25.binds (ps := ["length"]) fun _ _ _ _ _ _ us hl => match us, hl with | [_], _ => rfl⟩,
    ⟨_, _, F26, PySem.W.mg_of X G a26, F26.binds (ps := ["cup", "length"]) fun _ _ _ _ _ _ us hl => match us, hl with | [_, _], _ => rfl⟩,
    ⟨_, _, F27, PySem.W.mg_of X G a27, F27.binds (ps := ["one", "other", "times"]) fun _ _ _ _ _ _ us hl => match us, hl with | [_, _, _], _ => rfl⟩,
    ⟨_, _, F28, PySem.W.mg_of X G a28, F28.binds (ps := ["one", "other"]) fun _ _ _ _ _ _ us hl => match us, hl with | [_, _], _ => rfl⟩,
    ⟨_, _, F29, PySem.W.mg_of X G a29, F29.binds (ps := ["value"]) fun _ _ _ _ _ _ us hl => match us, hl with | [_], _ => rfl⟩,
    ⟨_, _, F30, PySem.W.mg_of X G a30, F30.binds (ps := ["cup", "length"]) fun _ _ _ _ _ _ us hl => match us, hl with | [_, _], _ => rfl⟩,
    ⟨_, _, F31, PySem.W.mg_of X G a31, F31.binds (ps := []) fun _ _ _ _ _ _ us hl => match us, hl with | [], _ => rfl⟩,
    ⟨_, _, F32, PySem.W.mg_of X G a32, F32.binds (ps := ["script"]) fun _ _ _ _ _ _ us hl => match us, hl with | [_], _ => rfl⟩⟩
  exact ⟨PySem.W.fnOf "law" "law" (defArgs s_law) (defBody s_law) (defScope s_law) .none kV32 dc32 pm32 an32 cd32 ct32, fun s v => .of_eq rfl, fun base _ _ => ok_law B D F32⟩
end K70
open PySem PySem.W PyProof.Rows
set_option maxHeartbeats 0 in
theorem PySem.Challenge.cw_wordsapart_k70_whole_words_of_three_sign_holds : PySem.Challenge.rw_wordsapart_k70_whole_words_of_three_sign.Holds := by
  w_on; o_law; k_head; (case hw => w_witness2)
  k_fill
  refine L2.walk_of (l := PySem.Challenge.rw_wordsapart_k70_whole_words_of_three_sign) (n := 63) (k := 14) (x := "script") (CX := fun _ => L2.CX0) (sp := fun w => VL.spV _ 1 K70.r_law) rfl (by decide) rfl ⟨rfl, by decide, by decide⟩ (fun w h Y => PySem.W.kIn_of Y) ?F (fun w H a ns hl ho hS => VL.law_sp (K70.law_ok ns hl) ho hS) (fun _ _ _ _ _ h => h)
  case F =>
    intro w mg fa h KX G hmg
    refine' K70.all_mk KX G hmg ?a0 ?l0 ?c0 ?k0 ?a1 ?l1 ?c1 ?k1 ?a2 ?l2 ?c2 ?k2 ?a3 ?l3 ?c3 ?k3 ?a4 ?l4 ?c4 ?k4 ?a5 ?l5 ?c5 ?k5 ?a6 ?l6 ?c6 ?k6 ?a7 ?l7 ?c7 ?k7 ?a8 ?l8 ?c8 ?k8 ?a9 ?l9 ?c9 ?k9 ?a10 ?l10 ?c10 ?k10 ?a11 ?l11 ?c11 ?k11 ?a12 ?l12 ?c12 ?k12 ?a13 ?l13 ?c13 ?k13 ?a14 ?l14 ?c14 ?k14 ?a15 ?l15 ?c15 ?k15 ?a16 ?l16 ?c16 ?k16 ?a17 ?l17 ?c17 ?k17 ?a18 ?l18 ?c18 ?k18 ?a19 ?l19 ?c19 ?k19 ?a20 ?l20 ?c20 ?k20 ?a21 ?l21 ?c21 ?k21 ?a22 ?l22 ?c22 ?k22 ?a23 ?l23 ?c23 ?k23 ?a24 ?l24 ?c24 ?k24 ?a25 ?l25 ?c25 ?k25 ?a26 ?l26 ?c26 ?k26 ?a27 ?l27 ?c27 ?k27 ?a28 ?l28 ?c28 ?k28 ?a29 ?l29 ?c29 ?k29 ?a30 ?l30 ?c30 ?k30 ?a31 ?l31 ?c31 ?k31 ?a32 ?l32 ?c32 ?k32 ?z_abs ?z_all ?z_bool ?z_int ?z_isinstance ?z_len ?z_list ?z_range ?z_str ?z_sum ?z_tuple ?z_zip ?g_LETTERS ?g_MOST
    (case a0 => k_is); (case l0 => k_is); (case c0 => k_is); (case k0 => k_is)
    (case a1 => k_is); (case l1 => k_is); (case c1 => k_is); (case k1 => k_is)
    (case a2 => k_is); (case l2 => k_is); (case c2 => k_is); (case k2 => k_is)
    (case a3 => k_is); (case l3 => k_is); (case c3 => k_is); (case k3 => k_is)
    (case a4 => k_is); (case l4 => k_is); (case c4 => k_is); (case k4 => k_is)
    (case a5 => k_is); (case l5 => k_is); (case c5 => k_is); (case k5 => k_is)
    (case a6 => k_is); (case l6 => k_is); (case c6 => k_is); (case k6 => k_is)
    (case a7 => k_is); (case l7 => k_is); (case c7 => k_is); (case k7 => k_is)
    (case a8 => k_is); (case l8 => k_is); (case c8 => k_is); (case k8 => k_is)
    (case a9 => k_is); (case l9 => k_is); (case c9 => k_is); (case k9 => k_is)
    (case a10 => k_is); (case l10 => k_is); (case c10 => k_is); (case k10 => k_is)
    (case a11 => k_is); (case l11 => k_is); (case c11 => k_is); (case k11 => k_is)
    (case a12 => k_is); (case l12 => k_is); (case c12 => k_is); (case k12 => k_is)
    (case a13 => k_is); (case l13 => k_is); (case c13 => k_is); (case k13 => k_is)
    (case a14 => k_is); (case l14 => k_is); (case c14 => k_is); (case k14 => k_is)
    (case a15 => k_is); (case l15 => k_is); (case c15 => k_is); (case k15 => k_is)
    (case a16 => k_is); (case l16 => k_is); (case c16 => k_is); (case k16 => k_is)
    (case a17 => k_is); (case l17 => k_is); (case c17 => k_is); (case k17 => k_is)
    (case a18 => k_is); (case l18 => k_is); (case c18 => k_is); (case k18 => k_is)
    (case a19 => k_is); (case l19 => k_is); (case c19 => k_is); (case k19 => k_is)
    (case a20 => k_is); (case l20 => k_is); (case c20 => k_is); (case k20 => k_is)
    (case a21 => k_is); (case l21 => k_is); (case c21 => k_is); (case k21 => k_is)
    (case a22 => k_is); (case l22 => k_is); (case c22 => k_is); (case k22 => k_is)
    (case a23 => k_is); (case l23 => k_is); (case c23 => k_is); (case k23 => k_is)
    (case a24 => k_is); (case l24 => k_is); (case c24 => k_is); (case k24 => k_is)
    (case a25 => k_is); (case l25 => k_is); (case c25 => k_is); (case k25 => k_is)
    (case a26 => k_is); (case l26 => k_is); (case c26 => k_is); (case k26 => k_is)
    (case a27 => k_is); (case l27 => k_is); (case c27 => k_is); (case k27 => k_is)
    (case a28 => k_is); (case l28 => k_is); (case c28 => k_is); (case k28 => k_is)
    (case a29 => k_is); (case l29 => k_is); (case c29 => k_is); (case k29 => k_is)
    (case a30 => k_is); (case l30 => k_is); (case c30 => k_is); (case k30 => k_is)
    (case a31 => k_is); (case l31 => k_is); (case c31 => k_is); (case k31 => k_is)
    (case a32 => k_is); (case l32 => k_is); (case c32 => k_is); (case k32 => k_is)
    (case z_abs => k_is); (case z_all => k_is); (case z_bool => k_is); (case z_int => k_is)
    (case z_isinstance => k_is); (case z_len => k_is); (case z_list => k_is); (case z_range => k_is)
    (case z_str => k_is); (case z_sum => k_is); (case z_tuple => k_is); (case z_zip => k_is)
    (case g_LETTERS => k_is); (case g_MOST => k_is)
