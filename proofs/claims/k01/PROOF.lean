import PyProof.Rows.All
import Wide.All
import OpenK.AllK
import Wide.FinOn
import HandS.ForMost
import HandS.Evl
import HandS.Exc
import HandS.ExcOwn
import HandS.ExcInit
import HandS.WordsExc
import HandS.TupAny
import HandS.NoneIn
import HandS.IsInst
import HandS.Small
import HandS.Dict
import HandS.Text
import KE.KExcIs
import HandS.Comp
import PySem.Challenge.RW_holdsenough_k01_errors
import PyProof.ReprLen
import HandS.Ends
import HandS.EndBits
import HandS.Words
/-! DA -/
set_option Elab.async false
set_option maxRecDepth 100000
set_option maxHeartbeats 4000000
/-! # The data layer: values as pure data, owned objects in slots -/
namespace DL
open PySem L2 Evl

/-- pure data -/
inductive D where
  | non | bl (b : Bool) | int (i : Int) | str (x : Str)
  | tup (xs : List D) | lst (xs : List D)
  | dct (kvs : List (Key × D))
  | ins (C : Addr) (fs : List (Str × D))
  | ref (a : Addr) | ty (n : String)
  /-- an exception of the class at C; the dict of one that is handled -/
  | exc (C : Addr) (fs : List (Str × D)) | xdc (fs : List (Str × D)) | ex0 (C : Addr)
  /-- a list that is only read: the script -/
  | rol (xs : List D)

section
variable (K : PySem.W.Frag) (F : Hp)
mutual
/-- a value reads as data, over the frozen heap F -/
def Dv : D → V → Prop
  | .non, v => v = .non
  | .bl b, v => v = .bl b
  | .int i, v => v = .int i
  | .str x, v => v = .str x
  | .tup ds, v => ∃ a vs, v = .ref a ∧ SqT K F a vs ∧ Dvs ds vs
  | .lst ds, v => ∃ a vs, v = .ref a ∧ F a = some (.lst vs) ∧ Dvs ds vs
  | .dct es, v => ∃ a kvs, v = .ref a ∧ F a = some (.dK kvs) ∧ Dkv es kvs
  | .ins C es, v => ∃ a dx fs, v = .ref a ∧ F a = some (.ins C dx fs) ∧ Dfs es fs
  | .ref a, v => v = .ref a
  | .ty n, v => v = .ty n
  | .exc C es, v => ∃ a dx fs, v = .ref a ∧ F a = some (L2.exo a C (some dx)) ∧ F dx = some (L2.exd dx fs) ∧ Dfs es fs
  | .xdc es, v => ∃ a fs, v = .ref a ∧ F a = some (.xd fs) ∧ Dfs es fs
  | .ex0 C, v => ∃ a, v = .ref a ∧ F a = some (L2.exo a C none)
  | .rol ds, v => ∃ a vs, v = .ref a ∧ SqL K F a vs ∧ Dvs ds vs
def Dvs : List D → List V → Prop
  | [], vs => vs = []
  | d :: ds, vs => ∃ v r, vs = v :: r ∧ Dv d v ∧ Dvs ds r
def Dkv : List (Key × D) → List (Key × V) → Prop
  | [], vs => vs = []
  | (k, d) :: ds, vs => ∃ v r, vs = (k, v) :: r ∧ Dv d v ∧ Dkv ds r
def Dfs : List (Str × D) → List (Str × V) → Prop
  | [], vs => vs = []
  | (k, d) :: ds, vs => ∃ v r, vs = (k, v) :: r ∧ Dv d v ∧ Dfs ds r
end
end
section
variable {K : PySem.W.Frag} {F F' : Hp}
mutual
theorem Dv.mono (e : Ex F F') : ∀ {d : D} {v : V}, Dv K F d v → Dv K F' d v
  | .non, _, h => by simpa only [Dv] using h
  | .bl _, _, h => by simpa only [Dv] using h
  | .int _, _, h => by simpa only [Dv] using h
  | .str _, _, h => by simpa only [Dv] using h
  | .tup ds, _, h => by
    simp only [Dv] at h ⊢
    obtain ⟨a, vs, h1, h2, h3⟩ := h
    exact ⟨a, vs, h1, ex_t e h2, Dvs.mono e h3⟩
  | .lst ds, _, h => by
    simp only [Dv] at h ⊢
    obtain ⟨a, vs, h1, h2, h3⟩ := h
    exact ⟨a, vs, h1, e _ _ h2, Dvs.mono e h3⟩
  | .dct es, _, h => by
    simp only [Dv] at h ⊢
    obtain ⟨a, kvs, h1, h2, h3⟩ := h
    exact ⟨a, kvs, h1, e _ _ h2, Dkv.mono e h3⟩
  | .ins C es, _, h => by
    simp only [Dv] at h ⊢
    obtain ⟨a, dx, fs, h1, h2, h3⟩ := h
    exact ⟨a, dx, fs, h1, e _ _ h2, Dfs.mono e h3⟩
  | .ref _, _, h => by simpa only [Dv] using h
  | .ty _, _, h => by simpa only [Dv] using h
  | .exc C es, _, h => by
    simp only [Dv] at h ⊢
    obtain ⟨a, dx, fs, h1, h2, h4, h3⟩ := h
    exact ⟨a, dx, fs, h1, e _ _ h2, e _ _ h4, Dfs.mono e h3⟩
  | .rol ds, _, h => by
    simp only [Dv] at h ⊢
    obtain ⟨a, vs, h1, h2, h3⟩ := h
    exact ⟨a, vs, h1, ex_l e h2, Dvs.mono e h3⟩
  | .ex0 C, _, h => by
    simp only [Dv] at h ⊢
    obtain ⟨a, h1, h2⟩ := h
    exact ⟨a, h1, e _ _ h2⟩
  | .xdc es, _, h => by
    simp only [Dv] at h ⊢
    obtain ⟨a, fs, h1, h2, h3⟩ := h
    exact ⟨a, fs, h1, e _ _ h2, Dfs.mono e h3⟩
theorem Dvs.mono (e : Ex F F') : ∀ {ds : List D} {vs : List V}, Dvs K F ds vs → Dvs K F' ds vs
  | [], _, h => by simpa only [Dvs] using h
  | d :: ds, _, h => by
    simp only [Dvs] at h ⊢
    obtain ⟨v, r, h1, h2, h3⟩ := h
    exact ⟨v, r, h1, Dv.mono e h2, Dvs.mono e h3⟩
theorem Dkv.mono (e : Ex F F') : ∀ {ds : List (Key × D)} {vs : List (Key × V)}, Dkv K F ds vs → Dkv K F' ds vs
  | [], _, h => by simpa only [Dkv] using h
  | (k, d) :: ds, _, h => by
    simp only [Dkv] at h ⊢
    obtain ⟨v, r, h1, h2, h3⟩ := h
    exact ⟨v, r, h1, Dv.mono e h2, Dkv.mono e h3⟩
theorem Dfs.mono (e : Ex F F') : ∀ {ds : List (Str × D)} {vs : List (Str × V)}, Dfs K F ds vs → Dfs K F' ds vs
  | [], _, h => by simpa only [Dfs] using h
  | (k, d) :: ds, _, h => by
    simp only [Dfs] at h ⊢
    obtain ⟨v, r, h1, h2, h3⟩ := h
    exact ⟨v, r, h1, Dv.mono e h2, Dfs.mono e h3⟩
end
end
end DL
/-! DB -/
set_option Elab.async false
set_option maxRecDepth 100000
set_option maxHeartbeats 4000000
namespace DL
open PySem L2 Evl

/-- a slot: without a value; immutable data; an object that this slot owns, at an address; the same frozen -/
inductive S where
  | un | im (d : D) | ow (a : Addr) (d : D) | fz (a : Addr) (d : D)
abbrev Env := List S
/-- what an expression gives: data; a new object that nobody owns yet; the object that slot i owns -/
inductive DV where
  | im (d : D) | ow (a : Addr) (d : D) | al (i : Nat) (a : Addr)

/-- an owned object: its content is data -/
def Own (K : PySem.W.Frag) (F H : Hp) (a : Addr) : D → Prop
  | .lst ds => ∃ vs, H a = some (.lst vs) ∧ Dvs K F ds vs
  | .dct es => ∃ kvs, H a = some (.dK kvs) ∧ Dkv K F es kvs
  | .ins C es => ∃ dx fs, H a = some (.ins C dx fs) ∧ Dfs K F es fs
  | _ => False
theorem Own.mono {K : PySem.W.Frag} {F F' H H' : Hp} {a : Addr} {d : D} (e : Ex F F') (ha : H' a = H a) (h : Own K F H a d) : Own K F' H' a d := by
  cases d with
  | lst ds =>
    obtain ⟨vs, h1, h2⟩ := h
    exact ⟨vs, ha.trans h1, Dvs.mono e h2⟩
  | dct es =>
    obtain ⟨vs, h1, h2⟩ := h
    exact ⟨vs, ha.trans h1, Dkv.mono e h2⟩
  | ins C es =>
    obtain ⟨dx, vs, h1, h2⟩ := h
    exact ⟨dx, vs, ha.trans h1, Dfs.mono e h2⟩
  | _ => exact (show False from h).elim
theorem Own.some {K : PySem.W.Frag} {F H : Hp} {a : Addr} {d : D} (h : Own K F H a d) : ∃ o, H a = Option.some o := by
  cases d with
  | lst ds =>
    obtain ⟨vs, h1, _⟩ := h
    exact ⟨_, h1⟩
  | dct es =>
    obtain ⟨vs, h1, _⟩ := h
    exact ⟨_, h1⟩
  | ins C es =>
    obtain ⟨dx, vs, h1, _⟩ := h
    exact ⟨_, h1⟩
  | _ => exact (show False from h).elim
/-- frozen: it reads as data -/
theorem Own.frozen {K : PySem.W.Frag} {F H : Hp} {a : Addr} {d : D} {o : HO} (h : Own K F H a d) (ho : H a = Option.some o) (hn : F a = none) : Dv K (upd F a o) d (.ref a) := by
  have e : Ex F (upd F a o) := Ex.new hn
  cases d with
  | lst ds =>
    obtain ⟨vs, h1, h2⟩ := h
    rw [h1] at ho
    cases ho
    simp only [Dv]
    exact ⟨a, vs, rfl, upd_same, Dvs.mono e h2⟩
  | dct es =>
    obtain ⟨vs, h1, h2⟩ := h
    rw [h1] at ho
    cases ho
    simp only [Dv]
    exact ⟨a, vs, rfl, upd_same, Dkv.mono e h2⟩
  | ins C es =>
    obtain ⟨dx, vs, h1, h2⟩ := h
    rw [h1] at ho
    cases ho
    simp only [Dv]
    exact ⟨a, dx, vs, rfl, upd_same, Dfs.mono e h2⟩
  | _ => exact (show False from h).elim

def ownS : S → List Addr
  | .ow a _ => [a]
  | _ => []
def ownT : V × DV → List Addr
  | (_, .ow a _) => [a]
  | _ => []
def owns (ρ : Env) (τ : List (V × DV)) : List Addr := (ρ.map ownS).flatten ++ (τ.map ownT).flatten

def SlotOk (K : PySem.W.Frag) (F H : Hp) (sv : Option (Option V)) : S → Prop
  | .un => True
  | .im d => ∃ v, sv = some (some v) ∧ Dv K F d v
  | .ow a d => sv = some (some (.ref a)) ∧ Own K F H a d
  | .fz a d => sv = some (some (.ref a)) ∧ Dv K F d (.ref a)
def TempOk (K : PySem.W.Frag) (F H : Hp) (ρ : Env) : V × DV → Prop
  | (v, .im d) => Dv K F d v
  | (v, .ow a d) => v = .ref a ∧ Own K F H a d
  | (v, .al i a) => v = .ref a ∧ ∃ d, ρ[i]? = some (.ow a d) ∨ (ρ[i]? = some (.fz a d) ∧ Dv K F d (.ref a))

/-- the frozen heap and the frame at a def's start -/
structure BG where
  fz : Hp
  fr : Hp
structure RelF (K : PySem.W.Frag) (B : BG) (F : Hp) (σ : L2.St) (H : Hp) (ρ : Env) (τ : List (V × DV)) : Prop where
  sub : Ex F H
  bs : Ex B.fz F
  fr : Ex B.fr H
  ng : ∀ a, F a ≠ none → B.fz a ≠ none ∨ B.fr a = none
  og : ∀ a ∈ owns ρ τ, B.fr a = none
  len : σ.length = ρ.length
  sl : ∀ (i : Nat) (s : S), ρ[i]? = some s → SlotOk K F H (σ[i]?) s
  tm : ∀ p ∈ τ, TempOk K F H ρ p
  nd : (owns ρ τ).Nodup
  nf : ∀ a ∈ owns ρ τ, F a = none
def Rel (K : PySem.W.Frag) (B : BG) (σ : L2.St) (H : Hp) (ρ : Env) (τ : List (V × DV)) : Prop := ∃ F, RelF K B F σ H ρ τ

section
variable {K : PySem.W.Frag} {B : BG} {F F' H H' : Hp} {σ : L2.St} {ρ : Env} {τ : List (V × DV)} {v : V} {x : DV} {d : D} {a p : Addr} {i : Nat}

theorem own_at (R : RelF K B F σ H ρ τ) (h : a ∈ owns ρ τ) : ∃ d, Own K F H a d := by
  unfold owns at h
  rcases List.mem_append.mp h with h | h
  · obtain ⟨l, hl, ha⟩ := List.mem_flatten.mp h
    obtain ⟨s, hs, rfl⟩ := List.mem_map.mp hl
    obtain ⟨i, hi⟩ := List.mem_iff_getElem?.mp hs
    cases s with
    | ow b d =>
      have e : a = b := by simpa [ownS] using ha
      subst e
      exact ⟨d, (R.sl i _ hi).2⟩
    | un => simp [ownS] at ha
    | im d => simp [ownS] at ha
    | fz b d => simp [ownS] at ha
  · obtain ⟨l, hl, ha⟩ := List.mem_flatten.mp h
    obtain ⟨⟨w, s⟩, hs, rfl⟩ := List.mem_map.mp hl
    cases s with
    | ow b d =>
      have e : a = b := by simpa [ownT] using ha
      subst e
      exact ⟨d, (R.tm _ hs).2⟩
    | im d => simp [ownT] at ha
    | al i b => simp [ownT] at ha

/-- the heap and the frozen heap grow; owned objects stay -/
theorem RelF.grow (R : RelF K B F σ H ρ τ) (e : Ex F F') (s : Ex F' H') (k : ∀ a ∈ owns ρ τ, H' a = H a ∧ F' a = none) (hf : Ex B.fr H') (hn : ∀ a, F' a ≠ none → F a ≠ none ∨ B.fr a = none) : RelF K B F' σ H' ρ τ where
  sub := s
  bs := R.bs.trans e
  fr := hf
  ng := fun a ha => (hn a ha).elim (R.ng a) .inr
  og := R.og
  len := R.len
  sl := fun i s hi => by
    have h := R.sl i s hi
    cases s with
    | un => trivial
    | im d =>
      obtain ⟨v, h1, h2⟩ := h
      exact ⟨v, h1, h2.mono e⟩
    | fz a d => exact ⟨h.1, h.2.mono e⟩
    | ow a d =>
      have hm : a ∈ owns ρ τ := List.mem_append_left _ (List.mem_flatten.mpr ⟨_, List.mem_map.mpr ⟨_, List.mem_of_getElem? hi, rfl⟩, by simp [ownS]⟩)
      exact ⟨h.1, h.2.mono e (k a hm).1⟩
  tm := fun ⟨v, x⟩ hp => by
    have h := R.tm _ hp
    cases x with
    | im d => exact Dv.mono e h
    | ow a d =>
      have hm : a ∈ owns ρ τ := List.mem_append_right _ (List.mem_flatten.mpr ⟨_, List.mem_map.mpr ⟨_, hp, rfl⟩, by simp [ownT]⟩)
      exact ⟨h.1, h.2.mono e (k a hm).1⟩
    | al i a =>
      obtain ⟨h1, d, h2⟩ := h
      refine ⟨h1, d, ?_⟩
      rcases h2 with h2 | ⟨h2, h3⟩
      · exact .inl h2
      · exact .inr ⟨h2, h3.mono e⟩
  nd := R.nd
  nf := fun a ha => (k a ha).2
/-- a temp is forgotten -/
theorem owns_pop {a : Addr} (ha : a ∈ owns ρ τ) : a ∈ owns ρ ((v, x) :: τ) := by
  unfold owns at ha ⊢
  rw [List.map_cons, List.flatten_cons]
  rcases List.mem_append.mp ha with h | h
  · exact List.mem_append_left _ h
  · exact List.mem_append_right _ (List.mem_append_right _ h)
theorem RelF.pop (R : RelF K B F σ H ρ ((v, x) :: τ)) : RelF K B F σ H ρ τ where
  sub := R.sub
  bs := R.bs
  fr := R.fr
  ng := R.ng
  og := fun a ha => R.og a (owns_pop ha)
  len := R.len
  sl := R.sl
  tm := fun p hp => R.tm p (List.mem_cons_of_mem _ hp)
  nd := by
    have h := R.nd
    unfold owns at h ⊢
    rw [List.map_cons, List.flatten_cons] at h
    exact h.sublist (List.Sublist.append (List.Sublist.refl _) (List.sublist_append_right _ _))
  nf := fun a ha => R.nf a (owns_pop ha)
theorem RelF.pushIm (R : RelF K B F σ H ρ τ) (h : Dv K F d v) : RelF K B F σ H ρ ((v, .im d) :: τ) where
  sub := R.sub
  bs := R.bs
  fr := R.fr
  ng := R.ng
  og := fun a ha => R.og a (by simpa [owns, ownT] using ha)
  len := R.len
  sl := R.sl
  tm := fun p hp => by
    rcases List.mem_cons.mp hp with rfl | hp
    · exact h
    · exact R.tm p hp
  nd := by simpa [owns, ownT] using R.nd
  nf := fun a ha => R.nf a (by simpa [owns, ownT] using ha)
theorem RelF.pushAl (R : RelF K B F σ H ρ τ) (h : TempOk K F H ρ (v, .al i a)) : RelF K B F σ H ρ ((v, .al i a) :: τ) where
  sub := R.sub
  bs := R.bs
  fr := R.fr
  ng := R.ng
  og := fun a ha => R.og a (by simpa [owns, ownT] using ha)
  len := R.len
  sl := R.sl
  tm := fun p hp => by
    rcases List.mem_cons.mp hp with rfl | hp
    · exact h
    · exact R.tm p hp
  nd := by simpa [owns, ownT] using R.nd
  nf := fun a ha => R.nf a (by simpa [owns, ownT] using ha)
theorem owns_cons : (owns ρ ((V.ref a, DV.ow a d) :: τ)).Perm (a :: owns ρ τ) := by
  unfold owns
  rw [List.map_cons, List.flatten_cons]
  exact List.perm_middle
theorem RelF.pushOw (R : RelF K B F σ H ρ τ) (h : Own K F H a d) (hn : F a = none) (ho : a ∉ owns ρ τ) (hg : B.fr a = none) : RelF K B F σ H ρ ((.ref a, .ow a d) :: τ) where
  sub := R.sub
  bs := R.bs
  fr := R.fr
  ng := R.ng
  og := fun b hb => by
    rcases List.mem_cons.mp (owns_cons.mem_iff.mp hb) with rfl | h
    · exact hg
    · exact R.og b h
  len := R.len
  sl := R.sl
  tm := fun p hp => by
    rcases List.mem_cons.mp hp with rfl | hp
    · exact ⟨rfl, h⟩
    · exact R.tm p hp
  nd := owns_cons.nodup_iff.mpr (List.nodup_cons.mpr ⟨ho, R.nd⟩)
  nf := fun b hb => by
    rcases List.mem_cons.mp (owns_cons.mem_iff.mp hb) with rfl | h
    · exact hn
    · exact R.nf b h

theorem owned_not_new (R : RelF K B F σ H ρ τ) (hp : H p = none) : p ∉ owns ρ τ := fun h => by
  obtain ⟨d, hd⟩ := own_at R h
  obtain ⟨o, ho⟩ := hd.some
  rw [hp] at ho
  cases ho
theorem frozen_not_new (R : RelF K B F σ H ρ τ) (hp : H p = none) : F p = none := fresh_back R.sub hp
theorem ex_upd {o : HO} (s : Ex F H) (hn : F p = none) : Ex (upd F p o) (upd H p o) := fun b u e => by
  by_cases hb : b = p
  · subst hb
    rw [upd_same] at e ⊢
    exact e
  · rw [upd_ne hb] at e ⊢
    exact s b u e
theorem ex_new {o : HO} {G : Hp} (s : Ex G H) (hp : H p = none) : Ex G (upd H p o) := fun b u e => by
  rw [upd_ne (ne_of_none e (fresh_back s hp))]
  exact s b u e
theorem ne_none_upd {o : HO} {b : Addr} (h : upd F p o b ≠ none) : F b ≠ none ∨ b = p := by
  by_cases hb : b = p
  · exact .inr hb
  · rw [upd_ne hb] at h
    exact .inl h
/-- a new object, frozen at once -/
theorem RelF.newIm {o : HO} (R : RelF K B F σ H ρ τ) (hp : H p = none) (h : Dv K (upd F p o) d (.ref p)) : RelF K B (upd F p o) σ (upd H p o) ρ ((.ref p, .im d) :: τ) := by
  have fp := frozen_not_new R hp
  refine RelF.pushIm (R.grow (Ex.new fp) (ex_upd R.sub fp) (fun a ha => ?_) (ex_new R.fr hp) fun b hb => (ne_none_upd hb).elim .inl fun z => .inr (z ▸ fresh_back R.fr hp)) h
  have ne : a ≠ p := fun z => owned_not_new R hp (z ▸ ha)
  exact ⟨upd_ne ne, (upd_ne ne).trans (R.nf a ha)⟩
/-- a new object, owned by the temp -/
theorem RelF.newOw {o : HO} (R : RelF K B F σ H ρ τ) (hp : H p = none) (h : Own K F (upd H p o) p d) : RelF K B F σ (upd H p o) ρ ((.ref p, .ow p d) :: τ) := by
  have fp := frozen_not_new R hp
  refine RelF.pushOw (R.grow (Ex.refl F) (fun b u e => ?_) (fun a ha => ?_) (ex_new R.fr hp) fun b hb => .inl hb) h fp (owned_not_new R hp) (fresh_back R.fr hp)
  · rw [upd_ne (ne_of_none e fp)]
    exact R.sub b u e
  · have ne : a ≠ p := fun z => owned_not_new R hp (z ▸ ha)
    exact ⟨upd_ne ne, R.nf a ha⟩
end
end DL
/-! DC -/
set_option Elab.async false
set_option maxRecDepth 100000
set_option maxHeartbeats 4000000
namespace DL
open PySem L2 Evl

/-! ### slots changed: which objects are owned -/
theorem flat_set {f : S → List Addr} {s t : S} (ht : f t = []) : ∀ {ρ : Env} {i : Nat}, ρ[i]? = some s → ((ρ.map f).flatten).Perm (f s ++ ((ρ.set i t).map f).flatten)
  | [], i, h => by simp at h
  | x :: ρ, 0, h => by
    have e : x = s := by simpa using h
    subst e
    simp [ht]
  | x :: ρ, i + 1, h => by
    have ih := flat_set (f := f) (s := s) (t := t) ht (ρ := ρ) (i := i) (by simpa using h)
    simp only [List.map_cons, List.flatten_cons, List.set_cons_succ]
    refine ((List.Perm.append_left (f x) ih).trans ?_)
    rw [← List.append_assoc, ← List.append_assoc]
    exact List.Perm.append_right _ List.perm_append_comm
theorem owns_set_im {ρ : Env} {τ : List (V × DV)} {i : Nat} {s t : S} (ht : ownS t = []) (h : ρ[i]? = some s) : (owns ρ τ).Perm (ownS s ++ owns (ρ.set i t) τ) := by
  unfold owns
  rw [← List.append_assoc]
  exact List.Perm.append_right _ (flat_set ht h)
theorem map_set_same {f : S → List Addr} {s t : S} (ht : f t = f s) : ∀ {ρ : Env} {i : Nat}, ρ[i]? = some s → (ρ.set i t).map f = ρ.map f
  | [], i, h => by simp at h
  | x :: ρ, 0, h => by
    have e : x = s := by simpa using h
    subst e
    simp [ht]
  | x :: ρ, i + 1, h => by
    have ih := map_set_same (f := f) (s := s) (t := t) ht (ρ := ρ) (i := i) (by simpa using h)
    simp [ih]
theorem owns_set_same {ρ : Env} {τ : List (V × DV)} {i : Nat} {s t : S} (ht : ownS t = ownS s) (h : ρ[i]? = some s) : owns (ρ.set i t) τ = owns ρ τ := by
  unfold owns
  rw [map_set_same ht h]

section
variable {K : PySem.W.Frag} {B : BG} {F F' H H' : Hp} {σ : L2.St} {ρ : Env} {τ : List (V × DV)} {v : V} {x : DV} {d d' : D} {a p : Addr} {i : Nat}

/-- a new object's owner lets go: the object is frozen -/
theorem RelF.freezeT (R : RelF K B F σ H ρ ((v, .ow a d) :: τ)) : ∃ F', Ex F F' ∧ RelF K B F' σ H ρ ((v, .im d) :: τ) := by
  obtain ⟨rfl, hO⟩ := R.tm _ List.mem_cons_self
  obtain ⟨o, ho⟩ := hO.some
  have e : (owns ρ ((V.ref a, DV.ow a d) :: τ)).Perm (a :: owns ρ τ) := owns_cons
  have na : F a = none := R.nf a (e.mem_iff.mpr List.mem_cons_self)
  have nm : a ∉ owns ρ τ := (List.nodup_cons.mp (e.nodup_iff.mp R.nd)).1
  refine ⟨upd F a o, Ex.new na, RelF.pushIm (R.pop.grow (Ex.new na) (fun b u h => ?_) (fun b hb => ⟨rfl, ?_⟩) R.fr fun b hb => (ne_none_upd hb).elim .inl fun z => .inr (z ▸ R.og a (e.mem_iff.mpr List.mem_cons_self))) (hO.frozen ho na)⟩
  · by_cases hb : b = a
    · subst hb
      rw [upd_same] at h
      rw [ho]
      exact h
    · rw [upd_ne hb] at h
      exact R.sub b u h
  · have ne : b ≠ a := fun z => nm (z ▸ hb)
    exact (upd_ne ne).trans (R.pop.nf b hb)

/-- slot i's object is frozen -/
theorem RelF.freezeS (R : RelF K B F σ H ρ τ) (hi : ρ[i]? = some (.ow a d)) : ∃ F', Ex F F' ∧ Dv K F' d (.ref a) ∧ RelF K B F' σ H (ρ.set i (.fz a d)) τ := by
  obtain ⟨hs, hO⟩ := R.sl i _ hi
  obtain ⟨o, ho⟩ := hO.some
  have pm : (owns ρ τ).Perm (a :: owns (ρ.set i (.fz a d)) τ) := owns_set_im (s := .ow a d) (t := .fz a d) rfl hi
  have na : F a = none := R.nf a (pm.mem_iff.mpr List.mem_cons_self)
  have nd := List.nodup_cons.mp (pm.nodup_iff.mp R.nd)
  have hd : Dv K (upd F a o) d (.ref a) := hO.frozen ho na
  have e : Ex F (upd F a o) := Ex.new na
  have li : i < ρ.length := (List.getElem?_eq_some_iff.mp hi).1
  refine ⟨upd F a o, e, hd, ?_⟩
  refine ⟨fun b u h => ?_, R.bs.trans e, R.fr, fun b hb => (ne_none_upd hb).elim (R.ng b) fun z => .inr (z ▸ R.og a (pm.mem_iff.mpr List.mem_cons_self)), fun b hb => R.og b (pm.mem_iff.mpr (List.mem_cons_of_mem _ hb)), by rw [List.length_set]; exact R.len, fun j s hj => ?_, fun q hq => ?_, nd.2, fun b hb => ?_⟩
  · by_cases hb : b = a
    · subst hb
      rw [upd_same] at h
      rw [ho]
      exact h
    · rw [upd_ne hb] at h
      exact R.sub b u h
  · by_cases hji : j = i
    · subst hji
      rw [List.getElem?_set_self li] at hj
      cases hj
      exact ⟨hs, hd⟩
    · rw [List.getElem?_set_ne (Ne.symm hji)] at hj
      have h := R.sl j s hj
      cases s with
      | un => trivial
      | im d2 =>
        obtain ⟨w, h1, h2⟩ := h
        exact ⟨w, h1, h2.mono e⟩
      | ow b d2 => exact ⟨h.1, h.2.mono e rfl⟩
      | fz b d2 => exact ⟨h.1, h.2.mono e⟩
  · obtain ⟨w, y⟩ := q
    have h := R.tm _ hq
    cases y with
    | im d2 => exact Dv.mono e h
    | ow b d2 => exact ⟨h.1, h.2.mono e rfl⟩
    | al j b =>
      obtain ⟨h1, d2, h2⟩ := h
      by_cases hji : j = i
      · subst hji
        rcases h2 with h2 | ⟨h2, h3⟩
        · rw [hi] at h2
          cases h2
          exact ⟨h1, d, .inr ⟨List.getElem?_set_self li, hd⟩⟩
        · rw [hi] at h2
          cases h2
      · refine ⟨h1, d2, ?_⟩
        rw [List.getElem?_set_ne (Ne.symm hji)]
        rcases h2 with h2 | ⟨h2, h3⟩
        · exact .inl h2
        · exact .inr ⟨h2, h3.mono e⟩
  · have ne : b ≠ a := fun z => nd.1 (z ▸ hb)
    exact (upd_ne ne).trans (R.nf b (pm.mem_iff.mpr (List.mem_cons_of_mem _ hb)))

/-- slot i's object is changed -/
theorem RelF.mutS {o : HO} (R : RelF K B F σ H ρ τ) (hi : ρ[i]? = some (.ow a d)) (hn : Own K F (upd H a o) a d') : RelF K B F σ (upd H a o) (ρ.set i (.ow a d')) τ := by
  obtain ⟨hs, hO⟩ := R.sl i _ hi
  have pm : (owns ρ τ).Perm (a :: owns (ρ.set i .un) τ) := owns_set_im (s := .ow a d) (t := .un) rfl hi
  have na : F a = none := R.nf a (pm.mem_iff.mpr List.mem_cons_self)
  have nd := List.nodup_cons.mp (pm.nodup_iff.mp R.nd)
  have li : i < ρ.length := (List.getElem?_eq_some_iff.mp hi).1
  have eo : owns (ρ.set i (.ow a d')) τ = owns ρ τ := owns_set_same (s := .ow a d) rfl hi
  have own_ne : ∀ b, b ∈ owns (ρ.set i .un) τ → upd H a o b = H b := fun b hb => upd_ne fun z => nd.1 (z ▸ hb)
  refine ⟨R.sub.mut na, R.bs, R.fr.mut (R.og a (pm.mem_iff.mpr List.mem_cons_self)), R.ng, fun b hb => R.og b (eo ▸ hb), by rw [List.length_set]; exact R.len, fun j s hj => ?_, fun q hq => ?_, by rw [eo]; exact R.nd, fun b hb => R.nf b (eo ▸ hb)⟩
  · by_cases hji : j = i
    · subst hji
      rw [List.getElem?_set_self li] at hj
      cases hj
      exact ⟨hs, hn⟩
    · rw [List.getElem?_set_ne (Ne.symm hji)] at hj
      have h := R.sl j s hj
      cases s with
      | un => trivial
      | im d2 => exact h
      | fz b d2 => exact h
      | ow b d2 =>
        have hm : b ∈ owns (ρ.set i .un) τ := List.mem_append_left _ (List.mem_flatten.mpr ⟨[b], List.mem_map.mpr ⟨.ow b d2, List.mem_of_getElem? (i := j) (by rw [List.getElem?_set_ne (Ne.symm hji)]; exact hj), rfl⟩, List.mem_singleton.mpr rfl⟩)
        exact ⟨h.1, h.2.mono (Ex.refl F) (own_ne b hm)⟩
  · obtain ⟨w, y⟩ := q
    have h := R.tm _ hq
    cases y with
    | im d2 => exact h
    | ow b d2 =>
      have hm : b ∈ owns (ρ.set i .un) τ := List.mem_append_right _ (List.mem_flatten.mpr ⟨[b], List.mem_map.mpr ⟨_, hq, rfl⟩, List.mem_singleton.mpr rfl⟩)
      exact ⟨h.1, h.2.mono (Ex.refl F) (own_ne b hm)⟩
    | al j b =>
      obtain ⟨h1, d2, h2⟩ := h
      by_cases hji : j = i
      · subst hji
        rcases h2 with h2 | ⟨h2, h3⟩
        · rw [hi] at h2
          cases h2
          exact ⟨h1, d', .inl (List.getElem?_set_self li)⟩
        · rw [hi] at h2
          cases h2
      · refine ⟨h1, d2, ?_⟩
        rw [List.getElem?_set_ne (Ne.symm hji)]
        exact h2

/-- no alias among the temps -/
def NoAl (τ : List (V × DV)) : Prop := ∀ p ∈ τ, ∀ i a, p.2 ≠ .al i a
theorem NoAl.nil : NoAl [] := fun _ h => nomatch h
theorem NoAl.im {v : V} {d : D} {τ : List (V × DV)} (h : NoAl τ) : NoAl ((v, .im d) :: τ) := fun p hp i a => by
  rcases List.mem_cons.mp hp with rfl | hp
  · exact fun z => by cases z
  · exact h p hp i a
theorem NoAl.ow {v : V} {a : Addr} {d : D} {τ : List (V × DV)} (h : NoAl τ) : NoAl ((v, .ow a d) :: τ) := fun p hp i b => by
  rcases List.mem_cons.mp hp with rfl | hp
  · exact fun z => by cases z
  · exact h p hp i b

/-- slot i is given a value that depends on no slot -/
theorem RelF.put {s0 s : S} {ov : Option V} (R : RelF K B F σ H ρ τ) (na : ∀ p ∈ τ, ∀ b, p.2 ≠ .al i b) (hi : ρ[i]? = some s0) (hs : SlotOk K F H (some ov) s) (hd : ∀ a ∈ ownS s, a ∉ owns ρ τ ∧ F a = none ∧ B.fr a = none) : RelF K B F (σ.set i ov) H (ρ.set i s) τ := by
  have li : i < ρ.length := (List.getElem?_eq_some_iff.mp hi).1
  have ls : i < σ.length := by rw [R.len]; exact li
  have pm : (owns ρ τ).Perm (ownS s0 ++ owns (ρ.set i .un) τ) := owns_set_im (s := s0) (t := .un) rfl hi
  have lu : (ρ.set i s)[i]? = some s := List.getElem?_set_self li
  have pm2 : (owns (ρ.set i s) τ).Perm (ownS s ++ owns (ρ.set i .un) τ) := by
    have := owns_set_im (τ := τ) (s := s) (t := .un) rfl lu
    rw [List.set_set] at this
    exact this
  refine ⟨R.sub, R.bs, R.fr, R.ng, fun b hb => ?_, by rw [List.length_set, List.length_set]; exact R.len, fun j t hj => ?_, fun q hq => ?_, ?_, fun b hb => ?_⟩
  · rcases List.mem_append.mp (pm2.mem_iff.mp hb) with hb | hb
    · exact (hd b hb).2.2
    · exact R.og b (pm.mem_iff.mpr (List.mem_append_right _ hb))
  · by_cases hji : j = i
    · subst hji
      rw [lu] at hj
      cases hj
      rw [List.getElem?_set_self ls]
      exact hs
    · rw [List.getElem?_set_ne (Ne.symm hji)] at hj
      rw [List.getElem?_set_ne (Ne.symm hji)]
      exact R.sl j t hj
  · obtain ⟨w, y⟩ := q
    have h := R.tm _ hq
    cases y with
    | im d2 => exact h
    | ow b d2 => exact h
    | al j b =>
      obtain ⟨h1, d2, h2⟩ := h
      have hji : j ≠ i := fun z => na _ hq b (by rw [z])
      refine ⟨h1, d2, ?_⟩
      rw [List.getElem?_set_ne (Ne.symm hji)]
      exact h2
  · refine pm2.nodup_iff.mpr (List.nodup_append.mpr ⟨?_, (pm.nodup_iff.mp R.nd).sublist (List.sublist_append_right _ _), fun b hb c hc => ?_⟩)
    · cases s <;> simp [ownS]
    · rintro rfl
      exact (hd b hb).1 (pm.mem_iff.mpr (List.mem_append_right _ hc))
  · rcases List.mem_append.mp (pm2.mem_iff.mp hb) with hb | hb
    · exact (hd b hb).2.1
    · exact R.nf b (pm.mem_iff.mpr (List.mem_append_right _ hb))
theorem NoAl.at (h : NoAl τ) (i : Nat) : ∀ p ∈ τ, ∀ b, p.2 ≠ .al i b := fun p hp b => h p hp i b
/-- a slot that neither owns nor has frozen has no alias -/
def plainS : S → Bool
  | .un | .im _ => true
  | _ => false
theorem RelF.noAl {s0 : S} (R : RelF K B F σ H ρ τ) (hi : ρ[i]? = some s0) (hp : plainS s0 = true) : ∀ p ∈ τ, ∀ b, p.2 ≠ .al i b := fun ⟨v, x⟩ hm b e => by
  cases e
  obtain ⟨_, d2, h2 | ⟨h2, _⟩⟩ := R.tm _ hm <;> rw [hi] at h2 <;> cases h2 <;> cases hp
theorem RelF.putIm {s0 : S} (R : RelF K B F σ H ρ ((v, .im d) :: τ)) (na : ∀ p ∈ τ, ∀ b, p.2 ≠ .al i b) (hi : ρ[i]? = some s0) : RelF K B F (σ.set i (some v)) H (ρ.set i (.im d)) τ :=
  R.pop.put na hi ⟨v, rfl, R.tm _ List.mem_cons_self⟩ fun _ h => nomatch h
theorem RelF.putOw {s0 : S} (R : RelF K B F σ H ρ ((v, .ow a d) :: τ)) (na : ∀ p ∈ τ, ∀ b, p.2 ≠ .al i b) (hi : ρ[i]? = some s0) : RelF K B F (σ.set i (some v)) H (ρ.set i (.ow a d)) τ := by
  obtain ⟨rfl, hO⟩ := R.tm _ List.mem_cons_self
  have e : (owns ρ ((V.ref a, DV.ow a d) :: τ)).Perm (a :: owns ρ τ) := owns_cons
  refine R.pop.put na hi ⟨rfl, hO⟩ fun b hb => ?_
  have eb : b = a := by simpa [ownS] using hb
  subst eb
  exact ⟨(List.nodup_cons.mp (e.nodup_iff.mp R.nd)).1, R.nf b (e.mem_iff.mpr List.mem_cons_self), R.og b (e.mem_iff.mpr List.mem_cons_self)⟩
theorem RelF.putUn {s0 : S} {ov : Option V} (R : RelF K B F σ H ρ τ) (na : ∀ p ∈ τ, ∀ b, p.2 ≠ .al i b) (hi : ρ[i]? = some s0) : RelF K B F (σ.set i ov) H (ρ.set i .un) τ :=
  R.put na hi trivial fun _ h => nomatch h
end
end DL
/-! DD -/
set_option Elab.async false
set_option maxRecDepth 100000
set_option maxHeartbeats 4000000
namespace DL
open PySem L2 Evl

/-- what a DV reads as now -/
def see (ρ : Env) : DV → Option D
  | .im d => some d
  | .ow _ d => some d
  | .al i _ => match ρ[i]? with
    | some (.ow _ d) => some d
    | some (.fz _ d) => some d
    | _ => none
/-- the slots, when a DV is frozen -/
def frz (ρ : Env) : DV → Env
  | .al i _ => match ρ[i]? with
    | some (.ow b d) => ρ.set i (.fz b d)
    | _ => ρ
  | _ => ρ

abbrev TD := Env → (DV → Env → Prop) → Prop
abbrev TDt := Env → (Bool → Env → Prop) → Prop
abbrev TDa := Env → (List DV → Env → Prop) → Prop
structure DEnds where
  nx : Env → Prop
  rt : DV → Env → Prop
  bk : Env → Prop := fun _ => False
  ct : Env → Prop := fun _ => False
abbrev TDs := DEnds → Env → Prop
def zipT : List V → List DV → List (V × DV) → List (V × DV)
  | v :: vs, x :: xs, τ => zipT vs xs ((v, x) :: τ)
  | _, _, τ => τ

/-- what is wished of an exception: over heaps, over data -/
abbrev DX := Addr → List (Str × D) → Env → Prop
structure Wp where
  w : WX
  d : DX
/-- τ' holds what τ holds, and more -/
def Sup (τ τ' : List (V × DV)) : Prop := ∃ l, τ'.Perm (l ++ τ)
theorem Sup.refl (τ : List (V × DV)) : Sup τ τ := ⟨[], .refl _⟩
theorem Sup.tail {q : V × DV} {τ τ' : List (V × DV)} (s : Sup (q :: τ) τ') : Sup τ τ' := let ⟨l, h⟩ := s; ⟨l ++ [q], by simpa using h⟩
section
variable (K : PySem.W.Frag) (B : BG)
/-- an exception that is raised while τ (or more) is held reaches the wish -/
def WL (τ : List (V × DV)) (W : Wp) : Prop := ∀ (σ : L2.St) (H : Hp) (ρ : Env) (τ' : List (V × DV)) (C dd : Addr) (fs : List (Str × D)), Sup τ τ' → Rel K B σ H ρ ((.ref dd, .im (.xdc fs)) :: τ') → W.d C fs ρ → W.w (.ref C) (some dd) σ H
variable (W : Wp)
def SE (t : TE) (dt : TD) : Prop := ∀ (σ : L2.St) (H : Hp) (ρ : Env) (τ : List (V × DV)) (Q : VK) (Qd : DV → Env → Prop), WL K B τ W → Rel K B σ H ρ τ → dt ρ Qd →
  (∀ v x H' ρ', Rel K B σ H' ρ' ((v, x) :: τ) → Qd x ρ' → Q v H') → t σ H Q
def ST (t : TT) (dt : TDt) : Prop := ∀ (σ : L2.St) (H : Hp) (ρ : Env) (τ : List (V × DV)) (Q : Bool → Hp → Prop) (Qd : Bool → Env → Prop), WL K B τ W → Rel K B σ H ρ τ → dt ρ Qd →
  (∀ b H' ρ', Rel K B σ H' ρ' τ → Qd b ρ' → Q b H') → t σ H Q
def SA (t : TA) (dt : TDa) : Prop := ∀ (σ : L2.St) (H : Hp) (ρ : Env) (τ : List (V × DV)) (Q : List V → Hp → Prop) (Qd : List DV → Env → Prop), WL K B τ W → Rel K B σ H ρ τ → dt ρ Qd →
  (∀ vs xs H' ρ', vs.length = xs.length → Rel K B σ H' ρ' (zipT vs xs τ) → Qd xs ρ' → Q vs H') → t σ H Q
def SS (t : TS) (dt : TDs) : Prop := ∀ (σ : L2.St) (H : Hp) (ρ : Env) (τ : List (V × DV)) (D : Ends) (Dd : DEnds), NoAl τ → WL K B τ W → Rel K B σ H ρ τ → dt Dd ρ →
  (∀ σ' H' ρ', Rel K B σ' H' ρ' τ → Dd.nx ρ' → D.nx σ' H') → (∀ σ' H' ρ', Rel K B σ' H' ρ' τ → Dd.bk ρ' → D.bk σ' H') → (∀ σ' H' ρ', Rel K B σ' H' ρ' τ → Dd.ct ρ' → D.ct σ' H') →
  (∀ v x σ' H' ρ', Rel K B σ' H' ρ' ((v, x) :: τ) → Dd.rt x ρ' → D.rt v H') → t D σ H
/-- a target of an assignment: the value is the topmost temp -/
def SG (c : Bool) (g : TG) (dg : DV → Env → (Env → Prop) → Prop) : Prop := ∀ (σ : L2.St) (H : Hp) (ρ : Env) (τ : List (V × DV)) (v : V) (x : DV) (Q : L2.St → Hp → Prop) (Qd : Env → Prop), (c = true → NoAl τ) → Rel K B σ H ρ ((v, x) :: τ) → dg x ρ Qd →
  (∀ σ' H' ρ', Rel K B σ' H' ρ' τ → Qd ρ' → Q σ' H') → g v σ H Q
end

section
variable {K : PySem.W.Frag} {B : BG} {F H H' : Hp} {σ : L2.St} {ρ : Env} {τ τ' : List (V × DV)} {v : V} {x : DV} {d : D} {a p : Addr} {i : Nat}

theorem owns_perm (e : τ.Perm τ') : (owns ρ τ).Perm (owns ρ τ') := by
  unfold owns
  exact List.Perm.append_left _ (List.Perm.flatten (e.map _))
theorem RelF.perm (R : RelF K B F σ H ρ τ) (e : τ.Perm τ') : RelF K B F σ H ρ τ' where
  sub := R.sub
  bs := R.bs
  fr := R.fr
  ng := R.ng
  og := fun b hb => R.og b ((owns_perm e).mem_iff.mpr hb)
  len := R.len
  sl := R.sl
  tm := fun p hp => R.tm p (e.mem_iff.mpr hp)
  nd := by
    refine List.Perm.nodup_iff ?_ |>.mp R.nd
    unfold owns
    exact List.Perm.append_left _ (List.Perm.flatten (e.map _))
  nf := fun b hb => R.nf b (by
    unfold owns at hb ⊢
    have q : ((List.map ownS ρ).flatten ++ (List.map ownT τ).flatten).Perm ((List.map ownS ρ).flatten ++ (List.map ownT τ').flatten) := List.Perm.append_left _ (List.Perm.flatten (e.map _))
    exact q.mem_iff.mpr hb)
theorem WL.cons {W : Wp} {q : V × DV} (w : WL K B τ W) : WL K B (q :: τ) W := fun σ H ρ τ' C dd fs s => w σ H ρ τ' C dd fs s.tail
theorem WL.app {W : Wp} (w : WL K B τ W) : WL K B (τ' ++ τ) W := fun σ H ρ τ2 C dd fs ⟨l, s⟩ => w σ H ρ τ2 C dd fs ⟨l ++ τ', by rw [List.append_assoc]; exact s⟩
theorem Rel.perm (R : Rel K B σ H ρ τ) (e : τ.Perm τ') : Rel K B σ H ρ τ' := let ⟨F, h⟩ := R; ⟨F, h.perm e⟩
theorem Rel.pop (R : Rel K B σ H ρ ((v, x) :: τ)) : Rel K B σ H ρ τ := let ⟨F, h⟩ := R; ⟨F, h.pop⟩
theorem Rel.swap {q : V × DV} (R : Rel K B σ H ρ ((v, x) :: q :: τ)) : Rel K B σ H ρ (q :: (v, x) :: τ) := R.perm (.swap ..)
theorem Rel.pop2 {q : V × DV} (R : Rel K B σ H ρ ((v, x) :: q :: τ)) : Rel K B σ H ρ ((v, x) :: τ) := let ⟨_, _⟩ := q; R.swap.pop
/-- data that no heap bears -/
theorem Rel.push (R : Rel K B σ H ρ τ) (h : ∀ F, Dv K F d v) : Rel K B σ H ρ ((v, .im d) :: τ) := let ⟨F, r⟩ := R; ⟨F, r.pushIm (h F)⟩

/-- a list seen -/
theorem see_lst {ds : List D} (R : RelF K B F σ H ρ τ) (hm : (v, x) ∈ τ) (h : see ρ x = some (.lst ds)) : ∃ a vs, v = .ref a ∧ H a = some (.lst vs) ∧ Dvs K F ds vs := by
  have t := R.tm _ hm
  cases x with
  | im e =>
    cases h
    simp only [TempOk, Dv] at t
    obtain ⟨a, vs, h1, h2, h3⟩ := t
    exact ⟨a, vs, h1, R.sub _ _ h2, h3⟩
  | ow b e =>
    cases h
    obtain ⟨h1, vs, h2, h3⟩ := t
    exact ⟨b, vs, h1, h2, h3⟩
  | al j b =>
    obtain ⟨h1, e, h2⟩ := t
    rcases h2 with h2 | ⟨h2, h3⟩
    · simp only [see, h2] at h
      cases h
      obtain ⟨_, vs, h4, h5⟩ := R.sl j _ h2
      exact ⟨b, vs, h1, h4, h5⟩
    · simp only [see, h2] at h
      cases h
      simp only [Dv] at h3
      obtain ⟨a, vs, h4, h5, h6⟩ := h3
      cases h4
      exact ⟨b, vs, h1, R.sub _ _ h5, h6⟩
theorem see_dct {es : List (Key × D)} (R : RelF K B F σ H ρ τ) (hm : (v, x) ∈ τ) (h : see ρ x = some (.dct es)) : ∃ a kvs, v = .ref a ∧ H a = some (.dK kvs) ∧ Dkv K F es kvs := by
  have t := R.tm _ hm
  cases x with
  | im e =>
    cases h
    simp only [TempOk, Dv] at t
    obtain ⟨a, vs, h1, h2, h3⟩ := t
    exact ⟨a, vs, h1, R.sub _ _ h2, h3⟩
  | ow b e =>
    cases h
    obtain ⟨h1, vs, h2, h3⟩ := t
    exact ⟨b, vs, h1, h2, h3⟩
  | al j b =>
    obtain ⟨h1, e, h2⟩ := t
    rcases h2 with h2 | ⟨h2, h3⟩
    · simp only [see, h2] at h
      cases h
      obtain ⟨_, vs, h4, h5⟩ := R.sl j _ h2
      exact ⟨b, vs, h1, h4, h5⟩
    · simp only [see, h2] at h
      cases h
      simp only [Dv] at h3
      obtain ⟨a, vs, h4, h5, h6⟩ := h3
      cases h4
      exact ⟨b, vs, h1, R.sub _ _ h5, h6⟩
theorem see_ins {C : Addr} {es : List (Str × D)} (R : RelF K B F σ H ρ τ) (hm : (v, x) ∈ τ) (h : see ρ x = some (.ins C es)) : ∃ a dx fs, v = .ref a ∧ H a = some (.ins C dx fs) ∧ Dfs K F es fs := by
  have t := R.tm _ hm
  cases x with
  | im e =>
    cases h
    simp only [TempOk, Dv] at t
    obtain ⟨a, dx, vs, h1, h2, h3⟩ := t
    exact ⟨a, dx, vs, h1, R.sub _ _ h2, h3⟩
  | ow b e =>
    cases h
    obtain ⟨h1, dx, vs, h2, h3⟩ := t
    exact ⟨b, dx, vs, h1, h2, h3⟩
  | al j b =>
    obtain ⟨h1, e, h2⟩ := t
    rcases h2 with h2 | ⟨h2, h3⟩
    · simp only [see, h2] at h
      cases h
      obtain ⟨_, dx, vs, h4, h5⟩ := R.sl j _ h2
      exact ⟨b, dx, vs, h1, h4, h5⟩
    · simp only [see, h2] at h
      cases h
      simp only [Dv] at h3
      obtain ⟨a, dx, vs, h4, h5, h6⟩ := h3
      cases h4
      exact ⟨b, dx, vs, h1, R.sub _ _ h5, h6⟩
/-- what is owned is a list, a dict or an instance -/
theorem own_kind {d : D} (h : Own K F H a d) : (∃ ds, d = .lst ds) ∨ (∃ es, d = .dct es) ∨ ∃ C es, d = .ins C es := by
  cases d with
  | lst ds => exact .inl ⟨_, rfl⟩
  | dct ds => exact .inr (.inl ⟨_, rfl⟩)
  | ins C ds => exact .inr (.inr ⟨_, _, rfl⟩)
  | _ => exact (show False from h).elim
theorem Own.view {d : D} (s : Ex F H) (h : Own K F H a d) : Dv K H d (.ref a) := by
  cases d with
  | lst ds =>
    obtain ⟨vs, h1, h2⟩ := h
    simp only [Dv]
    exact ⟨a, vs, rfl, h1, h2.mono s⟩
  | dct ds =>
    obtain ⟨vs, h1, h2⟩ := h
    simp only [Dv]
    exact ⟨a, vs, rfl, h1, h2.mono s⟩
  | ins C ds =>
    obtain ⟨dx, vs, h1, h2⟩ := h
    simp only [Dv]
    exact ⟨a, dx, vs, rfl, h1, h2.mono s⟩
  | _ => exact (show False from h).elim
/-- anything seen, read over the heap itself -/
theorem see_any (R : RelF K B F σ H ρ τ) (hm : (v, x) ∈ τ) (h : see ρ x = some d) : Dv K H d v := by
  have t := R.tm _ hm
  cases x with
  | im e =>
    cases h
    exact Dv.mono R.sub t
  | ow b e =>
    cases h
    obtain ⟨rfl, h2⟩ := t
    exact h2.view R.sub
  | al j b =>
    obtain ⟨rfl, e, h2⟩ := t
    rcases h2 with h2 | ⟨h2, h3⟩
    · simp only [see, h2] at h
      cases h
      exact (R.sl j _ h2).2.view R.sub
    · simp only [see, h2] at h
      cases h
      exact Dv.mono R.sub h3
def ownable : D → Bool
  | .lst _ | .dct _ | .ins _ _ => true
  | _ => false
/-- what nobody can own reads over the frozen heap -/
theorem see_im (R : RelF K B F σ H ρ τ) (hm : (v, x) ∈ τ) (h : see ρ x = some d) (ho : ownable d = false) : Dv K F d v := by
  have t := R.tm _ hm
  cases x with
  | im e =>
    cases h
    exact t
  | ow b e =>
    cases h
    rcases own_kind t.2 with ⟨_, e⟩ | ⟨_, e⟩ | ⟨_, _, e⟩ <;> subst e <;> cases ho
  | al j b =>
    obtain ⟨h1, e, h2⟩ := t
    rcases h2 with h2 | ⟨h2, h3⟩
    · simp only [see, h2] at h
      cases h
      rcases own_kind (R.sl j _ h2).2 with ⟨_, e⟩ | ⟨_, e⟩ | ⟨_, _, e⟩ <;> subst e <;> cases ho
    · simp only [see, h2] at h
      cases h
      subst h1
      exact h3
/-- a tuple's items -/
theorem see_tup {ds : List D} (R : RelF K B F σ H ρ τ) (hm : (v, x) ∈ τ) (h : see ρ x = some (.tup ds)) : ∃ a vs, v = .ref a ∧ SqT K F a vs ∧ Dvs K F ds vs := by
  have t := R.tm _ hm
  cases x with
  | im e =>
    cases h
    simp only [TempOk, Dv] at t
    obtain ⟨a, vs, h1, h2, h3⟩ := t
    exact ⟨a, vs, h1, h2, h3⟩
  | ow b e =>
    cases h
    rcases own_kind t.2 with ⟨_, e⟩ | ⟨_, e⟩ | ⟨_, _, e⟩ <;> cases e
  | al j b =>
    obtain ⟨h1, e, h2⟩ := t
    rcases h2 with h2 | ⟨h2, h3⟩
    · simp only [see, h2] at h
      cases h
      rcases own_kind (R.sl j _ h2).2 with ⟨_, e⟩ | ⟨_, e⟩ | ⟨_, _, e⟩ <;> cases e
    · simp only [see, h2] at h
      cases h
      simp only [Dv] at h3
      obtain ⟨a, vs, h4, h5, h6⟩ := h3
      cases h4
      exact ⟨b, vs, h1, h5, h6⟩
/-- frozen -/
theorem Rel.freeze (R : Rel K B σ H ρ ((v, x) :: τ)) (h : see ρ x = some d) : Rel K B σ H (frz ρ x) ((v, .im d) :: τ) := by
  obtain ⟨F, R⟩ := R
  cases x with
  | im e =>
    cases h
    exact ⟨F, R⟩
  | ow b e =>
    cases h
    obtain ⟨F', _, R'⟩ := R.freezeT
    exact ⟨F', R'⟩
  | al j b =>
    obtain ⟨rfl, e, h2⟩ := R.tm _ List.mem_cons_self
    rcases h2 with h2 | ⟨h2, h3⟩
    · simp only [see, h2] at h
      cases h
      obtain ⟨F', _, hd, R'⟩ := R.pop.freezeS h2
      refine ⟨F', ?_⟩
      simp only [frz, h2]
      exact R'.pushIm hd
    · simp only [see, h2] at h
      cases h
      refine ⟨F, ?_⟩
      simp only [frz, h2]
      exact R.pop.pushIm h3
end
end DL
/-! DE -/
set_option Elab.async false
set_option maxRecDepth 100000
set_option maxHeartbeats 4000000
namespace DL
open PySem L2 Evl

set_option linter.unusedVariables false
theorem dv_bl {K : PySem.W.Frag} {F : Hp} {b : Bool} : Dv K F (.bl b) (.bl b) := by simp only [Dv]
theorem dv_int {K : PySem.W.Frag} {F : Hp} {b : Int} : Dv K F (.int b) (.int b) := by simp only [Dv]
theorem dv_str {K : PySem.W.Frag} {F : Hp} {b : Str} : Dv K F (.str b) (.str b) := by simp only [Dv]
theorem dv_non {K : PySem.W.Frag} {F : Hp} : Dv K F .non .non := by simp only [Dv]
/-! ### names, constants -/
def dVar (i : Nat) : TD := fun ρ Q => match ρ[i]? with
  | some (.im d) => Q (.im d) ρ
  | some (.ow a _) => Q (.al i a) ρ
  | some (.fz _ d) => Q (.im d) ρ
  | _ => False
def dC (d : D) : TD := fun ρ Q => Q (.im d) ρ

section
variable {K : PySem.W.Frag} {B : BG} {W : Wp}
theorem se_var {i : Nat} : SE K B W (tVar i) (dVar i) := fun σ H ρ τ Q Qd w ⟨F, R⟩ h k => by
  unfold dVar at h
  split at h
  · rename_i d e
    obtain ⟨v, h1, h2⟩ := R.sl i _ e
    exact ⟨v, h1, k v (.im d) H ρ ⟨F, R.pushIm h2⟩ h⟩
  · rename_i a d e
    obtain ⟨h1, h2⟩ := R.sl i _ e
    exact ⟨.ref a, h1, k (.ref a) (.al i a) H ρ ⟨F, R.pushAl ⟨rfl, d, .inl e⟩⟩ h⟩
  · rename_i a d e
    obtain ⟨h1, h2⟩ := R.sl i _ e
    exact ⟨.ref a, h1, k (.ref a) (.im d) H ρ ⟨F, R.pushIm h2⟩ h⟩
  · exact h.elim
theorem se_c {d : D} {v : V} (hv : ∀ F, Dv K F d v) : SE K B W (tC v) (dC d) := fun σ H ρ τ Q Qd w R h k => k v (.im d) H ρ (R.push hv) h
theorem se_int {i : Int} : SE K B W (tC (.int i)) (dC (.int i)) := se_c fun F => by simp only [Dv]
theorem se_bl {b : Bool} : SE K B W (tC (.bl b)) (dC (.bl b)) := se_c fun F => by simp only [Dv]
theorem se_str {x : Str} : SE K B W (tC (.str x)) (dC (.str x)) := se_c fun F => by simp only [Dv]
theorem se_non : SE K B W (tC .non) (dC .non) := se_c fun F => by simp only [Dv]
theorem se_ref {a : Addr} : SE K B W (tC (.ref a)) (dC (.ref a)) := se_c fun F => by simp only [Dv]
theorem se_ty {n : String} : SE K B W (tC (.ty n)) (dC (.ty n)) := se_c fun F => by simp only [Dv]

/-! ### operators that read two values and give a scalar -/
abbrev FB := D → D → (D → Prop) → Prop
def OkBin (K : PySem.W.Frag) (r : R2) (f : FB) : Prop := ∀ (H : Hp) (v w : V) (d e : D) (k : D → Prop) (Q : VK), Dv K H d v → Dv K H e w → f d e k → (∀ z u, (∀ F, Dv K F z u) → k z → Q u H) → r v w H Q
def dBin (f : FB) (da db : TD) : TD := fun ρ Q => da ρ fun x ρ1 => db ρ1 fun y ρ2 => ∃ d e, see ρ2 x = some d ∧ see ρ2 y = some e ∧ f d e fun z => Q (.im z) ρ2
theorem se_op {r : R2} {f : FB} {ta tb : TE} {da db : TD} (hr : OkBin K r f) (ha : SE K B W ta da) (hb : SE K B W tb db) : SE K B W (tOp r ta tb) (dBin f da db) := fun σ H ρ τ Q Qd w R h k => by
  refine ha σ H ρ τ _ _ w R h fun v x H1 ρ1 R1 h1 => ?_
  refine hb σ H1 ρ1 _ _ _ w.cons R1 h1 fun w y H2 ρ2 R2 h2 => ?_
  obtain ⟨d, e, e1, e2, h3⟩ := h2
  obtain ⟨F, R3⟩ := R2
  refine hr H2 v w d e _ _ (see_any R3 (List.mem_cons_of_mem _ List.mem_cons_self) e1) (see_any R3 List.mem_cons_self e2) h3 fun z u hz hk => ?_
  exact k u (.im z) H2 ρ2 (Rel.push ⟨F, R3.pop.pop⟩ hz) hk
abbrev FU := D → (D → Prop) → Prop
def OkUn (K : PySem.W.Frag) (r : V → Hp → VK → Prop) (f : FU) : Prop := ∀ (H : Hp) (v : V) (d : D) (k : D → Prop) (Q : VK), Dv K H d v → f d k → (∀ z u, (∀ F, Dv K F z u) → k z → Q u H) → r v H Q
def dUn (f : FU) (da : TD) : TD := fun ρ Q => da ρ fun x ρ1 => ∃ d, see ρ1 x = some d ∧ f d fun z => Q (.im z) ρ1
theorem se_un {r : V → Hp → VK → Prop} {f : FU} {ta : TE} {da : TD} (hr : OkUn K r f) (ha : SE K B W ta da) : SE K B W (tUn r ta) (dUn f da) := fun σ H ρ τ Q Qd w R h k => by
  refine ha σ H ρ τ _ _ w R h fun v x H1 ρ1 R1 h1 => ?_
  obtain ⟨d, e1, h3⟩ := h1
  obtain ⟨F, R3⟩ := R1
  exact hr H1 v d _ _ (see_any R3 List.mem_cons_self e1) h3 fun z u hz hk => k u (.im z) H1 ρ1 (Rel.push ⟨F, R3.pop⟩ hz) hk

/-- ints -/
def fI (C : Int → Int → Prop) (g : Int → Int → D) : FB := fun d e k => ∃ i j, d = .int i ∧ e = .int j ∧ C i j ∧ k (g i j)
def fI0 (g : Int → Int → D) : FB := fun d e k => ∃ i j, d = .int i ∧ e = .int j ∧ k (g i j)
theorem ok_I {C : Int → Int → Prop} {g : Int → Int → V} {gd : Int → Int → D} (hg : ∀ F i j, Dv K F (gd i j) (g i j)) : OkBin K (rI C g) (fI C gd) := fun H v w d e k Q hv hw h q => by
  obtain ⟨i, j, rfl, rfl, hc, hk⟩ := h
  simp only [Dv] at hv hw
  exact ⟨i, j, hv, hw, hc, q _ _ (fun F => hg F i j) hk⟩
theorem ok_I0 {g : Int → Int → V} {gd : Int → Int → D} (hg : ∀ F i j, Dv K F (gd i j) (g i j)) : OkBin K (rI0 g) (fI0 gd) := fun H v w d e k Q hv hw h q => by
  obtain ⟨i, j, rfl, rfl, hk⟩ := h
  simp only [Dv] at hv hw
  exact ⟨i, j, hv, hw, q _ _ (fun F => hg F i j) hk⟩
theorem ok_add : OkBin K (rI0 fun i j => .int (i + j)) (fI0 fun i j => .int (i + j)) := ok_I0 fun F i j => by simp only [Dv]
theorem ok_sub : OkBin K (rI0 fun i j => .int (i - j)) (fI0 fun i j => .int (i - j)) := ok_I0 fun F i j => by simp only [Dv]
theorem ok_mul : OkBin K (rI CMul fun i j => .int (i * j)) (fI CMul fun i j => .int (i * j)) := ok_I fun F i j => by simp only [Dv]
theorem ok_fdiv : OkBin K (rI CDiv fun i j => .int (i / j)) (fI CDiv fun i j => .int (i / j)) := ok_I fun F i j => by simp only [Dv]
theorem ok_mod : OkBin K (rI (fun _ j => 0 < j) fun i j => .int (i % j)) (fI (fun _ j => 0 < j) fun i j => .int (i % j)) := ok_I fun F i j => by simp only [Dv]
theorem ok_pow : OkBin K (rI CPow fun i j => .int (i ^ j.toNat)) (fI CPow fun i j => .int (i ^ j.toNat)) := ok_I fun F i j => by simp only [Dv]
theorem ok_lt : OkBin K (rI0 fun i j => .bl (decide (i < j))) (fI0 fun i j => .bl (decide (i < j))) := ok_I0 fun F i j => by simp only [Dv]
theorem ok_le : OkBin K (rI0 fun i j => .bl (decide (i ≤ j))) (fI0 fun i j => .bl (decide (i ≤ j))) := ok_I0 fun F i j => by simp only [Dv]
theorem ok_gt : OkBin K (rI0 fun i j => .bl (decide (j < i))) (fI0 fun i j => .bl (decide (j < i))) := ok_I0 fun F i j => by simp only [Dv]
theorem ok_ge : OkBin K (rI0 fun i j => .bl (decide (j ≤ i))) (fI0 fun i j => .bl (decide (j ≤ i))) := ok_I0 fun F i j => by simp only [Dv]
theorem ok_neg : OkUn K (rU fun i => .int (-i)) (fun d k => ∃ i, d = .int i ∧ k (.int (-i))) := fun H v d k Q hv h q => by
  obtain ⟨i, rfl, hk⟩ := h
  simp only [Dv] at hv
  exact ⟨i, hv, q _ _ (fun F => by simp only [Dv]) hk⟩
/-- texts together -/
theorem ok_addS : OkBin K (fun x y H Q => ∃ i j, x = .str i ∧ y = .str j ∧ i.length + j.length ≤ sizeLine ∧ Q (.str (i ++ j)) H) (fun d e k => ∃ i j, d = .str i ∧ e = .str j ∧ i.length + j.length ≤ sizeLine ∧ k (.str (i ++ j))) := fun H v w d e k Q hv hw h q => by
  obtain ⟨i, j, rfl, rfl, hz, hk⟩ := h
  simp only [Dv] at hv hw
  exact ⟨i, j, hv, hw, hz, q _ _ (fun F => by simp only [Dv]) hk⟩
def isNon : D → Bool
  | .non => true
  | _ => false
theorem dv_isNon {F : Hp} {d : D} {v : V} (h : Dv K F d v) : decide (v = .non) = isNon d := by
  cases d <;> simp only [Dv] at h
  all_goals first
    | (subst h; rfl)
    | (obtain ⟨a, _, rfl, _⟩ := h; rfl)
    | (obtain ⟨a, rfl, _⟩ := h; rfl)
    | (obtain ⟨a, _, _, rfl, _⟩ := h; rfl)
theorem ok_isN : OkBin K (fun x y H Q => y = .non ∧ Q (.bl (decide (x = .non))) H) (fun d e k => e = .non ∧ k (.bl (isNon d))) := fun H v w d e k Q hv hw h q => by
  obtain ⟨rfl, hk⟩ := h
  refine ⟨by simpa only [Dv] using hw, ?_⟩
  rw [dv_isNon hv]
  exact q _ _ (fun F => by simp only [Dv]) hk
theorem ok_notN : OkBin K (fun x y H Q => y = .non ∧ Q (.bl (!decide (x = .non))) H) (fun d e k => e = .non ∧ k (.bl (!isNon d))) := fun H v w d e k Q hv hw h q => by
  obtain ⟨rfl, hk⟩ := h
  refine ⟨by simpa only [Dv] using hw, ?_⟩
  rw [dv_isNon hv]
  exact q _ _ (fun F => by simp only [Dv]) hk

/-! ### data that == takes as a whole -/
mutual
def py : D → Option PyData
  | .non => some .none
  | .bl b => some (.bool b)
  | .int i => some (.int i)
  | .str x => some (.str x)
  | .tup ds => (pys ds).map .tuple
  | .lst ds => (pys ds).map .list
  | _ => none
def pys : List D → Option (List PyData)
  | [] => some []
  | d :: ds => match py d, pys ds with
    | some a, some b => some (a :: b)
    | _, _ => none
end
mutual
theorem dp_of {H : Hp} : ∀ {d : D} {v : V} {p : PyData}, Dv K H d v → py d = some p → Dp K H v p
  | .non, _, _, h, e => by
    simp only [Dv] at h
    simp only [py] at e
    cases h; cases e
    exact .non
  | .bl b, _, _, h, e => by
    simp only [Dv] at h
    simp only [py] at e
    cases h; cases e
    exact .bl b
  | .int i, _, _, h, e => by
    simp only [Dv] at h
    simp only [py] at e
    cases h; cases e
    exact .int i
  | .str x, _, _, h, e => by
    simp only [Dv] at h
    simp only [py] at e
    cases h; cases e
    exact .str x
  | .tup ds, _, _, h, e => by
    simp only [Dv] at h
    simp only [py, Option.map_eq_some_iff] at e
    obtain ⟨ps, e1, rfl⟩ := e
    obtain ⟨a, vs, rfl, h2, h3⟩ := h
    exact .tup h2 (dps_of h3 e1)
  | .lst ds, _, _, h, e => by
    simp only [Dv] at h
    simp only [py, Option.map_eq_some_iff] at e
    obtain ⟨ps, e1, rfl⟩ := e
    obtain ⟨a, vs, rfl, h2, h3⟩ := h
    exact .lst (sq_of h2) (dps_of h3 e1)
  | .dct _, _, _, _, e => by simp [py] at e
  | .ins _ _, _, _, _, e => by simp [py] at e
  | .ref _, _, _, _, e => by simp [py] at e
  | .ty _, _, _, _, e => by simp [py] at e
  | .rol _, _, _, _, e => by simp [py] at e
theorem dps_of {H : Hp} : ∀ {ds : List D} {vs : List V} {ps : List PyData}, Dvs K H ds vs → pys ds = some ps → DpAll K H vs ps
  | [], _, _, h, e => by
    simp only [Dvs] at h
    simp only [pys] at e
    cases h; cases e
    exact .nil
  | d :: ds, _, _, h, e => by
    simp only [Dvs] at h
    obtain ⟨v, r, rfl, h2, h3⟩ := h
    simp only [pys] at e
    split at e
    · rename_i a b e1 e2
      cases e
      exact .cons (dp_of h2 e1) (dps_of h3 e2)
    · cases e
end
def fEq (f : Bool → Bool) : FB := fun d e k => ∃ p q, py d = some p ∧ py e = some q ∧ SeqAt.shaped p = true ∧ SeqAt.shaped q = true ∧ k (.bl (f (PyData.eqv p q)))
theorem ok_eq : OkBin K (rEqD K) (fEq id) := fun H v w d e k Q hv hw h q => by
  obtain ⟨a, b, h1, h2, h3, h4, hk⟩ := h
  exact ⟨a, b, dp_of hv h1, dp_of hw h2, h3, h4, q _ _ (fun F => dv_bl) hk⟩
theorem ok_ne : OkBin K (rNeD K) (fEq not) := fun H v w d e k Q hv hw h q => by
  obtain ⟨a, b, h1, h2, h3, h4, hk⟩ := h
  exact ⟨a, b, dp_of hv h1, dp_of hw h2, h3, h4, q _ _ (fun F => dv_bl) hk⟩

/-! ### tests, and, or, not, if-else -/
def dTest (da : TD) : TDt := fun ρ Q => da ρ fun x ρ1 => ∃ b, see ρ1 x = some (.bl b) ∧ Q b ρ1
theorem see_bl {B : BG} {F H : Hp} {σ : L2.St} {ρ : Env} {τ : List (V × DV)} {v : V} {x : DV} {b : Bool} (R : RelF K B F σ H ρ τ) (hm : (v, x) ∈ τ) (h : see ρ x = some (.bl b)) : v = .bl b := by
  have := see_any R hm h
  simpa only [Dv] using this
theorem see_int {B : BG} {F H : Hp} {σ : L2.St} {ρ : Env} {τ : List (V × DV)} {v : V} {x : DV} {i : Int} (R : RelF K B F σ H ρ τ) (hm : (v, x) ∈ τ) (h : see ρ x = some (.int i)) : v = .int i := by
  have := see_any R hm h
  simpa only [Dv] using this
theorem see_str {B : BG} {F H : Hp} {σ : L2.St} {ρ : Env} {τ : List (V × DV)} {v : V} {x : DV} {s : Str} (R : RelF K B F σ H ρ τ) (hm : (v, x) ∈ τ) (h : see ρ x = some (.str s)) : v = .str s := by
  have := see_any R hm h
  simpa only [Dv] using this
theorem st_test {ta : TE} {da : TD} (ha : SE K B W ta da) : ST K B W (tTest ta) (dTest da) := fun σ H ρ τ Q Qd w R h k => by
  refine ha σ H ρ τ _ _ w R h fun v x H1 ρ1 R1 h1 => ?_
  obtain ⟨b, e, hq⟩ := h1
  obtain ⟨F, R2⟩ := R1
  exact ⟨b, see_bl R2 List.mem_cons_self e, k b H1 ρ1 ⟨F, R2.pop⟩ hq⟩
theorem st_B {ta : TE} {da : TD} (ha : SE K B W ta da) : ST K B W (tB ta) (dTest da) := st_test ha
def dAnd (da db : TDt) : TDt := fun ρ Q => da ρ fun c ρ1 => if c = true then db ρ1 Q else Q false ρ1
def dOr (da db : TDt) : TDt := fun ρ Q => da ρ fun c ρ1 => if c = true then Q true ρ1 else db ρ1 Q
def dNot (da : TDt) : TDt := fun ρ Q => da ρ fun c ρ1 => Q (!c) ρ1
theorem st_and {ta tb : TT} {da db : TDt} (ha : ST K B W ta da) (hb : ST K B W tb db) : ST K B W (tAnd ta tb) (dAnd da db) := fun σ H ρ τ Q Qd w R h k => by
  refine ha σ H ρ τ _ _ w R h fun c H1 ρ1 R1 h1 => ?_
  cases c with
  | true => exact hb σ H1 ρ1 τ _ _ w R1 h1 k
  | false => exact k false H1 ρ1 R1 h1
theorem st_or {ta tb : TT} {da db : TDt} (ha : ST K B W ta da) (hb : ST K B W tb db) : ST K B W (tOr ta tb) (dOr da db) := fun σ H ρ τ Q Qd w R h k => by
  refine ha σ H ρ τ _ _ w R h fun c H1 ρ1 R1 h1 => ?_
  cases c with
  | true => exact k true H1 ρ1 R1 h1
  | false => exact hb σ H1 ρ1 τ _ _ w R1 h1 k
theorem st_not {ta : TT} {da : TDt} (ha : ST K B W ta da) : ST K B W (tNot ta) (dNot da) := fun σ H ρ τ Q Qd w R h k => by
  refine ha σ H ρ τ _ _ w R h fun c H1 ρ1 R1 h1 => ?_
  exact k (!c) H1 ρ1 R1 h1
def dAndV (da db : TD) : TD := fun ρ Q => da ρ fun x ρ1 => ∃ b, see ρ1 x = some (.bl b) ∧ if b = true then db ρ1 Q else Q (.im (.bl false)) ρ1
def dOrV (da db : TD) : TD := fun ρ Q => da ρ fun x ρ1 => ∃ b, see ρ1 x = some (.bl b) ∧ if b = true then Q (.im (.bl true)) ρ1 else db ρ1 Q
def dNotV (da : TD) : TD := fun ρ Q => da ρ fun x ρ1 => ∃ b, see ρ1 x = some (.bl b) ∧ Q (.im (.bl !b)) ρ1
theorem se_andV {ta tb : TE} {da db : TD} (ha : SE K B W ta da) (hb : SE K B W tb db) : SE K B W (tAndV ta tb) (dAndV da db) := fun σ H ρ τ Q Qd w R h k => by
  refine ha σ H ρ τ _ _ w R h fun v x H1 ρ1 R1 h1 => ?_
  obtain ⟨b, e, hq⟩ := h1
  obtain ⟨F, R2⟩ := R1
  refine ⟨b, see_bl R2 List.mem_cons_self e, ?_⟩
  cases b with
  | true => exact hb σ H1 ρ1 τ _ _ w ⟨F, R2.pop⟩ hq k
  | false => exact k _ _ H1 ρ1 (Rel.push ⟨F, R2.pop⟩ fun F => by simp only [Dv]) hq
theorem se_orV {ta tb : TE} {da db : TD} (ha : SE K B W ta da) (hb : SE K B W tb db) : SE K B W (tOrV ta tb) (dOrV da db) := fun σ H ρ τ Q Qd w R h k => by
  refine ha σ H ρ τ _ _ w R h fun v x H1 ρ1 R1 h1 => ?_
  obtain ⟨b, e, hq⟩ := h1
  obtain ⟨F, R2⟩ := R1
  refine ⟨b, see_bl R2 List.mem_cons_self e, ?_⟩
  cases b with
  | true => exact k _ _ H1 ρ1 (Rel.push ⟨F, R2.pop⟩ fun F => by simp only [Dv]) hq
  | false => exact hb σ H1 ρ1 τ _ _ w ⟨F, R2.pop⟩ hq k
theorem se_notV {ta : TE} {da : TD} (ha : SE K B W ta da) : SE K B W (tNotV ta) (dNotV da) := fun σ H ρ τ Q Qd w R h k => by
  refine ha σ H ρ τ _ _ w R h fun v x H1 ρ1 R1 h1 => ?_
  obtain ⟨b, e, hq⟩ := h1
  obtain ⟨F, R2⟩ := R1
  exact ⟨b, see_bl R2 List.mem_cons_self e, k _ _ H1 ρ1 (Rel.push ⟨F, R2.pop⟩ fun F => by simp only [Dv]) hq⟩
def dIf (dc : TDt) (da db : TD) : TD := fun ρ Q => dc ρ fun c ρ1 => if c = true then da ρ1 Q else db ρ1 Q
theorem se_if {tc : TT} {ta tb : TE} {dc : TDt} {da db : TD} (hc : ST K B W tc dc) (ha : SE K B W ta da) (hb : SE K B W tb db) : SE K B W (tIf tc ta tb) (dIf dc da db) := fun σ H ρ τ Q Qd w R h k => by
  refine hc σ H ρ τ _ _ w R h fun c H1 ρ1 R1 h1 => ?_
  cases c with
  | true => exact ha σ H1 ρ1 τ _ _ w R1 h1 k
  | false => exact hb σ H1 ρ1 τ _ _ w R1 h1 k
end
end DL
/-! DF -/
set_option Elab.async false
set_option maxRecDepth 100000
set_option maxHeartbeats 4000000
set_option linter.unusedVariables false
namespace DL
open PySem L2 Evl

/-! ### a value seen, its items read over the frozen heap -/
def Vw (K : PySem.W.Frag) (F H : Hp) : D → V → Prop
  | .tup ds, v => ∃ a vs, v = .ref a ∧ SqT K F a vs ∧ Dvs K F ds vs
  | .lst ds, v => ∃ a vs, v = .ref a ∧ H a = some (.lst vs) ∧ Dvs K F ds vs
  | .dct es, v => ∃ a kvs, v = .ref a ∧ H a = some (.dK kvs) ∧ Dkv K F es kvs
  | .ins C es, v => ∃ a dx fs, v = .ref a ∧ H a = some (.ins C dx fs) ∧ Dfs K F es fs
  | .non, v => v = .non
  | .bl b, v => v = .bl b
  | .int i, v => v = .int i
  | .str x, v => v = .str x
  | .ref a, v => v = .ref a
  | .ty n, v => v = .ty n
  | .exc C es, v => ∃ a dx fs, v = .ref a ∧ F a = some (L2.exo a C (some dx)) ∧ F dx = some (L2.exd dx fs) ∧ Dfs K F es fs
  | .xdc es, v => ∃ a fs, v = .ref a ∧ F a = some (.xd fs) ∧ Dfs K F es fs
  | .ex0 C, v => ∃ a, v = .ref a ∧ F a = some (L2.exo a C none)
  | .rol ds, v => ∃ a vs, v = .ref a ∧ SqL K F a vs ∧ Dvs K F ds vs
section
variable {K : PySem.W.Frag} {B : BG} {W : Wp} {F H : Hp} {σ : L2.St} {ρ : Env} {τ : List (V × DV)} {v : V} {x : DV} {d : D}
theorem see_vw (R : RelF K B F σ H ρ τ) (hm : (v, x) ∈ τ) (h : see ρ x = some d) : Vw K F H d v := by
  cases d with
  | tup ds => exact see_tup R hm h
  | lst ds => exact see_lst R hm h
  | dct es => exact see_dct R hm h
  | ins C es => exact see_ins R hm h
  | exc C es =>
    have q := see_im R hm h rfl
    simp only [Dv] at q
    exact q
  | rol ds =>
    have q := see_im R hm h rfl
    simp only [Dv] at q
    exact q
  | ex0 C =>
    have q := see_im R hm h rfl
    simp only [Dv] at q
    exact q
  | xdc es =>
    have q := see_im R hm h rfl
    simp only [Dv] at q
    exact q
  | _ =>
    have q := see_any R hm h
    simp only [Dv] at q
    exact q
theorem Vw.dv (s : Ex F H) (h : Vw K F H d v) : Dv K H d v := by
  cases d with
  | tup ds =>
    obtain ⟨a, vs, h1, h2, h3⟩ := h
    simp only [Dv]
    exact ⟨a, vs, h1, ex_t s h2, h3.mono s⟩
  | lst ds =>
    obtain ⟨a, vs, h1, h2, h3⟩ := h
    simp only [Dv]
    exact ⟨a, vs, h1, h2, h3.mono s⟩
  | dct es =>
    obtain ⟨a, vs, h1, h2, h3⟩ := h
    simp only [Dv]
    exact ⟨a, vs, h1, h2, h3.mono s⟩
  | ins C es =>
    obtain ⟨a, dx, vs, h1, h2, h3⟩ := h
    simp only [Dv]
    exact ⟨a, dx, vs, h1, h2, h3.mono s⟩
  | exc C es => exact Dv.mono s (by simp only [Dv]; exact h)
  | xdc es => exact Dv.mono s (by simp only [Dv]; exact h)
  | ex0 C => exact Dv.mono s (by simp only [Dv]; exact h)
  | rol ds => exact Dv.mono s (by simp only [Dv]; exact h)
  | _ =>
    simp only [Dv]
    exact h
def Vws (K : PySem.W.Frag) (F H : Hp) : List D → List V → Prop
  | [], vs => vs = []
  | d :: ds, vs => ∃ v r, vs = v :: r ∧ Vw K F H d v ∧ Vws K F H ds r

/-- what a rule may give: data that stands, a new object of data, a new object to be owned -/
structure Give (K : PySem.W.Frag) (F H : Hp) (k : DV → Prop) (Q : VK) : Prop where
  im : ∀ (z : D) (u : V), Dv K F z u → k (.im z) → Q u H
  new : ∀ (z : D) (p : Addr) (o : HO), H p = none → Dv K (upd F p o) z (.ref p) → k (.im z) → Q (.ref p) (upd H p o)
  own : ∀ (z : D) (p : Addr) (o : HO), H p = none → Own K F (upd H p o) p z → k (.ow p z) → Q (.ref p) (upd H p o)
theorem give_of {σ : L2.St} {ρ : Env} {τ : List (V × DV)} {Q : VK} {Qd : DV → Env → Prop} (R : RelF K B F σ H ρ τ) (k : ∀ v x H' ρ', Rel K B σ H' ρ' ((v, x) :: τ) → Qd x ρ' → Q v H') : Give K F H (fun x => Qd x ρ) Q where
  im := fun z u hz hk => k u (.im z) H ρ ⟨F, R.pushIm hz⟩ hk
  new := fun z p o hp hz hk => k (.ref p) (.im z) _ ρ ⟨_, R.newIm hp hz⟩ hk
  own := fun z p o hp hz hk => k (.ref p) (.ow p z) _ ρ ⟨_, R.newOw hp hz⟩ hk

abbrev F2 := D → D → (DV → Prop) → Prop
abbrev F1 := D → (DV → Prop) → Prop
abbrev FN := List D → (DV → Prop) → Prop
def Ok2 (K : PySem.W.Frag) (r : R2) (f : F2) : Prop := ∀ (F H : Hp) (v w : V) (d e : D) (k : DV → Prop) (Q : VK), Ex F H → Vw K F H d v → Vw K F H e w → f d e k → Give K F H k Q → r v w H Q
def Ok1 (K : PySem.W.Frag) (r : V → Hp → VK → Prop) (f : F1) : Prop := ∀ (F H : Hp) (v : V) (d : D) (k : DV → Prop) (Q : VK), Ex F H → Vw K F H d v → f d k → Give K F H k Q → r v H Q
def OkN (K : PySem.W.Frag) (r : List V → Hp → VK → Prop) (f : FN) : Prop := ∀ (F H : Hp) (vs : List V) (ds : List D) (k : DV → Prop) (Q : VK), Ex F H → Vws K F H ds vs → f ds k → Give K F H k Q → r vs H Q
def d2 (f : F2) (da db : TD) : TD := fun ρ Q => da ρ fun x ρ1 => db ρ1 fun y ρ2 => ∃ d e, see ρ2 x = some d ∧ see ρ2 y = some e ∧ f d e fun z => Q z ρ2
theorem se_2 {r : R2} {f : F2} {ta tb : TE} {da db : TD} (hr : Ok2 K r f) (ha : SE K B W ta da) (hb : SE K B W tb db) : SE K B W (tOp r ta tb) (d2 f da db) := fun σ H ρ τ Q Qd w R h k => by
  refine ha σ H ρ τ _ _ w R h fun v x H1 ρ1 R1 h1 => ?_
  refine hb σ H1 ρ1 _ _ _ w.cons R1 h1 fun w y H2 ρ2 R2 h2 => ?_
  obtain ⟨d, e, e1, e2, h3⟩ := h2
  obtain ⟨F, R3⟩ := R2
  exact hr F H2 v w d e _ _ R3.sub (see_vw R3 (List.mem_cons_of_mem _ List.mem_cons_self) e1) (see_vw R3 List.mem_cons_self e2) h3 (give_of R3.pop.pop k)
theorem ok_lift {r : R2} {f : FB} (h : OkBin K r f) : Ok2 K r (fun d e k => f d e fun z => k (.im z)) := fun F H v w d e k Q s hv hw hf g =>
  h H v w d e _ Q (hv.dv s) (hw.dv s) hf fun z u hz hk => g.im z u (hz F) hk

/-! ### arguments, displays -/
def dNil : TDa := fun ρ Q => Q [] ρ
def dCons (da : TD) (dr : TDa) : TDa := fun ρ Q => da ρ fun x ρ1 => dr ρ1 fun xs ρ2 => Q (x :: xs) ρ2
theorem sa_nil : SA K B W tNil dNil := fun σ H ρ τ Q Qd w R h k => k [] [] H ρ rfl R h
theorem sa_cons {ta : TE} {tr : TA} {da : TD} {dr : TDa} (ha : SE K B W ta da) (hr : SA K B W tr dr) : SA K B W (tCons ta tr) (dCons da dr) := fun σ H ρ τ Q Qd w R h k => by
  refine ha σ H ρ τ _ _ w R h fun v x H1 ρ1 R1 h1 => ?_
  exact hr σ H1 ρ1 _ _ _ w.cons R1 h1 fun vs xs H2 ρ2 e R2 h2 => k (v :: vs) (x :: xs) H2 ρ2 (by simp [e]) R2 h2
theorem zipT_perm : ∀ {vs : List V} {xs : List DV} {q : V × DV} {τ : List (V × DV)}, (zipT vs xs (q :: τ)).Perm (q :: zipT vs xs τ)
  | [], _, _, _ => .refl _
  | _ :: _, [], _, _ => .refl _
  | v :: vs, x :: xs, q, τ => by
    show (zipT vs xs ((v, x) :: q :: τ)).Perm (q :: zipT vs xs ((v, x) :: τ))
    exact (zipT_perm.trans ((zipT_perm.cons _).trans (.swap ..))).trans (zipT_perm.symm.cons _)
/-- all frozen -/
def frzs (ρ : Env) : List DV → Option (List D × Env)
  | [] => some ([], ρ)
  | x :: xs => match see ρ x with
    | some d => match frzs (frz ρ x) xs with
      | some (ds, ρ') => some (d :: ds, ρ')
      | none => none
    | none => none
theorem Rel.freezeAll {σ : L2.St} {B : BG} {H : Hp} : ∀ {vs : List V} {xs : List DV} {ρ ρ' : Env} {τ : List (V × DV)} {ds : List D}, vs.length = xs.length → Rel K B σ H ρ (zipT vs xs τ) → frzs ρ xs = some (ds, ρ') →
    ∃ F, RelF K B F σ H ρ' τ ∧ Dvs K F ds vs
  | [], [], ρ, ρ', τ, ds, _, ⟨F, R⟩, h => by
    simp only [frzs] at h
    cases h
    exact ⟨F, R, by simp only [Dvs]⟩
  | v :: vs, x :: xs, ρ, ρ', τ, ds, hl, R, h => by
    simp only [frzs] at h
    split at h
    · rename_i d e
      split at h
      · rename_i ds' ρ2 e2
        cases h
        have R1 : Rel K B σ H ρ ((v, x) :: zipT vs xs τ) := R.perm (show (zipT vs xs ((v, x) :: τ)).Perm _ from zipT_perm)
        have R2 : Rel K B σ H (frz ρ x) (zipT vs xs ((v, .im d) :: τ)) := (R1.freeze e).perm zipT_perm.symm
        obtain ⟨F, R3, hd⟩ := Rel.freezeAll (by simpa using hl) R2 e2
        exact ⟨F, R3.pop, by
          simp only [Dvs]
          exact ⟨v, vs, rfl, R3.tm _ List.mem_cons_self, hd⟩⟩
      · cases h
    · cases h
  | [], _ :: _, _, _, _, _, hl, _, _ => by simp at hl
  | _ :: _, [], _, _, _, _, hl, _, _ => by simp at hl
theorem Dvs.length {F : Hp} : ∀ {ds : List D} {vs : List V}, Dvs K F ds vs → ds.length = vs.length
  | [], _, h => by
    simp only [Dvs] at h
    simp [h]
  | d :: ds, _, h => by
    simp only [Dvs] at h
    obtain ⟨v, r, rfl, _, h3⟩ := h
    simp [Dvs.length h3]
def dTup (da : TDa) : TD := fun ρ Q => da ρ fun xs ρ1 => ∃ ds ρ2, frzs ρ1 xs = some (ds, ρ2) ∧ ds.length ≤ sizeLine ∧ Q (.im (.tup ds)) ρ2
def dLst (da : TDa) : TD := fun ρ Q => da ρ fun xs ρ1 => ∃ ds ρ2, frzs ρ1 xs = some (ds, ρ2) ∧ ds.length ≤ sizeLine ∧ ∀ p, Q (.ow p (.lst ds)) ρ2
theorem se_tup {ta : TA} {da : TDa} (ha : SA K B W ta da) : SE K B W (tTup ta) (dTup da) := fun σ H ρ τ Q Qd w R h k => by
  refine ha σ H ρ τ _ _ w R h fun vs xs H1 ρ1 hl R1 h1 => ?_
  obtain ⟨ds, ρ2, e, hz, hq⟩ := h1
  obtain ⟨F, R2, hd⟩ := R1.freezeAll hl e
  refine ⟨by rw [← hd.length]; exact hz, fun p hp => ?_⟩
  exact k _ (.im (.tup ds)) _ ρ2 ⟨_, R2.newIm hp (by
    simp only [Dv]
    exact ⟨p, vs, rfl, st_of upd_same, hd.mono (Ex.new (frozen_not_new R2 hp))⟩)⟩ hq
theorem se_lst {ta : TA} {da : TDa} (ha : SA K B W ta da) : SE K B W (tLst ta) (dLst da) := fun σ H ρ τ Q Qd w R h k => by
  refine ha σ H ρ τ _ _ w R h fun vs xs H1 ρ1 hl R1 h1 => ?_
  obtain ⟨ds, ρ2, e, hz, hq⟩ := h1
  obtain ⟨F, R2, hd⟩ := R1.freezeAll hl e
  refine ⟨by rw [← hd.length]; exact hz, fun p hp => ?_⟩
  exact k _ (.ow p (.lst ds)) _ ρ2 ⟨_, R2.newOw hp ⟨vs, upd_same, hd⟩⟩ (hq p)

/-! ### calls of built-ins -/
def looks (ρ : Env) : List DV → Option (List D)
  | [] => some []
  | x :: xs => match see ρ x, looks ρ xs with
    | some d, some ds => some (d :: ds)
    | _, _ => none
theorem vws_of {B : BG} {F H : Hp} {σ : L2.St} {ρ : Env} : ∀ {vs : List V} {xs : List DV} {τ : List (V × DV)} {ds : List D}, vs.length = xs.length → RelF K B F σ H ρ (zipT vs xs τ) → looks ρ xs = some ds → RelF K B F σ H ρ τ ∧ Vws K F H ds vs
  | [], [], τ, ds, _, R, h => by
    simp only [looks] at h
    cases h
    exact ⟨R, rfl⟩
  | v :: vs, x :: xs, τ, ds, hl, R, h => by
    simp only [looks] at h
    split at h
    · rename_i d ds' e1 e2
      cases h
      obtain ⟨R1, h1⟩ := vws_of (τ := (v, x) :: τ) (by simpa using hl) R e2
      exact ⟨R1.pop, v, vs, rfl, see_vw R1 List.mem_cons_self e1, h1⟩
    · cases h
  | [], _ :: _, _, _, hl, _, _ => by simp at hl
  | _ :: _, [], _, _, hl, _, _ => by simp at hl
def dCB (f : FN) (da : TDa) : TD := fun ρ Q => da ρ fun xs ρ1 => ∃ ds, looks ρ1 xs = some ds ∧ f ds fun z => Q z ρ1
theorem se_cb {r : List V → Hp → VK → Prop} {f : FN} {ta : TA} {da : TDa} (hr : OkN K r f) (ha : SA K B W ta da) : SE K B W (tCB r ta) (dCB f da) := fun σ H ρ τ Q Qd w R h k => by
  refine ha σ H ρ τ _ _ w R h fun vs xs H1 ρ1 hl R1 h1 => ?_
  obtain ⟨ds, e, hf⟩ := h1
  obtain ⟨F, R2⟩ := R1
  obtain ⟨R3, hv⟩ := vws_of hl R2 e
  exact hr F H1 vs ds _ _ R3.sub hv hf (give_of R3 k)
theorem vws1 {F H : Hp} {d : D} {vs : List V} (h : Vws K F H [d] vs) : ∃ v, vs = [v] ∧ Vw K F H d v := by
  obtain ⟨v, r, rfl, h1, h2⟩ := h
  exact ⟨v, by rw [show r = [] from h2], h1⟩
theorem vws2 {F H : Hp} {d e : D} {vs : List V} (h : Vws K F H [d, e] vs) : ∃ v w, vs = [v, w] ∧ Vw K F H d v ∧ Vw K F H e w := by
  obtain ⟨v, r, rfl, h1, h2⟩ := h
  obtain ⟨w, rfl, h3⟩ := vws1 h2
  exact ⟨v, w, rfl, h1, h3⟩
end
end DL
/-! DG -/
set_option Elab.async false
set_option maxRecDepth 100000
set_option maxHeartbeats 4000000
set_option linter.unusedVariables false
namespace DL
open PySem L2 Evl
section
variable {K : PySem.W.Frag} {B : BG} {W : Wp}

/-! ### items, by list lemmas over Dvs -/
theorem Dvs.get {F : Hp} : ∀ {ds : List D} {vs : List V} {i : Nat} {d : D}, Dvs K F ds vs → ds[i]? = some d → ∃ v, vs[i]? = some v ∧ Dv K F d v
  | [], _, i, d, _, h => by simp at h
  | x :: ds, _, 0, d, h, e => by
    simp only [Dvs] at h
    obtain ⟨v, r, rfl, h2, h3⟩ := h
    have e' : x = d := by simpa using e
    subst e'
    exact ⟨v, rfl, h2⟩
  | x :: ds, _, i + 1, d, h, e => by
    simp only [Dvs] at h
    obtain ⟨v, r, rfl, h2, h3⟩ := h
    obtain ⟨w, h4, h5⟩ := Dvs.get (i := i) h3 (by simpa using e)
    exact ⟨w, by simpa using h4, h5⟩
theorem Dvs.append {F : Hp} : ∀ {ds es : List D} {vs ws : List V}, Dvs K F ds vs → Dvs K F es ws → Dvs K F (ds ++ es) (vs ++ ws)
  | [], _, _, _, h, g => by
    simp only [Dvs] at h
    subst h
    exact g
  | d :: ds, _, _, _, h, g => by
    simp only [Dvs] at h
    obtain ⟨v, r, rfl, h2, h3⟩ := h
    show Dvs K F (d :: (ds ++ _)) _
    simp only [Dvs]
    exact ⟨v, _, rfl, h2, Dvs.append h3 g⟩
theorem Dvs.take {F : Hp} : ∀ {ds : List D} {vs : List V} (n : Nat), Dvs K F ds vs → Dvs K F (ds.take n) (vs.take n)
  | _, _, 0, _ => by simp [Dvs]
  | [], _, n + 1, h => by
    simp only [Dvs] at h
    subst h
    simp [Dvs]
  | d :: ds, _, n + 1, h => by
    simp only [Dvs] at h
    obtain ⟨v, r, rfl, h2, h3⟩ := h
    simp only [List.take_succ_cons, Dvs]
    exact ⟨v, _, rfl, h2, Dvs.take n h3⟩
theorem Dvs.drop {F : Hp} : ∀ {ds : List D} {vs : List V} (n : Nat), Dvs K F ds vs → Dvs K F (ds.drop n) (vs.drop n)
  | _, _, 0, h => h
  | [], _, n + 1, h => by
    simp only [Dvs] at h
    subst h
    simp [Dvs]
  | d :: ds, _, n + 1, h => by
    simp only [Dvs] at h
    obtain ⟨v, r, rfl, h2, h3⟩ := h
    exact Dvs.drop n h3
theorem Dvs.reverse {F : Hp} : ∀ {ds : List D} {vs : List V}, Dvs K F ds vs → Dvs K F ds.reverse vs.reverse
  | [], _, h => by
    simp only [Dvs] at h
    subst h
    simp [Dvs]
  | d :: ds, _, h => by
    simp only [Dvs] at h
    obtain ⟨v, r, rfl, h2, h3⟩ := h
    rw [List.reverse_cons, List.reverse_cons]
    exact (Dvs.reverse h3).append (by simp only [Dvs]; exact ⟨v, [], rfl, h2, rfl⟩)
theorem Dvs.set {F : Hp} {d : D} {v : V} (hd : Dv K F d v) : ∀ {ds : List D} {vs : List V} (i : Nat), Dvs K F ds vs → Dvs K F (ds.set i d) (vs.set i v)
  | [], _, i, h => by
    simp only [Dvs] at h
    subst h
    simp [Dvs]
  | x :: ds, _, 0, h => by
    simp only [Dvs] at h
    obtain ⟨w, r, rfl, h2, h3⟩ := h
    simp only [List.set_cons_zero, Dvs]
    exact ⟨v, r, rfl, hd, h3⟩
  | x :: ds, _, i + 1, h => by
    simp only [Dvs] at h
    obtain ⟨w, r, rfl, h2, h3⟩ := h
    simp only [List.set_cons_succ, Dvs]
    exact ⟨w, _, rfl, h2, Dvs.set hd i h3⟩
theorem Dvs.erase {F : Hp} : ∀ {ds : List D} {vs : List V} (i : Nat), Dvs K F ds vs → Dvs K F (ds.eraseIdx i) (vs.eraseIdx i)
  | [], _, i, h => by
    simp only [Dvs] at h
    subst h
    simp [Dvs]
  | x :: ds, _, 0, h => by
    simp only [Dvs] at h
    obtain ⟨w, r, rfl, h2, h3⟩ := h
    exact h3
  | x :: ds, _, i + 1, h => by
    simp only [Dvs] at h
    obtain ⟨w, r, rfl, h2, h3⟩ := h
    simp only [List.eraseIdx_cons_succ, Dvs]
    exact ⟨w, _, rfl, h2, Dvs.erase i h3⟩
theorem Dvs.dropLast {F : Hp} {ds : List D} {vs : List V} (h : Dvs K F ds vs) : Dvs K F ds.dropLast vs.dropLast := by
  rw [List.dropLast_eq_take, List.dropLast_eq_take, ← h.length]
  exact h.take _

/-- lists of ints, texts, bools as data -/
def intsD : List D → Option (List Int)
  | [] => some []
  | .int i :: r => (intsD r).map (i :: ·)
  | _ => none
theorem ints_map (ns : List Int) : intsD (ns.map D.int) = some ns := by
  induction ns with
  | nil => rfl
  | cons n r ih => simp [intsD, ih]
theorem ints_of : ∀ {ds : List D} {ns : List Int}, intsD ds = some ns → ds = ns.map D.int
  | [], ns, h => by
    simp only [intsD] at h
    cases h
    rfl
  | .int i :: r, ns, h => by
    simp only [intsD, Option.map_eq_some_iff] at h
    obtain ⟨l, h1, rfl⟩ := h
    simp [ints_of h1]
  | .non :: _, _, h | .bl _ :: _, _, h | .str _ :: _, _, h | .tup _ :: _, _, h | .lst _ :: _, _, h | .dct _ :: _, _, h | .ins _ _ :: _, _, h | .ref _ :: _, _, h | .ty _ :: _, _, h | .exc _ _ :: _, _, h | .xdc _ :: _, _, h | .ex0 _ :: _, _, h | .rol _ :: _, _, h => by simp [intsD] at h
theorem dvs_ints {F : Hp} : ∀ {ns : List Int} {vs : List V}, Dvs K F (ns.map D.int) vs ↔ vs = ns.map V.int
  | [], vs => by simp [Dvs]
  | n :: r, vs => by
    simp only [List.map_cons, Dvs, Dv, dvs_ints]
    constructor
    · rintro ⟨v, q, rfl, rfl, rfl⟩
      rfl
    · rintro rfl
      exact ⟨_, _, rfl, rfl, rfl⟩
theorem dvs_strs {F : Hp} : ∀ {ns : List Str} {vs : List V}, Dvs K F (ns.map D.str) vs ↔ vs = ns.map V.str
  | [], vs => by simp [Dvs]
  | n :: r, vs => by
    simp only [List.map_cons, Dvs, Dv, dvs_strs]
    constructor
    · rintro ⟨v, q, rfl, rfl, rfl⟩
      rfl
    · rintro rfl
      exact ⟨_, _, rfl, rfl, rfl⟩
theorem dvs_bls {F : Hp} : ∀ {ns : List Bool} {vs : List V}, Dvs K F (ns.map D.bl) vs ↔ vs = ns.map V.bl
  | [], vs => by simp [Dvs]
  | n :: r, vs => by
    simp only [List.map_cons, Dvs, Dv, dvs_bls]
    constructor
    · rintro ⟨v, q, rfl, rfl, rfl⟩
      rfl
    · rintro rfl
      exact ⟨_, _, rfl, rfl, rfl⟩

/-! ### sequences: len, items, slices, +, list(..), tuple(..) -/
theorem vw_seq {F H : Hp} {ds : List D} {v : V} (h : Vw K F H (.lst ds) v) : ∃ a vs, v = .ref a ∧ H a = some (.lst vs) ∧ Dvs K F ds vs := h
theorem vw_tup {F H : Hp} {ds : List D} {v : V} (h : Vw K F H (.tup ds) v) : ∃ a vs, v = .ref a ∧ SqT K F a vs ∧ Dvs K F ds vs := h
/-- len of a list, a tuple, a text, a dict -/
def lenD : D → Option Nat
  | .lst ds => some ds.length
  | .tup ds => some ds.length
  | .str x => if x.length ≤ sizeLine then some x.length else none
  | _ => none
def fLen : FN := fun ds k => ∃ d n, ds = [d] ∧ lenD d = some n ∧ k (.im (.int (n : Int)))
theorem ok_len : OkN K (fun xs H Q => ∃ x n, xs = [x] ∧ LenV K x H n ∧ Q (.int n) H) fLen := fun F H vs ds k Q s hv h g => by
  obtain ⟨d, n, rfl, e, hk⟩ := h
  obtain ⟨v, rfl, h1⟩ := vws1 hv
  refine ⟨v, n, rfl, ?_, g.im _ _ dv_int hk⟩
  cases d with
  | lst ds =>
    obtain ⟨a, ws, rfl, h2, h3⟩ := h1
    cases e
    exact .inl ⟨ws, sq_of h2, h3.length⟩
  | tup ds =>
    obtain ⟨a, ws, rfl, h2, h3⟩ := h1
    cases e
    exact .inr ⟨ws, ex_t s h2, h3.length⟩
  | str x =>
    simp only [Vw] at h1
    subst h1
    simp only [lenD] at e
    split at e
    · cases e
      exact ⟨by assumption, rfl⟩
    · cases e
  | _ => cases e
/-- x[i] -/
def itemD : D → Int → Option D
  | .lst ds, i => atI ds i
  | .tup ds, i => atI ds i
  | .str x, i => if x.length ≤ sizeLine then (atI x.cps.toList i).map fun c => .str ⟨#[c]⟩ else none
  | _, _ => none
theorem atI_dvs {F : Hp} {ds : List D} {vs : List V} {i : Int} {d : D} (h : Dvs K F ds vs) (e : atI ds i = some d) : ∃ v, atI vs i = some v ∧ Dv K F d v := by
  unfold atI at e ⊢
  rw [← h.length]
  obtain ⟨j, e1, e2⟩ := Option.bind_eq_some_iff.mp e
  obtain ⟨v, h1, h2⟩ := h.get e2
  exact ⟨v, by rw [e1]; exact h1, h2⟩
def fIx : F2 := fun d e k => ∃ i z, e = .int i ∧ itemD d i = some z ∧ k (.im z)
theorem ok_ix : Ok2 K (rIx K) fIx := fun F H v w d e k Q s hv hw h g => by
  obtain ⟨i, z, rfl, e, hk⟩ := h
  simp only [Vw] at hw
  subst hw
  cases d with
  | lst ds =>
    obtain ⟨a, ws, rfl, h2, h3⟩ := hv
    obtain ⟨u, h4, h5⟩ := atI_dvs h3 e
    exact .inl ⟨a, ws, i, u, rfl, rfl, sq_of h2, h4, g.im _ _ h5 hk⟩
  | tup ds =>
    obtain ⟨a, ws, rfl, h2, h3⟩ := hv
    obtain ⟨u, h4, h5⟩ := atI_dvs h3 e
    exact .inr (.inl ⟨a, ws, i, u, rfl, rfl, ex_t s h2, h4, g.im _ _ h5 hk⟩)
  | str x =>
    simp only [Vw] at hv
    subst hv
    simp only [itemD] at e
    split at e
    · obtain ⟨c, e1, rfl⟩ := Option.map_eq_some_iff.mp e
      exact .inr (.inr ⟨x, i, c, rfl, rfl, by assumption, e1, g.im _ _ dv_str hk⟩)
    · cases e
  | _ => cases e
/-- list(x), tuple(x) -/
def seqD : D → Option (List D)
  | .lst ds => some ds
  | .tup ds => some ds
  | .rol ds => some ds
  | _ => none
def fList : FN := fun ds k => ∃ d es, ds = [d] ∧ seqD d = some es ∧ ∀ p, k (.ow p (.lst es))
theorem ok_list : OkN K (fun xs H Q => ∃ p ys, xs = [.ref p] ∧ (SqL K H p ys ∨ SqT K H p ys) ∧ ∀ l, H l = none → Q (.ref l) (upd H l (.lst ys))) fList := fun F H vs ds k Q s hv h g => by
  obtain ⟨d, es, rfl, e, hk⟩ := h
  obtain ⟨v, rfl, h1⟩ := vws1 hv
  cases d with
  | lst ds =>
    obtain ⟨a, ws, rfl, h2, h3⟩ := h1
    cases e
    exact ⟨a, ws, rfl, .inl (sq_of h2), fun l hl => g.own (.lst es) l _ hl ⟨ws, upd_same, h3⟩ (hk l)⟩
  | tup ds =>
    obtain ⟨a, ws, rfl, h2, h3⟩ := h1
    cases e
    exact ⟨a, ws, rfl, .inr (ex_t s h2), fun l hl => g.own (.lst es) l _ hl ⟨ws, upd_same, h3⟩ (hk l)⟩
  | rol ds =>
    obtain ⟨a, ws, rfl, h2, h3⟩ := h1
    cases e
    exact ⟨a, ws, rfl, .inl (ex_l s h2), fun l hl => g.own (.lst es) l _ hl ⟨ws, upd_same, h3⟩ (hk l)⟩
  | _ => cases e
def fTuple : FN := fun ds k => ∃ d es, ds = [d] ∧ seqD d = some es ∧ k (.im (.tup es))
theorem ok_tuple : OkN K (fun xs H Q => ∃ p ys, xs = [.ref p] ∧ ((SqL K H p ys ∧ ∀ l, H l = none → Q (.ref l) (upd H l (.tup ys))) ∨ (SqT K H p ys ∧ Q (.ref p) H))) fTuple := fun F H vs ds k Q s hv h g => by
  obtain ⟨d, es, rfl, e, hk⟩ := h
  obtain ⟨v, rfl, h1⟩ := vws1 hv
  cases d with
  | lst ds =>
    obtain ⟨a, ws, rfl, h2, h3⟩ := h1
    cases e
    refine ⟨a, ws, rfl, .inl ⟨sq_of h2, fun l hl => g.new _ l _ hl ?_ hk⟩⟩
    simp only [Dv]
    exact ⟨l, ws, rfl, st_of upd_same, h3.mono (Ex.new (fresh_back s hl))⟩
  | tup ds =>
    have h0 := h1
    obtain ⟨a, ws, rfl, h2, h3⟩ := h1
    cases e
    refine ⟨a, ws, rfl, .inr ⟨ex_t s h2, g.im (.tup es) _ ?_ hk⟩⟩
    simp only [Dv]
    exact h0
  | rol ds =>
    obtain ⟨a, ws, rfl, h2, h3⟩ := h1
    cases e
    refine ⟨a, ws, rfl, .inl ⟨ex_l s h2, fun l hl => g.new _ l _ hl ?_ hk⟩⟩
    simp only [Dv]
    exact ⟨l, ws, rfl, st_of upd_same, h3.mono (Ex.new (fresh_back s hl))⟩
  | _ => cases e
end
end DL
/-! DH -/
set_option Elab.async false
set_option maxRecDepth 100000
set_option maxHeartbeats 4000000
set_option linter.unusedVariables false
namespace DL
open PySem L2 Evl
section
variable {K : PySem.W.Frag} {B : BG} {W : Wp}

/-! ### statements -/
def dNext : TDs := fun D ρ => D.nx ρ
def dBreak : TDs := fun D ρ => D.bk ρ
def dCont : TDs := fun D ρ => D.ct ρ
def dSeq (t u : TDs) : TDs := fun D ρ => t { D with nx := u D } ρ
def dDrop (da : TD) : TDs := fun D ρ => da ρ fun _ ρ1 => D.nx ρ1
def dRet (da : TD) : TDs := fun D ρ => da ρ D.rt
def dRetN : TDs := fun D ρ => D.rt (.im .non) ρ
def dIfS (c : TDt) (t u : TDs) : TDs := fun D ρ => c ρ fun b ρ1 => if b = true then t D ρ1 else u D ρ1
def dAsg (da : TD) (g : DV → Env → (Env → Prop) → Prop) : TDs := fun D ρ => da ρ fun x ρ1 => g x ρ1 D.nx
theorem ss_next : SS K B W tNext dNext := fun σ H ρ τ D Dd _ w R h n _ _ _ => n σ H ρ R h
theorem ss_break : SS K B W tBreak dBreak := fun σ H ρ τ D Dd _ w R h _ b _ _ => b σ H ρ R h
theorem ss_cont : SS K B W tCont dCont := fun σ H ρ τ D Dd _ w R h _ _ c _ => c σ H ρ R h
theorem ss_seq {t u : TS} {dt du : TDs} (ht : SS K B W t dt) (hu : SS K B W u du) : SS K B W (tSeq t u) (dSeq dt du) := fun σ H ρ τ D Dd na w R h n b c r =>
  ht σ H ρ τ _ _ na w R h (fun σ1 H1 ρ1 R1 h1 => hu σ1 H1 ρ1 τ D Dd na w R1 h1 n b c r) b c r
theorem ss_drop {te : TE} {de : TD} (he : SE K B W te de) : SS K B W (tDrop te) (dDrop de) := fun σ H ρ τ D Dd na w R h n b c r =>
  he σ H ρ τ _ _ w R h fun v x H1 ρ1 R1 h1 => n σ H1 ρ1 R1.pop h1
theorem ss_ret {te : TE} {de : TD} (he : SE K B W te de) : SS K B W (tRet te) (dRet de) := fun σ H ρ τ D Dd na w R h n b c r =>
  he σ H ρ τ _ _ w R h fun v x H1 ρ1 R1 h1 => r v x σ H1 ρ1 R1 h1
theorem ss_retN : SS K B W tRetN dRetN := fun σ H ρ τ D Dd na w R h n b c r => r .non (.im .non) σ H ρ (R.push fun F => dv_non) h
theorem ss_if {c : TT} {t u : TS} {dc : TDt} {dt du : TDs} (hc : ST K B W c dc) (ht : SS K B W t dt) (hu : SS K B W u du) : SS K B W (tIfS c t u) (dIfS dc dt du) := fun σ H ρ τ D Dd na w R h n b c r =>
  hc σ H ρ τ _ _ w R h fun k H1 ρ1 R1 h1 => by
    cases k with
    | true => exact ht σ H1 ρ1 τ D Dd na w R1 h1 n b c r
    | false => exact hu σ H1 ρ1 τ D Dd na w R1 h1 n b c r
theorem ss_asg {te : TE} {g : TG} {de : TD} {dg : DV → Env → (Env → Prop) → Prop} (he : SE K B W te de) (hg : SG K B true g dg) : SS K B W (tAsg te g) (dAsg de dg) := fun σ H ρ τ D Dd na w R h n b c r =>
  he σ H ρ τ _ _ w R h fun v x H1 ρ1 R1 h1 => hg σ H1 ρ1 τ v x _ _ (fun _ => na) R1 h1 n

/-! ### targets -/
def put (ρ : Env) (i : Nat) (x : DV) : Option Env := match ρ[i]? with
  | none => none
  | some _ => match x with
    | .im d => some (ρ.set i (.im d))
    | .ow a d => some (ρ.set i (.ow a d))
    | .al j a => match see ρ (.al j a) with
      | some d => some ((frz ρ (.al j a)).set i (.im d))
      | none => none
def dName (i : Nat) : DV → Env → (Env → Prop) → Prop := fun x ρ Q => ∃ ρ', put ρ i x = some ρ' ∧ Q ρ'
theorem frz_length (ρ : Env) (x : DV) : (frz ρ x).length = ρ.length := by
  unfold frz
  split
  · split <;> simp
  · rfl
theorem sg_name {i : Nat} : SG K B true (gName i) (dName i) := fun σ H ρ τ v x Q Qd na R h k => by
  obtain ⟨ρ', e, hq⟩ := h
  unfold put at e
  split at e
  · cases e
  · rename_i s0 e0
    split at e
    · cases e
      obtain ⟨F, R⟩ := R
      exact k _ H _ ⟨F, R.putIm ((na rfl).at i) e0⟩ hq
    · cases e
      obtain ⟨F, R⟩ := R
      exact k _ H _ ⟨F, R.putOw ((na rfl).at i) e0⟩ hq
    · rename_i j a
      split at e
      · rename_i d e1
        cases e
        obtain ⟨F, R1⟩ := R.freeze e1
        have li : i < (frz ρ (.al j a)).length := by
          rw [frz_length]
          exact (List.getElem?_eq_some_iff.mp e0).1
        exact k _ H _ ⟨F, R1.putIm ((na rfl).at i) (List.getElem?_eq_getElem li)⟩ hq
      · cases e
/-- a name of a comprehension: its slot owns nothing -/
def dNameC (i : Nat) : DV → Env → (Env → Prop) → Prop := fun x ρ Q => match ρ[i]? with
  | some s0 => plainS s0 = true ∧ ∃ d, see ρ x = some d ∧ Q ((frz ρ x).set i (.im d))
  | none => False
theorem frz_ne {ρ : Env} {x : DV} {i : Nat} {s0 : S} (h : ρ[i]? = some s0) (hp : plainS s0 = true) : (frz ρ x)[i]? = some s0 := by
  unfold frz
  split
  · rename_i j a
    split
    · rename_i b d e
      by_cases hji : j = i
      · subst hji
        rw [h] at e
        cases e
        cases hp
      · rw [List.getElem?_set_ne hji]
        exact h
    · exact h
  · exact h
theorem sg_nameC {c : Bool} {i : Nat} : SG K B c (gName i) (dNameC i) := fun σ H ρ τ v x Q Qd na R h k => by
  unfold dNameC at h
  split at h
  · rename_i s0 e0
    obtain ⟨hp, d, e1, hq⟩ := h
    obtain ⟨F, R1⟩ := R.freeze e1
    have e2 := frz_ne (x := x) e0 hp
    exact k _ H _ ⟨F, R1.putIm (R1.pop.noAl e2 hp) e2⟩ hq
  · exact h.elim
/-- values as temps of data -/
def imT : List V → List D → List (V × DV)
  | v :: vs, d :: ds => (v, .im d) :: imT vs ds
  | _, _ => []
theorem RelF.pushIms {B : BG} {F H : Hp} {σ : L2.St} {ρ : Env} {τ : List (V × DV)} (R : RelF K B F σ H ρ τ) : ∀ {ds : List D} {vs : List V}, Dvs K F ds vs → RelF K B F σ H ρ (imT vs ds ++ τ)
  | [], _, h => by
    simp only [Dvs] at h
    subst h
    exact R
  | d :: ds, _, h => by
    simp only [Dvs] at h
    obtain ⟨v, r, rfl, h2, h3⟩ := h
    exact (RelF.pushIms R h3).pushIm h2
theorem NoAl.imT : ∀ {vs : List V} {ds : List D} {τ : List (V × DV)}, NoAl τ → NoAl (imT vs ds ++ τ)
  | [], _, _, h => h
  | _ :: _, [], _, h => h
  | v :: vs, d :: ds, τ, h => (NoAl.imT h).im
abbrev DG := DV → Env → (Env → Prop) → Prop
abbrev DGs := List D → Env → (Env → Prop) → Prop
def SGs (K : PySem.W.Frag) (B : BG) (c : Bool) (g : TGs) (dg : DGs) : Prop := ∀ (σ : L2.St) (H : Hp) (ρ : Env) (τ : List (V × DV)) (vs : List V) (ds : List D) (Q : L2.St → Hp → Prop) (Qd : Env → Prop), (c = true → NoAl τ) → vs.length = ds.length → Rel K B σ H ρ (imT vs ds ++ τ) → dg ds ρ Qd →
  (∀ σ' H' ρ', Rel K B σ' H' ρ' τ → Qd ρ' → Q σ' H') → g vs σ H Q
def dgNil : DGs := fun ds ρ Q => ds = [] ∧ Q ρ
def dgCons (g : DG) (u : DGs) : DGs := fun ds ρ Q => ∃ d r, ds = d :: r ∧ g (.im d) ρ fun ρ1 => u r ρ1 Q
theorem sgs_nil {c : Bool} : SGs K B c gNil dgNil := fun σ H ρ τ vs ds Q Qd na hl R h k => by
  obtain ⟨rfl, hq⟩ := h
  have e : vs = [] := List.length_eq_zero_iff.mp hl
  subst e
  exact ⟨rfl, k σ H ρ R hq⟩
theorem sgs_cons {c : Bool} {g : TG} {u : TGs} {dg : DG} {du : DGs} (hg : SG K B c g dg) (hu : SGs K B c u du) : SGs K B c (gCons g u) (dgCons dg du) := fun σ H ρ τ vs ds Q Qd na hl R h k => by
  obtain ⟨d, r, rfl, h⟩ := h
  cases vs with
  | nil => simp at hl
  | cons v vs =>
    refine ⟨v, vs, rfl, ?_⟩
    refine hg σ H ρ (imT vs r ++ τ) v (.im d) _ _ (fun e => NoAl.imT (na e)) R h fun σ1 H1 ρ1 R1 h1 => ?_
    exact hu σ1 H1 ρ1 τ vs r Q Qd na (by simpa using hl) R1 h1 k
/-- (a, b, ..) = a tuple or a list of that length -/
def gUnp (K : PySem.W.Frag) (n : Nat) (t : TGs) : TG := fun v σ H Q => gTup K n t v σ H Q ∨ gUnl K n t v σ H Q
def dUnp (n : Nat) (g : DGs) : DG := fun x ρ Q => ∃ d ds, see ρ x = some d ∧ seqD d = some ds ∧ ds.length = n ∧ g ds (frz ρ x) Q
theorem sg_unp {c : Bool} {n : Nat} {t : TGs} {g : DGs} (h : SGs K B c t g) : SG K B c (gUnp K n t) (dUnp n g) := fun σ H ρ τ v x Q Qd na R hd k => by
  obtain ⟨d, ds, e1, e2, hn, hg⟩ := hd
  obtain ⟨F, R1⟩ := R.freeze e1
  have t1 : Dv K F d v := R1.tm _ List.mem_cons_self
  cases d with
  | tup es =>
    cases e2
    simp only [Dv] at t1
    obtain ⟨a, vs, rfl, h2, h3⟩ := t1
    exact .inl ⟨a, vs, rfl, ex_t R1.sub h2, by rw [← h3.length, hn], h σ H _ τ vs _ Q Qd na h3.length.symm ⟨F, R1.pop.pushIms h3⟩ hg k⟩
  | lst es =>
    cases e2
    simp only [Dv] at t1
    obtain ⟨a, vs, rfl, h2, h3⟩ := t1
    exact .inr ⟨a, vs, rfl, sq_of (R1.sub _ _ h2), by rw [← h3.length, hn], h σ H _ τ vs _ Q Qd na h3.length.symm ⟨F, R1.pop.pushIms h3⟩ hg k⟩
  | rol es =>
    cases e2
    simp only [Dv] at t1
    obtain ⟨a, vs, rfl, h2, h3⟩ := t1
    exact .inr ⟨a, vs, rfl, ex_l R1.sub h2, by rw [← h3.length, hn], h σ H _ τ vs _ Q Qd na h3.length.symm ⟨F, R1.pop.pushIms h3⟩ hg k⟩
  | _ => cases e2

/-! ### loops -/
theorem Rel.dropL {σ : L2.St} {B : BG} {H : Hp} {ρ : Env} : ∀ {τ1 τ : List (V × DV)}, Rel K B σ H ρ (τ1 ++ τ) → Rel K B σ H ρ τ
  | [], _, R => R
  | (v, x) :: τ1, τ, R => Rel.dropL (τ1 := τ1) (Rel.pop (v := v) (x := x) R)
theorem Rel.dropM {σ : L2.St} {B : BG} {H : Hp} {ρ : Env} {τ1 τ : List (V × DV)} {q : V × DV} (R : Rel K B σ H ρ (q :: (τ1 ++ τ))) : Rel K B σ H ρ (q :: τ) :=
  Rel.dropL (τ1 := τ1) (R.perm List.perm_middle.symm)
theorem NoAl.app {τ1 τ : List (V × DV)} (h : NoAl τ1) (g : NoAl τ) : NoAl (τ1 ++ τ) := fun p hp => (List.mem_append.mp hp).elim (h p) (g p)
/-- an iterator over items; G: what must hold of the slots at each turn; τ1: what is held meanwhile -/
structure ItOk (K : PySem.W.Frag) (B : BG) (J : It) (items : List D) (G : Env → Prop) (τ1 : List (V × DV)) : Prop where
  go : ∀ (i : Nat) (σ : L2.St) (H : Hp) (ρ : Env) (τ : List (V × DV)), i < items.length → Rel K B σ H ρ (τ1 ++ τ) → G ρ → J.go i H
  yl : ∀ (i : Nat) (σ : L2.St) (H : Hp) (ρ : Env) (τ : List (V × DV)) (x : V) (H' : Hp) (d : D), items[i]? = some d → Rel K B σ H ρ (τ1 ++ τ) → G ρ → J.yld i H x H' → Rel K B σ H' ρ ((x, .im d) :: (τ1 ++ τ))
  stop : ∀ (σ : L2.St) (H : Hp) (ρ : Env) (τ : List (V × DV)), Rel K B σ H ρ (τ1 ++ τ) → G ρ → J.stop items.length H
abbrev TDi := Env → (List D → (Env → Prop) → Env → Prop) → Prop
def SI (K : PySem.W.Frag) (B : BG) (W : Wp) (t : TI) (di : TDi) : Prop := ∀ (σ : L2.St) (H : Hp) (ρ : Env) (τ : List (V × DV)) (R : It → Hp → Prop) (Qi : List D → (Env → Prop) → Env → Prop), WL K B τ W → Rel K B σ H ρ τ → di ρ Qi →
  (∀ J items G τ1 H1 ρ1, ItOk K B J items G τ1 → NoAl τ1 → Rel K B σ H1 ρ1 (τ1 ++ τ) → Qi items G ρ1 → R J H1) → t σ H R
def dLoop (G : Env → Prop) (dg : DG) (body : TDs) (Dd : DEnds) : List D → Env → Prop
  | [], ρ => G ρ ∧ Dd.nx ρ
  | d :: ds, ρ => G ρ ∧ dg (.im d) ρ fun ρ2 => body { Dd with nx := dLoop G dg body Dd ds, ct := dLoop G dg body Dd ds, bk := Dd.nx } ρ2
def dFor (di : TDi) (dg : DG) (body : TDs) : TDs := fun Dd ρ => di ρ fun items G ρ1 => dLoop G dg body Dd items ρ1
theorem ss_for {ti : TI} {g : TG} {tb : TS} {di : TDi} {dg : DG} {body : TDs} (hi : SI K B W ti di) (hg : SG K B true g dg) (hb : SS K B W tb body) : SS K B W (tFor ti g tb) (dFor di dg body) := fun σ0 H0 ρ0 τ D Dd na w R0 h0 n b c r => by
  refine hi σ0 H0 ρ0 τ _ _ w R0 h0 fun J items G τ1 H1 ρ1 ok na1 R1 h1 => ?_
  have na2 := na1.app na
  have w2 : WL K B (τ1 ++ τ) W := w.app
  refine ⟨fun i m σ H => m = items.length - i ∧ i ≤ items.length ∧ ∃ ρ, Rel K B σ H ρ (τ1 ++ τ) ∧ dLoop G dg body Dd (items.drop i) ρ, ⟨items.length, by simp, Nat.zero_le _, ρ1, R1, h1⟩, ?_⟩
  rintro i m σ H ⟨rfl, hi, ρ, R, h⟩
  by_cases hlt : i < items.length
  · have e : items.drop i = items[i] :: items.drop (i + 1) := List.drop_eq_getElem_cons hlt
    rw [e] at h
    obtain ⟨hG, h⟩ := h
    refine .inr ⟨ok.go i σ H ρ τ hlt R hG, fun σ' H' => ∃ ρ', Rel K B σ' H' ρ' (τ1 ++ τ) ∧ dLoop G dg body Dd (items.drop (i + 1)) ρ', fun σ' H' q => ⟨items.length - (i + 1), by omega, rfl, hlt, q⟩, fun x H' y => ?_⟩
    have R2 := ok.yl i σ H ρ τ x H' items[i] (List.getElem?_eq_getElem hlt) R hG y
    refine hg σ H' ρ (τ1 ++ τ) x _ _ _ (fun _ => na2) R2 h fun σ2 H2 ρ2 R3 h3 => ?_
    exact hb σ2 H2 ρ2 (τ1 ++ τ) _ _ na2 w2 R3 h3 (fun σ' H' ρ' q w => ⟨ρ', q, w⟩) (fun σ' H' ρ' q w => n σ' H' ρ' q.dropL w) (fun σ' H' ρ' q w => ⟨ρ', q, w⟩) (fun v x σ' H' ρ' q w => r v x σ' H' ρ' q.dropM w)
  · have e : i = items.length := by omega
    subst e
    rw [List.drop_length] at h
    exact .inl ⟨ok.stop σ H ρ τ R h.1, n σ H ρ R.dropL h.2⟩
def dWhile (c : TDt) (body : TDs) : TDs := fun Dd ρ => ∃ W : Nat → Env → Prop, (∃ m, W m ρ) ∧ ∀ m ρ, W m ρ → c ρ fun b ρ1 => if b = true then ∃ N : Env → Prop, (∀ ρ', N ρ' → ∃ m', m' < m ∧ W m' ρ') ∧ body { Dd with nx := N, ct := N, bk := Dd.nx } ρ1 else Dd.nx ρ1
theorem ss_while {c : TT} {tb : TS} {dc : TDt} {body : TDs} (hc : ST K B W c dc) (hb : SS K B W tb body) : SS K B W (tWhile c tb) (dWhile dc body) := fun σ0 H0 ρ0 τ D Dd na wl R0 h0 n b c r => by
  obtain ⟨W, ⟨m0, w0⟩, turn⟩ := h0
  refine ⟨fun m σ H => ∃ ρ, Rel K B σ H ρ τ ∧ W m ρ, ⟨m0, ρ0, R0, w0⟩, fun m σ H ⟨ρ, R, w⟩ => ?_⟩
  refine hc σ H ρ τ _ _ wl R (turn m ρ w) fun k H1 ρ1 R1 h1 => ?_
  cases k with
  | true =>
    obtain ⟨N, hN, hbd⟩ := h1
    refine ⟨fun σ' H' => ∃ ρ', Rel K B σ' H' ρ' τ ∧ N ρ', fun σ' H' ⟨ρ', q, w⟩ => ?_, ?_⟩
    · obtain ⟨m', hm, w'⟩ := hN ρ' w
      exact ⟨m', hm, ρ', q, w'⟩
    · exact hb σ H1 ρ1 τ _ _ na wl R1 hbd (fun σ' H' ρ' q w => ⟨ρ', q, w⟩) (fun σ' H' ρ' q w => n σ' H' ρ' q w) (fun σ' H' ρ' q w => ⟨ρ', q, w⟩) r
  | false => exact n σ H1 ρ1 R1 h1
end
end DL
/-! DI -/
set_option Elab.async false
set_option maxRecDepth 100000
set_option maxHeartbeats 4000000
set_option linter.unusedVariables false
namespace DL
open PySem L2 Evl
section
variable {K : PySem.W.Frag} {B : BG} {W : Wp}

/-! ### what is walked -/
/-- a list, a tuple, a text -/
def iSeq (K : PySem.W.Frag) (tl : TE) : TI := fun σ H R => tl σ H fun x H1 => (∃ a xs, x = .ref a ∧ SqL K H1 a xs ∧ R (Itl K a) H1) ∨ (∃ a xs, x = .ref a ∧ SqT K H1 a xs ∧ R (Itt K a) H1) ∨ ∃ z, x = .str z ∧ R (Its z) H1
theorem pi_seq {X : Cx} {tg l : PySem.Expr} {tl : TE} (hl : PE X l tl) : PI X tg l (iSeq X.K tl) := by
  refine ⟨fun pins s σ H R I h => ?_⟩
  refine thn (hl.run pins s σ H _ I h) fun v s1 ⟨x, H1, I1, r1, q1⟩ => ?_
  rcases q1 with ⟨a, xs, e, hq, q⟩ | ⟨a, xs, e, hq, q⟩ | ⟨z, ez, q⟩
  · subst e
    cases r1
    obtain ⟨its, rv, p, hz⟩ := I1.list hq
    refine wpAny_pyIter_list p.isList ?_
    refine ⟨s1.heap.objs.size, [s1.heap.objs.size], _, _, H1, rfl, I1.kept (t' := s1.toks) fun b o e => Heap.get?_push_of_some _ e, turn_list a _, ⟨_, Heap.get?_push_size _ rfl, rfl, rfl⟩, fun b hb => ?_, q⟩
    have e : b = s1.heap.objs.size := by simpa using hb
    subst e
    exact I1.fpOk (Nat.le_refl _) (I1.hok.fresh (Nat.le_refl _))
  · subst e
    cases r1
    obtain ⟨its, rv, p, hz⟩ := I1.tuple hq
    refine wpAny_pyIter_tuple (show s1.heap.IsTuple a its.toArray from p) ?_
    refine ⟨s1.heap.objs.size, [s1.heap.objs.size], _, _, H1, rfl, I1.kept (t' := s1.toks) fun b o e => Heap.get?_push_of_some _ e, turn_tuple a _, ⟨_, Heap.get?_push_size _ rfl, rfl, rfl⟩, fun b hb => ?_, q⟩
    have e : b = s1.heap.objs.size := by simpa using hb
    subst e
    exact I1.fpOk (Nat.le_refl _) (I1.hok.fresh (Nat.le_refl _))
  · subst ez
    obtain ⟨t, rfl⟩ := r1
    cases ha : z.cps.all (· < 128)
    · exact wpAny_pyIter_wide ha (pi_one (tk := s1.toks) I1 _ (turn_str _ z t "str_iterator" (.inr rfl)) ⟨_, Heap.get?_push_size _ rfl, rfl, rfl⟩ q)
    · exact wpAny_pyIter_ascii ha (pi_one (tk := s1.toks) I1 _ (turn_str _ z t "str_ascii_iterator" (.inl rfl)) ⟨_, Heap.get?_push_size _ rfl, rfl, rfl⟩ q)
/-- the items that a walk meets -/
def walkD : D → Option (List D)
  | .lst ds => some ds
  | .tup ds => some ds
  | .rol ds => some ds
  | .str z => some (z.cps.toList.map fun c => .str ⟨#[c]⟩)
  | _ => none
def diSeq (da : TD) : TDi := fun ρ Q => da ρ fun x ρ1 => ∃ d ds, see ρ1 x = some d ∧ walkD d = some ds ∧ Q ds (fun _ => True) (frz ρ1 x)
theorem tm_mem {F H : Hp} {σ : L2.St} {ρ : Env} {τ1 τ : List (V × DV)} {v : V} {d : D} (R : RelF K B F σ H ρ (τ1 ++ τ)) (h : (v, DV.im d) ∈ τ1) : Dv K F d v := R.tm _ (List.mem_append_left _ h)
theorem itOk_list {a : Addr} {ds : List D} : ItOk K B (Itl K a) ds (fun _ => True) [(.ref a, .im (.lst ds))] where
  go := fun i σ H ρ τ hi ⟨F, R⟩ _ => by
    have h := tm_mem R List.mem_cons_self
    simp only [Dv] at h
    obtain ⟨b, vs, e, h2, h3⟩ := h
    cases e
    obtain ⟨v, h4, _⟩ := h3.get (List.getElem?_eq_getElem hi)
    exact ⟨vs, v, sq_of (R.sub _ _ h2), h4⟩
  yl := fun i σ H ρ τ x H' d hd ⟨F, R⟩ _ y => by
    have h := tm_mem R List.mem_cons_self
    simp only [Dv] at h
    obtain ⟨b, vs, e, h2, h3⟩ := h
    cases e
    obtain ⟨v, h4, h5⟩ := h3.get hd
    obtain ⟨rfl, hy⟩ := y
    have e2 := hy vs (sq_of (R.sub _ _ h2))
    rw [h4] at e2
    cases e2
    exact ⟨F, R.pushIm h5⟩
  stop := fun σ H ρ τ ⟨F, R⟩ _ => by
    have h := tm_mem R List.mem_cons_self
    simp only [Dv] at h
    obtain ⟨b, vs, e, h2, h3⟩ := h
    cases e
    exact ⟨vs, sq_of (R.sub _ _ h2), by rw [h3.length]; exact Nat.le_refl _⟩
theorem itOk_rol {a : Addr} {ds : List D} : ItOk K B (Itl K a) ds (fun _ => True) [(.ref a, .im (.rol ds))] where
  go := fun i σ H ρ τ hi ⟨F, R⟩ _ => by
    have h := tm_mem R List.mem_cons_self
    simp only [Dv] at h
    obtain ⟨b, vs, e, h2, h3⟩ := h
    cases e
    obtain ⟨v, h4, _⟩ := h3.get (List.getElem?_eq_getElem hi)
    exact ⟨vs, v, ex_l R.sub h2, h4⟩
  yl := fun i σ H ρ τ x H' d hd ⟨F, R⟩ _ y => by
    have h := tm_mem R List.mem_cons_self
    simp only [Dv] at h
    obtain ⟨b, vs, e, h2, h3⟩ := h
    cases e
    obtain ⟨v, h4, h5⟩ := h3.get hd
    obtain ⟨rfl, hy⟩ := y
    have e2 := hy vs (ex_l R.sub h2)
    rw [h4] at e2
    cases e2
    exact ⟨F, R.pushIm h5⟩
  stop := fun σ H ρ τ ⟨F, R⟩ _ => by
    have h := tm_mem R List.mem_cons_self
    simp only [Dv] at h
    obtain ⟨b, vs, e, h2, h3⟩ := h
    cases e
    exact ⟨vs, ex_l R.sub h2, by rw [h3.length]; exact Nat.le_refl _⟩
theorem itOk_tup {a : Addr} {ds : List D} : ItOk K B (Itt K a) ds (fun _ => True) [(.ref a, .im (.tup ds))] where
  go := fun i σ H ρ τ hi ⟨F, R⟩ _ => by
    have h := tm_mem R List.mem_cons_self
    simp only [Dv] at h
    obtain ⟨b, vs, e, h2, h3⟩ := h
    cases e
    obtain ⟨v, h4, _⟩ := h3.get (List.getElem?_eq_getElem hi)
    exact ⟨vs, v, ex_t R.sub h2, h4⟩
  yl := fun i σ H ρ τ x H' d hd ⟨F, R⟩ _ y => by
    have h := tm_mem R List.mem_cons_self
    simp only [Dv] at h
    obtain ⟨b, vs, e, h2, h3⟩ := h
    cases e
    obtain ⟨v, h4, h5⟩ := h3.get hd
    obtain ⟨rfl, hy⟩ := y
    have e2 := hy vs (ex_t R.sub h2)
    rw [h4] at e2
    cases e2
    exact ⟨F, R.pushIm h5⟩
  stop := fun σ H ρ τ ⟨F, R⟩ _ => by
    have h := tm_mem R List.mem_cons_self
    simp only [Dv] at h
    obtain ⟨b, vs, e, h2, h3⟩ := h
    cases e
    exact ⟨vs, ex_t R.sub h2, by rw [h3.length]; exact Nat.le_refl _⟩
theorem itOk_str {z : Str} : ItOk K B (Its z) (z.cps.toList.map fun c => D.str ⟨#[c]⟩) (fun _ => True) [] where
  go := fun i σ H ρ τ hi R _ => by
    show i < z.cps.size
    simpa using hi
  yl := fun i σ H ρ τ x H' d hd R _ y => by
    obtain ⟨rfl, c, hc, rfl⟩ := y
    have e : d = .str ⟨#[c]⟩ := by
      rw [List.getElem?_map] at hd
      have : z.cps.toList[i]? = some c := by simpa using hc
      rw [this] at hd
      exact (Option.some.inj hd).symm
    subst e
    exact Rel.push R fun F => dv_str
  stop := fun σ H ρ τ R _ => by
    show z.cps.size ≤ _
    simp
theorem NoAl.im1 {v : V} {d : D} : NoAl [(v, DV.im d)] := NoAl.nil.im
theorem si_seq {ta : TE} {da : TD} (ha : SE K B W ta da) : SI K B W (iSeq K ta) (diSeq da) := fun σ H ρ τ R Qi w r h k => by
  refine ha σ H ρ τ _ _ w r h fun v x H1 ρ1 R1 h1 => ?_
  obtain ⟨d, ds, e1, e2, hq⟩ := h1
  obtain ⟨F, R2⟩ := R1.freeze e1
  have t1 : Dv K F d v := R2.tm _ List.mem_cons_self
  cases d with
  | lst es =>
    cases e2
    have t2 := t1
    simp only [Dv] at t2
    obtain ⟨a, vs, rfl, h2, h3⟩ := t2
    exact .inl ⟨a, vs, rfl, sq_of (R2.sub _ _ h2), k _ _ _ _ _ _ itOk_list NoAl.im1 ⟨F, R2⟩ hq⟩
  | rol es =>
    cases e2
    have t2 := t1
    simp only [Dv] at t2
    obtain ⟨a, vs, rfl, h2, h3⟩ := t2
    exact .inl ⟨a, vs, rfl, ex_l R2.sub h2, k _ _ _ _ _ _ itOk_rol NoAl.im1 ⟨F, R2⟩ hq⟩
  | tup es =>
    cases e2
    have t2 := t1
    simp only [Dv] at t2
    obtain ⟨a, vs, rfl, h2, h3⟩ := t2
    exact .inr (.inl ⟨a, vs, rfl, ex_t R2.sub h2, k _ _ _ _ _ _ itOk_tup NoAl.im1 ⟨F, R2⟩ hq⟩)
  | str z =>
    cases e2
    simp only [Dv] at t1
    exact .inr (.inr ⟨z, t1, k _ _ _ _ _ _ itOk_str NoAl.nil ⟨F, R2.pop⟩ hq⟩)
  | _ => cases e2
/-- range -/
def rangeD (lo : Int) (n : Nat) : List D := (List.range n).map fun (i : Nat) => D.int (lo + (i : Int))
theorem itOk_range {lo : Int} {n : Nat} : ItOk K B (Itr lo n) (rangeD lo n) (fun _ => True) [] where
  go := fun i σ H ρ τ hi R _ => by
    show i < n
    simpa [rangeD] using hi
  yl := fun i σ H ρ τ x H' d hd R _ y => by
    obtain ⟨rfl, rfl⟩ := y
    unfold rangeD at hd
    rw [List.getElem?_map] at hd
    cases e : (List.range n)[i]? with
    | none =>
      rw [e] at hd
      cases hd
    | some j =>
      rw [e] at hd
      cases hd
      have hj : i = j := by
        have := List.getElem?_eq_some_iff.mp e
        obtain ⟨h1, h2⟩ := this
        simpa using h2
      subst hj
      exact Rel.push R fun F => dv_int
  stop := fun σ H ρ τ R _ => by
    show n ≤ _
    simp [rangeD]
def diRng1 (da : TDa) : TDi := fun ρ Q => da ρ fun xs ρ1 => ∃ j : Int, looks ρ1 xs = some [.int j] ∧ -(2 ^ 62) ≤ j ∧ j < 2 ^ 62 ∧ Q (rangeD 0 j.toNat) (fun _ => True) ρ1
def diRng2 (da : TDa) : TDi := fun ρ Q => da ρ fun xs ρ1 => ∃ i j : Int, looks ρ1 xs = some [.int i, .int j] ∧ (-(2 ^ 62) ≤ i ∧ i < 2 ^ 62 ∧ -(2 ^ 62) ≤ j ∧ j < 2 ^ 62) ∧ Q (rangeD i (j - i).toNat) (fun _ => True) ρ1
theorem si_rng1 {ta : TA} {da : TDa} (ha : SA K B W ta da) : SI K B W (iRng1 ta) (diRng1 da) := fun σ H ρ τ R Qi w r h k => by
  refine ha σ H ρ τ _ _ w r h fun vs xs H1 ρ1 hl R1 h1 => ?_
  obtain ⟨j, e, q1, q2, hq⟩ := h1
  obtain ⟨F, R2⟩ := R1
  obtain ⟨R3, hv⟩ := vws_of hl R2 e
  obtain ⟨v, rfl, h2⟩ := vws1 hv
  simp only [Vw] at h2
  subst h2
  exact ⟨j, rfl, q1, q2, k _ _ _ _ _ _ itOk_range NoAl.nil ⟨F, R3⟩ hq⟩
theorem si_rng2 {ta : TA} {da : TDa} (ha : SA K B W ta da) : SI K B W (iRng2 ta) (diRng2 da) := fun σ H ρ τ R Qi w r h k => by
  refine ha σ H ρ τ _ _ w r h fun vs xs H1 ρ1 hl R1 h1 => ?_
  obtain ⟨i, j, e, q, hq⟩ := h1
  obtain ⟨F, R2⟩ := R1
  obtain ⟨R3, hv⟩ := vws_of hl R2 e
  obtain ⟨v, u, rfl, h2, h3⟩ := vws2 hv
  simp only [Vw] at h2 h3
  subst h2 h3
  exact ⟨i, j, rfl, q, k _ _ _ _ _ _ itOk_range NoAl.nil ⟨F, R3⟩ hq⟩
/-- enumerate(a list) -/
def enumD (ds : List D) : Nat → List D
  | n => (ds.zipIdx n).map fun p => .tup [.int (p.2 : Int), p.1]
theorem itOk_enum {a : Addr} {ds : List D} : ItOk K B (Ite K a) (enumD ds 0) (fun _ => True) [(.ref a, .im (.lst ds))] where
  go := fun i σ H ρ τ hi ⟨F, R⟩ _ => by
    have h := tm_mem R List.mem_cons_self
    simp only [Dv] at h
    obtain ⟨b, vs, e, h2, h3⟩ := h
    cases e
    obtain ⟨v, h4, _⟩ := h3.get (List.getElem?_eq_getElem (by simpa [enumD] using hi))
    exact ⟨vs, v, sq_of (R.sub _ _ h2), h4⟩
  yl := fun i σ H ρ τ x H' d hd ⟨F, R⟩ _ y => by
    have h := tm_mem R List.mem_cons_self
    simp only [Dv] at h
    obtain ⟨b, vs, e, h2, h3⟩ := h
    cases e
    obtain ⟨T, x0, rfl, hT, rfl, hx⟩ := y
    have e2 := hx vs (sq_of (R.sub _ _ h2))
    have e3 : ∃ d0, ds[i]? = some d0 ∧ d = .tup [.int (i : Int), d0] := by
      unfold enumD at hd
      rw [List.getElem?_map, List.getElem?_zipIdx] at hd
      cases e : ds[i]? with
      | none =>
        rw [e] at hd
        cases hd
      | some d0 =>
        rw [e] at hd
        cases hd
        exact ⟨d0, rfl, by simp⟩
    obtain ⟨d0, h4, rfl⟩ := e3
    obtain ⟨v, h5, h6⟩ := h3.get h4
    rw [h5] at e2
    cases e2
    have fT := frozen_not_new R hT
    refine ⟨_, R.newIm hT ?_⟩
    simp only [Dv]
    refine ⟨T, _, rfl, st_of upd_same, ?_⟩
    simp only [Dvs, Dv]
    exact ⟨_, _, rfl, rfl, _, _, rfl, h6.mono (Ex.new fT), rfl⟩
  stop := fun σ H ρ τ ⟨F, R⟩ _ => by
    have h := tm_mem R List.mem_cons_self
    simp only [Dv] at h
    obtain ⟨b, vs, e, h2, h3⟩ := h
    cases e
    exact ⟨vs, sq_of (R.sub _ _ h2), by rw [← h3.length]; simp [enumD]⟩
def diEnum (da : TDa) : TDi := fun ρ Q => da ρ fun xs ρ1 => ∃ ds ρ2, frzs ρ1 xs = some ([.lst ds], ρ2) ∧ Q (enumD ds 0) (fun _ => True) ρ2
theorem si_enum {ta : TA} {da : TDa} (ha : SA K B W ta da) : SI K B W (iEnum K ta) (diEnum da) := fun σ H ρ τ R Qi w r h k => by
  refine ha σ H ρ τ _ _ w r h fun vs xs H1 ρ1 hl R1 h1 => ?_
  obtain ⟨ds, ρ2, e, hq⟩ := h1
  obtain ⟨F, R2, hd⟩ := R1.freezeAll hl e
  simp only [Dvs] at hd
  obtain ⟨v, r2, rfl, h2, rfl⟩ := hd
  have h3 := h2
  simp only [Dv] at h3
  obtain ⟨a, ws, rfl, h4, h5⟩ := h3
  exact ⟨a, ws, rfl, sq_of (R2.sub _ _ h4), k _ _ _ _ _ _ itOk_enum NoAl.im1 ⟨F, R2.pushIm h2⟩ hq⟩
end
end DL
/-! DJ -/
set_option Elab.async false
set_option maxRecDepth 100000
set_option maxHeartbeats 4000000
set_option linter.unusedVariables false
namespace DL
open PySem L2 Evl

/-! ### slots set together -/
def setE (f : Nat → S) (ρ : Env) : List Nat → Env
  | [] => ρ
  | v :: vs => (setE f ρ vs).set v (f v)
theorem setE_length (f : Nat → S) (ρ : Env) : ∀ vs, (setE f ρ vs).length = ρ.length
  | [] => rfl
  | v :: vs => by simp [setE, setE_length f ρ vs]
theorem setE_in {f : Nat → S} {ρ : Env} {i : Nat} (hi : i < ρ.length) : ∀ {vs : List Nat}, i ∈ vs → (setE f ρ vs)[i]? = some (f i)
  | [], h => by cases h
  | v :: vs, h => by
    by_cases e : i = v
    · subst e
      exact List.getElem?_set_self (by rw [setE_length]; exact hi)
    · rw [setE, List.getElem?_set_ne (Ne.symm e)]
      exact setE_in hi ((List.mem_cons.mp h).resolve_left e)
theorem setE_out {f : Nat → S} {ρ : Env} {i : Nat} : ∀ {vs : List Nat}, i ∉ vs → (setE f ρ vs)[i]? = ρ[i]?
  | [], _ => rfl
  | v :: vs, h => by
    rw [setE, List.getElem?_set_ne (fun (e : v = i) => h (e ▸ List.mem_cons_self))]
    exact setE_out fun q => h (List.mem_cons_of_mem _ q)
def plains (ρ : Env) (vs : List Nat) : Bool := vs.all fun i => match ρ[i]? with
  | some s => plainS s
  | none => false
theorem plains_at {ρ : Env} {vs : List Nat} {i : Nat} (h : plains ρ vs = true) (hi : i ∈ vs) : ∃ s, ρ[i]? = some s ∧ plainS s = true := by
  have := List.all_eq_true.mp h i hi
  cases e : ρ[i]? with
  | none =>
    rw [e] at this
    cases this
  | some s =>
    rw [e] at this
    exact ⟨s, rfl, this⟩
theorem plain_own {s : S} (h : plainS s = true) : ownS s = [] := by
  cases s <;> first | rfl | cases h
theorem setE_map {f : Nat → S} (hf : ∀ i, plainS (f i) = true) {ρ : Env} : ∀ {vs : List Nat}, plains ρ vs = true → (setE f ρ vs).map ownS = ρ.map ownS
  | [], _ => rfl
  | v :: vs, h => by
    have h2 : plains ρ vs = true := by
      unfold plains at h ⊢
      rw [List.all_cons] at h
      exact (Bool.and_eq_true_iff.mp h).2
    obtain ⟨s, e, hp⟩ := plains_at h List.mem_cons_self
    have e2 : ∃ s2, (setE f ρ vs)[v]? = some s2 ∧ plainS s2 = true := by
      by_cases hv : v ∈ vs
      · exact ⟨_, setE_in (List.getElem?_eq_some_iff.mp e).1 hv, hf v⟩
      · rw [setE_out hv]
        exact ⟨s, e, hp⟩
    obtain ⟨s2, e3, hp2⟩ := e2
    rw [setE, map_set_same (s := s2) (by rw [plain_own (hf v), plain_own hp2]) e3]
    exact setE_map hf h2
section
variable {K : PySem.W.Frag} {B : BG} {W : Wp}
theorem RelF.setE {F H : Hp} {σ σ' : L2.St} {ρ : Env} {τ : List (V × DV)} {vs : List Nat} {f : Nat → S} (R : RelF K B F σ H ρ τ) (hp : plains ρ vs = true) (hf : ∀ i, plainS (f i) = true) (hl : σ'.length = σ.length) (ho : ∀ i, i ∉ vs → σ'[i]? = σ[i]?)
    (hi : ∀ i, i ∈ vs → SlotOk K F H (σ'[i]?) (f i)) : RelF K B F σ' H (setE f ρ vs) τ where
  sub := R.sub
  bs := R.bs
  fr := R.fr
  ng := R.ng
  og := fun a ha => R.og a (by
    unfold owns at ha ⊢
    rw [setE_map hf hp] at ha
    exact ha)
  len := by rw [hl, R.len, setE_length]
  sl := fun i s hs => by
    by_cases h : i ∈ vs
    · obtain ⟨s0, e0, _⟩ := plains_at hp h
      rw [setE_in (List.getElem?_eq_some_iff.mp e0).1 h] at hs
      cases hs
      exact hi i h
    · rw [setE_out h] at hs
      rw [ho i h]
      exact R.sl i s hs
  tm := fun ⟨v, x⟩ hq => by
    have t := R.tm _ hq
    cases x with
    | im d => exact t
    | ow a d => exact t
    | al j a =>
      obtain ⟨h1, d, h2⟩ := t
      have hj : j ∉ vs := fun h => by
        obtain ⟨s0, e0, hp0⟩ := plains_at hp h
        rcases h2 with h2 | ⟨h2, _⟩ <;> rw [e0] at h2 <;> cases h2 <;> cases hp0
      refine ⟨h1, d, ?_⟩
      rw [setE_out hj]
      exact h2
  nd := by
    have := R.nd
    unfold owns at this ⊢
    rw [setE_map hf hp]
    exact this
  nf := fun a ha => R.nf a (by
    unfold owns at ha ⊢
    rw [setE_map hf hp] at ha
    exact ha)
/-- the values of slots that are to come back -/
def svT (σ : L2.St) (ρ : Env) : List Nat → List (V × DV)
  | [] => []
  | i :: vs => match σ[i]?, ρ[i]? with
    | some (some v), some (.im d) => (v, .im d) :: svT σ ρ vs
    | _, _ => svT σ ρ vs
theorem svT_mem {σ : L2.St} {ρ : Env} {i : Nat} {v : V} {d : D} (hs : σ[i]? = some (some v)) (hr : ρ[i]? = some (.im d)) : ∀ {vs : List Nat}, i ∈ vs → (v, DV.im d) ∈ svT σ ρ vs
  | [], h => by cases h
  | j :: vs, h => by
    unfold svT
    rcases List.mem_cons.mp h with rfl | h
    · rw [hs, hr]
      exact List.mem_cons_self
    · split
      · exact List.mem_cons_of_mem _ (svT_mem hs hr h)
      · exact svT_mem hs hr h
theorem svT_noAl {σ : L2.St} {ρ : Env} : ∀ {vs : List Nat}, NoAl (svT σ ρ vs)
  | [] => NoAl.nil
  | i :: vs => by
    unfold svT
    split
    · exact svT_noAl.im
    · exact svT_noAl
theorem RelF.save {F H : Hp} {σ : L2.St} {ρ : Env} {τ : List (V × DV)} (R : RelF K B F σ H ρ τ) : ∀ {vs : List Nat}, RelF K B F σ H ρ (svT σ ρ vs ++ τ)
  | [] => R
  | i :: vs => by
    unfold svT
    split
    · rename_i v d e1 e2
      obtain ⟨w, h1, h2⟩ := R.sl i _ e2
      rw [e1] at h1
      cases h1
      exact (RelF.save R).pushIm h2
    · exact RelF.save R
def unS : Nat → S := fun _ => .un
/-- the slots of vs as they were in ρ -/
def rstE (ρ0 ρ : Env) (vs : List Nat) : Env := setE (fun i => match ρ0[i]? with
  | some (.im d) => .im d
  | _ => .un) ρ vs
theorem rst_plain (ρ0 : Env) (i : Nat) : plainS (match ρ0[i]? with
  | some (.im d) => S.im d
  | _ => .un) = true := by
  split <;> rfl
theorem Rel.dropT {σ : L2.St} {H : Hp} {ρ : Env} : ∀ {τ1 τ : List (V × DV)}, Rel K B σ H ρ (τ1 ++ τ) → Rel K B σ H ρ τ := Rel.dropL
theorem RelF.dropT {F : Hp} {σ : L2.St} {H : Hp} {ρ : Env} : ∀ {τ1 τ : List (V × DV)}, RelF K B F σ H ρ (τ1 ++ τ) → RelF K B F σ H ρ τ
  | [], _, R => R
  | (v, x) :: τ1, τ, R => RelF.dropT (τ1 := τ1) (RelF.pop (v := v) (x := x) R)
/-- a new object's content is changed -/
theorem RelF.mutT {F H : Hp} {σ : L2.St} {ρ : Env} {τ : List (V × DV)} {v : V} {a : Addr} {d d' : D} {o : HO} (R : RelF K B F σ H ρ ((v, .ow a d) :: τ)) (hn : Own K F (upd H a o) a d') : RelF K B F σ (upd H a o) ρ ((v, .ow a d') :: τ) := by
  obtain ⟨rfl, hO⟩ := R.tm _ List.mem_cons_self
  have pm : (owns ρ ((V.ref a, DV.ow a d) :: τ)).Perm (a :: owns ρ τ) := owns_cons
  have na : F a = none := R.nf a (pm.mem_iff.mpr List.mem_cons_self)
  have nd := List.nodup_cons.mp (pm.nodup_iff.mp R.nd)
  have ga : B.fr a = none := R.og a (pm.mem_iff.mpr List.mem_cons_self)
  refine RelF.pushOw (R.pop.grow (Ex.refl F) (R.sub.mut na) (fun b hb => ⟨upd_ne fun z => nd.1 (z ▸ hb), R.pop.nf b hb⟩) (R.fr.mut ga) fun b hb => .inl hb) hn na nd.1 ga

/-! ### list comprehensions -/
/-- a target within a comprehension whose own names are vs -/
def SGC (K : PySem.W.Frag) (B : BG) (vs : List Nat) (g : TG) (dg : DG) : Prop := ∀ (σ : L2.St) (H : Hp) (ρ : Env) (τ : List (V × DV)) (v : V) (x : DV) (Q : L2.St → Hp → Prop) (Qd : Env → Prop), Rel K B σ H ρ ((v, x) :: τ) → dg x ρ Qd →
  (∀ σ' H' ρ', σ'.length = σ.length → (∀ i, i ∉ vs → σ'[i]? = σ[i]?) → Rel K B σ' H' ρ' τ → Qd ρ' → Q σ' H') → g v σ H Q
def SGCs (K : PySem.W.Frag) (B : BG) (vs : List Nat) (g : TGs) (dg : DGs) : Prop := ∀ (σ : L2.St) (H : Hp) (ρ : Env) (τ : List (V × DV)) (us : List V) (ds : List D) (Q : L2.St → Hp → Prop) (Qd : Env → Prop), us.length = ds.length → Rel K B σ H ρ (imT us ds ++ τ) → dg ds ρ Qd →
  (∀ σ' H' ρ', σ'.length = σ.length → (∀ i, i ∉ vs → σ'[i]? = σ[i]?) → Rel K B σ' H' ρ' τ → Qd ρ' → Q σ' H') → g us σ H Q
theorem sgc_name {vs : List Nat} {i : Nat} (hi : i ∈ vs) : SGC K B vs (gName i) (dNameC i) := fun σ H ρ τ v x Q Qd R h k => by
  unfold dNameC at h
  split at h
  · rename_i s0 e0
    obtain ⟨hp, d, e1, hq⟩ := h
    obtain ⟨F, R1⟩ := R.freeze e1
    have e2 := frz_ne (x := x) e0 hp
    exact k _ H _ (by simp) (fun j hj => List.getElem?_set_ne fun (z : i = j) => hj (z ▸ hi)) ⟨F, R1.putIm (R1.pop.noAl e2 hp) e2⟩ hq
  · exact h.elim
theorem sgcs_nil {vs : List Nat} : SGCs K B vs gNil dgNil := fun σ H ρ τ us ds Q Qd hl R h k => by
  obtain ⟨rfl, hq⟩ := h
  have e : us = [] := List.length_eq_zero_iff.mp hl
  subst e
  exact ⟨rfl, k σ H ρ rfl (fun _ _ => rfl) R hq⟩
theorem sgcs_cons {vs : List Nat} {g : TG} {u : TGs} {dg : DG} {du : DGs} (hg : SGC K B vs g dg) (hu : SGCs K B vs u du) : SGCs K B vs (gCons g u) (dgCons dg du) := fun σ H ρ τ us ds Q Qd hl R h k => by
  obtain ⟨d, r, rfl, h⟩ := h
  cases us with
  | nil => simp at hl
  | cons v us =>
    refine ⟨v, us, rfl, ?_⟩
    refine hg σ H ρ (imT us r ++ τ) v (.im d) _ _ R h fun σ1 H1 ρ1 hl1 ho1 R1 h1 => ?_
    exact hu σ1 H1 ρ1 τ us r Q Qd (by simpa using hl) R1 h1 fun σ2 H2 ρ2 hl2 ho2 R2 h2 => k σ2 H2 ρ2 (hl2.trans hl1) (fun i hi => (ho2 i hi).trans (ho1 i hi)) R2 h2
theorem sgc_unp {vs : List Nat} {n : Nat} {t : TGs} {g : DGs} (h : SGCs K B vs t g) : SGC K B vs (gUnp K n t) (dUnp n g) := fun σ H ρ τ v x Q Qd R hd k => by
  obtain ⟨d, ds, e1, e2, hn, hg⟩ := hd
  obtain ⟨F, R1⟩ := R.freeze e1
  have t1 : Dv K F d v := R1.tm _ List.mem_cons_self
  cases d with
  | tup es =>
    cases e2
    simp only [Dv] at t1
    obtain ⟨a, vs, rfl, h2, h3⟩ := t1
    exact .inl ⟨a, vs, rfl, ex_t R1.sub h2, by rw [← h3.length, hn], h σ H _ τ vs _ Q Qd h3.length.symm ⟨F, R1.pop.pushIms h3⟩ hg k⟩
  | lst es =>
    cases e2
    simp only [Dv] at t1
    obtain ⟨a, vs, rfl, h2, h3⟩ := t1
    exact .inr ⟨a, vs, rfl, sq_of (R1.sub _ _ h2), by rw [← h3.length, hn], h σ H _ τ vs _ Q Qd h3.length.symm ⟨F, R1.pop.pushIms h3⟩ hg k⟩
  | rol es =>
    cases e2
    simp only [Dv] at t1
    obtain ⟨a, vs, rfl, h2, h3⟩ := t1
    exact .inr ⟨a, vs, rfl, ex_l R1.sub h2, by rw [← h3.length, hn], h σ H _ τ vs _ Q Qd h3.length.symm ⟨F, R1.pop.pushIms h3⟩ hg k⟩
  | _ => cases e2
def dYes : TDt := fun ρ Q => Q true ρ
theorem st_yes : ST K B W tYes dYes := fun σ H ρ τ Q Qd w R h k => k true H ρ R h
/-- the turns: acc what is made so far -/
def dLcL (G : Env → Prop) (dg : DG) (dt : TDt) (de : TD) (vs : List Nat) (Qe : List D → Env → Prop) : List D → List D → Env → Prop
  | [], acc, ρ => G ρ ∧ Qe acc ρ
  | d :: ds, acc, ρ => G ρ ∧ dg (.im d) ρ fun ρ2 => dt ρ2 fun b ρ3 =>
    if b = true then de ρ3 fun x ρ4 => ∃ z, see ρ4 x = some z ∧ acc.length < sizeLine ∧ plains (frz ρ4 x) vs = true ∧ dLcL G dg dt de vs Qe ds (acc ++ [z]) (setE unS (frz ρ4 x) vs)
    else plains ρ3 vs = true ∧ dLcL G dg dt de vs Qe ds acc (setE unS ρ3 vs)
def dLc (di : TDi) (dg : DG) (dt : TDt) (de : TD) (vs : List Nat) : TD := fun ρ Q => di ρ fun items G ρ1 => plains ρ1 vs = true ∧
  dLcL G dg dt de vs (fun acc ρ2 => plains ρ2 vs = true ∧ ∀ p, Q (.ow p (.lst acc)) (rstE ρ1 ρ2 vs)) items [] (setE unS ρ1 vs)
theorem wipe_eq {σ σ' : L2.St} {vs : List Nat} (hl : σ'.length = σ.length) (h : ∀ i, i ∉ vs → σ'[i]? = σ[i]?) : wipe σ' vs = wipe σ vs := by
  apply List.ext_getElem?
  intro i
  by_cases hi : i ∈ vs
  · have key : ∀ {σ : L2.St} {vs : List Nat}, i ∈ vs → i < σ.length → (wipe σ vs)[i]? = some none := by
      intro σ vs
      induction vs with
      | nil => intro h; cases h
      | cons v vs ih =>
        intro h hlt
        by_cases e : i = v
        · subst e
          exact List.getElem?_set_self (by rw [wipe_length]; exact hlt)
        · show ((wipe σ vs).set v none)[i]? = _
          rw [List.getElem?_set_ne (Ne.symm e)]
          exact ih ((List.mem_cons.mp h).resolve_left e) hlt
    by_cases hlt : i < σ.length
    · rw [key hi hlt, key hi (by rw [hl]; exact hlt)]
    · rw [List.getElem?_eq_none (by rw [wipe_length, hl]; omega), List.getElem?_eq_none (by rw [wipe_length]; omega)]
  · rw [wipe_out hi, wipe_out hi, h i hi]
theorem wipe_back {σ : L2.St} {vs : List Nat} {i : Nat} (hi : i ∉ vs) : σ[i]? = (wipe σ vs)[i]? := (wipe_out hi).symm
theorem wipe_wipe {σ : L2.St} {vs : List Nat} : wipe (wipe σ vs) vs = wipe σ vs := wipe_eq (wipe_length σ vs) fun i hi => wipe_out hi
/-- within a comprehension nothing is raised -/
def W0 : Wp := ⟨fun _ _ _ _ => False, fun _ _ _ => False⟩
theorem wl0 {τ : List (V × DV)} : WL K B τ W0 := fun _ _ _ _ _ _ _ _ _ h => h.elim
theorem se_lc {ti : TI} {g : TG} {tt : TT} {te : TE} {vs : List Nat} {di : TDi} {dg : DG} {dt : TDt} {de : TD} (hi : SI K B W ti di) (hg : SGC K B vs g dg) (ht : ST K B W0 tt dt) (he : SE K B W0 te de) : SE K B W (tLc ti g tt te vs) (dLc di dg dt de vs) := fun σ H ρ τ Q Qd w R h k => by
  refine hi σ H ρ τ _ _ w R h fun J items G τ1 H1 ρ1 ok na1 R1 h1 => ?_
  intro D hD
  obtain ⟨hp, h2⟩ := h1
  obtain ⟨F1, R1⟩ := R1
  have start : Rel K B (wipe σ vs) (upd H1 D (.lst [])) (setE unS ρ1 vs) ((.ref D, .ow D (.lst [])) :: (svT σ ρ1 vs ++ (τ1 ++ τ))) := by
    refine ⟨F1, RelF.newOw ?_ hD ⟨[], upd_same, rfl⟩⟩
    exact (RelF.save R1).setE hp (fun _ => rfl) (wipe_length σ vs) (fun i hi => wipe_out hi) fun i hi => trivial
  refine ⟨fun i m H => m = items.length - i ∧ i ≤ items.length ∧ ∃ ρ acc, Rel K B (wipe σ vs) H ρ ((.ref D, .ow D (.lst acc)) :: (svT σ ρ1 vs ++ (τ1 ++ τ))) ∧
    dLcL G dg dt de vs (fun acc ρ2 => plains ρ2 vs = true ∧ ∀ p, Qd (.ow p (.lst acc)) (rstE ρ1 ρ2 vs)) (items.drop i) acc ρ, ⟨items.length, by simp, Nat.zero_le _, _, _, start, h2⟩, ?_⟩
  rintro i m H2 ⟨rfl, hi2, ρ2, acc, R2, h3⟩
  have pm : ∀ {q : V × DV}, ((q :: (svT σ ρ1 vs ++ (τ1 ++ τ))).Perm (τ1 ++ (q :: (svT σ ρ1 vs ++ τ)))) := fun {q} => by
    refine List.Perm.trans (List.Perm.cons q ?_) List.perm_middle.symm
    rw [← List.append_assoc, ← List.append_assoc]
    exact List.Perm.append_right _ List.perm_append_comm
  have R3 := R2.perm (pm (q := (.ref D, .ow D (.lst acc))))
  by_cases hlt : i < items.length
  · have e : items.drop i = items[i] :: items.drop (i + 1) := List.drop_eq_getElem_cons hlt
    rw [e] at h3
    obtain ⟨hG, h3⟩ := h3
    refine .inr ⟨ok.go i _ H2 ρ2 _ hlt R3 hG, fun H' => ∃ ρ' acc', Rel K B (wipe σ vs) H' ρ' ((.ref D, .ow D (.lst acc')) :: (svT σ ρ1 vs ++ (τ1 ++ τ))) ∧
      dLcL G dg dt de vs (fun acc ρ2 => plains ρ2 vs = true ∧ ∀ p, Qd (.ow p (.lst acc)) (rstE ρ1 ρ2 vs)) (items.drop (i + 1)) acc' ρ', fun H' q => ⟨items.length - (i + 1), by omega, rfl, hlt, q⟩, fun x H' y => ?_⟩
    have R4 := ok.yl i _ H2 ρ2 _ x H' items[i] (List.getElem?_eq_getElem hlt) R3 hG y
    have wT : WL K B (τ1 ++ ((V.ref D, DV.ow D (.lst acc)) :: (svT σ ρ1 vs ++ τ))) W0 := wl0
    refine hg _ H' ρ2 _ x _ _ _ R4 h3 fun σ2 H3 ρ3 hl ho R5 h4 => ⟨?_, ?_⟩
    · exact (wipe_eq (by rw [hl]) fun i hi => by rw [ho i hi]).trans wipe_wipe
    · refine ht σ2 H3 ρ3 _ _ _ wT R5 h4 fun b H4 ρ4 R6 h5 => ?_
      have hl2 : (wipe σ vs).length = σ2.length := by rw [hl]
      have ho2 : ∀ i, i ∉ vs → (wipe σ vs)[i]? = σ2[i]? := fun i hi => (ho i hi).symm
      cases b with
      | true =>
        refine he σ2 H4 ρ4 _ _ _ wT R6 h5 fun u x H5 ρ5 R7 h6 => ?_
        obtain ⟨z, e1, hz, hp2, h7⟩ := h6
        obtain ⟨F, R8⟩ := R7.freeze e1
        have R9 := R8.perm (τ' := (V.ref D, DV.ow D (.lst acc)) :: (u, .im z) :: (τ1 ++ (svT σ ρ1 vs ++ τ))) (by
          refine List.Perm.trans (List.Perm.cons _ List.perm_middle) (.swap ..))
        obtain ⟨_, va, ha, hda⟩ := R9.tm _ List.mem_cons_self
        have hzv : Dv K F z u := R8.tm _ List.mem_cons_self
        refine ⟨va, ha, by rw [← hda.length]; exact hz, ?_⟩
        refine ⟨_, acc ++ [z], ⟨F, ?_⟩, h7⟩
        have R10 : RelF K B F σ2 (upd H5 D (.lst (va ++ [u]))) (frz ρ5 x) ((V.ref D, DV.ow D (.lst (acc ++ [z]))) :: (u, .im z) :: (τ1 ++ (svT σ ρ1 vs ++ τ))) := R9.mutT ⟨va ++ [u], upd_same, hda.append (by simp only [Dvs]; exact ⟨u, [], rfl, hzv, rfl⟩)⟩
        have R11 : RelF K B F σ2 (upd H5 D (.lst (va ++ [u]))) (frz ρ5 x) ((V.ref D, DV.ow D (.lst (acc ++ [z]))) :: (svT σ ρ1 vs ++ (τ1 ++ τ))) := by
          refine (RelF.pop (v := u) (x := .im z) (R10.perm (.swap ..))).perm (List.Perm.cons _ ?_)
          rw [← List.append_assoc, ← List.append_assoc]
          exact List.Perm.append_right _ List.perm_append_comm
        exact R11.setE hp2 (fun _ => rfl) hl2 ho2 fun i hi => trivial
      | false =>
        obtain ⟨hp2, h7⟩ := h5
        obtain ⟨F, R7⟩ := R6
        exact ⟨_, acc, ⟨F, (R7.perm pm.symm).setE (f := unS) hp2 (fun _ => rfl) hl2 ho2 fun i hi => trivial⟩, h7⟩
  · have e : i = items.length := by omega
    subst e
    rw [List.drop_length] at h3
    obtain ⟨hG, hp2, hq⟩ := h3
    refine .inl ⟨ok.stop _ H2 ρ2 _ R3 hG, ?_⟩
    obtain ⟨F, R4⟩ := R2
    have R5 : RelF K B F σ H2 (rstE ρ1 ρ2 vs) ((V.ref D, DV.ow D (.lst acc)) :: (svT σ ρ1 vs ++ (τ1 ++ τ))) := by
      refine R4.setE hp2 (rst_plain ρ1) (wipe_length σ vs).symm (fun i hi => (wipe_out hi).symm) fun i hi => ?_
      split
      · rename_i d e1
        obtain ⟨v, h5, _⟩ := R1.sl i _ e1
        exact ⟨v, h5, R4.tm (v, .im d) (List.mem_cons_of_mem _ (List.mem_append_left _ (svT_mem h5 e1 hi)))⟩
      · trivial
    refine k (.ref D) (.ow D (.lst acc)) H2 _ ?_ (hq D)
    have R6 := R5.perm (τ' := (svT σ ρ1 vs ++ τ1) ++ (V.ref D, DV.ow D (.lst acc)) :: τ) (by rw [← List.append_assoc]; exact List.perm_middle.symm)
    exact ⟨F, R6.dropT⟩
end
end DL
/-! DK -/
set_option Elab.async false
set_option maxRecDepth 100000
set_option maxHeartbeats 4000000
set_option linter.unusedVariables false
namespace DL
open PySem L2 Evl

/-! ### dicts -/
def keyD : D → Option Key
  | .int i => some (.inl i)
  | .str x => some (.inr x)
  | _ => none
def getD (es : List (Key × D)) (k : Key) : Option D := (es.find? fun e => decide (e.1 = k)).map (·.2)
def putD (es : List (Key × D)) (k : Key) (d : D) : List (Key × D) :=
  if (es.any fun e => decide (e.1 = k)) = true then es.map (fun e => if e.1 = k then (e.1, d) else e) else es ++ [(k, d)]
def mergeD (es more : List (Key × D)) : List (Key × D) := more.foldl (fun acc e => putD acc e.1 e.2) es
section
variable {K : PySem.W.Frag}
theorem key_v {F : Hp} {d : D} {v : V} {k : Key} (h : Dv K F d v) (e : keyD d = some k) : v = kV k := by
  cases d <;> cases e <;> (simp only [Dv] at h; exact h)
theorem Dkv.length {F : Hp} : ∀ {es : List (Key × D)} {kvs : List (Key × V)}, Dkv K F es kvs → es.length = kvs.length
  | [], _, h => by
    simp only [Dkv] at h
    simp [h]
  | (k, d) :: es, _, h => by
    simp only [Dkv] at h
    obtain ⟨v, r, rfl, _, h3⟩ := h
    simp [Dkv.length h3]
theorem Dkv.get {F : Hp} {k : Key} {d : D} : ∀ {es : List (Key × D)} {kvs : List (Key × V)}, Dkv K F es kvs → getD es k = some d → ∃ v, valV kvs k = some v ∧ Dv K F d v
  | [], _, _, e => by cases e
  | (j, x) :: es, _, h, e => by
    simp only [Dkv] at h
    obtain ⟨v, r, rfl, h2, h3⟩ := h
    unfold getD at e
    rw [List.find?_cons] at e
    by_cases hj : j = k
    · subst hj
      simp only [decide_true, Option.map_some] at e
      cases e
      exact ⟨v, valV_pos rfl, h2⟩
    · simp only [hj, decide_false] at e
      obtain ⟨w, h4, h5⟩ := Dkv.get h3 e
      exact ⟨w, (valV_neg hj).trans h4, h5⟩
theorem Dkv.none {F : Hp} {k : Key} : ∀ {es : List (Key × D)} {kvs : List (Key × V)}, Dkv K F es kvs → getD es k = none → valV kvs k = none
  | [], _, h, _ => by
    simp only [Dkv] at h
    subst h
    rfl
  | (j, x) :: es, _, h, e => by
    simp only [Dkv] at h
    obtain ⟨v, r, rfl, h2, h3⟩ := h
    unfold getD at e
    rw [List.find?_cons] at e
    by_cases hj : j = k
    · subst hj
      simp at e
    · simp only [hj, decide_false] at e
      exact (valV_neg hj).trans (Dkv.none h3 e)
theorem Dkv.any {F : Hp} {k : Key} : ∀ {es : List (Key × D)} {kvs : List (Key × V)}, Dkv K F es kvs → (es.any fun e => decide (e.1 = k)) = (kvs.any fun e => decide (e.1 = k))
  | [], _, h => by
    simp only [Dkv] at h
    subst h
    rfl
  | (j, x) :: es, _, h => by
    simp only [Dkv] at h
    obtain ⟨v, r, rfl, h2, h3⟩ := h
    rw [List.any_cons, List.any_cons, Dkv.any h3]
theorem Dkv.mapPut {F : Hp} {k : Key} {d : D} {v : V} (hd : Dv K F d v) : ∀ {es : List (Key × D)} {kvs : List (Key × V)}, Dkv K F es kvs → Dkv K F (es.map fun e => if e.1 = k then (e.1, d) else e) (kvs.map fun kv => if kv.1 = k then (kv.1, v) else kv)
  | [], _, h => by
    simp only [Dkv] at h
    subst h
    rfl
  | (j, x) :: es, _, h => by
    simp only [Dkv] at h
    obtain ⟨w, r, rfl, h2, h3⟩ := h
    rw [List.map_cons, List.map_cons]
    by_cases hj : j = k
    · subst hj
      simp only [↓reduceIte, Dkv]
      exact ⟨v, _, rfl, hd, Dkv.mapPut hd h3⟩
    · simp only [if_neg hj, Dkv]
      exact ⟨w, _, rfl, h2, Dkv.mapPut hd h3⟩
theorem Dkv.app {F : Hp} {k : Key} {d : D} {v : V} (hd : Dv K F d v) : ∀ {es : List (Key × D)} {kvs : List (Key × V)}, Dkv K F es kvs → Dkv K F (es ++ [(k, d)]) (kvs ++ [(k, v)])
  | [], _, h => by
    simp only [Dkv] at h
    subst h
    show Dkv K F [(k, d)] [(k, v)]
    simp only [Dkv]
    exact ⟨v, [], rfl, hd, rfl⟩
  | (j, x) :: es, _, h => by
    simp only [Dkv] at h
    obtain ⟨w, r, rfl, h2, h3⟩ := h
    show Dkv K F ((j, x) :: (es ++ [(k, d)])) _
    simp only [Dkv]
    exact ⟨w, _, rfl, h2, Dkv.app hd h3⟩
theorem Dkv.put {F : Hp} {k : Key} {d : D} {v : V} {es : List (Key × D)} {kvs : List (Key × V)} (h : Dkv K F es kvs) (hd : Dv K F d v) : Dkv K F (putD es k d) (putK kvs k v) := by
  unfold putD putK
  rw [h.any]
  split
  · exact h.mapPut hd
  · exact h.app hd
theorem Dkv.merge {F : Hp} : ∀ {more : List (Key × D)} {mv : List (Key × V)} {es : List (Key × D)} {kvs : List (Key × V)}, Dkv K F more mv → Dkv K F es kvs → Dkv K F (mergeD es more) (mergeK kvs mv)
  | [], _, _, _, h, g => by
    simp only [Dkv] at h
    subst h
    exact g
  | (j, x) :: more, _, es, kvs, h, g => by
    simp only [Dkv] at h
    obtain ⟨v, r, rfl, h2, h3⟩ := h
    show Dkv K F (mergeD (putD es j x) more) (mergeK (putK kvs j v) r)
    exact Dkv.merge h3 (g.put h2)
end
section
variable {K : PySem.W.Frag} {B : BG} {W : Wp}
/-- what is read at a key -/
def dGet (da db : TD) : TD := fun ρ Q => da ρ fun x ρ1 => db ρ1 fun y ρ2 => ∃ es e k z, see ρ2 x = some (.dct es) ∧ see ρ2 y = some e ∧ keyD e = some k ∧ getD es k = some z ∧ Q (.im z) ρ2
theorem se_get {td ty : TE} {da db : TD} (ha : SE K B W td da) (hb : SE K B W ty db) : SE K B W (tDGet td ty) (dGet da db) := fun σ H ρ τ Q Qd w R h k => by
  refine ha σ H ρ τ _ _ w R h fun v x H1 ρ1 R1 h1 => ?_
  refine hb σ H1 ρ1 _ _ _ w.cons R1 h1 fun u y H2 ρ2 R2 h2 => ?_
  obtain ⟨es, e, kk, z, e1, e2, e3, e4, hq⟩ := h2
  obtain ⟨F, R3⟩ := R2
  obtain ⟨a, kvs, rfl, h4, h5⟩ := see_dct R3 (List.mem_cons_of_mem _ List.mem_cons_self) e1
  obtain ⟨r, h6, h7⟩ := h5.get e4
  have hy := key_v (see_any R3 List.mem_cons_self e2) e3
  subst hy
  exact ⟨a, r, rfl, .inl ⟨kvs, kk, .inl h4, rfl, h6.symm⟩, k r (.im z) H2 ρ2 ⟨F, R3.pop.pop.pushIm h7⟩ hq⟩
/-- slot i's dict is written -/
def dPut (i : Nat) (dk dv : TD) : TDs := fun D ρ => dv ρ fun x ρ1 => ∃ z, see ρ1 x = some z ∧ (∃ a d, (frz ρ1 x)[i]? = some (.ow a d)) ∧ dk (frz ρ1 x) fun y ρ2 => ∃ e k a es, see ρ2 y = some e ∧ keyD e = some k ∧ ρ2[i]? = some (.ow a (.dct es)) ∧ es.length < sizeLine ∧ D.nx (ρ2.set i (.ow a (.dct (putD es k z))))
theorem ss_put {i : Nat} {ty tv : TE} {dk dv : TD} (hk : SE K B W ty dk) (hv : SE K B W tv dv) : SS K B W (sDPut (tVar i) ty tv) (dPut i dk dv) := fun σ H ρ τ D Dd na w R h n b c r => by
  refine hv σ H ρ τ _ _ w R h fun v x H1 ρ1 R1 h1 => ?_
  obtain ⟨z, e1, ⟨a0, d0, e0⟩, h2⟩ := h1
  obtain ⟨F, R2⟩ := R1.freeze e1
  have ha := (R2.sl i _ e0).1
  refine ⟨_, ha, ?_⟩
  have R3 : Rel K B σ H1 (frz ρ1 x) ((V.ref a0, .al i a0) :: (v, .im z) :: τ) := ⟨F, R2.pushAl ⟨rfl, d0, .inl e0⟩⟩
  refine hk σ H1 _ _ _ _ w.cons.cons R3 h2 fun u y H2 ρ2 R4 h3 => ?_
  obtain ⟨e, kk, a, es, e2, e3, e4, hl, hq⟩ := h3
  obtain ⟨F2, R5⟩ := R4
  have hy := key_v (see_any R5 List.mem_cons_self e2) e3
  subst hy
  have hz : Dv K F2 z v := R5.tm (v, .im z) (by simp)
  obtain ⟨hs, kvs, h5, h6⟩ := R5.sl i _ e4
  have hs2 : a0 = a := by
    rw [ha] at hs
    cases hs
    rfl
  subst hs2
  refine ⟨a0, _, rfl, .inl ⟨kvs, kk, h5, rfl, by rw [← h6.length]; exact hl, rfl⟩, ?_⟩
  exact n σ _ _ ⟨F2, (R5.pop.pop.pop).mutS (d' := .dct (putD es kk z)) e4 ⟨_, upd_same, h6.put hz⟩⟩ hq
/-- the pairs of a display -/
def dPairs : List (TD × TD) → TDa
  | [] => fun ρ Q => Q [] ρ
  | (a, b) :: r => fun ρ Q => a ρ fun x ρ1 => b ρ1 fun y ρ2 => dPairs r ρ2 fun xs ρ3 => Q (x :: y :: xs) ρ3
inductive SPs (K : PySem.W.Frag) (B : BG) (W : Wp) : List (TE × TE) → List (TD × TD) → Prop where
  | nil : SPs K B W [] []
  | cons {a b : TE} {r : List (TE × TE)} {da db : TD} {dr : List (TD × TD)} : SE K B W a da → SE K B W b db → SPs K B W r dr → SPs K B W ((a, b) :: r) ((da, db) :: dr)
def flat2 : List (V × V) → List V
  | [] => []
  | (a, b) :: r => a :: b :: flat2 r
theorem sps_run {trs : List (TE × TE)} {ds : List (TD × TD)} (h : SPs K B W trs ds) : ∀ (σ : L2.St) (H : Hp) (ρ : Env) (τ : List (V × DV)) (Q : List (V × V) → Hp → Prop) (Qd : List DV → Env → Prop), WL K B τ W → Rel K B σ H ρ τ → dPairs ds ρ Qd →
    (∀ ps xs H' ρ', (flat2 ps).length = xs.length → Rel K B σ H' ρ' (zipT (flat2 ps) xs τ) → Qd xs ρ' → Q ps H') → tPairs trs σ H Q := by
  induction h with
  | nil => exact fun σ H ρ τ Q Qd w R h k => k [] [] H ρ rfl R h
  | cons ha hb hr ih =>
    intro σ H ρ τ Q Qd w R h k
    refine ha σ H ρ τ _ _ w R h fun v x H1 ρ1 R1 h1 => ?_
    refine hb σ H1 ρ1 _ _ _ w.cons R1 h1 fun u y H2 ρ2 R2 h2 => ?_
    refine ih σ H2 ρ2 _ _ _ w.cons.cons R2 h2 fun ps xs H3 ρ3 hl R3 h3 => ?_
    exact k ((v, u) :: ps) (x :: y :: xs) H3 ρ3 (by simp [flat2, hl]) R3 h3
/-- the pairs as a dict's -/
def pairD : List D → Option (List (Key × D))
  | [] => some []
  | k :: d :: r => match keyD k, pairD r with
    | some k, some es => some ((k, d) :: es)
    | _, _ => none
  | _ => none
def dDisp (ds : List (TD × TD)) : TD := fun ρ Q => dPairs ds ρ fun xs ρ1 => ∃ zs ρ2 es, frzs ρ1 xs = some (zs, ρ2) ∧ pairD zs = some es ∧ es.length ≤ 15 ∧ ∀ p, Q (.ow p (.dct (mergeD [] es))) ρ2
theorem pair_of {F : Hp} : ∀ {ps : List (V × V)} {zs : List D} {es : List (Key × D)}, Dvs K F zs (flat2 ps) → pairD zs = some es → ∃ kvs : List (Key × V), ps = kvs.map (fun kv => (kV kv.1, kv.2)) ∧ Dkv K F es kvs
  | [], zs, es, h, e => by
    have hz : zs = [] := List.length_eq_zero_iff.mp (by rw [h.length]; rfl)
    subst hz
    cases e
    exact ⟨[], rfl, rfl⟩
  | (a, b) :: ps, [], es, h, e => by simp [Dvs, flat2] at h
  | (a, b) :: ps, [_], es, h, e => by cases e
  | (a, b) :: ps, k :: d :: zs, es, h, e => by
    simp only [Dvs, flat2] at h
    obtain ⟨v, r, e1, h1, u, r2, e2, h2, h3⟩ := h
    cases e1
    cases e2
    simp only [pairD] at e
    split at e
    · rename_i kk es' e3 e4
      cases e
      obtain ⟨kvs, h5, h6⟩ := pair_of h3 e4
      refine ⟨(kk, b) :: kvs, ?_, ?_⟩
      · rw [List.map_cons, h5, key_v h1 e3]
      · simp only [Dkv]
        exact ⟨b, kvs, rfl, h2, h6⟩
    · cases e
theorem se_disp {trs : List (TE × TE)} {ds : List (TD × TD)} (h : SPs K B W trs ds) : SE K B W (tDisp trs) (dDisp ds) := fun σ H ρ τ Q Qd w R hd k => by
  intro p hp
  obtain ⟨F, R⟩ := R
  have R1 : Rel K B σ (upd H p (.dK [])) ρ ((.ref p, .ow p (.dct [])) :: τ) := ⟨F, R.newOw hp ⟨[], upd_same, rfl⟩⟩
  refine sps_run h σ _ ρ _ _ _ w.cons R1 hd fun ps xs H1 ρ1 hl R2 h1 => ?_
  obtain ⟨zs, ρ2, es, e1, e2, hz, hq⟩ := h1
  obtain ⟨F2, R3, hd3⟩ := R2.freezeAll hl e1
  obtain ⟨_, kv0, h4, h5⟩ := R3.tm _ List.mem_cons_self
  have hk0 : kv0 = [] := h5
  subst hk0
  obtain ⟨kvs, h6, h7⟩ := pair_of hd3 e2
  refine ⟨h4, kvs, h6, by rw [← h7.length]; exact hz, ?_⟩
  exact k _ (.ow p (.dct (mergeD [] es))) _ ρ2 ⟨F2, R3.mutT ⟨_, upd_same, h7.merge rfl⟩⟩ (hq p)

/-! ### + of anything -/
def fAdd : F2 := fun d e k => match d, e with
  | .int i, .int j => k (.im (.int (i + j)))
  | .str i, .str j => i.length + j.length ≤ sizeLine ∧ k (.im (.str (i ++ j)))
  | .lst a, .lst b => a.length + b.length ≤ sizeLine ∧ ∀ p, k (.ow p (.lst (a ++ b)))
  | .tup a, .tup b => a.length + b.length ≤ sizeLine ∧ k (.im (.tup (a ++ b)))
  | _, _ => False
def rStrCat : R2 := fun x y H Q => ∃ i j, x = .str i ∧ y = .str j ∧ i.length + j.length ≤ sizeLine ∧ Q (.str (i ++ j)) H
def rAdd4 (K : PySem.W.Frag) : R2 := fun x y H Q => (rI0 fun i j => .int (i + j)) x y H Q ∨ (rStrCat x y H Q ∨ (rCat x y H Q ∨ rCatA K x y H Q))
theorem op_add4 {X : Cx} : OpR X (binaryOp .Add) (rAdd4 X.K) := op_add.or (OpR.or op_add_str (op_cat.or op_catA))
theorem ok_add4 : Ok2 K (rAdd4 K) fAdd := fun F H v w d e k Q s hv hw h g => by
  cases d <;> cases e <;> first | exact (show False from h).elim | skip
  · simp only [Vw] at hv hw
    exact .inl ⟨_, _, hv, hw, g.im _ _ dv_int h⟩
  · simp only [Vw] at hv hw
    exact .inr (.inl ⟨_, _, hv, hw, h.1, g.im _ _ dv_str h.2⟩)
  · obtain ⟨a, xs, rfl, h1, h2⟩ := hv
    obtain ⟨b, ys, rfl, h3, h4⟩ := hw
    rename_i as bs
    have h : as.length + bs.length ≤ sizeLine ∧ k (.im (.tup (as ++ bs))) := h
    refine .inr (.inr (.inr ⟨a, b, xs, ys, rfl, rfl, ex_t s h1, ex_t s h3, by rw [← h2.length, ← h4.length]; exact h.1, fun e => ?_, fun _ e => ?_, fun _ _ p hp => ?_⟩))
    · subst e
      have e2 := h2.length
      have e3 := List.length_eq_zero_iff.mp e2
      rw [e3, List.nil_append] at h
      exact g.im _ _ (by simp only [Dv]; exact ⟨b, ys, rfl, h3, h4⟩) h.2
    · subst e
      have e2 := h4.length
      have e3 := List.length_eq_zero_iff.mp e2
      rw [e3, List.append_nil] at h
      exact g.im _ _ (by simp only [Dv]; exact ⟨a, xs, rfl, h1, h2⟩) h.2
    · refine g.new _ p _ hp ?_ h.2
      simp only [Dv]
      exact ⟨p, _, rfl, st_of upd_same, (h2.append h4).mono (Ex.new (fresh_back s hp))⟩
  · obtain ⟨a, xs, rfl, h1, h2⟩ := hv
    obtain ⟨b, ys, rfl, h3, h4⟩ := hw
    rename_i as bs
    have h : as.length + bs.length ≤ sizeLine ∧ ∀ p, k (.ow p (.lst (as ++ bs))) := h
    refine .inr (.inr (.inl ⟨a, b, xs, ys, rfl, rfl, h1, h3, by rw [← h2.length, ← h4.length]; exact h.1, fun p hp => ?_⟩))
    exact g.own (.lst (as ++ bs)) p _ hp ⟨_, upd_same, h2.append h4⟩ (h.2 p)

/-! ### slices -/
abbrev TDo := Env → (Option Int → Env → Prop) → Prop
def SO (K : PySem.W.Frag) (B : BG) (W : Wp) (t : TO) (dt : TDo) : Prop := ∀ (σ : L2.St) (H : Hp) (ρ : Env) (τ : List (V × DV)) (Q : Option Int → Hp → Prop) (Qd : Option Int → Env → Prop), WL K B τ W → Rel K B σ H ρ τ → dt ρ Qd →
  (∀ i H' ρ', Rel K B σ H' ρ' τ → Qd i ρ' → Q i H') → t σ H Q
def dNoPart : TDo := fun ρ Q => Q none ρ
def dPart (da : TD) : TDo := fun ρ Q => da ρ fun x ρ1 => ∃ i, see ρ1 x = some (.int i) ∧ Q (some i) ρ1
theorem so_none : SO K B W tNoPart dNoPart := fun σ H ρ τ Q Qd w R h k => k none H ρ R h
theorem so_some {ta : TE} {da : TD} (ha : SE K B W ta da) : SO K B W (tPart ta) (dPart da) := fun σ H ρ τ Q Qd w R h k => by
  refine ha σ H ρ τ _ _ w R h fun v x H1 ρ1 R1 h1 => ?_
  obtain ⟨i, e, hq⟩ := h1
  obtain ⟨F, R2⟩ := R1
  exact ⟨i, see_int R2 List.mem_cons_self e, k _ H1 ρ1 ⟨F, R2.pop⟩ hq⟩
def cutD (xs : List D) (lo hi : Option Int) : List D := (xs.drop (HT.sIx xs.length 0 lo)).take (HT.sIx xs.length xs.length hi - HT.sIx xs.length 0 lo)
def fSl (d : D) (lo hi : Option Int) (k : DV → Prop) : Prop := match d with
  | .lst ds => ∀ p, k (.ow p (.lst (cutD ds lo hi)))
  | .tup ds => k (.im (.tup (cutD ds lo hi)))
  | .str z => z.length ≤ sizeLine ∧ k (.im (.str (cutS z lo hi)))
  | _ => False
def rSl3 (K : PySem.W.Frag) : V → Option Int → Option Int → Hp → VK → Prop := fun x lo hi H Q => rSlL K x lo hi H Q ∨ (rSlA K x lo hi H Q ∨ rSlS x lo hi H Q)
theorem sl_3 {X : Cx} : SlR X (rSl3 X.K) := sl_list.or (sl_tupA.or sl_str)
def dSl (da : TD) (dl du : TDo) : TD := fun ρ Q => da ρ fun x ρ1 => dl ρ1 fun lo ρ2 => du ρ2 fun hi ρ3 => ∃ d, see ρ3 x = some d ∧ fSl d lo hi fun z => Q z ρ3
theorem cut_dvs {F : Hp} {ds : List D} {vs : List V} (h : Dvs K F ds vs) (lo hi : Option Int) : Dvs K F (cutD ds lo hi) (cutV vs lo hi) := by
  unfold cutD cutV
  rw [h.length]
  exact (h.drop _).take _
theorem se_sl {te : TE} {tl th : TO} {da : TD} {dl du : TDo} (ha : SE K B W te da) (hl : SO K B W tl dl) (hh : SO K B W th du) : SE K B W (tSl (rSl3 K) te tl th) (dSl da dl du) := fun σ H ρ τ Q Qd w R h k => by
  refine ha σ H ρ τ _ _ w R h fun v x H1 ρ1 R1 h1 => ?_
  refine hl σ H1 ρ1 _ _ _ w.cons R1 h1 fun lo H2 ρ2 R2 h2 => ?_
  refine hh σ H2 ρ2 _ _ _ w.cons R2 h2 fun hi H3 ρ3 R3 h3 => ?_
  obtain ⟨d, e, hf⟩ := h3
  obtain ⟨F, R4⟩ := R3
  have g := give_of R4.pop k
  have hv := see_vw R4 List.mem_cons_self e
  cases d with
  | lst ds =>
    obtain ⟨a, xs, rfl, h1, h2⟩ := hv
    exact .inl ⟨a, xs, rfl, sq_of h1, fun p hp => g.own (.lst (cutD ds lo hi)) p _ hp ⟨_, upd_same, cut_dvs h2 lo hi⟩ (hf p)⟩
  | tup ds =>
    obtain ⟨a, xs, rfl, h1, h2⟩ := hv
    refine .inr (.inl ⟨a, xs, rfl, ex_t R4.sub h1, fun hw => ?_, fun _ p hp => ?_⟩)
    · have ec : cutD ds lo hi = ds := by
        unfold cutD
        rw [h2.length, hw.1, hw.2, ← h2.length]
        simp
      have hf2 : Qd (.im (.tup (cutD ds lo hi))) ρ3 := hf
      rw [ec] at hf2
      exact g.im _ _ (by simp only [Dv]; exact ⟨a, xs, rfl, h1, h2⟩) hf2
    · refine g.new _ p _ hp ?_ hf
      simp only [Dv]
      exact ⟨p, _, rfl, st_of upd_same, (cut_dvs h2 lo hi).mono (Ex.new (fresh_back R4.sub hp))⟩
  | str z =>
    simp only [Vw] at hv
    exact .inr (.inr ⟨z, hv, hf.1, g.im _ _ dv_str hf.2⟩)
  | _ => exact hf.elim

/-! ### methods that change slot i's object -/
abbrev FM := D → List D → (D → D → Prop) → Prop
def OkMut (K : PySem.W.Frag) (T : String) (r : V → List V → Hp → VK → Prop) (f : FM) : Prop := ∀ (F H : Hp) (a : Addr) (d : D) (vs : List V) (ds : List D) (k : D → D → Prop) (Q : VK), Ex F H → F a = none → Own K F H a d → Dvs K F ds vs → f d ds k →
  (∀ (z d' : D) (o : HO) (u : V), Dv K F z u → Own K F (upd H a o) a d' → k z d' → Q u (upd H a o)) → r (.ref a) vs H Q
/-- the object's kind -/
def isT : String → D → Bool
  | "list", .lst _ => true
  | "dict", .dct _ => true
  | _, _ => false
def dMut (T : String) (i : Nat) (f : FM) (da : TDa) : TD := fun ρ Q => (∃ a d, ρ[i]? = some (.ow a d) ∧ isT T d = true) ∧ da ρ fun xs ρ1 => ∃ ds ρ2 a d, frzs ρ1 xs = some (ds, ρ2) ∧ ρ2[i]? = some (.ow a d) ∧ f d ds fun z d' => Q (.im z) (ρ2.set i (.ow a d'))
theorem own_ty {F H : Hp} {T : String} {a : Addr} {d : D} (h : Own K F H a d) (e : isT T d = true) : tyV K T (.ref a) H := by
  unfold isT at e
  split at e
  · obtain ⟨vs, h1, _⟩ := h
    exact .inl ⟨rfl, vs, sq_of h1⟩
  · obtain ⟨kvs, h1, _⟩ := h
    exact .inr (.inr (.inl ⟨rfl, .inl ⟨kvs, h1⟩⟩))
  · cases e
theorem se_mut {T : String} {i : Nat} {r : V → List V → Hp → VK → Prop} {f : FM} {ta : TA} {da : TDa} (hr : OkMut K T r f) (ha : SA K B W ta da) : SE K B W (tBM K T r (tVar i) ta) (dMut T i f da) := fun σ H ρ τ Q Qd w R h k => by
  obtain ⟨⟨a0, d0, e0, hT⟩, h⟩ := h
  obtain ⟨F0, R0⟩ := R
  obtain ⟨hs0, hO0⟩ := R0.sl i _ e0
  refine ⟨_, hs0, own_ty hO0 hT, ?_⟩
  have R1 : Rel K B σ H ρ ((V.ref a0, .al i a0) :: τ) := ⟨F0, R0.pushAl ⟨rfl, d0, .inl e0⟩⟩
  refine ha σ H ρ _ _ _ w.cons R1 h fun vs xs H1 ρ1 hl R2 h1 => ?_
  obtain ⟨ds, ρ2, a, d, e1, e2, hf⟩ := h1
  obtain ⟨F, R3, hd⟩ := R2.freezeAll hl e1
  obtain ⟨hs, hO⟩ := R3.sl i _ e2
  have ea : a0 = a := by
    rw [hs0] at hs
    cases hs
    rfl
  subst ea
  have na : F a0 = none := R3.nf a0 (List.mem_append_left _ (List.mem_flatten.mpr ⟨[a0], List.mem_map.mpr ⟨_, List.mem_of_getElem? e2, rfl⟩, by simp⟩))
  refine hr F H1 a0 d vs ds _ _ R3.sub na hO hd hf fun z d' o u hz hO' hq => ?_
  exact k u (.im z) _ _ ⟨F, (R3.pop.mutS e2 hO').pushIm hz⟩ hq
def fAppend : FM := fun d ds k => ∃ xs z, d = .lst xs ∧ ds = [z] ∧ xs.length < sizeLine ∧ k .non (.lst (xs ++ [z]))
theorem ok_append : OkMut K "list" rAppend fAppend := fun F H a d vs ds k Q s na hO hd h g => by
  obtain ⟨xs, z, rfl, rfl, hz, hk⟩ := h
  obtain ⟨ws, h1, h2⟩ := hO
  simp only [Dvs] at hd
  obtain ⟨v, r, rfl, h3, rfl⟩ := hd
  exact ⟨a, ws, v, rfl, rfl, h1, by rw [← h2.length]; exact hz, g .non (.lst (xs ++ [z])) _ _ dv_non ⟨_, upd_same, h2.append (by simp only [Dvs]; exact ⟨v, [], rfl, h3, rfl⟩)⟩ hk⟩
def fPopAt : FM := fun d ds k => ∃ xs i j z, d = .lst xs ∧ ds = [.int i] ∧ -(2 ^ 63) ≤ i ∧ i < 2 ^ 63 ∧ seqIndex? i xs.length = some j ∧ xs[j]? = some z ∧ k z (.lst (xs.eraseIdx j))
theorem ok_popAt : OkMut K "list" rPopAt fPopAt := fun F H a d vs ds k Q s na hO hd h g => by
  obtain ⟨xs, i, j, z, rfl, rfl, h5, h6, h7, h8, hk⟩ := h
  obtain ⟨ws, h1, h2⟩ := hO
  simp only [Dvs, Dv] at hd
  obtain ⟨v, r, rfl, rfl, rfl⟩ := hd
  obtain ⟨y, h9, h10⟩ := h2.get h8
  exact ⟨a, ws, i, j, y, rfl, rfl, h1, h5, h6, by rw [← h2.length]; exact h7, h9, g z (.lst (xs.eraseIdx j)) _ _ h10 ⟨_, upd_same, h2.erase j⟩ hk⟩
end
end DL
/-! DM -/
set_option Elab.async false
set_option maxRecDepth 100000
set_option maxHeartbeats 4000000
set_option linter.unusedVariables false
namespace DL
open PySem L2 Evl

/-! ### what a def promises, in data -/
inductive RV where
  | im (d : D) | ow (d : D)
/-- the changed first argument (if any), the further arguments; result and changed argument; exception -/
abbrev TF := Option D → List D → (RV → Option D → Prop) → (Addr → List (Str × D) → Option D → Prop) → Prop
/-- how the heaps go on: ios may be changed -/
structure Fr (F H : Hp) (ios : List Addr) (F1 H1 : Hp) : Prop where
  ex : Ex F F1
  sub : Ex F1 H1
  kp : ∀ b o, H b = some o → b ∉ ios → H1 b = some o
  nw : ∀ b, F1 b ≠ none → F b ≠ none ∨ H b = none
def ioA : Option (Addr × D) → List Addr
  | none => []
  | some (a, _) => [a]
def ArgsOk (K : PySem.W.Frag) (F H : Hp) : Option (Addr × D) → List D → List V → Prop
  | none, ds, vs => Dvs K F ds vs
  | some (a, d), ds, vs => F a = none ∧ Own K F H a d ∧ ∃ r, vs = .ref a :: r ∧ Dvs K F ds r
def IoOk (K : PySem.W.Frag) (F1 H1 : Hp) : Option (Addr × D) → Option D → Prop
  | none, _ => True
  | some (a, _), some d' => Own K F1 H1 a d'
  | some _, none => False
def RvOk (K : PySem.W.Frag) (H F1 H1 : Hp) : RV → V → Prop
  | .im d, v => Dv K F1 d v
  | .ow d, v => ∃ a, v = .ref a ∧ Own K F1 H1 a d ∧ H a = none ∧ F1 a = none
def SpD (K : PySem.W.Frag) (f : TF) : Sp := fun vs H Q E => ∃ F io ds k kx, Ex F H ∧ ArgsOk K F H io ds vs ∧ f (io.map (·.2)) ds k kx ∧
  (∀ r o, k r o → ∀ F1 H1 v, Fr F H (ioA io) F1 H1 → IoOk K F1 H1 io o → RvOk K H F1 H1 r v → Q v H1) ∧
  (∀ C fs o, kx C fs o → ∀ F1 H1 dd, Fr F H (ioA io) F1 H1 → IoOk K F1 H1 io o → Dv K F1 (.xdc fs) (.ref dd) → E (.ref C) (some dd) H1)

/-! ### a def's body -/
def startE (a : Addr) (o : Option D) (ds : List D) (n : Nat) : Env := (match o with
  | some d => [.ow a d]
  | none => []) ++ ds.map .im ++ List.replicate (n - ds.length - (match o with
  | some _ => 1
  | none => 0)) .un
def ioAt (a : Addr) (o : Option D) (ρ : Env) : Option (Option D) := match o with
  | none => some none
  | some _ => match (ρ[0]? : Option S) with
    | some (.ow b d') => if b = a then some (some d') else none
    | _ => none
def rvD (o : Option D) (ρ : Env) : DV → Option RV
  | .im d => some (.im d)
  | .ow _ d => some (.ow d)
  | .al i _ => match (ρ[i]? : Option S) with
    | some (.ow _ d) => if o.isSome = true ∧ i = 0 then none else some (.ow d)
    | some (.fz _ d) => some (.im d)
    | _ => none
def bodyF (n : Nat) (db : DX → TDs) : TF := fun o ds k kx => ds.length + (match o with
  | some _ => 1
  | none => 0) ≤ n ∧ ∀ a, db (fun C fs ρ => ∃ o', ioAt a o ρ = some o' ∧ kx C fs o')
  { nx := fun ρ => ∃ o', ioAt a o ρ = some o' ∧ k (.im .non) o'
    rt := fun x ρ => ∃ o' r, ioAt a o ρ = some o' ∧ rvD o ρ x = some r ∧ k r o' } (startE a o ds n)

section
variable {K : PySem.W.Frag}
theorem ims_own {ds : List D} : ((ds.map S.im).map ownS).flatten = [] := by
  induction ds with
  | nil => rfl
  | cons d r ih => simp [ownS]
theorem uns_own {n : Nat} : (((List.replicate n S.un)).map ownS).flatten = [] := by
  induction n with
  | zero => rfl
  | succ n ih => simp [List.replicate_succ, ownS]
/-- the frame at a def's start -/
def frameOf (H : Hp) (ios : List Addr) : Hp := fun b => if b ∈ ios then none else H b
theorem frame_none {H : Hp} {ios : List Addr} {b : Addr} (h : frameOf H ios b = none) : b ∈ ios ∨ H b = none := by
  unfold frameOf at h
  split at h
  · exact .inl (by assumption)
  · exact .inr h
theorem frame_some {H : Hp} {ios : List Addr} {b : Addr} {o : HO} (h : H b = some o) (n : b ∉ ios) : frameOf H ios b = some o := by
  unfold frameOf
  rw [if_neg n]
  exact h
theorem slots_im {F H : Hp} {ds : List D} {vs : List V} (h : Dvs K F ds vs) {n i : Nat} {s : S} (hs : (ds.map S.im ++ List.replicate n .un)[i]? = some s) : SlotOk K F H ((vs.map some ++ List.replicate n none)[i]?) s := by
  by_cases hi : i < ds.length
  · rw [List.getElem?_append_left (by simpa using hi), List.getElem?_map, List.getElem?_eq_getElem hi] at hs
    cases hs
    obtain ⟨v, h1, h2⟩ := h.get (List.getElem?_eq_getElem hi)
    refine ⟨v, ?_, h2⟩
    rw [List.getElem?_append_left (by rw [List.length_map, ← h.length]; exact hi), List.getElem?_map, h1]
    rfl
  · rw [List.getElem?_append_right (by simpa using hi), List.getElem?_replicate] at hs
    split at hs
    · cases hs
      trivial
    · cases hs
theorem frame_is {H : Hp} {ios : List Addr} {b : Addr} {o : HO} (h : frameOf H ios b = some o) : H b = some o := by
  unfold frameOf at h
  split at h
  · cases h
  · exact h
theorem frame_in {H : Hp} {ios : List Addr} {b : Addr} (h : b ∈ ios) : frameOf H ios b = none := if_pos h
theorem start_rel {F H : Hp} {io : Option (Addr × D)} {ds : List D} {vs : List V} {N : List Str} (s : Ex F H) (h : ArgsOk K F H io ds vs) (hn : vs.length ≤ N.length) : ∀ a, (∀ p ∈ io, p.1 = a) →
    RelF K ⟨F, frameOf H (ioA io)⟩ F (L2.start N vs) H (startE a (io.map (·.2)) ds N.length) [] := by
  intro a ha
  cases io with
  | none =>
    have hl := Dvs.length h
    have eo : owns (startE a none ds N.length) [] = [] := by
      unfold owns startE
      rw [List.nil_append, List.map_append, List.flatten_append, ims_own, uns_own]
      rfl
    refine ⟨s, Ex.refl F, fun b o e => ?_, fun b hb => .inl hb, fun b hb => ?_, ?_, fun i t ht => ?_, (fun p hp => nomatch hp), ?_, fun b hb => ?_⟩
    · exact frame_is (ios := ioA none) e
    · change b ∈ owns (startE a none ds N.length) [] at hb
      rw [eo] at hb
      cases hb
    · simp [L2.start, startE, hl]
    · have e2 : L2.start N vs = vs.map some ++ List.replicate (N.length - ds.length - 0) none := by
        unfold L2.start
        rw [hl]
        rfl
      rw [e2]
      exact slots_im h ht
    · change (owns (startE a none ds N.length) []).Nodup
      rw [eo]
      exact List.nodup_nil
    · change b ∈ owns (startE a none ds N.length) [] at hb
      rw [eo] at hb
      cases hb
  | some p =>
    obtain ⟨b, d⟩ := p
    obtain rfl : b = a := ha (b, d) rfl
    obtain ⟨na, hO, r, rfl, hd⟩ := h
    have hl := Dvs.length hd
    have eo : owns (startE b (some d) ds N.length) [] = [b] := by
      unfold owns startE
      rw [List.map_append, List.flatten_append, List.map_append, List.flatten_append, ims_own, uns_own]
      rfl
    refine ⟨s, Ex.refl F, fun c o e => ?_, fun c hc => .inl hc, fun c hc => ?_, ?_, fun i t ht => ?_, (fun p hp => nomatch hp), ?_, fun c hc => ?_⟩
    · exact frame_is (ios := ioA (some (b, d))) e
    · change c ∈ owns (startE b (some d) ds N.length) [] at hc
      rw [eo] at hc
      exact (frame_in (H := H) hc)
    · simp [L2.start, startE, hl] at hn ⊢
      omega
    · have e2 : L2.start N (V.ref b :: r) = some (V.ref b) :: (r.map some ++ List.replicate (N.length - ds.length - 1) none) := by
        unfold L2.start
        rw [hl]
        simp [Nat.sub_sub]
      rw [e2]
      cases i with
      | zero =>
        cases ht
        exact ⟨rfl, hO⟩
      | succ i => exact slots_im hd ht
    · change (owns (startE b (some d) ds N.length) []).Nodup
      rw [eo]
      exact List.nodup_cons.mpr ⟨List.not_mem_nil, List.nodup_nil⟩
    · change c ∈ owns (startE b (some d) ds N.length) [] at hc
      rw [eo] at hc
      have : c = b := by simpa using hc
      subst this
      exact na
theorem fr_of {F H F1 H1 : Hp} {io : Option (Addr × D)} {σ : L2.St} {ρ : Env} {τ : List (V × DV)} {a : Addr} {o' : Option D} (ha : ∀ p ∈ io, p.1 = a) (R : RelF K ⟨F, frameOf H (ioA io)⟩ F1 σ H1 ρ τ) (e : ioAt a (io.map (·.2)) ρ = some o') :
    Fr F H (ioA io) F1 H1 ∧ IoOk K F1 H1 io o' ∧ (∀ b ∈ owns ρ τ, b ∉ ioA io → H b = none) := by
  have own_io : ∀ b ∈ ioA io, b ∈ owns ρ τ := by
    intro b hb
    cases io with
    | none => cases hb
    | some p =>
      obtain ⟨c, d⟩ := p
      obtain rfl : c = a := ha (c, d) rfl
      have hb' : b = c := by simpa [ioA] using hb
      subst hb'
      simp only [ioAt, Option.map_some] at e
      split at e
      · rename_i c2 d2 e2
        split at e
        · rename_i hc
          subst hc
          exact List.mem_append_left _ (List.mem_flatten.mpr ⟨_, List.mem_map.mpr ⟨_, List.mem_of_getElem? e2, rfl⟩, by simp [ownS]⟩)
        · cases e
      · cases e
  refine ⟨⟨R.bs, R.sub, fun b o hb hn => R.fr b o (frame_some hb hn), fun b hb => ?_⟩, ?_, fun b hb hn => ?_⟩
  · rcases R.ng b hb with h | h
    · exact .inl h
    · rcases frame_none h with h | h
      · exact absurd (R.nf b (own_io b h)) hb
      · exact .inr h
  · cases io with
    | none => trivial
    | some p =>
      obtain ⟨c, d⟩ := p
      obtain rfl : c = a := ha (c, d) rfl
      simp only [ioAt, Option.map_some] at e
      split at e
      · rename_i c2 d2 e2
        split at e
        · rename_i hc
          subst hc
          cases e
          exact (R.sl 0 _ e2).2
        · cases e
      · cases e
  · rcases frame_none (R.og b hb) with h | h
    · exact absurd h hn
    · exact h
theorem body_ok {N : List Str} {vs : List V} {H : Hp} {Q : VK} {E : XK} {db : DX → TDs} (h : SpD K (bodyF N.length db) vs H Q E) :
    ∃ B wd, ∀ t : TS, SS K B ⟨fun cls d _ H => E cls d H, wd⟩ t (db wd) → t { nx := fun _ H' => Q .non H', rt := Q } (L2.start N vs) H := by
  obtain ⟨F, io, ds, k, kx, s, ha, ⟨hl, hf⟩, hk, hkx⟩ := h
  have hn : vs.length ≤ N.length := by
    cases io with
    | none =>
      rw [← Dvs.length ha]
      exact hl
    | some p =>
      obtain ⟨_, _, r, rfl, hd⟩ := ha
      rw [List.length_cons, ← Dvs.length hd]
      exact hl
  obtain ⟨a, hae⟩ : ∃ a, ∀ p ∈ io, p.1 = a := by
    cases io with
    | none => exact ⟨mainGlobals, fun p hp => nomatch hp⟩
    | some p => exact ⟨p.1, fun q hq => by cases hq; rfl⟩
  have R := start_rel s ha hn a hae
  refine ⟨⟨F, frameOf H (ioA io)⟩, fun C fs ρ => ∃ o', ioAt a (io.map (·.2)) ρ = some o' ∧ kx C fs o', fun t hb => ?_⟩
  refine hb (L2.start N vs) H _ [] _ _ NoAl.nil ?_ ⟨F, R⟩ (hf a) ?_ (fun _ _ _ _ z => z.elim) (fun _ _ _ _ z => z.elim) ?_
  · rintro σ H1 ρ τ' C dd fs _ ⟨F1, R1⟩ ⟨o', e, q⟩
    obtain ⟨hFr, hIo, _⟩ := fr_of hae R1 e
    exact hkx _ _ _ q F1 H1 dd hFr hIo (R1.tm _ List.mem_cons_self)
  · rintro σ' H1 ρ' ⟨F1, R1⟩ ⟨o', e, q⟩
    obtain ⟨hFr, hIo, _⟩ := fr_of hae R1 e
    exact hk _ _ q F1 H1 .non hFr hIo (show Dv K F1 .non .non from dv_non)
  · rintro v x σ' H1 ρ' ⟨F1, R1⟩ ⟨o', r, e, er, q⟩
    obtain ⟨hFr, hIo, hown⟩ := fr_of hae R1 e
    refine hk _ _ q F1 H1 v hFr hIo ?_
    have t := R1.tm _ List.mem_cons_self
    cases x with
    | im d =>
      cases er
      exact t
    | ow b d =>
      cases er
      obtain ⟨rfl, hO⟩ := t
      have hbm : b ∈ owns ρ' [(V.ref b, DV.ow b d)] := owns_cons.mem_iff.mpr List.mem_cons_self
      refine ⟨b, rfl, hO, hown b hbm fun hio => ?_, R1.nf b hbm⟩
      have nd := List.nodup_cons.mp (owns_cons.nodup_iff.mp R1.nd)
      refine nd.1 ?_
      have R2 := R1.pop
      cases io with
      | none => cases hio
      | some p =>
        obtain ⟨c, dc⟩ := p
        obtain rfl : c = a := hae (c, dc) rfl
        have hb' : b = c := by simpa [ioA] using hio
        subst hb'
        simp only [ioAt, Option.map_some] at e
        split at e
        · rename_i c2 d2 e2
          split at e
          · rename_i hc
            subst hc
            exact List.mem_append_left _ (List.mem_flatten.mpr ⟨_, List.mem_map.mpr ⟨_, List.mem_of_getElem? e2, rfl⟩, by simp [ownS]⟩)
          · cases e
        · cases e
    | al i b =>
      obtain ⟨rfl, d, h2⟩ := t
      rcases h2 with h2 | ⟨h2, h3⟩
      · simp only [rvD, h2] at er
        split at er
        · cases er
        · rename_i hni
          cases er
          have hbm : b ∈ owns ρ' [(V.ref b, DV.al i b)] := List.mem_append_left _ (List.mem_flatten.mpr ⟨_, List.mem_map.mpr ⟨_, List.mem_of_getElem? h2, rfl⟩, by simp [ownS]⟩)
          refine ⟨b, rfl, (R1.sl i _ h2).2, hown b hbm fun hio => ?_, R1.nf b hbm⟩
          cases io with
          | none => cases hio
          | some p =>
            obtain ⟨c, dc⟩ := p
            obtain rfl : c = a := hae (c, dc) rfl
            have hb' : b = c := by simpa [ioA] using hio
            subst hb'
            simp only [ioAt, Option.map_some] at e
            split at e
            · rename_i c2 d2 e2
              split at e
              · rename_i hc
                subst hc
                have hi0 : i ≠ 0 := fun z => hni ⟨rfl, z⟩
                have pm : (owns ρ' [(V.ref c2, DV.al i c2)]).Perm (ownS (.ow c2 d2) ++ owns (ρ'.set 0 .un) [(V.ref c2, DV.al i c2)]) := owns_set_im (s := .ow c2 d2) (t := .un) rfl e2
                have nd := List.nodup_cons.mp (pm.nodup_iff.mp R1.nd)
                have hg : (ρ'.set 0 S.un)[i]? = some (.ow c2 d) := by
                  rw [List.getElem?_set_ne (Ne.symm hi0)]
                  exact h2
                have hmm : c2 ∈ owns (ρ'.set 0 .un) [(V.ref c2, DV.al i c2)] := List.mem_append_left _ (List.mem_flatten.mpr ⟨[c2], List.mem_map.mpr ⟨_, List.mem_of_getElem? hg, rfl⟩, List.mem_singleton.mpr rfl⟩)
                exact nd.1 hmm
              · cases e
            · cases e
      · simp only [rvD, h2] at er
        cases er
        exact h3
end
end DL
/-! DN -/
set_option Elab.async false
set_option maxRecDepth 100000
set_option maxHeartbeats 4000000
set_option linter.unusedVariables false
namespace DL
open PySem PySem.Spec PyProof.Rows L2 Evl
section
variable {K : PySem.W.Frag} {B : BG} {W : Wp}

/-! ### behind a call -/
theorem RelF.after0 {F H F1 H1 : Hp} {σ : L2.St} {ρ : Env} {τ : List (V × DV)} (R : RelF K B F σ H ρ τ) (fr : Fr F H [] F1 H1) : RelF K B F1 σ H1 ρ τ := by
  refine R.grow fr.ex fr.sub (fun a ha => ?_) (fun b o e => fr.kp b o (R.fr b o e) List.not_mem_nil) fun a ha => ?_
  · obtain ⟨d, hO⟩ := own_at R ha
    obtain ⟨o, ho⟩ := hO.some
    refine ⟨by rw [fr.kp a o ho List.not_mem_nil, ho], ?_⟩
    cases e : F1 a with
    | none => rfl
    | some u =>
      rcases fr.nw a (by rw [e]; simp) with h | h
      · exact absurd (R.nf a ha) h
      · rw [ho] at h
        cases h
  · rcases fr.nw a ha with h | h
    · exact .inl h
    · exact .inr (fresh_back R.fr h)
theorem RelF.after1 {F H F1 H1 : Hp} {σ : L2.St} {ρ : Env} {τ : List (V × DV)} {i : Nat} {a : Addr} {d d' : D} (R : RelF K B F σ H ρ τ) (hi : ρ[i]? = some (.ow a d)) (fr : Fr F H [a] F1 H1) (hn : Own K F1 H1 a d') : RelF K B F1 σ H1 (ρ.set i (.ow a d')) τ := by
  obtain ⟨hs, hO⟩ := R.sl i _ hi
  have pm : (owns ρ τ).Perm (a :: owns (ρ.set i .un) τ) := owns_set_im (s := .ow a d) (t := .un) rfl hi
  have ha : a ∈ owns ρ τ := pm.mem_iff.mpr List.mem_cons_self
  have nd := List.nodup_cons.mp (pm.nodup_iff.mp R.nd)
  have li : i < ρ.length := (List.getElem?_eq_some_iff.mp hi).1
  have eo : owns (ρ.set i (.ow a d')) τ = owns ρ τ := owns_set_same (s := .ow a d) rfl hi
  have stay : ∀ b ∈ owns ρ τ, b ≠ a → H1 b = H b := fun b hb hne => by
    obtain ⟨e, hE⟩ := own_at R hb
    obtain ⟨o, ho⟩ := hE.some
    rw [fr.kp b o ho (by simpa using hne), ho]
  have new : ∀ b ∈ owns ρ τ, F1 b = none := fun b hb => by
    obtain ⟨e, hE⟩ := own_at R hb
    obtain ⟨o, ho⟩ := hE.some
    cases e : F1 b with
    | none => rfl
    | some u =>
      rcases fr.nw b (by rw [e]; simp) with h | h
      · exact absurd (R.nf b hb) h
      · rw [ho] at h
        cases h
  have own_ne : ∀ b, b ∈ owns (ρ.set i .un) τ → H1 b = H b := fun b hb => stay b (pm.mem_iff.mpr (List.mem_cons_of_mem _ hb)) fun z => nd.1 (z ▸ hb)
  refine ⟨fr.sub, R.bs.trans fr.ex, fun b o e => ?_, fun b hb => ?_, fun b hb => R.og b (eo ▸ hb), by rw [List.length_set]; exact R.len, fun j s hj => ?_, fun q hq => ?_, by rw [eo]; exact R.nd, fun b hb => new b (eo ▸ hb)⟩
  · refine fr.kp b o (R.fr b o e) fun z => ?_
    have hb : b = a := by simpa using z
    subst hb
    rw [R.og b ha] at e
    cases e
  · rcases fr.nw b hb with h | h
    · exact R.ng b h
    · exact .inr (fresh_back R.fr h)
  · by_cases hji : j = i
    · subst hji
      rw [List.getElem?_set_self li] at hj
      cases hj
      exact ⟨hs, hn⟩
    · rw [List.getElem?_set_ne (Ne.symm hji)] at hj
      have h := R.sl j s hj
      cases s with
      | un => trivial
      | im d2 =>
        obtain ⟨v, h1, h2⟩ := h
        exact ⟨v, h1, h2.mono fr.ex⟩
      | fz b d2 => exact ⟨h.1, h.2.mono fr.ex⟩
      | ow b d2 =>
        have hg : (ρ.set i .un)[j]? = some (.ow b d2) := by
          rw [List.getElem?_set_ne (Ne.symm hji)]
          exact hj
        have hm : b ∈ owns (ρ.set i .un) τ := List.mem_append_left _ (List.mem_flatten.mpr ⟨[b], List.mem_map.mpr ⟨_, List.mem_of_getElem? hg, rfl⟩, List.mem_singleton.mpr rfl⟩)
        exact ⟨h.1, h.2.mono fr.ex (own_ne b hm)⟩
  · obtain ⟨w, y⟩ := q
    have h := R.tm _ hq
    cases y with
    | im d2 => exact Dv.mono fr.ex h
    | ow b d2 =>
      have hm : b ∈ owns (ρ.set i .un) τ := List.mem_append_right _ (List.mem_flatten.mpr ⟨[b], List.mem_map.mpr ⟨_, hq, rfl⟩, List.mem_singleton.mpr rfl⟩)
      exact ⟨h.1, h.2.mono fr.ex (own_ne b hm)⟩
    | al j b =>
      obtain ⟨h1, d2, h2⟩ := h
      by_cases hji : j = i
      · subst hji
        rcases h2 with h2 | ⟨h2, h3⟩
        · rw [hi] at h2
          cases h2
          exact ⟨h1, d', .inl (List.getElem?_set_self li)⟩
        · rw [hi] at h2
          cases h2
      · refine ⟨h1, d2, ?_⟩
        rw [List.getElem?_set_ne (Ne.symm hji)]
        rcases h2 with h2 | ⟨h2, h3⟩
        · exact .inl h2
        · exact .inr ⟨h2, h3.mono fr.ex⟩
/-- what a call gives -/
def rvK (r : RV) (k : DV → Prop) : Prop := match r with
  | .im d => k (.im d)
  | .ow d => ∀ p, k (.ow p d)
theorem rv_push {H F1 H1 : Hp} {σ : L2.St} {ρ : Env} {τ : List (V × DV)} {r : RV} {v : V} {Q : VK} {Qd : DV → Env → Prop} (h0 : ∀ a ∈ owns ρ τ, H a ≠ none) (hg : Ex B.fr H) (R : RelF K B F1 σ H1 ρ τ) (h : RvOk K H F1 H1 r v) (q : rvK r fun x => Qd x ρ)
    (k : ∀ v x H' ρ', Rel K B σ H' ρ' ((v, x) :: τ) → Qd x ρ' → Q v H') : Q v H1 := by
  cases r with
  | im d => exact k v (.im d) H1 ρ ⟨F1, R.pushIm h⟩ q
  | ow d =>
    obtain ⟨a, rfl, hO, hn, fn⟩ := h
    exact k _ (.ow a d) H1 ρ ⟨F1, R.pushOw hO fn (fun hm => h0 a hm hn) (fresh_back hg hn)⟩ (q a)
def dCall (f : TF) (Wd : DX) (da : TDa) : TD := fun ρ Q => da ρ fun xs ρ1 => ∃ ds ρ2, frzs ρ1 xs = some (ds, ρ2) ∧ f none ds (fun r _ => rvK r fun x => Q x ρ2) (fun C fs _ => Wd C fs ρ2)
theorem owned_some {F H : Hp} {σ : L2.St} {ρ : Env} {τ : List (V × DV)} (R : RelF K B F σ H ρ τ) : ∀ a ∈ owns ρ τ, H a ≠ none := fun a ha hn => by
  obtain ⟨d, hO⟩ := own_at R ha
  obtain ⟨o, ho⟩ := hO.some
  rw [hn] at ho
  cases ho
theorem wl_at {τ : List (V × DV)} {σ : L2.St} {H : Hp} {ρ : Env} {C dd : Addr} {fs : List (Str × D)} (w : WL K B τ W) (R : Rel K B σ H ρ ((.ref dd, .im (.xdc fs)) :: τ)) (h : W.d C fs ρ) : W.w (.ref C) (some dd) σ H := w σ H ρ τ C dd fs (Sup.refl τ) R h
theorem se_call {f : TF} {ta : TA} {da : TDa} (ha : SA K B W ta da) : SE K B W (tCallS (SpD K f) (WE W.w) ta) (dCall f W.d da) := fun σ H ρ τ Q Qd w R h k => by
  refine ha σ H ρ τ _ _ w R h fun vs xs H1 ρ1 hl R1 h1 => ?_
  obtain ⟨ds, ρ2, e, hf⟩ := h1
  obtain ⟨F, R2, hd⟩ := R1.freezeAll hl e
  have own := owned_some R2
  refine ⟨F, none, ds, _, _, R2.sub, hd, hf, fun r o hq F1 H2 v fr _ hv => ?_, fun C fs o hq F1 H2 dd fr _ hv => ?_⟩
  · exact rv_push own R2.fr (R2.after0 fr) hv hq k
  · exact wl_at w ⟨F1, (R2.after0 fr).pushIm hv⟩ hq
/-- the first argument is slot i's object, which the callee may change -/
def dCallIo (f : TF) (Wd : DX) (i : Nat) (da : TDa) : TD := fun ρ Q => (∃ a d, ρ[i]? = some (.ow a d)) ∧ da ρ fun xs ρ1 => ∃ ds ρ2 a d, frzs ρ1 xs = some (ds, ρ2) ∧ ρ2[i]? = some (.ow a d) ∧
  f (some d) ds (fun r o => ∃ d', o = some d' ∧ rvK r fun x => Q x (ρ2.set i (.ow a d'))) (fun C fs o => ∃ d', o = some d' ∧ Wd C fs (ρ2.set i (.ow a d')))
theorem se_callIo {f : TF} {i : Nat} {tr : TA} {dr : TDa} (hr : SA K B W tr dr) : SE K B W (tCallS (SpD K f) (WE W.w) (tCons (tVar i) tr)) (dCallIo f W.d i dr) := fun σ H ρ τ Q Qd w R h k => by
  obtain ⟨⟨a0, d0, e0⟩, h⟩ := h
  obtain ⟨F0, R0⟩ := R
  have hs0 := (R0.sl i _ e0).1
  refine ⟨_, hs0, ?_⟩
  refine hr σ H ρ _ _ _ w.cons (⟨F0, R0.pushAl ⟨rfl, d0, .inl e0⟩⟩ : Rel K B σ H ρ ((V.ref a0, .al i a0) :: τ)) h fun vs xs H1 ρ1 hl R1 h1 => ?_
  obtain ⟨ds, ρ2, a, d, e1, e2, hf⟩ := h1
  obtain ⟨F, R2, hd⟩ := R1.freezeAll hl e1
  obtain ⟨hs, hO⟩ := R2.sl i _ e2
  have ea : a0 = a := by
    rw [hs0] at hs
    cases hs
    rfl
  subst ea
  have R3 := R2.pop
  have own := owned_some R3
  have hm : a0 ∈ owns ρ2 τ := List.mem_append_left _ (List.mem_flatten.mpr ⟨_, List.mem_map.mpr ⟨_, List.mem_of_getElem? e2, rfl⟩, List.mem_singleton.mpr rfl⟩)
  refine ⟨F, some (a0, d), ds, _, _, R3.sub, ⟨R3.nf a0 hm, hO, vs, rfl, hd⟩, hf, fun r o ⟨d', eo, hq⟩ F1 H2 v fr io hv => ?_, fun C fs o ⟨d', eo, hq⟩ F1 H2 dd fr io hv => ?_⟩
  · subst eo
    refine rv_push (fun b hb => ?_) R3.fr (R3.after1 e2 fr io) hv hq k
    have eo : owns (ρ2.set i (.ow a0 d')) τ = owns ρ2 τ := owns_set_same (s := .ow a0 d) rfl e2
    exact own b (eo ▸ hb)
  · subst eo
    exact wl_at w ⟨F1, (R3.after1 e2 fr io).pushIm hv⟩ hq

/-! ### defs in a context without guards -/
/-- as FnOk, where no repr is under way -/
structure FnG (P : Program) (w : World) (K : PySem.W.Frag) (mg : Str → Option Value) (base : Heap) (k : Nat) (f : Addr) (fd : FuncData) (ps : List Str) (sp : Sp) : Prop where
  len : ∀ vs H Q E, sp vs H Q E → vs.length = ps.length
  run : ∀ (A : Around) (outer : List PySem.Env) (s : Shared) (H : Hp) (args : Args) (us : List Value) (vs : List V) (Q : VK) (E : XK), Room k A → A.guards = some [] → Env0 P w K mg base A outer s H → BindsTo s fd args (ps.zip us) → Vals vs us → sp vs H Q E →
    codeAny (model P w) A (.call (.ref f) args) (CR (L2.CX P w) outer P w H s Q E) s
theorem Fun.okG {P : Program} {w : World} {K : PySem.W.Frag} {mg : Str → Option Value} {base : Heap} {x qual : Str} {st : PySem.Stmt} {f : Addr} {fd : FuncData} {N ps : List Str} {k : Nat} {sp : Sp} (G : L2.Fun K x qual st f fd) (S : FnScope N ps (defScope st)) (ln : ∀ vs H Q E, sp vs H Q E → vs.length = ps.length)
    (hbd : ∀ (cdv : Value) (A : Around) (outer : List PySem.Env) (s : Shared) (H : Hp) (vs : List V) (Q : VK) (E : XK), Room k (A.deeper (envOfC qual (defScope st) s.heap.objs.size f cdv)) → (A.deeper (envOfC qual (defScope st) s.heap.objs.size f cdv)).guards = some [] → sp vs H Q E →
      ∃ t, PSs (cxOf (L2.CX P w) P w K mg base N qual (defScope st) f cdv A outer s H E) (defBody st) t ∧ t { nx := fun _ H' => Q .non H', rt := Q } (L2.start N vs) H) : FnG P w K mg base (k + 1) f fd ps sp := by
  obtain ⟨oc, od, kV, dc, pm, an, cdv, ct, osl, rfl, lk, hcd⟩ := G.ex
  refine ⟨ln, fun A outer s H args us vs Q E hr hgd en hb r hsp => ?_⟩
  have hlen := ln _ _ _ _ hsp
  have kx : K.In s.heap := en.mod.kin.keeps fun b o e => (en.bs b o e).1
  have nlim : s.heap.NoLimit := en.mod.nolimit.keeps fun b o e => (en.bs b o e).1
  have kinds : ∀ y ∈ ps.zip us, (defScope st).names.lookup y.1 = some .local ∨ ((defScope st).names.lookup y.1 = some .cell ∧ ((cellsFrom (s.heap.objs.size + 1) (defScope st).names []).lookup y.1).isSome = true) := by
    rintro ⟨n, v⟩ hy
    exact (S.par n (List.of_mem_zip hy).1).elim .inl fun q => .inr ⟨q, PySem.W.cellsFrom_some _ _ _ (.inl q)⟩
  refine codeAny_call_function hr.depth (kx _ _ lk) rfl S.co S.gen rfl (PySem.W.codeRec_of kx hcd) (hb _ _ _ _ ?_)
  refine wpAny_newFunctionEnv_cells S.kind kinds fun en2 he s1 ic => ?_
  subst he
  refine ⟨nlim.keeps ic.toInCall.keep, codeAny_func ?_⟩
  obtain ⟨t, ht, hq⟩ := hbd cdv A outer s H vs Q E (hr.deeper _) hgd hsp
  have I0 : Inv (cxOf (L2.CX P w) P w K mg base N qual (defScope st) f cdv A outer s H E) [] (L2.start N vs) H s1 := inv_start S hr.hd en hlen r ic
  refine wpAny_mono (ht.run [] s1 (L2.start N vs) H _ I0 hq) (fun fl s2 hs => ?_) fun e s2 hs => hs
  cases fl with
  | ret u =>
    obtain ⟨v, σ2, H2, J, rv, q⟩ := hs
    exact ⟨v, H2, J.os, J.bare, J.base, J.hok, rv, q⟩
  | next =>
    obtain ⟨σ2, H2, J, q⟩ := hs
    exact ⟨V.non, H2, J.os, J.bare, J.base, J.hok, rfl, q⟩
  | brk =>
    obtain ⟨_, _, _, z⟩ := hs
    exact z.elim
  | cont =>
    obtain ⟨_, _, _, z⟩ := hs
    exact z.elim
section
variable {X : Cx} {k : Nat} {f : Addr} {fd : FuncData} {ps : List Str} {sp : Sp} {E : L2.St → XK} {x : Str} {p pos : Pos} {e : PySem.Expr} {es : List PySem.Expr} {t : TA}
theorem run_fnG {pins : List (Addr × Obj)} {σ : L2.St} {H : Hp} {s : Shared} {Q : VK} {us : List Value} {vs : List V} (G : FnG X.prog X.w X.K X.mg X.base k f fd ps sp) (hr : Room k X.A) (hgd : X.A.guards = some []) (hb : Binds X.K fd ps []) (hx : PassesAt (L2.CX X.prog X.w) X σ (E σ))
    (I : Inv X pins σ H s) (r : Vals vs us) (h : sp vs H Q (E σ)) : wpAny (model X.prog X.w) X.A (call (.ref f) us) (EP X pins σ Q) X.xe s := by
  have hlen : us.length = ps.length := r.length ▸ G.len _ _ _ _ h
  have bd := hb s us I.kIn (by rw [List.append_nil]; exact hlen)
  rw [List.append_nil] at bd
  refine wpAny_call (codeAny_mono (G.run X.A X.stack s H ⟨us, []⟩ us vs Q (E σ) hr hgd I.env0 bd r h) fun res s2 hq => ?_)
  match res, hq with
  | .error er, hq => exact hx pins H s er s2 I hq
  | .ok (.ret u), hq => exact I.after hq
  | .ok .next, hq => exact hq.elim
  | .ok .brk, hq => exact hq.elim
  | .ok .cont, hq => exact hq.elim
theorem pe_callFG (G : FnG X.prog X.w X.K X.mg X.base k f fd ps sp) (hr : Room k X.A) (hgd : X.A.guards = some []) (hg : Gl X x) (hm : X.mg x = some (.ref f)) (hk : PySem.W.keepIn X.K (.ref f) = true) (hb : Binds X.K fd ps []) (hx : ∀ σ, PassesAt (L2.CX X.prog X.w) X σ (E σ))
    (ha : PA X (e :: es) t) (hdb : (x == ("__debug__" : Str)) = false := by decide) (he : starEach (e :: es) X.env = (false, eval e X.env) :: starEach es X.env := by rfl) (hpl : (backTo pos (starEach es X.env)).any (·.1) = false := by rfl) :
    PE X (.Call (.Name x p) (e :: es) [] pos) (tCallS sp E t) :=
  ⟨fun pins s σ H Q I h => wpAny_Call_Name_kw (ld_glob I hg hm (PySem.W.callWith_K (h₀ := X.base) I.ok.mod.kin hk (thn (ha.run pos pins s σ H _ I h) fun _ _ ⟨_, _, I1, r, q⟩ => ⟨I1.kIn, run_fnG G hr hgd hb (hx σ) I1 r q⟩) he hpl) hdb)⟩
end
end
end DL
/-! DO -/
set_option Elab.async false
set_option maxRecDepth 100000
set_option maxHeartbeats 4000000
set_option linter.unusedVariables false
namespace DL
open PySem PySem.Spec PyProof.Rows L2 Evl

/-! ### the package's own exceptions -/
/-- what the written part says of an exception class with an __init__ of its own that keeps the fields -/
structure XCl (K : PySem.W.Frag) (C : Addr) (names : List Str) : Prop where
  ox : OexC K C
  ga : PySem.W.findIn K (.ref C) "__getattribute__" = some (some (.builtin "BaseException.__getattribute__"))
  gg : PySem.W.findIn K (.ref C) "__getattr__" = some none
  hd : PySem.W.hasDictIn K C = true
  ca : PySem.W.findIn K (.ref C) "__class__" = some (some (.builtin "object.__class__"))
  mo : PySem.W.mroIn K C (.type "object") = some true
  no : ∀ f ∈ names, PySem.W.findIn K (.ref C) f = some none
/-- object.__class__, once -/
structure ClsGet (K : PySem.W.Frag) : Prop where
  hn : PySem.W.specialIn K (.builtin "object.__class__") "__get__" = some (some (.builtin "getset_descriptor.__get__"))
  ht : PySem.W.takesIn K (.builtin "object.__class__") = some true
theorem zip_names {α : Type} : ∀ {names : List Str} {vs : List α}, vs.length = names.length → (names.zip vs).map (·.1) = names
  | [], _, _ => by simp
  | n :: names, [], h => by simp at h
  | n :: names, v :: vs, h => by
    rw [List.zip_cons_cons, List.map_cons, zip_names (by simpa using h)]
section
variable {X : Cx} {pins : List (Addr × Obj)} {σ : L2.St} {H : Hp} {s : Shared}
/-- an exception in the heap, as the look-ups see it -/
theorem exc_look {a C dx : Addr} {fs : List (Str × V)} (I : Inv X pins σ H s) (e : H a = some (exo a C (some dx))) (ed : H dx = some (exd dx fs)) :
    ∃ oe od, PySem.W.InstAt s.heap a oe C (some od) ∧ ∀ f v, fs.lookup f = some v → ∃ u, PySem.W.lookIn f od = some (some u) ∧ RelV v u := by
  obtain ⟨t1, ho⟩ := exo_at I.hok e
  obtain ⟨mA, hns, rel⟩ := exd_at I.hok ed
  obtain ⟨od, hod, hl⟩ := lookIn_ns hns
  refine ⟨_, od, ⟨ho, rfl, rfl, hod⟩, fun f v hf => ?_⟩
  have r := rel f
  rw [hf] at r
  obtain ⟨u, hu, ru⟩ := RelO.some_of (v := v) (o := mA f) r
  exact ⟨u, by rw [hl, hu], ru⟩
end

/-! ### e.f of an exception -/
def tXF (K : PySem.W.Frag) (ta : TE) (f : Str) : TE := fun σ H Q => ta σ H fun x H1 => ∃ a C dx fs v names, x = .ref a ∧ H1 a = some (exo a C (some dx)) ∧ H1 dx = some (exd dx fs) ∧ XCl K C names ∧ f ∈ names ∧ fs.lookup f = some v ∧ Q v H1
theorem pe_xf {X : Cx} {e : PySem.Expr} {ta : TE} {f : Str} {pos : Pos} (he : PE X e ta) (hb : attributeBase e f X.env (eval e X.env) = eval e X.env := by rfl) : PE X (.Attribute e f pos) (tXF X.K ta f) := by
  refine ⟨fun pins s σ H Q I h => ?_⟩
  refine attr_of hb (thn (he.run pins s σ H _ I h) fun u s1 ⟨x, H1, I1, rx, a, C, dx, fs, v, names, ex, ea, ed, xc, hf, hl, q⟩ => ?_)
  subst ex
  obtain rfl : u = Value.ref a := rx
  obtain ⟨oe, od, J, look⟩ := exc_look I1 ea ed
  obtain ⟨u, hu, ru⟩ := look f v hl
  exact HandSPX.exc_get I1.kIn J xc.ga xc.gg xc.ox.exC (PySem.W.findObj_own xc.hd (xc.no f hf) rfl hu) (handed_of ru) ⟨v, H1, I1.tok _, ru, q⟩

/-! ### isinstance -/
/-- the type of a value, an own exception's its class -/
def TyE (K : PySem.W.Frag) (H : Hp) (x : V) (t : Value) : Prop := TyX K H x t ∨ (∃ a C names, x = .ref a ∧ t = .ref C ∧ H a = some (exo a C none) ∧ XCl K C names ∧ ClsGet K) ∨ ∃ a C dx fs names, x = .ref a ∧ t = .ref C ∧ H a = some (exo a C (some dx)) ∧ H dx = some (exd dx fs) ∧ XCl K C names ∧ ClsGet K
def rIsE (K : PySem.W.Frag) : List V → Hp → VK → Prop := fun xs H Q => ∃ (x c : V) (t u : Value) (b : Bool), xs = [x, c] ∧ ClsV c u ∧ TyE K H x t ∧ PySem.W.kitOne K t u = some b ∧ Q (.bl b) H
theorem kit_ofE {X : Cx} {pins : List (Addr × Obj)} {σ : L2.St} {H : Hp} {s : Shared} {x : V} {u t : Value} (I : Inv X pins σ H s) (rx : RelV x u) (ty : TyE X.K H x t) : ∃ P : Heap → Prop, PySem.W.KitX X.K u t P ∧ P s.heap ∧ u ≠ .builtin "__main__.__loader__#opaque" := by
  rcases ty with ty | ⟨a, C, names, rfl, rfl, ea, xc, cg⟩ | ⟨a, C, dx, fs, names, rfl, rfl, ea, ed, xc, cg⟩
  · exact kit_of I rx ty
  · obtain rfl : u = Value.ref a := rx
    obtain ⟨t1, ho⟩ := exo_at I.hok ea
    have hcl : (PySem.W.clsIn X.K C).isSome = true := by
      obtain ⟨cd, hc, _⟩ := PySem.W.any_some xc.hd
      rw [hc]
      rfl
    have J : PySem.W.InstAt s.heap a _ C none := ⟨ho, rfl, rfl, trivial⟩
    exact ⟨_, PySem.W.kitx_exc hcl xc.ga xc.gg xc.ox.exC xc.ca cg.hn cg.ht xc.mo, J, fun z => nomatch z⟩
  · obtain rfl : u = Value.ref a := rx
    obtain ⟨oe, od, J, _⟩ := exc_look I ea ed
    have hcl : (PySem.W.clsIn X.K C).isSome = true := by
      obtain ⟨cd, hc, _⟩ := PySem.W.any_some xc.hd
      rw [hc]
      rfl
    exact ⟨_, PySem.W.kitx_exc hcl xc.ga xc.gg xc.ox.exC xc.ca cg.hn cg.ht xc.mo, J, fun z => nomatch z⟩
theorem call_isE {X : Cx} : CallR X (.builtin "isinstance") (rIsE X.K) := by
  intro pins s σ H xs us Q I r h
  obtain ⟨x, c, t, u, b, rfl, k, ty, e, q⟩ := h
  obtain ⟨u1, u2, rfl, r1, r2⟩ := vals2 r
  have e2 := k.eq r2
  subst e2
  obtain ⟨P, Z, p, hx⟩ := kit_ofE I r1 ty
  exact PySem.W.kia_one Z I.kIn p e hx fun tk => ⟨.bl b, H, I.tok tk, rfl, q⟩
/-- data's type -/
def tyD : D → Option Value
  | .non => some (.type "NoneType")
  | .bl _ => some (.type "bool")
  | .int _ => some (.type "int")
  | .str _ => some (.type "str")
  | .lst _ => some (.type "list")
  | .tup _ => some (.type "tuple")
  | .dct _ => some (.type "dict")
  | .exc C _ => some (.ref C)
  | .ex0 C => some (.ref C)
  | _ => none
def clsD : D → Option Value
  | .ty n => some (.type n)
  | .ref C => some (.ref C)
  | _ => none
/-- the exception classes that the program has, by their fields -/
def Knows (K : PySem.W.Frag) (cs : List (Addr × List Str)) : Prop := ClsGet K ∧ ∀ p ∈ cs, XCl K p.1 p.2
def okCls (cs : List (Addr × List Str)) : D → Prop
  | .exc C _ => ∃ names, (C, names) ∈ cs
  | .ex0 C => ∃ names, (C, names) ∈ cs
  | _ => True
def fIs (K : PySem.W.Frag) (cs : List (Addr × List Str)) : FN := fun ds k => ∃ d c t u b, ds = [d, c] ∧ tyD d = some t ∧ clsD c = some u ∧ okCls cs d ∧ PySem.W.kitOne K t u = some b ∧ k (.im (.bl b))
section
variable {K : PySem.W.Frag}
theorem ty_vw {F H : Hp} {d : D} {v : V} {t : Value} {cs : List (Addr × List Str)} (kn : Knows K cs) (s : Ex F H) (h : Vw K F H d v) (e : tyD d = some t) (ok : okCls cs d) : TyE K H v t := by
  cases d with
  | non => cases e; simp only [Vw] at h; subst h; exact .inl (.base .non)
  | bl b => cases e; simp only [Vw] at h; subst h; exact .inl (.base (.bl b))
  | int i => cases e; simp only [Vw] at h; subst h; exact .inl (.base (.int i))
  | str x => cases e; simp only [Vw] at h; subst h; exact .inl (.base (.str x))
  | lst ds =>
    cases e
    obtain ⟨a, vs, rfl, h1, _⟩ := h
    exact .inl (.base (.lst h1))
  | dct ds =>
    cases e
    obtain ⟨a, vs, rfl, h1, _⟩ := h
    exact .inl (.base (.dK h1))
  | tup ds =>
    cases e
    obtain ⟨a, vs, rfl, h1, _⟩ := h
    rcases h1 with (h1 | ⟨o, h1⟩) | ⟨o, its, n, h1, h2, _⟩
    · exact .inl (.base (.tup (s _ _ h1)))
    · exact .inl (.fTuple (s _ _ h1))
    · exact .inl (.kTuple h1 h2)
  | exc C es =>
    cases e
    obtain ⟨a, dx, fs, rfl, h1, h2, _⟩ := h
    obtain ⟨names, hm⟩ := ok
    exact .inr (.inr ⟨a, C, dx, fs, names, rfl, rfl, s _ _ h1, s _ _ h2, kn.2 _ hm, kn.1⟩)
  | ex0 C =>
    cases e
    obtain ⟨a, rfl, h1⟩ := h
    obtain ⟨names, hm⟩ := ok
    exact .inr (.inl ⟨a, C, names, rfl, rfl, s _ _ h1, kn.2 _ hm, kn.1⟩)
  | _ => cases e
theorem ok_is {cs : List (Addr × List Str)} (kn : Knows K cs) : OkN K (rIsE K) (fIs K cs) := fun F H vs ds k Q s hv h g => by
  obtain ⟨d, c, t, u, b, rfl, e1, e2, ok, e3, hk⟩ := h
  obtain ⟨v, w, rfl, h1, h2⟩ := vws2 hv
  refine ⟨v, w, t, u, b, rfl, ?_, ty_vw kn s h1 e1 ok, e3, g.im _ _ dv_bl hk⟩
  cases c with
  | ty n =>
    cases e2
    simp only [Vw] at h2
    subst h2
    exact .ty n
  | ref C =>
    cases e2
    simp only [Vw] at h2
    subst h2
    exact .own C
  | _ => cases e2
variable {B : BG} {W : Wp}
theorem Dfs.look {F : Hp} {f : Str} {d : D} : ∀ {es : List (Str × D)} {fs : List (Str × V)}, Dfs K F es fs → es.lookup f = some d → ∃ v, fs.lookup f = some v ∧ Dv K F d v
  | [], _, _, e => by cases e
  | (g, x) :: es, _, h, e => by
    simp only [Dfs] at h
    obtain ⟨v, r, rfl, h2, h3⟩ := h
    rw [lookup_put]
    by_cases hg : f = g
    · subst hg
      have e' : some x = some d := by simpa [List.lookup] using e
      cases e'
      exact ⟨v, if_pos rfl, h2⟩
    · have hb : (f == g) = false := by simpa using hg
      simp only [List.lookup, hb] at e
      obtain ⟨w, h4, h5⟩ := Dfs.look h3 e
      exact ⟨w, (if_neg hg).trans h4, h5⟩
def dXF (cs : List (Addr × List Str)) (da : TD) (f : Str) : TD := fun ρ Q => da ρ fun x ρ1 => ∃ C fs names z, see ρ1 x = some (.exc C fs) ∧ (C, names) ∈ cs ∧ f ∈ names ∧ fs.lookup f = some z ∧ Q (.im z) ρ1
theorem se_xf {cs : List (Addr × List Str)} {ta : TE} {da : TD} {f : Str} (kn : Knows K cs) (ha : SE K B W ta da) : SE K B W (tXF K ta f) (dXF cs da f) := fun σ H ρ τ Q Qd w R h k => by
  refine ha σ H ρ τ _ _ w R h fun v x H1 ρ1 R1 h1 => ?_
  obtain ⟨C, fs, names, z, e1, hm, hf, e2, hq⟩ := h1
  obtain ⟨F, R2⟩ := R1
  have hv := see_vw R2 List.mem_cons_self e1
  obtain ⟨a, dx, vf, rfl, h2, h3, h4⟩ := hv
  obtain ⟨u, h5, h6⟩ := h4.look e2
  exact ⟨a, C, dx, vf, u, names, rfl, R2.sub _ _ h2, R2.sub _ _ h3, kn.2 _ hm, hf, h5, k u (.im z) H1 ρ1 ⟨F, R2.pop.pushIm h6⟩ hq⟩
end
end DL
/-! DP -/
set_option Elab.async false
set_option maxRecDepth 100000
set_option maxHeartbeats 4000000
set_option linter.unusedVariables false
namespace DL
open PySem PySem.Spec PyProof.Rows L2 Evl

/-! ### __init__ of an exception class: self.f = f for each field -/
def tInit (K : PySem.W.Frag) : List Str → Nat → TS
  | [], _ => tNext
  | f :: r, i => tSeq (tOst K f (tVar 0) (tVar i)) (tInit K r (i + 1))
def spInit (C : Addr) (names : List Str) : Sp := fun vs H Q _ => ∃ a ys, vs = .ref a :: ys ∧ ys.length = names.length ∧ H a = some (exo a C none) ∧
  ∀ dx, H dx = none → dx ≠ a → Q .non (upd (upd H dx (exd dx (names.zip ys).reverse)) a (exo a C (some dx)))
theorem upd_comm {H : Hp} {a b : Addr} {o u : HO} (h : a ≠ b) : upd (upd H a o) b u = upd (upd H b u) a o := by
  funext c
  by_cases h1 : c = a
  · subst h1
    rw [upd_ne h, upd_same, upd_same]
  · by_cases h2 : c = b
    · subst h2
      rw [upd_same, upd_ne h1, upd_same]
    · rw [upd_ne h2, upd_ne h1, upd_ne h1, upd_ne h2]
theorem upd_upd {H : Hp} {a : Addr} {o u : HO} : upd (upd H a o) a u = upd H a u := by
  funext c
  by_cases h1 : c = a
  · subst h1
    rw [upd_same, upd_same]
  · rw [upd_ne h1, upd_ne h1, upd_ne h1]
/-- the fields behind the first -/
theorem init_more {K : PySem.W.Frag} {C : Addr} {names0 : List Str} (xc : XCl K C names0) {H : Hp} {a dx : Addr} (hne : dx ≠ a) {D : Ends} {σ : L2.St} (hσ : σ[0]? = some (some (.ref a))) : ∀ (names : List Str) (ys : List V) (i : Nat) (acc : List (Str × V)), (∀ f ∈ names, f ∈ names0) → ys.length = names.length →
    (∀ j y, ys[j]? = some y → σ[i + j]? = some (some y)) → acc.length + names.length ≤ 900 → D.nx σ (upd (upd H dx (exd dx ((names.zip ys).reverse ++ acc))) a (exo a C (some dx))) →
    tInit K names i D σ (upd (upd H dx (exd dx acc)) a (exo a C (some dx)))
  | [], ys, i, acc, _, hl, _, _, h => by
    have : ys = [] := List.length_eq_zero_iff.mp hl
    subst this
    exact h
  | f :: r, [], i, acc, _, hl, _, _, _ => by simp at hl
  | f :: r, y :: ys, i, acc, hn, hl, hs, hz, h => by
    refine ⟨y, by simpa using hs 0 y rfl, .ref a, hσ, a, C, rfl, xc.ox, xc.no f (hn f List.mem_cons_self), .inr ⟨dx, acc, upd_same, ?_, by simp at hz; omega, ?_⟩⟩
    · rw [upd_ne hne, upd_same]
    · have e : upd (upd (upd H dx (exd dx acc)) a (exo a C (some dx))) dx (exd dx ((f, y) :: acc)) = upd (upd H dx (exd dx ((f, y) :: acc))) a (exo a C (some dx)) := by
        rw [← upd_comm hne, upd_upd]
      rw [e]
      refine init_more xc hne hσ r ys (i + 1) ((f, y) :: acc) (fun g hg => hn g (List.mem_cons_of_mem _ hg)) (by simpa using hl) (fun j z hj => ?_) (by simp at hz ⊢; omega) ?_
      · have := hs (j + 1) z (by simpa using hj)
        rwa [show i + (j + 1) = i + 1 + j by omega] at this
      · simpa [List.zip_cons_cons, List.reverse_cons, List.append_assoc] using h
theorem init_pure {K : PySem.W.Frag} {C : Addr} {names : List Str} (xc : XCl K C names) (hne : names ≠ []) (hz : names.length ≤ 900) {N : List Str} {vs : List V} {H : Hp} {Q : VK} {E : XK} (h : spInit C names vs H Q E) :
    tInit K names 1 { nx := fun _ H' => Q .non H', rt := Q } (L2.start N vs) H := by
  obtain ⟨a, ys, rfl, hl, ha, hq⟩ := h
  cases names with
  | nil => exact absurd rfl hne
  | cons f r =>
    cases ys with
    | nil => simp at hl
    | cons y ys =>
      have h0 : (L2.start N (V.ref a :: y :: ys))[0]? = some (some (.ref a)) := rfl
      have h1 : (L2.start N (V.ref a :: y :: ys))[1]? = some (some y) := rfl
      refine ⟨y, h1, .ref a, h0, a, C, rfl, xc.ox, xc.no f List.mem_cons_self, .inl ⟨ha, fun dx hd hda => ?_⟩⟩
      refine init_more xc hda h0 r ys 2 [(f, y)] (fun g hg => List.mem_cons_of_mem _ hg) (by simpa using hl) (fun j z hj => ?_) (by simp at hz ⊢; omega) ?_
      · unfold L2.start
        rw [List.getElem?_append_left (by simp; have := (List.getElem?_eq_some_iff.mp hj).1; omega), List.getElem?_map, show 2 + j = j + 1 + 1 by omega]
        simp [hj]
      · have := hq dx hd hda
        simpa [List.zip_cons_cons, List.reverse_cons] using this

/-! ### C(e, ..) as a value -/
def tMkX (C : Addr) (names : List Str) (ta : TA) : TE := fun σ H Q => ta σ H fun vs H1 => vs.length = names.length ∧ ∀ a dx, H1 a = none → H1 dx = none → dx ≠ a → Q (.ref a) (upd (upd H1 dx (exd dx (names.zip vs).reverse)) a (exo a C (some dx)))
/-- an __init__ that keeps its promise -/
structure InitOk (P : Program) (w : World) (K : PySem.W.Frag) (mg : Str → Option Value) (base : Heap) (C : Addr) (names : List Str) : Prop where
  ex : ∃ fI fd k, PySem.W.findIn K (.ref C) "__init__" = some (some (.ref fI)) ∧ PySem.W.typeIn K (.ref fI) = some (.type "function") ∧ k ≤ 1 ∧ FnOk P w K mg base CX0 k fI fd ("self" :: names) (spInit C names) ∧ Binds K fd ("self" :: names) []
section
variable {X : Cx} {x : Str} {C : Addr} {names : List Str} {p pos : Pos} {e : PySem.Expr} {es : List PySem.Expr} {ta : TA}
theorem pe_mkX (xc : XCl X.K C names) (io : InitOk X.prog X.w X.K X.mg X.base C names) (hn : names.length ≤ 900) (hr : Room 2 X.A) (hg : Gl X x) (hm : X.mg x = some (.ref C)) (ha : PA X (e :: es) ta)
    (hdb : (x == ("__debug__" : Str)) = false := by decide) (he : starEach (e :: es) X.env = (false, eval e X.env) :: starEach es X.env := by rfl) (hpl : (backTo pos (starEach es X.env)).any (·.1) = false := by rfl) :
    PE X (.Call (.Name x p) (e :: es) [] pos) (tMkX C names ta) := by
  obtain ⟨fI, fd, k, iC, tI, hk, F1, hb⟩ := io.ex
  refine ⟨fun pins s σ H Q I h => ?_⟩
  obtain ⟨nm, q, N, bs, bm, sn, sub, ab, col, dd, k0, k1, k2, k3, k5, hC, hbm⟩ := xc.ox.cls
  refine wpAny_Call_Name_kw (ld_glob I hg hm ?_ hdb)
  refine PySem.W.callWith_K (h₀ := X.base) I.ok.mod.kin xc.ox.kC (thn (ha.run pos pins s σ H _ I h) fun us s1 ⟨vs, H1, I1, r1, hl, q1⟩ => ⟨I1.kIn, ?_⟩) he hpl
  show wpAny _ _ (call (.ref C) us) _ _ _
  obtain ⟨hp, g, dr, tk, os⟩ := s1
  have hsz : hp.objs.size ≤ hp.objs.size + 1 := Nat.le_succ _
  have hn1 : H1 (hp.objs.size + 1) = none := I1.hok.fresh hsz
  have kk : ∀ b o, hp.get? b = some o → ((hp.push (PySem.W.kdv_tup us)).push (PySem.HandSPX.excO C hp.objs.size)).get? b = some o := fun b o e => Heap.get?_push_of_some _ (Heap.get?_push_of_some _ e)
  have hget : ((hp.push (PySem.W.kdv_tup us)).push (PySem.HandSPX.excO C hp.objs.size)).get? (hp.objs.size + 1) = some (PySem.HandSPX.excO C hp.objs.size) := by heap_get
  have I2 : Inv X pins σ (upd H1 (hp.objs.size + 1) (exo (hp.objs.size + 1) C none)) ⟨(hp.push (PySem.W.kdv_tup us)).push (PySem.HandSPX.excO C hp.objs.size), g, dr, tk, os⟩ :=
    I1.laid (t' := tk) (a := hp.objs.size + 1) (o := exo (hp.objs.size + 1) C none) (h' := (hp.push (PySem.W.kdv_tup us)).push (PySem.HandSPX.excO C hp.objs.size)) kk hsz (exo_ok hget)
  have r2 : Vals (V.ref (hp.objs.size + 1) :: vs) (Value.ref (hp.objs.size + 1) :: us) := .cons rfl r1
  have hlen : us.length = names.length := by rw [← r1.length]; exact hl
  have hus : us.length ≤ sizeLine := by
    rw [hlen, sizeLine_eq]
    omega
  have hsp : spInit C names (V.ref (hp.objs.size + 1) :: vs) (upd H1 (hp.objs.size + 1) (exo (hp.objs.size + 1) C none))
      (fun v H2 => v = .non ∧ ∃ dx, H1 dx = none ∧ dx ≠ hp.objs.size + 1 ∧ H2 = upd (upd H1 dx (exd dx (names.zip vs).reverse)) (hp.objs.size + 1) (exo (hp.objs.size + 1) C (some dx))) (fun _ _ _ => False) := by
    refine ⟨_, vs, rfl, hl, upd_same, fun dx hd hda => ⟨rfl, dx, ?_, hda, ?_⟩⟩
    · rw [upd_ne hda] at hd
      exact hd
    · rw [upd_comm (Ne.symm hda), upd_upd]
  have bd := hb _ (Value.ref (hp.objs.size + 1) :: us) I2.kIn (by simp [hlen])
  rw [List.append_nil] at bd
  refine wpAny_call (PySem.HandSPX.call_own F.excBase_ValueError (fun Y => PySem.HandSPX.refsVE_contains Y bm hbm) (I1.kIn _ _ hC) (PySem.W.looks_findIn I1.kIn iC) (fun self => PySem.W.bind_fn I1.kIn self tI) hus
    (codeAny_mono (F1.run _ X.stack _ _ ⟨Value.ref (hp.objs.size + 1) :: us, []⟩ (Value.ref (hp.objs.size + 1) :: us) _ _ (fun _ _ _ => False) ((hr.mono (by omega)).make C us []) (I2.env0.make C us []) bd r2 hsp) fun r s' hq' => ?_))
  cases r with
  | error er => exact hq'.elim
  | ok fl =>
    cases fl with
    | ret u =>
      obtain ⟨v, H2, os2, bare2, un2, hok2, rv, ev, dx, hd1, hda, rfl⟩ := hq'
      subst ev
      obtain ⟨h2, g2, d2, t2, os'⟩ := s'
      refine ⟨rv, ?_⟩
      have J := I2.after (Q := fun v' H' => v' = .non ∧ H' = upd (upd H1 dx (exd dx (names.zip vs).reverse)) (hp.objs.size + 1) (exo (hp.objs.size + 1) C (some dx))) (s' := ⟨h2, g2, d2, t2, os'⟩) ⟨.non, _, os2, bare2, un2, hok2, rv, rfl, rfl⟩
      obtain ⟨v', H', J, _, rfl, rfl⟩ := J
      exact ⟨.ref (hp.objs.size + 1), _, J, rfl, q1 _ dx hn1 hd1 hda⟩
    | next => exact False.elim hq'
    | brk => exact False.elim hq'
    | cont => exact False.elim hq'
end
/-- C(), C without an __init__ of its own -/
def tMk0 (C : Addr) : TE := fun σ H Q => ∀ a, H a = none → Q (.ref a) (upd H a (exo a C none))
theorem pe_mk0 {X : Cx} {x : Str} {C : Addr} {p pos : Pos} {bmB : List Value} {B initId : String} (Fb : ExcBaseFacts B "ValueError.__new__" initId bmB) (q : PySem.W.excIn X.K C bmB "ValueError.__new__" = true) (hk : PySem.W.keepIn X.K (.ref C) = true) (hg : Gl X x) (hm : X.mg x = some (.ref C))
    (hdb : (x == ("__debug__" : Str)) = false := by decide) : PE X (.Call (.Name x p) [] [] pos) (tMk0 C) := by
  refine ⟨fun pins s σ H Q I h => ?_⟩
  refine wpAny_Call_Name_kw (ld_glob I hg hm ?_ hdb)
  refine PySem.W.callWith_K0 I.kIn hk ?_
  show wpAny _ _ (call (.ref C) []) _ _ _
  obtain ⟨bm, N, nm, qn, bs, hdct, sn, sub, ab, col, dd, k0, k1, k2, k3, k5, mN, hC, hN, hni, tl⟩ := exc_obj I.kIn q
  refine wpAny_call_exc_subT Fb tl hC hN hni (fun h' e made => ?_) (Nat.zero_le _)
  obtain ⟨t1, he, _, _⟩ := made.there
  have gone : H e = none := I.hok.gone made.new
  have ne0 : ∀ {b : Addr} {o : Obj}, s.heap.get? b = some o → b ≠ e := fun {b o} z w => by
    rw [w, made.new] at z
    cases z
  obtain ⟨hp, g, d, tk, os⟩ := s
  have un : Un X.fs [] H (upd H e (exo e C none)) hp h' := {
    keep := fun b o z _ _ _ => made.keeps b o z
    slot := fun b o z _ _ _ => ⟨o.slots, made.keeps b o z⟩
    free := fun b o z n _ => by rw [upd_ne (ne0 z)]; exact n
    there := fun b o z _ => ⟨o, made.keeps b o z⟩
    tups := fun b xs z => by rw [upd_ne (ne_of_none z gone)]; exact z
    frzs := fun b o v z => by rw [upd_ne (ne_of_none z gone)]; exact z
    tbls := fun b ps z => ⟨#[], by rw [upd_ne (ne_of_none z gone), z]; simp⟩ }
  have J := I.un (t' := tk) un fun b o z => by
    by_cases hb : b = e
    · subst hb
      rw [upd_same] at z
      cases z
      exact exo_ok he
    · rw [upd_ne hb] at z
      exact (I.hok b o z).stay (fun c v _ y => made.keeps c v y) (fun c hc => by rw [upd_ne (ne_of_none hc gone)]; exact hc) (fun c xs hc => by rw [upd_ne (ne_of_none hc gone)]; exact hc)
  exact ⟨.ref e, _, J, rfl, h e gone⟩
def dMk0 (C : Addr) : TD := fun ρ Q => Q (.im (.ex0 C)) ρ
theorem se_mk0 {K : PySem.W.Frag} {B : BG} {W : Wp} {C : Addr} : SE K B W (tMk0 C) (dMk0 C) := fun σ H ρ τ Q Qd w ⟨F, R⟩ h k => by
  intro a ha
  exact k _ (.im (.ex0 C)) _ ρ ⟨_, R.newIm ha (by simp only [Dv]; exact ⟨a, rfl, upd_same⟩)⟩ h
/-- the exception as data -/
def dMkX (C : Addr) (names : List Str) (da : TDa) : TD := fun ρ Q => da ρ fun xs ρ1 => ∃ ds ρ2, frzs ρ1 xs = some (ds, ρ2) ∧ ds.length = names.length ∧ Q (.im (.exc C (names.zip ds).reverse)) ρ2
section
variable {K : PySem.W.Frag} {B : BG} {W : Wp}
theorem Dfs.app {F : Hp} : ∀ {es es' : List (Str × D)} {fs fs' : List (Str × V)}, Dfs K F es fs → Dfs K F es' fs' → Dfs K F (es ++ es') (fs ++ fs')
  | [], _, _, _, h, g => by
    simp only [Dfs] at h
    subst h
    exact g
  | (n, d) :: es, _, _, _, h, g => by
    simp only [Dfs] at h
    obtain ⟨v, r, rfl, h2, h3⟩ := h
    show Dfs K F ((n, d) :: (es ++ _)) _
    simp only [Dfs]
    exact ⟨v, _, rfl, h2, Dfs.app h3 g⟩
theorem dfs_zip {F : Hp} : ∀ {names : List Str} {ds : List D} {vs : List V}, Dvs K F ds vs → Dfs K F (names.zip ds).reverse (names.zip vs).reverse
  | [], _, _, _ => by simp [Dfs]
  | n :: names, [], _, h => by
    simp only [Dvs] at h
    subst h
    simp [Dfs]
  | n :: names, d :: ds, _, h => by
    simp only [Dvs] at h
    obtain ⟨v, r, rfl, h2, h3⟩ := h
    rw [List.zip_cons_cons, List.zip_cons_cons, List.reverse_cons, List.reverse_cons]
    exact (dfs_zip h3).app (by simp only [Dfs]; exact ⟨v, [], rfl, h2, rfl⟩)
theorem se_mkX {C : Addr} {names : List Str} {ta : TA} {da : TDa} (ha : SA K B W ta da) : SE K B W (tMkX C names ta) (dMkX C names da) := fun σ H ρ τ Q Qd w R h k => by
  refine ha σ H ρ τ _ _ w R h fun vs xs H1 ρ1 hl R1 h1 => ?_
  obtain ⟨ds, ρ2, e, hn, hq⟩ := h1
  obtain ⟨F, R2, hd⟩ := R1.freezeAll hl e
  refine ⟨by rw [← hd.length]; exact hn, fun a dx na nd hne => ?_⟩
  have R3 := RelF.newIm (o := exd dx (names.zip vs).reverse) (d := .ref dx) R2 nd (by simp only [Dv])
  have na2 : upd H1 dx (exd dx (names.zip vs).reverse) a = none := by
    rw [upd_ne (Ne.symm hne)]
    exact na
  have fa : upd F dx (exd dx (names.zip vs).reverse) a = none := frozen_not_new R3 na2
  have R4 := RelF.newIm (o := exo a C (some dx)) (d := .exc C (names.zip ds).reverse) R3.pop na2 (by
    simp only [Dv]
    refine ⟨a, dx, _, rfl, upd_same, ?_, (dfs_zip hd).mono ((Ex.new (frozen_not_new R2 nd)).trans (Ex.new fa))⟩
    rw [upd_ne hne, upd_same])
  exact k _ _ _ ρ2 ⟨_, R4⟩ hq
end

/-! ### repr of a list, of a tuple -/
def rRepr (K : PySem.W.Frag) : List V → Hp → VK → Prop := fun xs H Q => ∃ a q, xs = [.ref a] ∧ Dp K H (.ref a) q ∧ q.showable = true ∧ q.hasDict = false ∧ q.depth + 1 ≤ 64 ∧ q.shown.length ≤ sizeLine ∧ Q (.str q.shown) H
theorem call_repr {X : Cx} {k : Nat} (hr : Room k X.A) (hg : X.A.guards = some []) : CallR X (.builtin "repr") (rRepr X.K) := by
  intro pins s σ H xs us Q I r h
  obtain ⟨a, q, rfl, hd, hs, hz, hdp, hl, hq⟩ := h
  cases r with
  | cons r rr =>
    cases rr
    obtain ⟨as, rd⟩ := Dp.reads I q _ _ hd r
    obtain rfl := r
    refine repr_of_reads' rd hs (PyData.noDict_hsm hz) hg (by have := hr.units; omega) (fun _ _ e => e) (fun h' u tk hk => ?_) hl
    exact ⟨.str q.shown, H, I.kept hk, ⟨u, rfl⟩, hq⟩
def fRepr : FN := fun ds k => ∃ d q, ds = [d] ∧ seqD d ≠ none ∧ py d = some q ∧ q.showable = true ∧ q.hasDict = false ∧ q.depth + 1 ≤ 64 ∧ q.shown.length ≤ sizeLine ∧ k (.im (.str q.shown))
theorem ok_repr {K : PySem.W.Frag} : OkN K (rRepr K) fRepr := fun F H vs ds k Q s hv h g => by
  obtain ⟨d, q, rfl, hs, e, h1, h2, h3, h4, hk⟩ := h
  obtain ⟨v, rfl, h5⟩ := vws1 hv
  have hd := dp_of (h5.dv s) e
  cases d with
  | lst ds =>
    obtain ⟨a, ws, rfl, _, _⟩ := h5
    exact ⟨a, q, rfl, hd, h1, h2, h3, h4, g.im _ _ dv_str hk⟩
  | tup ds =>
    obtain ⟨a, ws, rfl, _, _⟩ := h5
    exact ⟨a, q, rfl, hd, h1, h2, h3, h4, g.im _ _ dv_str hk⟩
  | rol ds => simp [py] at e
  | _ => exact absurd rfl hs
end DL
/-! DQ -/
set_option Elab.async false
set_option maxRecDepth 100000
set_option maxHeartbeats 4000000
set_option linter.unusedVariables false
namespace DL
open PySem PySem.Spec PyProof.Rows L2 Evl

/-! ### the text and its reading in data, together -/
structure CE (X : Cx) (K : PySem.W.Frag) (B : BG) (W : Wp) (e : PySem.Expr) (t : TE) (d : TD) : Prop where
  p : PE X e t
  s : SE K B W t d
structure CT (X : Cx) (K : PySem.W.Frag) (B : BG) (W : Wp) (e : PySem.Expr) (t : TT) (d : TDt) : Prop where
  p : PT X e t
  s : ST K B W t d
structure CTw (X : Cx) (K : PySem.W.Frag) (B : BG) (W : Wp) (e : PySem.Expr) (t : TT) (d : TDt) : Prop where
  p : PW X e t
  s : ST K B W t d
structure CTs (X : Cx) (K : PySem.W.Frag) (B : BG) (W : Wp) (e : List PySem.Expr) (t : TT) (d : TDt) : Prop where
  p : PTs X e t
  s : ST K B W t d
structure CA (X : Cx) (K : PySem.W.Frag) (B : BG) (W : Wp) (e : List PySem.Expr) (t : TA) (d : TDa) : Prop where
  p : PA X e t
  s : SA K B W t d
structure CO (X : Cx) (K : PySem.W.Frag) (B : BG) (W : Wp) (e : Option PySem.Expr) (t : TO) (d : TDo) : Prop where
  p : PO X e t
  s : SO K B W t d
structure CI (X : Cx) (K : PySem.W.Frag) (B : BG) (W : Wp) (tg e : PySem.Expr) (t : TI) (d : TDi) : Prop where
  p : PI X tg e t
  s : SI K B W t d
structure CG (X : Cx) (K : PySem.W.Frag) (B : BG) (e : PySem.Expr) (t : TG) (d : DG) : Prop where
  p : PG X e t
  s : SG K B true t d
structure CGs (X : Cx) (K : PySem.W.Frag) (B : BG) (e : List PySem.Expr) (t : TGs) (d : DGs) : Prop where
  p : PGs X e t
  s : SGs K B true t d
structure CGC (X : Cx) (K : PySem.W.Frag) (B : BG) (vs : List Nat) (e : PySem.Expr) (t : TG) (d : DG) : Prop where
  p : PG X e t
  s : SGC K B vs t d
structure CGCs (X : Cx) (K : PySem.W.Frag) (B : BG) (vs : List Nat) (e : List PySem.Expr) (t : TGs) (d : DGs) : Prop where
  p : PGs X e t
  s : SGCs K B vs t d
structure CS (X : Cx) (K : PySem.W.Frag) (B : BG) (W : Wp) (e : PySem.Stmt) (t : TS) (d : TDs) : Prop where
  p : PS X e t
  s : SS K B W t d
structure CSs (X : Cx) (K : PySem.W.Frag) (B : BG) (W : Wp) (e : List PySem.Stmt) (t : TS) (d : TDs) : Prop where
  p : PSs X e t
  s : SS K B W t d
section
variable {X : Cx} {K : PySem.W.Frag} {B : BG} {W : Wp} {a b c e o : PySem.Expr} {rest es : List PySem.Expr} {ta tb te : TE} {da db de : TD} {tt tu : TT} {dt du : TDt} {tr : TA} {dr : TDa} {pos p p2 p3 : Pos} {x : Str}
/-! names, constants -/
theorem ce_var (i : Nat) (hN : X.N[i]? = some x := by rfl) (hv : Vis X.env.scope x := by first | exact Or.inl rfl | exact Or.inr (Or.inl rfl) | exact Or.inr (Or.inr rfl)) (hd : (x == ("__debug__" : Str)) = false := by decide)
    (hcd : (x == ("__classdict__" : Str)) = false := by decide) : CE X K B W (.Name x pos) (tVar i) (dVar i) := ⟨pe_var hN hv hd hcd, se_var⟩
theorem ce_int {i : Int} {j} : CE X K B W (.Constant (.int i) j pos) (tC (.int i)) (dC (.int i)) := ⟨pe_int, se_int⟩
theorem ce_bl {i : Bool} {j} : CE X K B W (.Constant (.bool i) j pos) (tC (.bl i)) (dC (.bl i)) := ⟨pe_bl, se_bl⟩
theorem ce_str {i : Str} {j} : CE X K B W (.Constant (.str i) j pos) (tC (.str i)) (dC (.str i)) := ⟨pe_str, se_str⟩
theorem ce_non {j} : CE X K B W (.Constant .none j pos) (tC .non) (dC .non) := ⟨pe_non, se_non⟩
theorem ce_cls {C : Addr} (hm : X.mg x = some (.ref C)) (hg : Gl X x := by rfl) (hd : (x == ("__debug__" : Str)) = false := by decide) : CE X K B W (.Name x pos) (tC (.ref C)) (dC (.ref C)) := ⟨pe_glob hg hm rfl hd, se_ref⟩
theorem ce_ty {n : String} (hm : X.mg x = none) (hv : bootBuiltins x = some (.type n)) (hg : Gl X x := by rfl) (hn : x ≠ "__name__" := by decide) (hd : (x == ("__debug__" : Str)) = false := by decide) : CE X K B W (.Name x pos) (tC (.ty n)) (dC (.ty n)) := ⟨pe_bltn hg hm hv rfl hn hd, se_ty⟩
/-! operators -/
theorem ce_op {op : Operator} {r : R2} {f : F2} (hr : Ok2 K r f) (ho : OpR X (binaryOp op) r) (ha : CE X K B W a ta da) (hb : CE X K B W b tb db) : CE X K B W (.BinOp a op b pos) (tOp r ta tb) (d2 f da db) := ⟨pe_op ho ha.p hb.p, se_2 hr ha.s hb.s⟩
theorem ce_add (ha : CE X K B W a ta da) (hb : CE X K B W b tb db) (hK : X.K = K := by rfl) : CE X K B W (.BinOp a .Add b pos) (tOp (rAdd4 K) ta tb) (d2 fAdd da db) := by
  subst hK
  exact ce_op ok_add4 op_add4 ha hb
def fI0' (g : Int → Int → D) : F2 := fun d e k => fI0 g d e fun z => k (.im z)
def fI' (C : Int → Int → Prop) (g : Int → Int → D) : F2 := fun d e k => fI C g d e fun z => k (.im z)
theorem ce_sub (ha : CE X K B W a ta da) (hb : CE X K B W b tb db) : CE X K B W (.BinOp a .Sub b pos) (tOp (rI0 fun i j => .int (i - j)) ta tb) (d2 (fI0' fun i j => .int (i - j)) da db) := ce_op (ok_lift ok_sub) op_sub ha hb
theorem ce_mul (ha : CE X K B W a ta da) (hb : CE X K B W b tb db) : CE X K B W (.BinOp a .Mult b pos) (tOp (rI CMul fun i j => .int (i * j)) ta tb) (d2 (fI' CMul fun i j => .int (i * j)) da db) := ce_op (ok_lift ok_mul) op_mul ha hb
theorem ce_pow (ha : CE X K B W a ta da) (hb : CE X K B W b tb db) : CE X K B W (.BinOp a .Pow b pos) (tOp (rI CPow fun i j => .int (i ^ j.toNat)) ta tb) (d2 (fI' CPow fun i j => .int (i ^ j.toNat)) da db) := ce_op (ok_lift ok_pow) op_pow ha hb
theorem ce_mod (ha : CE X K B W a ta da) (hb : CE X K B W b tb db) : CE X K B W (.BinOp a .Mod b pos) (tOp (rI (fun _ j => 0 < j) fun i j => .int (i % j)) ta tb) (d2 (fI' (fun _ j => 0 < j) fun i j => .int (i % j)) da db) := ce_op (ok_lift ok_mod) op_mod ha hb
theorem ok_fdivN {K : PySem.W.Frag} : OkBin K (rI CDivN fun i j => .int (i.fdiv j)) (fI CDivN fun i j => .int (i.fdiv j)) := ok_I fun F i j => by simp only [Dv]
theorem ce_fdiv (ha : CE X K B W a ta da) (hb : CE X K B W b tb db) : CE X K B W (.BinOp a .FloorDiv b pos) (tOp (rI CDivN fun i j => .int (i.fdiv j)) ta tb) (d2 (fI' CDivN fun i j => .int (i.fdiv j)) da db) := ce_op (ok_lift ok_fdivN) op_fdivN ha hb
def fNeg : FU := fun d k => ∃ i, d = .int i ∧ k (.int (-i))
theorem ce_neg (ha : CE X K B W a ta da) : CE X K B W (.UnaryOp .USub a pos) (tUn (rU fun i => .int (-i)) ta) (dUn fNeg da) := ⟨pe_un un_neg ha.p, se_un ok_neg ha.s⟩
/-! comparisons -/
def fLift (f : FB) : F2 := fun d e k => f d e fun z => k (.im z)
theorem ce_cmp {op : CmpOp} {r : R2} {f : F2} (hr : Ok2 K r f) (ho : OpR X (compareOp op) r) (hm : behindInMarks op b = false) (ha : CE X K B W a ta da) (hb : CE X K B W b tb db) : CE X K B W (.Compare a [op] [b] pos) (tOp r ta tb) (d2 f da db) := ⟨pe_cmpR ho ha.p hb.p hm, se_2 hr ha.s hb.s⟩
theorem ct_cmp {op : CmpOp} {r : R2} {f : F2} (hr : Ok2 K r f) (ho : OpR X (compareOp op) r) (hm : behindInMarks op b = false) (ha : CE X K B W a ta da) (hb : CE X K B W b tb db) : CT X K B W (.Compare a [op] [b] pos) (tTest (tOp r ta tb)) (dTest (d2 f da db)) := ⟨pt_cmpR ho ha.p hb.p hm, st_test (se_2 hr ha.s hb.s)⟩
/-- == of texts, of ints, of data -/
def fEqA (f : Bool → Bool) : F2 := fun d e k => match d, e with
  | .str i, .str j => k (.im (.bl (f (decide (i = j)))))
  | .int i, .int j => k (.im (.bl (f (decide (i = j)))))
  | d, e => fLift (fEq f) d e k
theorem ok_eqA {K : PySem.W.Frag} {f : Bool → Bool} {r1 r2 : R2} (h1 : ∀ (x y : V) (H : Hp) (Q : VK), scal x y = true → Q (.bl (f (decide (x = y)))) H → r1 x y H Q) (h2 : OkBin K r2 (fEq f)) : Ok2 K (fun x y H Q => r1 x y H Q ∨ r2 x y H Q) (fEqA f) := fun F H v w d e k Q s hv hw h g => by
  unfold fEqA at h
  split at h
  · simp only [Vw] at hv hw
    subst hv hw
    refine .inl (h1 _ _ H Q rfl ?_)
    simp only [V.str.injEq]
    exact g.im _ _ dv_bl h
  · simp only [Vw] at hv hw
    subst hv hw
    refine .inl (h1 _ _ H Q rfl ?_)
    simp only [V.int.injEq]
    exact g.im _ _ dv_bl h
  · exact .inr (ok_lift h2 F H v w _ _ k Q s hv hw h g)
theorem op_eqA {X : Cx} {k : Nat} (hr : Room k X.A) : OpR X (compareOp .Eq) (fun x y H Q => rEq x y H Q ∨ rEqD X.K x y H Q) := op_eq.or (op_eqD hr.units)
theorem op_neA {X : Cx} {k : Nat} (hr : Room k X.A) : OpR X (compareOp .NotEq) (fun x y H Q => rNe x y H Q ∨ rNeD X.K x y H Q) := op_ne.or (op_neD hr.units)
theorem ok_eqQ {K : PySem.W.Frag} : Ok2 K (fun x y H Q => rEq x y H Q ∨ rEqD K x y H Q) (fEqA id) := ok_eqA (fun x y H Q h q => ⟨h, q⟩) ok_eq
theorem ok_neQ {K : PySem.W.Frag} : Ok2 K (fun x y H Q => rNe x y H Q ∨ rNeD K x y H Q) (fEqA not) := ok_eqA (fun x y H Q h q => ⟨h, q⟩) ok_ne
theorem units64 {X : Cx} {k : Nat} (hr : Room k X.A) : X.A.units + 64 < cLine := hr.units
theorem ce_eq {k : Nat} (hr : Room k X.A) (ha : CE X K B W a ta da) (hb : CE X K B W b tb db) (hK : X.K = K := by rfl) : CE X K B W (.Compare a [.Eq] [b] pos) (tOp (fun x y H Q => rEq x y H Q ∨ rEqD K x y H Q) ta tb) (d2 (fEqA id) da db) := by
  subst hK
  exact ce_cmp ok_eqQ (op_eqA hr) (nomark _) ha hb
theorem ce_ne {k : Nat} (hr : Room k X.A) (ha : CE X K B W a ta da) (hb : CE X K B W b tb db) (hK : X.K = K := by rfl) : CE X K B W (.Compare a [.NotEq] [b] pos) (tOp (fun x y H Q => rNe x y H Q ∨ rNeD K x y H Q) ta tb) (d2 (fEqA not) da db) := by
  subst hK
  exact ce_cmp ok_neQ (op_neA hr) (nomark _) ha hb
theorem ct_eq {k : Nat} (hr : Room k X.A) (ha : CE X K B W a ta da) (hb : CE X K B W b tb db) (hK : X.K = K := by rfl) : CT X K B W (.Compare a [.Eq] [b] pos) (tTest (tOp (fun x y H Q => rEq x y H Q ∨ rEqD K x y H Q) ta tb)) (dTest (d2 (fEqA id) da db)) := by
  subst hK
  exact ct_cmp ok_eqQ (op_eqA hr) (nomark _) ha hb
theorem ct_ne {k : Nat} (hr : Room k X.A) (ha : CE X K B W a ta da) (hb : CE X K B W b tb db) (hK : X.K = K := by rfl) : CT X K B W (.Compare a [.NotEq] [b] pos) (tTest (tOp (fun x y H Q => rNe x y H Q ∨ rNeD K x y H Q) ta tb)) (dTest (d2 (fEqA not) da db)) := by
  subst hK
  exact ct_cmp ok_neQ (op_neA hr) (nomark _) ha hb
/-! tests -/
theorem ct_val (h : CE X K B W e te de) (he : ∀ whole, isTrue e X.env whole = (do let v ← whole; standAt e.pos; holding [v] (truthy v)) := by intro _; rfl) : CT X K B W e (tB te) (dTest de) := ⟨pt_val h.p he, st_B h.s⟩
theorem ct_not (h : CT X K B W a tt dt) : CT X K B W (.UnaryOp .Not a pos) (tNot tt) (dNot dt) := ⟨pt_not h.p, st_not h.s⟩
theorem cw_and1 (h : CT X K B W a tt dt) : CTw X K B W (.BoolOp .And [a] pos) tt dt := ⟨pw_and1 h.p, h.s⟩
theorem cw_or1 (h : CT X K B W a tt dt) : CTw X K B W (.BoolOp .Or [a] pos) tt dt := ⟨pw_or1 h.p, h.s⟩
theorem cw_and (h : CT X K B W a tt dt) (g : CTw X K B W (.BoolOp .And (b :: rest) pos) tu du) : CTw X K B W (.BoolOp .And (a :: b :: rest) pos) (tAnd tt tu) (dAnd dt du) := ⟨pw_and h.p g.p, st_and h.s g.s⟩
theorem cw_or (h : CT X K B W a tt dt) (g : CTw X K B W (.BoolOp .Or (b :: rest) pos) tu du) : CTw X K B W (.BoolOp .Or (a :: b :: rest) pos) (tOr tt tu) (dOr dt du) := ⟨pw_or h.p g.p, st_or h.s g.s⟩
theorem ct_w (h : CTw X K B W e tt dt) : CT X K B W e tt dt := ⟨h.p.pt, h.s⟩
theorem ce_one {op} (h : CE X K B W a ta da) : CE X K B W (.BoolOp op [a] pos) ta da := ⟨pe_one h.p, h.s⟩
theorem ce_and (h : CE X K B W a ta da) (g : CE X K B W (.BoolOp .And (b :: rest) pos) tb db) : CE X K B W (.BoolOp .And (a :: b :: rest) pos) (tAndV ta tb) (dAndV da db) := ⟨pe_and h.p g.p, se_andV h.s g.s⟩
theorem ce_or (h : CE X K B W a ta da) (g : CE X K B W (.BoolOp .Or (b :: rest) pos) tb db) : CE X K B W (.BoolOp .Or (a :: b :: rest) pos) (tOrV ta tb) (dOrV da db) := ⟨pe_or h.p g.p, se_orV h.s g.s⟩
theorem ce_not (h : CE X K B W a ta da) : CE X K B W (.UnaryOp .Not a pos) (tNotV ta) (dNotV da) := ⟨pe_not h.p, se_notV h.s⟩
theorem ce_if (h : CT X K B W c tt dt) (ha : CE X K B W a ta da) (hb : CE X K B W b tb db) : CE X K B W (.IfExp c a b pos) (tIf tt ta tb) (dIf dt da db) := ⟨pe_ifExp h.p ha.p hb.p, se_if h.s ha.s hb.s⟩
/-! arguments, displays -/
theorem ca_nil : CA X K B W [] tNil dNil := ⟨pa_nil, sa_nil⟩
theorem ca_cons (ha : CE X K B W e te de) (hr : CA X K B W es tr dr) (hs : starEach (e :: es) X.env = (false, eval e X.env) :: starEach es X.env := by rfl) : CA X K B W (e :: es) (tCons te tr) (dCons de dr) := ⟨pa_cons ha.p hr.p hs, sa_cons ha.s hr.s⟩
theorem ce_tup {k} (h : CA X K B W es tr dr) : CE X K B W (.Tuple es k pos) (tTup tr) (dTup dr) := ⟨pe_tup h.p, se_tup h.s⟩
theorem ce_lst (h : CA X K B W es tr dr) : CE X K B W (.List es pos) (tLst tr) (dLst dr) := ⟨pe_lst h.p, se_lst h.s⟩
/-! subscripts -/
theorem ce_ix (ha : CE X K B W a ta da) (hb : CE X K B W b tb db) (hs : PlainIx b := by intro _ _; rfl) (hK : X.K = K := by rfl) : CE X K B W (.Subscript a b pos) (tOp (rIx K) ta tb) (d2 fIx da db) := by
  subst hK
  exact ⟨pe_ix ix_seq ha.p hb.p hs, se_2 ok_ix ha.s hb.s⟩
theorem ce_get {k : Nat} (hr : Room k X.A) (ha : CE X K B W a ta da) (hb : CE X K B W b tb db) (hs : NoSl b := by intro _ _; rfl) : CE X K B W (.Subscript a b pos) (tDGet ta tb) (dGet da db) := ⟨pe_dget (by have := hr.units; omega) ha.p hb.p hs, se_get ha.s hb.s⟩
theorem co_none : CO X K B W none tNoPart dNoPart := ⟨po_none, so_none⟩
theorem co_some (h : CE X K B W e te de) : CO X K B W (some e) (tPart te) (dPart de) := ⟨po_some h.p, so_some h.s⟩
theorem ce_sl {lo hi : Option PySem.Expr} {tl th : TO} {dl dh : TDo} (he : CE X K B W e te de) (hl : CO X K B W lo tl dl) (hh : CO X K B W hi th dh) (hK : X.K = K := by rfl) : CE X K B W (.Subscript e (.Slice lo hi none p2) pos) (tSl (rSl3 K) te tl th) (dSl de dl dh) := by
  subst hK
  exact ⟨pe_slice sl_3 he.p hl.p hh.p, se_sl he.s hl.s hh.s⟩
/-! built-ins -/
theorem ce_cb {id : String} {r : List V → Hp → VK → Prop} {f : FN} (ho : OkN K r f) (hc : CallR X (.builtin id) r) (hv : bootBuiltins x = some (.builtin id)) (hm : X.mg x = none) (ha : CA X K B W (e :: es) tr dr) (hg : Gl X x := by rfl) (hn : x ≠ "__name__" := by decide) (hdb : (x == ("__debug__" : Str)) = false := by decide)
    (he : starEach (e :: es) X.env = (false, eval e X.env) :: starEach es X.env := by rfl) (hpl : (backTo pos (starEach es X.env)).any (·.1) = false := by rfl) : CE X K B W (.Call (.Name x p) (e :: es) [] pos) (tCB r tr) (dCB f dr) := ⟨pe_callB hc hg hm hv ha.p hn hdb he hpl, se_cb ho ha.s⟩
theorem ce_ct {T : String} {r : List V → Hp → VK → Prop} {f : FN} (ho : OkN K r f) (hc : CallR X (.type T) r) (hv : bootBuiltins x = some (.type T)) (hm : X.mg x = none) (ha : CA X K B W (e :: es) tr dr) (hg : Gl X x := by rfl) (hn : x ≠ "__name__" := by decide) (hdb : (x == ("__debug__" : Str)) = false := by decide)
    (he : starEach (e :: es) X.env = (false, eval e X.env) :: starEach es X.env := by rfl) (hpl : (backTo pos (starEach es X.env)).any (·.1) = false := by rfl) : CE X K B W (.Call (.Name x p) (e :: es) [] pos) (tCB r tr) (dCB f dr) := ⟨pe_callTy hc hg hm hv ha.p hn hdb he hpl, se_cb ho ha.s⟩
def rInt1 : List V → Hp → VK → Prop := fun xs H Q => (∃ i, xs = [.int i] ∧ Q (.int i) H) ∨ ∃ k, xs = [.bl k] ∧ Q (.int (if k then 1 else 0)) H
def fInt1 : FN := fun ds k => ∃ i, ds = [.int i] ∧ k (.im (.int i))
theorem ok_int1 {K : PySem.W.Frag} : OkN K rInt1 fInt1 := fun F H vs ds k Q s hv h g => by
  obtain ⟨i, rfl, hk⟩ := h
  obtain ⟨v, rfl, h1⟩ := vws1 hv
  simp only [Vw] at h1
  subst h1
  exact .inl ⟨i, rfl, g.im _ _ dv_int hk⟩
/-! own exceptions -/
theorem ce_xf {cs : List (Addr × List Str)} {f : Str} (kn : Knows K cs) (h : CE X K B W e te de) (hb : attributeBase e f X.env (eval e X.env) = eval e X.env := by rfl) (hK : X.K = K := by rfl) : CE X K B W (.Attribute e f pos) (tXF K te f) (dXF cs de f) := by
  subst hK
  exact ⟨pe_xf h.p hb, se_xf kn h.s⟩
theorem ce_mkX {C : Addr} {names : List Str} (xc : XCl X.K C names) (io : InitOk X.prog X.w X.K X.mg X.base C names) (hn : names.length ≤ 900) (hr : Room 2 X.A) (hm : X.mg x = some (.ref C)) (ha : CA X K B W (e :: es) tr dr) (hg : Gl X x := by rfl)
    (hdb : (x == ("__debug__" : Str)) = false := by decide) (he : starEach (e :: es) X.env = (false, eval e X.env) :: starEach es X.env := by rfl) (hpl : (backTo pos (starEach es X.env)).any (·.1) = false := by rfl) (hK : X.K = K := by rfl) : CE X K B W (.Call (.Name x p) (e :: es) [] pos) (tMkX C names tr) (dMkX C names dr) := by
  subst hK
  exact ⟨pe_mkX xc io hn hr hg hm ha.p hdb he hpl, se_mkX ha.s⟩
theorem ce_mk0 {C : Addr} {bmB : List Value} {B0 initId : String} (Fb : ExcBaseFacts B0 "ValueError.__new__" initId bmB) (q : PySem.W.excIn X.K C bmB "ValueError.__new__" = true) (hk : PySem.W.keepIn X.K (.ref C) = true) (hm : X.mg x = some (.ref C)) (hg : Gl X x := by rfl) (hdb : (x == ("__debug__" : Str)) = false := by decide) (hK : X.K = K := by rfl) : CE X K B W (.Call (.Name x p) [] [] pos) (tMk0 C) (dMk0 C) := by
  subst hK
  exact ⟨pe_mk0 Fb q hk hg hm hdb, se_mk0⟩
/-! own defs -/
/-- a def of the program, as it is called -/
structure FD (P : Program) (w : World) (K : PySem.W.Frag) (mg : Str → Option Value) (base : Heap) (k : Nat) (x : Str) (ps : List Str) (f : TF) : Prop where
  ex : ∃ fa fd, mg x = some (.ref fa) ∧ PySem.W.keepIn K (.ref fa) = true ∧ Binds K fd ps [] ∧ FnG P w K mg base k fa fd ps (SpD K f)
theorem ce_call {k : Nat} {ps : List Str} {f : TF} (G : FD X.prog X.w X.K X.mg X.base k x ps f) (hr : Room k X.A) (hgd : X.A.guards = some []) (tk : Takes X W.w) (ha : CA X K B W (e :: es) tr dr) (hg : Gl X x := by rfl)
    (hdb : (x == ("__debug__" : Str)) = false := by decide) (he : starEach (e :: es) X.env = (false, eval e X.env) :: starEach es X.env := by rfl) (hpl : (backTo pos (starEach es X.env)).any (·.1) = false := by rfl) (hK : X.K = K := by rfl) : CE X K B W (.Call (.Name x p) (e :: es) [] pos) (tCallS (SpD K f) (WE W.w) tr) (dCall f W.d dr) := by
  subst hK
  obtain ⟨fa, fd, hm, hk, hb, F⟩ := G.ex
  exact ⟨pe_callFG F hr hgd hg hm hk hb (fun σ => passAt tk σ) ha.p hdb he hpl, se_call ha.s⟩
theorem ce_callIo {k : Nat} {ps : List Str} {f : TF} (i : Nat) (G : FD X.prog X.w X.K X.mg X.base k x ps f) (hr : Room k X.A) (hgd : X.A.guards = some []) (tk : Takes X W.w) (ha : CE X K B W e (tVar i) (dVar i)) (hs : CA X K B W es tr dr) (hg : Gl X x := by rfl)
    (hdb : (x == ("__debug__" : Str)) = false := by decide) (he : starEach (e :: es) X.env = (false, eval e X.env) :: starEach es X.env := by rfl) (hpl : (backTo pos (starEach es X.env)).any (·.1) = false := by rfl) (hK : X.K = K := by rfl) : CE X K B W (.Call (.Name x p) (e :: es) [] pos) (tCallS (SpD K f) (WE W.w) (tCons (tVar i) tr)) (dCallIo f W.d i dr) := by
  subst hK
  obtain ⟨fa, fd, hm, hk, hb, F⟩ := G.ex
  exact ⟨pe_callFG F hr hgd hg hm hk hb (fun σ => passAt tk σ) (pa_cons ha.p hs.p he) hdb he hpl, se_callIo hs.s⟩
/-! methods that change slot i's list -/
theorem ce_mut {name : Str} {id : String} {r : V → List V → Hp → VK → Prop} {f : FM} (i : Nat) {apos : Pos} (slot : Slot "list" name id) (hty : typeOf (.builtin id) = pure (.type "method_descriptor")) (hm : MtR X id r) (hf : OkMut K "list" r f) (ho : CE X K B W o (tVar i) (dVar i)) (ha : CA X K B W (e :: es) tr dr)
    (hbase : attributeBase o name X.env (eval o X.env) = eval o X.env := by rfl)
    (few : ((backTo pos (starEach (e :: es) X.env)).all (fun x => !x.1) && (backToKw pos (keywordEach [] X.env)).all (fun x => x.1.isSome) && decide ((e :: es).length + ([] : List Keyword).length + (if ([] : List Keyword).isEmpty then 0 else 1) < 30)) = true := by rfl)
    (line : (apos.endLine == pos.line) = true := by rfl) (hs : starEach (e :: es) X.env = (false, eval e X.env) :: starEach es X.env := by rfl) (plain : (backTo pos (starEach es X.env)).any (·.1) = false := by rfl) (hK : X.K = K := by rfl) : CE X K B W (.Call (.Attribute o name apos) (e :: es) [] pos) (tBM K "list" r (tVar i) tr) (dMut "list" i f dr) := by
  subst hK
  exact ⟨pe_bm PySem.F.plainAttrs_list slot hty hm ho.p ha.p hbase few line hs plain, se_mut hf ha.s⟩
/-! walks, comprehensions -/
theorem ci_seq {tg : PySem.Expr} (h : CE X K B W e te de) (hK : X.K = K := by rfl) : CI X K B W tg e (iSeq K te) (diSeq de) := by
  subst hK
  exact ⟨pi_seq h.p, si_seq h.s⟩
theorem ci_rng1 {tg : PySem.Expr} (hm : X.mg "range" = none) (ha : CA X K B W [a] tr dr) (hg : Gl X "range" := by rfl) (hs : starEach [a] X.env = [(false, eval a X.env)] := by rfl) : CI X K B W tg (.Call (.Name "range" p) [a] [] pos) (iRng1 tr) (diRng1 dr) := ⟨pi_range1 hg hm ha.p hs, si_rng1 ha.s⟩
theorem ci_enum {k} {elts : List PySem.Expr} (hm : X.mg "enumerate" = none) (ha : CA X K B W [a] tr dr) (hg : Gl X "enumerate" := by rfl) (hs : starEach [a] X.env = [(false, eval a X.env)] := by rfl) (hK : X.K = K := by rfl) : CI X K B W (.Tuple elts k p2) (.Call (.Name "enumerate" p) [a] [] pos) (iEnum K tr) (diEnum dr) := by
  subst hK
  exact ⟨pi_enum hg hm ha.p hs, si_enum ha.s⟩
theorem cts_nil : CTs X K B W [] tYes dYes := ⟨pts_nil, st_yes⟩
theorem cts_one (h : CT X K B W e tt dt) : CTs X K B W [e] tt dt := ⟨pts_one h.p, h.s⟩
theorem cgc_name {vs : List Nat} (i : Nat) (hi : i ∈ vs) (hN : X.N.Nodup) (h : X.N[i]? = some x := by rfl) (hx : Loc X.env.scope x := by first | exact Or.inl rfl | exact Or.inr rfl) (hf : X.fn x = true ∨ X.env.scope.names.lookup x = some .local := by first | exact .inl rfl | exact .inr rfl) : CGC X K B vs (.Name x pos) (gName i) (dNameC i) := ⟨pg_name hN h hx hf, sgc_name hi⟩
theorem cg_name (i : Nat) (hN : X.N.Nodup) (h : X.N[i]? = some x := by rfl) (hx : Loc X.env.scope x := by first | exact Or.inl rfl | exact Or.inr rfl) (hf : X.fn x = true ∨ X.env.scope.names.lookup x = some .local := by first | exact .inl rfl | exact .inr rfl) : CG X K B (.Name x pos) (gName i) (dName i) := ⟨pg_name hN h hx hf, sg_name⟩
theorem ce_lc {elt tg iter : PySem.Expr} {ifs : List PySem.Expr} {scope : Scope} {ti : TI} {g : TG} {di : TDi} {dg : DG} (own : List (Str × Nat)) (hc : X.calm = true) (hN : X.N.Nodup) (hi : CI X K B W tg iter ti di) (ok : BlkOk X.N X.env.scope scope own)
    (hg : ∀ (s : Shared) (H : Hp) (C : Addr) (cl : List (Str × Addr)) (fp : List Addr), CGC (X.blk s H scope (compEnvC scope cl C X.env) fp) K B (own.map (·.2)) tg g dg) (ht : ∀ (s : Shared) (H : Hp) (C : Addr) (cl : List (Str × Addr)) (fp : List Addr), CTs (X.blk s H scope (compEnvC scope cl C X.env) fp) K B W0 ifs tt dt)
    (he : ∀ (s : Shared) (H : Hp) (C : Addr) (cl : List (Str × Addr)) (fp : List Addr), CE (X.blk s H scope (compEnvC scope cl C X.env) fp) K B W0 elt te de) (hs : ∀ x, foldedSetIterable iter X.env x = pure x := by intro _; rfl) :
    CE X K B W (.ListComp elt [⟨tg, iter, ifs, 0⟩] scope pos) (tLc ti g tt te (own.map (·.2))) (dLc di dg dt de (own.map (·.2))) :=
  ⟨pe_lc hc hN hi.p ok (fun s H C cl fp => (hg s H C cl fp).p) (fun s H C cl fp => (ht s H C cl fp).p) (fun s H C cl fp => (he s H C cl fp).p) hs,
    se_lc hi.s (hg X.s_0 X.H_0 0 [] []).s (ht X.s_0 X.H_0 0 [] []).s (he X.s_0 X.H_0 0 [] []).s⟩
/-! dict displays -/
structure CPs (X : Cx) (K : PySem.W.Frag) (B : BG) (W : Wp) (pos : Pos) (ks : List (Option PySem.Expr)) (vs : List PySem.Expr) (ts : List (TE × TE)) (ds : List (TD × TD)) : Prop where
  p : PPs X pos ks vs ts
  s : SPs K B W ts ds
theorem cps_nil : CPs X K B W pos [] [] [] [] := ⟨pps_nil, .nil⟩
theorem cps_cons {ks : List (Option PySem.Expr)} {vs : List PySem.Expr} {ts : List (TE × TE)} {ds : List (TD × TD)} (ha : CE X K B W a ta da) (hb : CE X K B W b tb db) (h : CPs X K B W pos ks vs ts ds) : CPs X K B W pos (some a :: ks) (b :: vs) ((ta, tb) :: ts) ((da, db) :: ds) := ⟨pps_cons ha.p hb.p h.p, .cons ha.s hb.s h.s⟩
theorem ce_disp {ks : List (Option PySem.Expr)} {vs : List PySem.Expr} {ts : List (TE × TE)} {ds : List (TD × TD)} (h : CPs X K B W pos ks vs ts ds) (hall : ks.all (·.isSome) = true := by rfl) (hl : ks.length = vs.length := by rfl) (h0 : ks ≠ [] := by simp) (h15 : ks.length ≤ 15 := by decide) : CE X K B W (.Dict ks vs pos) (tDisp ts) (dDisp ds) := ⟨pe_disp h.p hall hl h0 h15, se_disp h.s⟩
/-! statements -/
variable {st : PySem.Stmt} {sts sus : List PySem.Stmt} {t u : TS} {dS dU : TDs} {g : TG} {dg : DG}
theorem css_nil : CSs X K B W [] tNext dNext := ⟨pss_nil, ss_next⟩
theorem css_cons (h : CS X K B W st t dS) (r : CSs X K B W sts u dU) : CSs X K B W (st :: sts) (tSeq t u) (dSeq dS dU) := ⟨pss_cons h.p r.p, ss_seq h.s r.s⟩
theorem css_one (h : CS X K B W st t dS) : CSs X K B W [st] t dS := ⟨pss_one h.p, h.s⟩
theorem cs_expr (h : CE X K B W e te de) (hs : swapsWith e none pos.line X.env = pure false := by rfl) : CS X K B W (.Expr e pos) (tDrop te) (dDrop de) := ⟨ps_expr h.p hs, ss_drop h.s⟩
theorem cs_ret (h : CE X K B W e te de) : CS X K B W (.Return (some e) pos) (tRet te) (dRet de) := ⟨ps_ret h.p, ss_ret h.s⟩
theorem cs_if (h : CT X K B W c tt dt) (ha : CSs X K B W sts t dS) (hb : CSs X K B W sus u dU) : CS X K B W (.If c sts sus pos) (tIfS tt t u) (dIfS dt dS dU) := ⟨ps_if h.p ha.p hb.p, ss_if h.s ha.s hb.s⟩
theorem cs_asg {tg : PySem.Expr} (h : CE X K B W e te de) (k : CG X K B tg g dg) (hs : swapsWithSole [tg] e pos.line X.env = pure false := by rfl) (hw : swappedStores [tg] e X.env = pure none := by rfl)
    (h1 : (assignEach [tg] X.env).map (·.2) = [assign tg X.env] := by rfl) : CS X K B W (.Assign [tg] e pos) (tAsg te g) (dAsg de dg) := ⟨ps_asg h.p k.p hs hw h1, ss_asg h.s k.s⟩
theorem cs_for {tg : PySem.Expr} {ti : TI} {di : TDi} (hp : PassesOwn (model X.prog X.w) X.A X.env X.xe) (hc : X.calm = true) (hi : CI X K B W tg e ti di) (hg : CG X K B tg g dg) (hb : CSs X K B W sts t dS) (hs : ∀ x, foldedSetIterable e X.env x = pure x := by intro _; rfl) :
    CS X K B W (.For tg e sts [] pos) (tFor ti g t) (dFor di dg dS) := ⟨ps_for hp hc hi.p hg.p hb.p hs, ss_for hi.s hg.s hb.s⟩
theorem cs_brk : CS X K B W (.Break pos) tBreak dBreak := ⟨ps_break, ss_break⟩
theorem cs_cnt : CS X K B W (.Continue pos) tCont dCont := ⟨ps_continue, ss_cont⟩
theorem cs_put {k : Nat} (i : Nat) (hr : Room k X.A) (ho : CE X K B W o (tVar i) (dVar i)) (hk : CE X K B W a ta da) (hv : CE X K B W b tb db) (hs : swapsWith b (some (.Subscript o a p)) pos.line X.env = pure false := by rfl) :
    CS X K B W (.Assign [.Subscript o a p] b pos) (sDPut (tVar i) ta tb) (dPut i da db) := ⟨ps_dput (by have := hr.units; omega) ho.p hk.p hv.p hs, ss_put hk.s hv.s⟩
/-! targets -/
theorem PG.or {tg : PySem.Expr} {g1 g2 : TG} (h1 : PG X tg g1) (h2 : PG X tg g2) : PG X tg (fun v σ H Q => g1 v σ H Q ∨ g2 v σ H Q) :=
  ⟨fun pins s σ H v u Q I r h => h.elim (h1.run pins s σ H v u Q I r) (h2.run pins s σ H v u Q I r)⟩
theorem cgs_nil : CGs X K B [] gNil dgNil := ⟨pgs_nil, sgs_nil⟩
theorem cgs_cons {tg : TGs} {dgs : DGs} (h : CG X K B e g dg) (r : CGs X K B es tg dgs) (hs : (assignEach (e :: es) X.env).map (·.2) = assign e X.env :: (assignEach es X.env).map (·.2) := by rfl) : CGs X K B (e :: es) (gCons g tg) (dgCons dg dgs) := ⟨pgs_cons h.p r.p hs, sgs_cons h.s r.s⟩
theorem cg_tup {k} {n : Nat} {tg : TGs} {dgs : DGs} (hc : X.calm = true) (h : CGs X K B es tg dgs) (hn : (assignEach es X.env).length = n := by rfl) (hst : (assignEach es X.env).findIdx? (·.1) = none := by rfl) (hK : X.K = K := by rfl) : CG X K B (.Tuple es k pos) (gUnp K n tg) (dUnp n dgs) := by
  subst hK
  exact ⟨PG.or (pg_tup hc h.p hn hst) (pg_unl hc h.p hn hst), sg_unp h.s⟩
theorem cgcs_nil {vs : List Nat} : CGCs X K B vs [] gNil dgNil := ⟨pgs_nil, sgcs_nil⟩
theorem cgcs_cons {vs : List Nat} {tg : TGs} {dgs : DGs} (h : CGC X K B vs e g dg) (r : CGCs X K B vs es tg dgs) (hs : (assignEach (e :: es) X.env).map (·.2) = assign e X.env :: (assignEach es X.env).map (·.2) := by rfl) : CGCs X K B vs (e :: es) (gCons g tg) (dgCons dg dgs) := ⟨pgs_cons h.p r.p hs, sgcs_cons h.s r.s⟩
theorem cgc_tup {vs : List Nat} {k} {n : Nat} {tg : TGs} {dgs : DGs} (hc : X.calm = true) (h : CGCs X K B vs es tg dgs) (hn : (assignEach es X.env).length = n := by rfl) (hst : (assignEach es X.env).findIdx? (·.1) = none := by rfl) (hK : X.K = K := by rfl) : CGC X K B vs (.Tuple es k pos) (gUnp K n tg) (dUnp n dgs) := by
  subst hK
  exact ⟨PG.or (pg_tup hc h.p hn hst) (pg_unl hc h.p hn hst), sgc_unp h.s⟩
end
/-! ### a def from its text -/
section
variable {P : Program} {w : World} {K : PySem.W.Frag} {mg : Str → Option Value} {base : Heap}
theorem fd_ok {x qual : Str} {st : PySem.Stmt} {f : Addr} {fd : FuncData} {N ps : List Str} {k : Nat} {s : TF} {db : DX → TDs} (G : L2.Fun K x qual st f fd) (S : FnScope N ps (defScope st)) (hb : Binds K fd ps []) (hm : mg x = some (.ref f))
    (len : ∀ o ds k kx, s o ds k kx → ds.length + (match o with
      | some _ => 1
      | none => 0) = ps.length)
    (pure : ∀ o ds k kx, s o ds k kx → bodyF N.length db o ds k kx)
    (text : ∀ (cdv : Value) (A : Around) (outer : List PySem.Env) (s : Shared) (H : Hp) (E : XK) (B : BG) (wd : DX), Room k (A.deeper (envOfC qual (defScope st) s.heap.objs.size f cdv)) → (A.deeper (envOfC qual (defScope st) s.heap.objs.size f cdv)).guards = some [] →
      ∃ t, CSs (cxOf (L2.CX P w) P w K mg base N qual (defScope st) f cdv A outer s H E) K B ⟨fun cls d _ H => E cls d H, wd⟩ (defBody st) t (db wd)) : FD P w K mg base (k + 1) x ps s := by
  have G2 : FnG P w K mg base (k + 1) f fd ps (SpD K s) := by
    refine Fun.okG G S (fun vs H Q E h => ?_) fun cdv A outer sh H vs Q E hr hgd h => ?_
    · obtain ⟨F, io, ds, kk, kx, s0, ha, hs, _⟩ := h
      have hl := len _ _ _ _ hs
      cases io with
      | none =>
        have ha' : Dvs K F ds vs := ha
        rw [← ha'.length]
        exact hl
      | some p =>
        obtain ⟨_, _, r, rfl, hd⟩ := ha
        rw [List.length_cons, ← Dvs.length hd]
        exact hl
    · have h2 : SpD K (bodyF N.length db) vs H Q E := by
        obtain ⟨F, io, ds, kk, kx, s0, ha, hs, hq⟩ := h
        exact ⟨F, io, ds, kk, kx, s0, ha, pure _ _ _ _ hs, hq⟩
      obtain ⟨B, wd, hb2⟩ := body_ok h2
      obtain ⟨t, c⟩ := text cdv A outer sh H E B wd hr hgd
      exact ⟨t, c.p, hb2 t c.s⟩
  exact ⟨f, fd, hm, G.kp, hb, G2⟩
end
end DL
/-! DR -/
set_option Elab.async false
set_option maxRecDepth 100000
set_option maxHeartbeats 4000000
set_option linter.all false
namespace DL
open PySem PySem.Spec PyProof.Rows L2 Evl
/-! ### equations for simp -/
section
variable {ρ : DL.Env} {d e : D} {a : Addr} {i : Nat} {o : Option D} {Q : DV → DL.Env → Prop} {D0 : DEnds} {x : DV}
theorem q_see_im : DL.see ρ (.im d) = some d := rfl
theorem q_see_ow : DL.see ρ (.ow a d) = some d := rfl
theorem q_see_al : DL.see ρ (.al i a) = (match (ρ[i]? : Option S) with
  | some (.ow _ d) => some d
  | some (.fz _ d) => some d
  | _ => none) := rfl
theorem q_frz_im : frz ρ (.im d) = ρ := rfl
theorem q_frz_ow : frz ρ (.ow a d) = ρ := rfl
theorem q_frz_al : frz ρ (.al i a) = (match (ρ[i]? : Option S) with
  | some (.ow b d) => ρ.set i (.fz b d)
  | _ => ρ) := rfl
theorem q_rv_im : rvD o ρ (.im d) = some (.im d) := rfl
theorem q_rv_ow : rvD o ρ (.ow a d) = some (.ow d) := rfl
theorem q_rv_al : rvD o ρ (.al i a) = (match (ρ[i]? : Option S) with
  | some (.ow _ d) => if o.isSome = true ∧ i = 0 then none else some (.ow d)
  | some (.fz _ d) => some (.im d)
  | _ => none) := rfl
theorem q_put {i : Nat} : DL.put ρ i x = (match (ρ[i]? : Option S) with
  | none => none
  | some _ => match x with
    | .im d => some (ρ.set i (.im d))
    | .ow a d => some (ρ.set i (.ow a d))
    | .al j a => match DL.see ρ (.al j a) with
      | some d => some ((frz ρ (.al j a)).set i (.im d))
      | none => none) := rfl
theorem q_loop0 {G : DL.Env → Prop} {dg : DG} {b : TDs} : dLoop G dg b D0 [] ρ = (G ρ ∧ D0.nx ρ) := rfl
theorem q_loop1 {G : DL.Env → Prop} {dg : DG} {b : TDs} {d : D} {ds : List D} : dLoop G dg b D0 (d :: ds) ρ = (G ρ ∧ dg (.im d) ρ fun ρ2 => b { D0 with nx := dLoop G dg b D0 ds, ct := dLoop G dg b D0 ds, bk := D0.nx } ρ2) := rfl
theorem q_ioN {a : Addr} : ioAt a none ρ = some none := rfl
theorem q_ioS {a : Addr} : ioAt a (some d) ρ = (match (ρ[0]? : Option S) with
  | some (.ow b d') => if b = a then some (some d') else none
  | _ => none) := rfl
theorem q_startN {a : Addr} {ds : List D} {n : Nat} : startE a none ds n = ds.map .im ++ List.replicate (n - ds.length) .un := by simp [startE]
theorem q_startS {a : Addr} {ds : List D} {n : Nat} : startE a (some d) ds n = .ow a d :: (ds.map .im ++ List.replicate (n - ds.length - 1) .un) := by simp [startE]
theorem q_rvI {k : DV → Prop} : rvK (.im d) k = k (.im d) := rfl
theorem q_rvO {k : DV → Prop} : rvK (.ow d) k = ∀ p, k (.ow p d) := rfl
theorem q_eqv_int {i j : Int} : PyData.eqv (.int i) (.int j) = (i == j) := rfl
theorem q_eqv_str {i j : Str} : PyData.eqv (.str i) (.str j) = (i == j) := rfl
theorem q_sh_int {i : Int} : SeqAt.shaped (.int i) = (PyData.canLay0 (.int i)) := by simp [SeqAt.shaped, PyData.depth]
theorem q_seqL {ds : List D} : seqD (.lst ds) = some ds := rfl
theorem q_seqR {ds : List D} : seqD (.rol ds) = some ds := rfl
theorem q_walkR {ds : List D} : walkD (.rol ds) = some ds := rfl
theorem q_seqT {ds : List D} : seqD (.tup ds) = some ds := rfl
theorem q_walkL {ds : List D} : walkD (.lst ds) = some ds := rfl
theorem q_walkT {ds : List D} : walkD (.tup ds) = some ds := rfl
theorem q_walkS {z : Str} : walkD (.str z) = some (z.cps.toList.map fun c => .str ⟨#[c]⟩) := rfl
theorem q_lenL {ds : List D} : lenD (.lst ds) = some ds.length := rfl
theorem q_lenT {ds : List D} : lenD (.tup ds) = some ds.length := rfl
theorem q_itL {ds : List D} {i : Int} : itemD (.lst ds) i = atI ds i := rfl
theorem q_itT {ds : List D} {i : Int} : itemD (.tup ds) i = atI ds i := rfl
theorem q_slL {ds : List D} {lo hi : Option Int} {k : DV → Prop} : fSl (.lst ds) lo hi k = ∀ p, k (.ow p (.lst (cutD ds lo hi))) := rfl
theorem q_slT {ds : List D} {lo hi : Option Int} {k : DV → Prop} : fSl (.tup ds) lo hi k = k (.im (.tup (cutD ds lo hi))) := rfl
theorem seq_cut {t u : TDs} {D0 : DEnds} {ρ : DL.Env} (M : DL.Env → Prop) (hu : ∀ ρ', M ρ' → u D0 ρ') (ht : ∀ U : DL.Env → Prop, (∀ ρ', M ρ' → U ρ') → t { D0 with nx := U } ρ) : dSeq t u D0 ρ := ht (u D0) hu
theorem if_det {c : TDt} {t u : TDs} {D0 : DEnds} {ρ : DL.Env} (b : Bool) (ρ1 : DL.Env) (hc : ∀ Q : Bool → DL.Env → Prop, Q b ρ1 → c ρ Q) (ht : b = true → t D0 ρ1) (hu : b = false → u D0 ρ1) : dIfS c t u D0 ρ := hc _ (by
  cases b with
  | true => exact ht rfl
  | false => exact hu rfl)
theorem loop_ind {G : DL.Env → Prop} {dg : DG} {body : TDs} {Dd : DEnds} (I : List D → DL.Env → Prop) (nil : ∀ ρ, I [] ρ → G ρ ∧ Dd.nx ρ)
    (cons : ∀ d ds ρ (L : DL.Env → Prop), (∀ ρ', I ds ρ' → L ρ') → I (d :: ds) ρ → G ρ ∧ dg (.im d) ρ fun ρ2 => body { Dd with nx := L, ct := L, bk := Dd.nx } ρ2) : ∀ ds ρ, I ds ρ → dLoop G dg body Dd ds ρ
  | [], ρ, h => nil ρ h
  | d :: ds, ρ, h => cons d ds ρ _ (fun ρ' h' => loop_ind I nil cons ds ρ' h') h
theorem lc_ind {G : DL.Env → Prop} {dg : DG} {dt : TDt} {de : TD} {vs : List Nat} {Qe : List D → DL.Env → Prop} (I : List D → List D → DL.Env → Prop) (nil : ∀ acc ρ, I [] acc ρ → G ρ ∧ Qe acc ρ)
    (cons : ∀ d ds acc ρ (L : List D → DL.Env → Prop), (∀ acc' ρ', I ds acc' ρ' → L acc' ρ') → I (d :: ds) acc ρ → G ρ ∧ dg (.im d) ρ fun ρ2 => dt ρ2 fun b ρ3 =>
      if b = true then de ρ3 fun x ρ4 => ∃ z, DL.see ρ4 x = some z ∧ acc.length < sizeLine ∧ plains (frz ρ4 x) vs = true ∧ L (acc ++ [z]) (setE unS (frz ρ4 x) vs) else plains ρ3 vs = true ∧ L acc (setE unS ρ3 vs)) :
    ∀ ds acc ρ, I ds acc ρ → dLcL G dg dt de vs Qe ds acc ρ
  | [], acc, ρ, h => nil acc ρ h
  | d :: ds, acc, ρ, h => cons d ds acc ρ _ (fun acc' ρ' h' => lc_ind I nil cons ds acc' ρ' h') h
end
end DL
/-! DT -/
set_option Elab.async false
set_option maxRecDepth 100000
set_option maxHeartbeats 4000000
set_option linter.all false
namespace DL
open PySem PySem.Spec PyProof.Rows L2 Evl
/-! ### head-first evaluation by simp: only what decides is visited -/
def onS {α : Type} (o : Option α) (k : α → Prop) : Prop := match o with
  | some a => k a
  | none => False
theorem onS_congr {α : Type} {o o' : Option α} {k : α → Prop} (h : o = o') : onS o k = onS o' k := by rw [h]
theorem e_on {α : Type} {a : α} {k : α → Prop} : onS (some a) k = k a := rfl
theorem onS_iff {α : Type} {o : Option α} {k : α → Prop} : onS o k ↔ ∃ a, o = some a ∧ k a := by
  cases o with
  | none => simp [onS]
  | some a => simp [onS]
def onB (b : Bool) (t e : Prop) : Prop := if b = true then t else e
theorem onB_congr {b b' : Bool} {t e : Prop} (h : b = b') : onB b t e = onB b' t e := by rw [h]
theorem e_bt {t e : Prop} : onB true t e = t := if_pos rfl
theorem e_bf {t e : Prop} : onB false t e = e := if_neg (by decide)
theorem onB_split {b : Bool} {t e : Prop} (h1 : b = true → t) (h2 : b = false → e) : onB b t e := by
  cases b with
  | true => exact h1 rfl
  | false => exact h2 rfl
/-! what slots and values give -/
def rdS (i : Nat) : Option S → Option DV
  | some (.im d) => some (.im d)
  | some (.ow a _) => some (.al i a)
  | some (.fz _ d) => some (.im d)
  | _ => none
theorem e_rd1 {i : Nat} {d : D} : rdS i (some (.im d)) = some (.im d) := rfl
theorem e_rd2 {i : Nat} {a : Addr} {d : D} : rdS i (some (.ow a d)) = some (.al i a) := rfl
theorem e_rd3 {i : Nat} {a : Addr} {d : D} : rdS i (some (.fz a d)) = some (.im d) := rfl
def owP : Option S → Option (Addr × D)
  | some (.ow a d) => some (a, d)
  | _ => none
theorem e_ow {a : Addr} {d : D} : owP (some (.ow a d)) = some (a, d) := rfl
def seS : Option S → Option D
  | some (.ow _ d) => some d
  | some (.fz _ d) => some d
  | _ => none
theorem e_se1 {a : Addr} {d : D} : seS (some (.ow a d)) = some d := rfl
theorem e_se2 {a : Addr} {d : D} : seS (some (.fz a d)) = some d := rfl
def fzS (ρ : DL.Env) (i : Nat) : Option S → DL.Env
  | some (.ow b d) => ρ.set i (.fz b d)
  | _ => ρ
theorem e_fz1 {ρ : DL.Env} {i : Nat} {a : Addr} {d : D} : fzS ρ i (some (.ow a d)) = ρ.set i (.fz a d) := rfl
theorem e_fz2 {ρ : DL.Env} {i : Nat} {a : Addr} {d : D} : fzS ρ i (some (.fz a d)) = ρ := rfl
def dctP : D → Option (List (Key × D))
  | .dct es => some es
  | _ => none
theorem e_dct {es : List (Key × D)} : dctP (.dct es) = some es := rfl
def lstP : List D → Option (List D)
  | [.lst ds] => some ds
  | _ => none
theorem e_lstP {ds : List D} : lstP [.lst ds] = some ds := rfl
def intP : List D → Option Int
  | [.int i] => some i
  | _ => none
theorem e_intP {i : Int} : intP [.int i] = some i := rfl
def int0 : D → Option Int
  | .int i => some i
  | _ => none
theorem e_int0 {i : Int} : int0 (.int i) = some i := rfl
def blP : D → Option Bool
  | .bl b => some b
  | _ => none
theorem e_blP {b : Bool} : blP (.bl b) = some b := rfl
def excP : D → Option (Addr × List (Str × D))
  | .exc C fs => some (C, fs)
  | _ => none
theorem e_excP {C : Addr} {fs : List (Str × D)} : excP (.exc C fs) = some (C, fs) := rfl
def onO {α β : Type} (o : Option α) (b : Option β) : Option β := match o with
  | some _ => b
  | none => none
theorem e_onO {α β : Type} {a : α} {b : Option β} : onO (some a) b = b := rfl
section
variable {ρ : DL.Env} {d e : D} {a : Addr} {i n : Nat} {o : Option D} {Q : DV → DL.Env → Prop} {Qb : Bool → DL.Env → Prop} {Qa : List DV → DL.Env → Prop} {Qe : DL.Env → Prop} {D0 : DEnds} {x : DV} {da db : TD} {dr : TDa} {dt du : TDt} {f : F2} {g : DG} {gs : DGs} {k : DV → Prop} {t u : TDs} {vs : List Nat} {wd : DX} {di : TDi}
theorem e_seeal : DL.see ρ (.al i a) = seS ρ[i]? := by
  rw [q_see_al]
  cases (ρ[i]? : Option S) with
  | none => rfl
  | some s => cases s <;> rfl
theorem e_frzal : frz ρ (.al i a) = fzS ρ i ρ[i]? := by
  rw [q_frz_al]
  cases (ρ[i]? : Option S) with
  | none => rfl
  | some s => cases s <;> rfl
theorem e_var : dVar i ρ Q = onS (rdS i ρ[i]?) fun x => Q x ρ := by
  unfold dVar
  cases (ρ[i]? : Option S) with
  | none => rfl
  | some s => cases s <;> rfl
theorem e_c : dC d ρ Q = Q (.im d) ρ := rfl
theorem e_2 : d2 f da db ρ Q = da ρ fun x ρ1 => db ρ1 fun y ρ2 => onS (DL.see ρ2 x) fun d => onS (DL.see ρ2 y) fun e => f d e fun z => Q z ρ2 := by
  unfold d2
  congr 1
  funext x ρ1
  congr 1
  funext y ρ2
  apply propext
  simp only [onS_iff]
  constructor
  · rintro ⟨d, e, h1, h2, h3⟩
    exact ⟨d, h1, e, h2, h3⟩
  · rintro ⟨d, h1, e, h2, h3⟩
    exact ⟨d, e, h1, h2, h3⟩
theorem e_un {f : FU} : dUn f da ρ Q = da ρ fun x ρ1 => onS (DL.see ρ1 x) fun d => f d fun z => Q (.im z) ρ1 := by
  unfold dUn
  congr 1
  funext x ρ1
  exact propext onS_iff.symm
theorem e_neg {i : Int} {k : D → Prop} : fNeg (.int i) k = k (.int (-i)) := by simp [fNeg]
theorem e_nil : dNil ρ Qa = Qa [] ρ := rfl
theorem e_cons : dCons da dr ρ Qa = da ρ fun x ρ1 => dr ρ1 fun xs ρ2 => Qa (x :: xs) ρ2 := rfl
theorem e_tup : dTup dr ρ Q = dr ρ fun xs ρ1 => onS (frzs ρ1 xs) fun p => p.1.length ≤ sizeLine ∧ Q (.im (.tup p.1)) p.2 := by
  unfold dTup
  congr 1
  funext xs ρ1
  apply propext
  rw [onS_iff]
  constructor
  · rintro ⟨ds, ρ2, h1, h2⟩
    exact ⟨(ds, ρ2), h1, h2⟩
  · rintro ⟨⟨ds, ρ2⟩, h1, h2⟩
    exact ⟨ds, ρ2, h1, h2⟩
theorem e_lst : dLst dr ρ Q = dr ρ fun xs ρ1 => onS (frzs ρ1 xs) fun p => p.1.length ≤ sizeLine ∧ ∀ q, Q (.ow q (.lst p.1)) p.2 := by
  unfold dLst
  congr 1
  funext xs ρ1
  apply propext
  rw [onS_iff]
  constructor
  · rintro ⟨ds, ρ2, h1, h2⟩
    exact ⟨(ds, ρ2), h1, h2⟩
  · rintro ⟨⟨ds, ρ2⟩, h1, h2⟩
    exact ⟨ds, ρ2, h1, h2⟩
theorem e_cb {f : FN} : dCB f dr ρ Q = dr ρ fun xs ρ1 => onS (looks ρ1 xs) fun ds => f ds fun z => Q z ρ1 := by
  unfold dCB
  congr 1
  funext xs ρ1
  exact propext onS_iff.symm
theorem e_get : dGet da db ρ Q = da ρ fun x ρ1 => db ρ1 fun y ρ2 => onS (DL.see ρ2 x) fun d => onS (dctP d) fun es => onS (DL.see ρ2 y) fun e => onS (keyD e) fun k => onS (getD es k) fun z => Q (.im z) ρ2 := by
  unfold dGet
  congr 1
  funext x ρ1
  congr 1
  funext y ρ2
  apply propext
  simp only [onS_iff]
  constructor
  · rintro ⟨es, e, k, z, h1, h2, h3, h4, h5⟩
    exact ⟨_, h1, es, rfl, e, h2, k, h3, z, h4, h5⟩
  · rintro ⟨d, h1, es, h0, e, h2, k, h3, z, h4, h5⟩
    cases d <;> cases h0
    exact ⟨es, e, k, z, h1, h2, h3, h4, h5⟩
theorem e_put {dk dv : TD} : dPut i dk dv D0 ρ = dv ρ fun x ρ1 => onS (DL.see ρ1 x) fun z => onS (owP (frz ρ1 x)[i]?) fun _ => dk (frz ρ1 x) fun y ρ2 => onS (DL.see ρ2 y) fun e => onS (keyD e) fun k => onS (owP ρ2[i]?) fun p => onS (dctP p.2) fun es =>
    es.length < sizeLine ∧ D0.nx (ρ2.set i (.ow p.1 (.dct (putD es k z)))) := by
  unfold dPut
  congr 1
  funext x ρ1
  apply propext
  rw [onS_iff]
  refine exists_congr fun z => and_congr_right fun _ => ?_
  have hc : ∀ (ρ2 : DL.Env) (y : DV), (∃ e k a es, DL.see ρ2 y = some e ∧ keyD e = some k ∧ ρ2[i]? = some (.ow a (.dct es)) ∧ es.length < sizeLine ∧ D0.nx (ρ2.set i (.ow a (.dct (putD es k z))))) = onS (DL.see ρ2 y) fun e => onS (keyD e) fun k => onS (owP ρ2[i]?) fun p => onS (dctP p.2) fun es =>
      es.length < sizeLine ∧ D0.nx (ρ2.set i (.ow p.1 (.dct (putD es k z)))) := fun ρ2 y => by
    apply propext
    simp only [onS_iff]
    constructor
    · rintro ⟨e, k, a, es, h1, h2, h3, h4⟩
      exact ⟨e, h1, k, h2, (a, .dct es), by rw [h3]; rfl, es, rfl, h4⟩
    · rintro ⟨e, h1, k, h2, ⟨a, d⟩, h3, es, h0, h4⟩
      cases d <;> cases h0
      refine ⟨e, k, a, es, h1, h2, ?_, h4⟩
      cases hs : (ρ2[i]? : Option S) with
      | none =>
        rw [hs] at h3
        cases h3
      | some s =>
        rw [hs] at h3
        cases s <;> cases h3
        rfl
  simp only [hc]
  rw [onS_iff]
  constructor
  · rintro ⟨⟨a, d, h⟩, h2⟩
    exact ⟨(a, d), by rw [h]; rfl, h2⟩
  · rintro ⟨⟨a, d⟩, h, h2⟩
    refine ⟨⟨a, d, ?_⟩, h2⟩
    cases hs : ((frz ρ1 x)[i]? : Option S) with
    | none =>
      rw [hs] at h
      cases h
    | some s =>
      rw [hs] at h
      cases s <;> cases h
      rfl
theorem e_disp {ps : List (TD × TD)} : dDisp ps ρ Q = dPairs ps ρ fun xs ρ1 => onS (frzs ρ1 xs) fun p => onS (DL.pairD p.1) fun es => es.length ≤ 15 ∧ ∀ q, Q (.ow q (.dct (mergeD [] es))) p.2 := by
  unfold dDisp
  congr 1
  funext xs ρ1
  apply propext
  simp only [onS_iff]
  constructor
  · rintro ⟨zs, ρ2, es, h1, h2, h3⟩
    exact ⟨(zs, ρ2), h1, es, h2, h3⟩
  · rintro ⟨⟨zs, ρ2⟩, h1, es, h2, h3⟩
    exact ⟨zs, ρ2, es, h1, h2, h3⟩
theorem e_pairs0 : dPairs [] ρ Qa = Qa [] ρ := rfl
theorem e_pairs1 {r : List (TD × TD)} : dPairs ((da, db) :: r) ρ Qa = da ρ fun x ρ1 => db ρ1 fun y ρ2 => dPairs r ρ2 fun xs ρ3 => Qa (x :: y :: xs) ρ3 := rfl
theorem e_part {Qo : Option Int → DL.Env → Prop} : dPart da ρ Qo = da ρ fun x ρ1 => onS (DL.see ρ1 x) fun d => onS (int0 d) fun i => Qo (some i) ρ1 := by
  unfold dPart
  congr 1
  funext x ρ1
  apply propext
  simp only [onS_iff]
  constructor
  · rintro ⟨i, h1, h2⟩
    exact ⟨_, h1, i, rfl, h2⟩
  · rintro ⟨d, h1, i, h0, h2⟩
    cases d <;> cases h0
    exact ⟨i, h1, h2⟩
theorem e_nopart {Qo : Option Int → DL.Env → Prop} : dNoPart ρ Qo = Qo none ρ := rfl
theorem e_sl {dl dh : TDo} : dSl da dl dh ρ Q = da ρ fun x ρ1 => dl ρ1 fun lo ρ2 => dh ρ2 fun hi ρ3 => onS (DL.see ρ3 x) fun d => fSl d lo hi fun z => Q z ρ3 := by
  unfold dSl
  congr 1
  funext x ρ1
  congr 1
  funext lo ρ2
  congr 1
  funext hi ρ3
  exact propext onS_iff.symm
theorem e_mut {T : String} {f : FM} : dMut T i f dr ρ Q = onS (owP ρ[i]?) fun p => isT T p.2 = true ∧ dr ρ fun xs ρ1 => onS (frzs ρ1 xs) fun q => onS (owP q.2[i]?) fun p2 => f p2.2 q.1 fun z d' => Q (.im z) (q.2.set i (.ow p2.1 d')) := by
  unfold dMut
  have hc : ∀ (xs : List DV) (ρ1 : DL.Env), (∃ ds ρ2 a d, frzs ρ1 xs = some (ds, ρ2) ∧ ρ2[i]? = some (.ow a d) ∧ f d ds fun z d' => Q (.im z) (ρ2.set i (.ow a d'))) = onS (frzs ρ1 xs) fun q => onS (owP q.2[i]?) fun p2 => f p2.2 q.1 fun z d' => Q (.im z) (q.2.set i (.ow p2.1 d')) := fun xs ρ1 => by
    apply propext
    simp only [onS_iff]
    constructor
    · rintro ⟨ds, ρ2, a, d, h1, h2, h3⟩
      exact ⟨(ds, ρ2), h1, (a, d), by show owP ρ2[i]? = _; rw [h2]; rfl, h3⟩
    · rintro ⟨⟨ds, ρ2⟩, h1, ⟨a, d⟩, h2, h3⟩
      refine ⟨ds, ρ2, a, d, h1, ?_, h3⟩
      have h2 : owP ρ2[i]? = some (a, d) := h2
      cases hs : (ρ2[i]? : Option S) with
      | none =>
        rw [hs] at h2
        cases h2
      | some s =>
        rw [hs] at h2
        cases s <;> cases h2
        rfl
  simp only [hc]
  apply propext
  rw [onS_iff]
  constructor
  · rintro ⟨⟨a, d, h, h1⟩, h2⟩
    exact ⟨(a, d), by rw [h]; rfl, h1, h2⟩
  · rintro ⟨⟨a, d⟩, h, h1, h2⟩
    refine ⟨⟨a, d, ?_, h1⟩, h2⟩
    cases hs : (ρ[i]? : Option S) with
    | none =>
      rw [hs] at h
      cases h
    | some s =>
      rw [hs] at h
      cases s <;> cases h
      rfl
theorem e_append {xs : List D} {z : D} {k : D → D → Prop} : fAppend (.lst xs) [z] k = (xs.length < sizeLine ∧ k .non (.lst (xs ++ [z]))) := by
  apply propext
  unfold fAppend
  constructor
  · rintro ⟨xs, z, h1, h2, h3⟩
    cases h1
    cases h2
    exact h3
  · intro h
    exact ⟨xs, z, rfl, rfl, h⟩
theorem e_call {f : TF} : dCall f wd dr ρ Q = dr ρ fun xs ρ1 => onS (frzs ρ1 xs) fun p => f none p.1 (fun r _ => rvK r fun x => Q x p.2) (fun C fs _ => wd C fs p.2) := by
  unfold dCall
  congr 1
  funext xs ρ1
  apply propext
  rw [onS_iff]
  constructor
  · rintro ⟨ds, ρ2, h1, h2⟩
    exact ⟨(ds, ρ2), h1, h2⟩
  · rintro ⟨⟨ds, ρ2⟩, h1, h2⟩
    exact ⟨ds, ρ2, h1, h2⟩
theorem e_callIo {f : TF} : dCallIo f wd i dr ρ Q = onS (owP ρ[i]?) fun _ => dr ρ fun xs ρ1 => onS (frzs ρ1 xs) fun p => onS (owP p.2[i]?) fun q =>
    f (some q.2) p.1 (fun r o => ∃ d', o = some d' ∧ rvK r fun x => Q x (p.2.set i (.ow q.1 d'))) (fun C fs o => ∃ d', o = some d' ∧ wd C fs (p.2.set i (.ow q.1 d'))) := by
  unfold dCallIo
  have hc : ∀ (xs : List DV) (ρ1 : DL.Env), (∃ ds ρ2 a d, frzs ρ1 xs = some (ds, ρ2) ∧ ρ2[i]? = some (.ow a d) ∧ f (some d) ds (fun r o => ∃ d', o = some d' ∧ rvK r fun x => Q x (ρ2.set i (.ow a d'))) (fun C fs o => ∃ d', o = some d' ∧ wd C fs (ρ2.set i (.ow a d')))) =
      onS (frzs ρ1 xs) fun p => onS (owP p.2[i]?) fun q => f (some q.2) p.1 (fun r o => ∃ d', o = some d' ∧ rvK r fun x => Q x (p.2.set i (.ow q.1 d'))) (fun C fs o => ∃ d', o = some d' ∧ wd C fs (p.2.set i (.ow q.1 d'))) := fun xs ρ1 => by
    apply propext
    simp only [onS_iff]
    constructor
    · rintro ⟨ds, ρ2, a, d, h1, h2, h3⟩
      exact ⟨(ds, ρ2), h1, (a, d), by show owP ρ2[i]? = _; rw [h2]; rfl, h3⟩
    · rintro ⟨⟨ds, ρ2⟩, h1, ⟨a, d⟩, h2, h3⟩
      refine ⟨ds, ρ2, a, d, h1, ?_, h3⟩
      have h2 : owP ρ2[i]? = some (a, d) := h2
      cases hs : (ρ2[i]? : Option S) with
      | none =>
        rw [hs] at h2
        cases h2
      | some s =>
        rw [hs] at h2
        cases s <;> cases h2
        rfl
  simp only [hc]
  apply propext
  rw [onS_iff]
  constructor
  · rintro ⟨⟨a, d, h⟩, h2⟩
    exact ⟨(a, d), by rw [h]; rfl, h2⟩
  · rintro ⟨⟨a, d⟩, h, h2⟩
    refine ⟨⟨a, d, ?_⟩, h2⟩
    cases hs : (ρ[i]? : Option S) with
    | none =>
      rw [hs] at h
      cases h
    | some s =>
      rw [hs] at h
      cases s <;> cases h
      rfl
theorem e_mkX {C : Addr} {names : List Str} : dMkX C names dr ρ Q = dr ρ fun xs ρ1 => onS (frzs ρ1 xs) fun p => p.1.length = names.length ∧ Q (.im (.exc C (names.zip p.1).reverse)) p.2 := by
  unfold dMkX
  congr 1
  funext xs ρ1
  apply propext
  rw [onS_iff]
  constructor
  · rintro ⟨ds, ρ2, h1, h2⟩
    exact ⟨(ds, ρ2), h1, h2⟩
  · rintro ⟨⟨ds, ρ2⟩, h1, h2⟩
    exact ⟨ds, ρ2, h1, h2⟩
theorem e_xf {cs : List (Addr × List Str)} {f : Str} : dXF cs da f ρ Q = da ρ fun x ρ1 => onS (DL.see ρ1 x) fun d => onS (excP d) fun p => (∃ names, (p.1, names) ∈ cs ∧ f ∈ names) ∧ onS (p.2.lookup f) fun z => Q (.im z) ρ1 := by
  unfold dXF
  congr 1
  funext x ρ1
  apply propext
  simp only [onS_iff]
  constructor
  · rintro ⟨C, fs, names, z, h1, h2, h3, h4, h5⟩
    exact ⟨_, h1, (C, fs), rfl, ⟨names, h2, h3⟩, z, h4, h5⟩
  · rintro ⟨d, h1, ⟨C, fs⟩, h0, ⟨names, h2, h3⟩, z, h4, h5⟩
    cases d <;> cases h0
    exact ⟨C, fs, names, z, h1, h2, h3, h4, h5⟩
/-! tests -/
theorem e_test : dTest da ρ Qb = da ρ fun x ρ1 => onS (DL.see ρ1 x) fun d => onS (blP d) fun b => Qb b ρ1 := by
  unfold dTest
  congr 1
  funext x ρ1
  apply propext
  simp only [onS_iff]
  constructor
  · rintro ⟨i, h1, h2⟩
    exact ⟨_, h1, i, rfl, h2⟩
  · rintro ⟨d, h1, i, h0, h2⟩
    cases d <;> cases h0
    exact ⟨i, h1, h2⟩
theorem e_and : dAnd dt du ρ Qb = dt ρ fun c ρ1 => onB c (du ρ1 Qb) (Qb false ρ1) := rfl
theorem e_or : dOr dt du ρ Qb = dt ρ fun c ρ1 => onB c (Qb true ρ1) (du ρ1 Qb) := rfl
theorem e_not : dNot dt ρ Qb = dt ρ fun c ρ1 => Qb (!c) ρ1 := rfl
theorem e_if : dIf dt da db ρ Q = dt ρ fun c ρ1 => onB c (da ρ1 Q) (db ρ1 Q) := rfl
theorem e_andV : dAndV da db ρ Q = da ρ fun x ρ1 => onS (DL.see ρ1 x) fun d => onS (blP d) fun b => onB b (db ρ1 Q) (Q (.im (.bl false)) ρ1) := by
  unfold dAndV
  congr 1
  funext x ρ1
  apply propext
  simp only [onS_iff]
  constructor
  · rintro ⟨i, h1, h2⟩
    exact ⟨_, h1, i, rfl, h2⟩
  · rintro ⟨d, h1, i, h0, h2⟩
    cases d <;> cases h0
    exact ⟨i, h1, h2⟩
theorem e_orV : dOrV da db ρ Q = da ρ fun x ρ1 => onS (DL.see ρ1 x) fun d => onS (blP d) fun b => onB b (Q (.im (.bl true)) ρ1) (db ρ1 Q) := by
  unfold dOrV
  congr 1
  funext x ρ1
  apply propext
  simp only [onS_iff]
  constructor
  · rintro ⟨i, h1, h2⟩
    exact ⟨_, h1, i, rfl, h2⟩
  · rintro ⟨d, h1, i, h0, h2⟩
    cases d <;> cases h0
    exact ⟨i, h1, h2⟩
theorem e_notV : dNotV da ρ Q = da ρ fun x ρ1 => onS (DL.see ρ1 x) fun d => onS (blP d) fun b => Q (.im (.bl !b)) ρ1 := by
  unfold dNotV
  congr 1
  funext x ρ1
  apply propext
  simp only [onS_iff]
  constructor
  · rintro ⟨i, h1, h2⟩
    exact ⟨_, h1, i, rfl, h2⟩
  · rintro ⟨d, h1, i, h0, h2⟩
    cases d <;> cases h0
    exact ⟨i, h1, h2⟩
/-! statements -/
theorem e_next : dNext D0 ρ = D0.nx ρ := rfl
theorem e_brk : dBreak D0 ρ = D0.bk ρ := rfl
theorem e_cnt : dCont D0 ρ = D0.ct ρ := rfl
theorem e_seq : dSeq t u D0 ρ = t { D0 with nx := u D0 } ρ := rfl
theorem e_drop : dDrop da D0 ρ = da ρ fun _ ρ1 => D0.nx ρ1 := rfl
theorem e_ret : dRet da D0 ρ = da ρ D0.rt := rfl
theorem e_ifS : dIfS dt t u D0 ρ = dt ρ fun b ρ1 => onB b (t D0 ρ1) (u D0 ρ1) := rfl
theorem e_asg : dAsg da g D0 ρ = da ρ fun x ρ1 => g x ρ1 D0.nx := rfl
theorem e_for {di : TDi} : dFor di g t D0 ρ = di ρ fun items G ρ1 => dLoop G g t D0 items ρ1 := rfl
theorem e_name : dName i x ρ Qe = onS (DL.put ρ i x) Qe := by
  apply propext
  rw [onS_iff]
  exact Iff.rfl
theorem e_putIm : DL.put ρ i (.im d) = onO (ρ[i]? : Option S) (some (ρ.set i (.im d))) := by
  unfold DL.put
  cases (ρ[i]? : Option S) <;> rfl
theorem e_putOw : DL.put ρ i (.ow a d) = onO (ρ[i]? : Option S) (some (ρ.set i (.ow a d))) := by
  unfold DL.put
  cases (ρ[i]? : Option S) <;> rfl
theorem e_nameC : dNameC i x ρ Qe = onS (ρ[i]? : Option S) fun s0 => plainS s0 = true ∧ onS (DL.see ρ x) fun d => Qe ((frz ρ x).set i (.im d)) := by
  unfold dNameC
  cases (ρ[i]? : Option S) with
  | none => rfl
  | some s0 =>
    apply propext
    simp only [onS_iff, Option.some.injEq, exists_eq_left']
theorem e_unp : dUnp n gs x ρ Qe = onS (DL.see ρ x) fun d => onS (seqD d) fun ds => ds.length = n ∧ gs ds (frz ρ x) Qe := by
  apply propext
  unfold dUnp
  simp only [onS_iff]
  constructor
  · rintro ⟨d, ds, h1, h2, h3⟩
    exact ⟨d, h1, ds, h2, h3⟩
  · rintro ⟨d, h1, ds, h2, h3⟩
    exact ⟨d, ds, h1, h2, h3⟩
theorem e_gcons {r : List D} : dgCons g gs (d :: r) ρ Qe = g (.im d) ρ fun ρ1 => gs r ρ1 Qe := by
  apply propext
  unfold dgCons
  constructor
  · rintro ⟨d, r, h1, h2⟩
    cases h1
    exact h2
  · intro h
    exact ⟨d, r, rfl, h⟩
theorem e_gnil : dgNil [] ρ Qe = Qe ρ := by simp [dgNil]
/-! walks -/
variable {Qi : List D → (DL.Env → Prop) → DL.Env → Prop}
theorem e_iseq : diSeq da ρ Qi = da ρ fun x ρ1 => onS (DL.see ρ1 x) fun d => onS (walkD d) fun ds => Qi ds (fun _ => True) (frz ρ1 x) := by
  unfold diSeq
  congr 1
  funext x ρ1
  apply propext
  simp only [onS_iff]
  constructor
  · rintro ⟨d, ds, h1, h2, h3⟩
    exact ⟨d, h1, ds, h2, h3⟩
  · rintro ⟨d, h1, ds, h2, h3⟩
    exact ⟨d, ds, h1, h2, h3⟩
theorem e_irng1 : diRng1 dr ρ Qi = dr ρ fun xs ρ1 => onS (looks ρ1 xs) fun ds => onS (intP ds) fun j => -(2 ^ 62) ≤ j ∧ j < 2 ^ 62 ∧ Qi (rangeD 0 j.toNat) (fun _ => True) ρ1 := by
  unfold diRng1
  congr 1
  funext xs ρ1
  apply propext
  simp only [onS_iff]
  constructor
  · rintro ⟨j, h1, h2⟩
    exact ⟨_, h1, j, rfl, h2⟩
  · rintro ⟨ds, h1, j, h0, h2⟩
    unfold intP at h0
    split at h0
    · cases h0
      exact ⟨_, h1, h2⟩
    · cases h0
theorem e_ienum : diEnum dr ρ Qi = dr ρ fun xs ρ1 => onS (frzs ρ1 xs) fun p => onS (lstP p.1) fun ds => Qi (enumD ds 0) (fun _ => True) p.2 := by
  unfold diEnum
  congr 1
  funext xs ρ1
  apply propext
  simp only [onS_iff]
  constructor
  · rintro ⟨ds, ρ2, h1, h2⟩
    exact ⟨_, h1, ds, rfl, h2⟩
  · rintro ⟨⟨zs, ρ2⟩, h1, ds, h0, h2⟩
    have h0 : lstP zs = some ds := h0
    unfold lstP at h0
    split at h0
    · cases h0
      exact ⟨_, _, h1, h2⟩
    · cases h0
theorem e_lc {de : TD} : dLc di g dt de vs ρ Q = di ρ fun items G ρ1 => plains ρ1 vs = true ∧ dLcL G g dt de vs (fun acc ρ2 => plains ρ2 vs = true ∧ ∀ p, Q (.ow p (.lst acc)) (rstE ρ1 ρ2 vs)) items [] (setE unS ρ1 vs) := rfl
theorem e_yes : dYes ρ Qb = Qb true ρ := rfl
/-! functions -/
theorem e_addI {i j : Int} : fAdd (.int i) (.int j) k = k (.im (.int (i + j))) := rfl
theorem e_addS {i j : Str} : fAdd (.str i) (.str j) k = (i.length + j.length ≤ sizeLine ∧ k (.im (.str (i ++ j)))) := rfl
theorem e_addL {i j : List D} : fAdd (.lst i) (.lst j) k = (i.length + j.length ≤ sizeLine ∧ ∀ p, k (.ow p (.lst (i ++ j)))) := rfl
theorem e_addT {i j : List D} : fAdd (.tup i) (.tup j) k = (i.length + j.length ≤ sizeLine ∧ k (.im (.tup (i ++ j)))) := rfl
theorem e_I0 {g : Int → Int → D} {i j : Int} : fI0' g (.int i) (.int j) k = k (.im (g i j)) := by simp [fI0', fI0]
theorem e_I {C : Int → Int → Prop} {g : Int → Int → D} {i j : Int} : fI' C g (.int i) (.int j) k = (C i j ∧ k (.im (g i j))) := by simp [fI', fI]
theorem e_eq {f : Bool → Bool} : fLift (fEq f) d e k = onS (py d) fun p => onS (py e) fun q => SeqAt.shaped p = true ∧ SeqAt.shaped q = true ∧ k (.im (.bl (f (PyData.eqv p q)))) := by
  apply propext
  unfold fLift fEq
  simp only [onS_iff]
  constructor
  · rintro ⟨p, q, h1, h2, h3⟩
    exact ⟨p, h1, q, h2, h3⟩
  · rintro ⟨p, h1, q, h2, h3⟩
    exact ⟨p, q, h1, h2, h3⟩
theorem e_ix {i : Int} : fIx d (.int i) k = onS (itemD d i) fun z => k (.im z) := by
  apply propext
  unfold fIx
  rw [onS_iff]
  constructor
  · rintro ⟨i, z, h1, h2, h3⟩
    cases h1
    exact ⟨z, h2, h3⟩
  · rintro ⟨z, h2, h3⟩
    exact ⟨i, z, rfl, h2, h3⟩
theorem e_len : fLen [d] k = onS (lenD d) fun n => k (.im (.int (n : Int))) := by
  apply propext
  unfold fLen
  rw [onS_iff]
  constructor
  · rintro ⟨d, n, h1, h2⟩
    cases h1
    exact ⟨n, h2⟩
  · rintro ⟨n, h2⟩
    exact ⟨d, n, rfl, h2⟩
theorem e_list : fList [d] k = onS (seqD d) fun es => ∀ p, k (.ow p (.lst es)) := by
  apply propext
  unfold fList
  rw [onS_iff]
  constructor
  · rintro ⟨d, n, h1, h2⟩
    cases h1
    exact ⟨n, h2⟩
  · rintro ⟨n, h2⟩
    exact ⟨d, n, rfl, h2⟩
theorem e_tuple : fTuple [d] k = onS (seqD d) fun es => k (.im (.tup es)) := by
  apply propext
  unfold fTuple
  rw [onS_iff]
  constructor
  · rintro ⟨d, n, h1, h2⟩
    cases h1
    exact ⟨n, h2⟩
  · rintro ⟨n, h2⟩
    exact ⟨d, n, rfl, h2⟩
theorem e_int1 {i : Int} : fInt1 [.int i] k = k (.im (.int i)) := by simp [fInt1]
theorem e_is {K : PySem.W.Frag} {cs : List (Addr × List Str)} {c : D} : fIs K cs [d, c] k = onS (tyD d) fun t => onS (clsD c) fun u => okCls cs d ∧ onS (PySem.W.kitOne K t u) fun b => k (.im (.bl b)) := by
  apply propext
  unfold fIs
  simp only [onS_iff]
  constructor
  · rintro ⟨d, c, t, u, b, h1, h2, h3, h4, h5, h6⟩
    cases h1
    exact ⟨t, h2, u, h3, h4, b, h5, h6⟩
  · rintro ⟨t, h2, u, h3, h4, b, h5, h6⟩
    exact ⟨d, c, t, u, b, rfl, h2, h3, h4, h5, h6⟩
theorem e_repr : fRepr [d] k = (seqD d ≠ none ∧ onS (py d) fun q => q.showable = true ∧ q.hasDict = false ∧ q.depth + 1 ≤ 64 ∧ q.shown.length ≤ sizeLine ∧ k (.im (.str q.shown))) := by
  apply propext
  unfold fRepr
  rw [onS_iff]
  constructor
  · rintro ⟨d, q, h1, h2, h3, h4⟩
    cases h1
    exact ⟨h2, q, h3, h4⟩
  · rintro ⟨h2, q, h3, h4⟩
    exact ⟨d, q, rfl, h2, h3, h4⟩
end
end DL
namespace DL
open PySem PySem.Spec PyProof.Rows L2 Evl
theorem i_on {α : Type} {o : Option α} {k : α → Prop} {a : α} (h : o = some a) (q : k a) : onS o k := by
  rw [h]
  exact q
theorem e_ifb {b : Bool} {t e : Prop} : (if b = true then t else e) = onB b t e := rfl
theorem e_ex {α : Type} {o : Option α} {k : α → Prop} : (∃ z, o = some z ∧ k z) = onS o k := propext onS_iff.symm
theorem e_nt {t e : Prop} : onB (!true) t e = e := e_bf
theorem e_nf {t e : Prop} : onB (!false) t e = t := e_bt
theorem i_and {p q : Prop} (l : p) (r : q) : p ∧ q := ⟨l, r⟩
def onP {α β : Type} (o : Option (α × β)) (k : α → β → Prop) : Prop := onS o fun p => k p.1 p.2
theorem i_onP {α β : Type} {o : Option (α × β)} {k : α → β → Prop} {a : α} {b : β} (h : o = some (a, b)) (q : k a b) : onP o k := by
  unfold onP
  rw [h]
  exact q
section
variable {ρ : DL.Env} {d e : D} {a : Addr} {i n : Nat} {o : Option D} {Q : DV → DL.Env → Prop} {D0 : DEnds} {x : DV} {da db : TD} {dr : TDa} {wd : DX} {Qi : List D → (DL.Env → Prop) → DL.Env → Prop}
theorem e_eqS {f : Bool → Bool} {i j : Str} {k : DV → Prop} : fEqA f (.str i) (.str j) k = k (.im (.bl (f (decide (i = j))))) := rfl
theorem e_eqI {f : Bool → Bool} {i j : Int} {k : DV → Prop} : fEqA f (.int i) (.int j) k = k (.im (.bl (f (decide (i = j))))) := rfl
theorem e_eqL {f : Bool → Bool} {i j : List D} {k : DV → Prop} : fEqA f (.lst i) (.lst j) k = fLift (fEq f) (.lst i) (.lst j) k := rfl
theorem e_mk0 {C : Addr} : dMk0 C ρ Q = Q (.im (.ex0 C)) ρ := rfl
theorem f_tup : dTup dr ρ Q = dr ρ fun xs ρ1 => onP (frzs ρ1 xs) fun ds ρ2 => ds.length ≤ sizeLine ∧ Q (.im (.tup ds)) ρ2 := e_tup
theorem f_lst : dLst dr ρ Q = dr ρ fun xs ρ1 => onP (frzs ρ1 xs) fun ds ρ2 => ds.length ≤ sizeLine ∧ ∀ q, Q (.ow q (.lst ds)) ρ2 := e_lst
theorem f_disp {ps : List (TD × TD)} : dDisp ps ρ Q = dPairs ps ρ fun xs ρ1 => onP (frzs ρ1 xs) fun ds ρ2 => onS (DL.pairD ds) fun es => es.length ≤ 15 ∧ ∀ q, Q (.ow q (.dct (mergeD [] es))) ρ2 := e_disp
theorem f_put {dk dv : TD} : dPut i dk dv D0 ρ = dv ρ fun x ρ1 => onS (DL.see ρ1 x) fun z => onS (owP (frz ρ1 x)[i]?) fun _ => dk (frz ρ1 x) fun y ρ2 => onS (DL.see ρ2 y) fun e => onS (keyD e) fun k => onP (owP ρ2[i]?) fun a d => onS (dctP d) fun es =>
    es.length < sizeLine ∧ D0.nx (ρ2.set i (.ow a (.dct (putD es k z)))) := e_put
theorem f_mut {T : String} {f : FM} : dMut T i f dr ρ Q = onP (owP ρ[i]?) fun _ d0 => isT T d0 = true ∧ dr ρ fun xs ρ1 => onP (frzs ρ1 xs) fun ds ρ2 => onP (owP ρ2[i]?) fun a d => f d ds fun z d' => Q (.im z) (ρ2.set i (.ow a d')) := e_mut
theorem f_call {f : TF} : dCall f wd dr ρ Q = dr ρ fun xs ρ1 => onP (frzs ρ1 xs) fun ds ρ2 => f none ds (fun r _ => rvK r fun x => Q x ρ2) (fun C fs _ => wd C fs ρ2) := e_call
theorem f_callIo {f : TF} : dCallIo f wd i dr ρ Q = onS (owP ρ[i]?) fun _ => dr ρ fun xs ρ1 => onP (frzs ρ1 xs) fun ds ρ2 => onP (owP ρ2[i]?) fun a d =>
    f (some d) ds (fun r o => ∃ d', o = some d' ∧ rvK r fun x => Q x (ρ2.set i (.ow a d'))) (fun C fs o => ∃ d', o = some d' ∧ wd C fs (ρ2.set i (.ow a d'))) := e_callIo
theorem f_mkX {C : Addr} {names : List Str} : dMkX C names dr ρ Q = dr ρ fun xs ρ1 => onP (frzs ρ1 xs) fun ds ρ2 => ds.length = names.length ∧ Q (.im (.exc C (names.zip ds).reverse)) ρ2 := e_mkX
theorem f_xf {cs : List (Addr × List Str)} {f : Str} : dXF cs da f ρ Q = da ρ fun x ρ1 => onS (DL.see ρ1 x) fun d => onP (excP d) fun C fs => (∃ names, (C, names) ∈ cs ∧ f ∈ names) ∧ onS (fs.lookup f) fun z => Q (.im z) ρ1 := e_xf
theorem f_ienum : diEnum dr ρ Qi = dr ρ fun xs ρ1 => onP (frzs ρ1 xs) fun es ρ2 => onS (lstP es) fun ds => Qi (enumD ds 0) (fun _ => True) ρ2 := e_ienum
end
end DL
/-! K1 -/
set_option Elab.async false
set_option maxRecDepth 100000
set_option maxHeartbeats 4000000
set_option linter.unusedVariables false
namespace K1
open PySem PySem.Spec PyProof.Rows L2 Evl DL
def top (i : Nat) : PySem.Stmt := PySem.Challenge.pw_holdsenough_k01_errors.main.body.getD i (.Pass ⟨0, 0, 0, 0⟩)
/-- the exceptions with fields -/
def fldT : List (Str × List Str) := [("BadText", ["line", "word"]), ("Misread", ["line", "column"]), ("Misplaced", ["line", "column", "why", "name"]), ("BadName", ["name"]), ("BadNumber", ["what", "number"]), ("BadRow", ["what", "row"]),
  ("NoName", ["name"]), ("TakenName", ["name"]), ("Unlike", ["what"]), ("NotThere", ["what"]), ("TooMany", ["what", "many", "limit"]), ("NotKept", ["promise", "witness"]), ("NothingToUndo", []), ("NothingToRedo", [])]
def flds (x : Str) : List Str := (fldT.lookup x).getD []
def T_cs (ad : Str → Addr) : List (Addr × List Str) := fldT.map fun p => (ad p.1, p.2)
def clsN : List Str := ["DepositError", "BadText", "Misread", "Misplaced", "BadName", "BadNumber", "BadRow", "NoName", "TakenName", "Unlike", "NotThere", "TooMany", "NotKept", "NothingToUndo", "NothingToRedo"]
def kindN : List Str := ["BadText", "BadName", "BadNumber", "BadRow", "NoName", "TakenName", "Unlike", "NotThere", "TooMany", "Misread", "Misplaced", "NotKept", "NothingToUndo", "NothingToRedo"]
structure Txt (P : Program) (w : World) (K : PySem.W.Frag) (mg : Str → Option Value) (base : Heap) (ad : Str → Addr) : Prop where
  cls : ∀ x : Str, x ∈ clsN → mg x = some (.ref (ad x))
  bn : ∀ x : Str, x ∈ (["len", "list", "int", "range", "enumerate", "isinstance", "repr", "ValueError"] : List Str) → mg x = none
  kn : Knows K (T_cs ad)
  xc : ∀ x : Str, x ∈ fldT.map (·.1) → XCl K (ad x) (flds x)
  io : ∀ x : Str, x ∈ (fldT.take 12).map (·.1) → InitOk P w K mg base (ad x) (flds x)
  e0 : ∀ x : Str, x ∈ (["NothingToUndo", "NothingToRedo"] : List Str) → PySem.W.excIn K (ad x) [.type "ValueError", .type "Exception", .type "BaseException", .type "object"] "ValueError.__new__" = true ∧ PySem.W.keepIn K (.ref (ad x)) = true
  /-- isinstance -/
  is1 : ∀ x : Str, x ∈ kindN → ∀ y : Str, y ∈ kindN → PySem.W.kitOne K (.ref (ad x)) (.ref (ad y)) = some (decide (y = x))
  is2 : ∀ x : Str, x ∈ kindN → PySem.W.kitOne K (.ref (ad x)) (.ref (ad "DepositError")) = some true
  is3 : ∀ x : Str, x ∈ kindN → PySem.W.kitOne K (.ref (ad x)) (.type "ValueError") = some true
/-! ### the pen -/
def penD (cells : List Int) (at_ dg ct fo : Int) : D := .dct [(.inr "cells", .lst (cells.map .int)), (.inr "at", .int at_), (.inr "digits", .int dg), (.inr "count", .int ct), (.inr "fold", .int fo)]
structure PenOk (n : Nat) (cells : List Int) (at_ dg ct fo : Int) : Prop where
  a0 : 0 ≤ at_
  a1 : at_ ≤ cells.length
  a2 : cells.length ≤ 1000
  d0 : 0 ≤ dg
  c0 : 0 ≤ ct
  c1 : ct ≤ n
  f0 : 0 ≤ fo
  f1 : fo < 2147482787
def Pen (n : Nat) (p : D) : Prop := ∃ cells at_ dg ct fo, p = penD cells at_ dg ct fo ∧ PenOk n cells at_ dg ct fo
def s_law_pen : TF := fun o ds k kx => ∃ ns : List Int, o = none ∧ ds = [.rol (ns.map .int)] ∧ ns.length ≤ 1000 ∧ ∀ p, Pen 0 p → k (.ow p) none
def s_law_draw : TF := fun o ds k kx => ∃ m n p, o = some p ∧ ds = [.int m] ∧ Pen n p ∧ 0 < m ∧ m < 2 ^ 30 ∧ n < 2 ^ 40 ∧ ∀ d p', 0 ≤ d → d < m → Pen (n + 1) p' → k (.im (.int d)) (some p')
def s_law_pick : TF := fun o ds k kx => ∃ xs n p, o = some p ∧ ds = [.lst xs] ∧ Pen n p ∧ 0 < xs.length ∧ xs.length < 2 ^ 30 ∧ n < 2 ^ 40 ∧ ∀ x p', x ∈ xs → Pen (n + 1) p' → k (.im x) (some p')
def vals : List D := [.str "", .str "a", .int 0, .int (-1), .bl true, .non, .tup [], .tup [.str "a", .int 1], .lst [.int 1, .str "b"], .lst [], .int (10 ^ 40), .tup [.tup [.str "x", .int 2], .non]]
def s_law_value : TF := fun o ds k kx => ∃ n p, o = some p ∧ ds = [] ∧ Pen n p ∧ n < 2 ^ 40 ∧ ∀ x p', x ∈ vals → Pen (n + 1) p' → k (.im x) (some p')
/-- the exception with its fields, as data -/
def excD (ad : Str → Addr) (x : Str) (ds : List D) : D := .exc (ad x) ((flds x).zip ds).reverse
def madeD (ad : Str → Addr) (a b c : D) : List D := [.tup [excD ad "BadText" [a, b], .lst [.str "line", .str "word"]], .tup [excD ad "BadName" [a], .lst [.str "name"]], .tup [excD ad "BadNumber" [a, b], .lst [.str "what", .str "number"]],
  .tup [excD ad "BadRow" [a, b], .lst [.str "what", .str "row"]], .tup [excD ad "NoName" [a], .lst [.str "name"]], .tup [excD ad "TakenName" [a], .lst [.str "name"]],
  .tup [excD ad "Unlike" [a], .lst [.str "what"]], .tup [excD ad "NotThere" [a], .lst [.str "what"]], .tup [excD ad "TooMany" [a, b, c], .lst [.str "what", .str "many", .str "limit"]],
  .tup [excD ad "Misread" [a, b], .lst [.str "line", .str "column"]], .tup [excD ad "Misplaced" [a, b, c, a], .lst [.str "line", .str "column", .str "why", .str "name"]], .tup [excD ad "NotKept" [a, b], .lst [.str "promise", .str "witness"]]]
def s_law_made_errors (ad : Str → Addr) : TF := fun o ds k kx => ∃ a b c, o = none ∧ ds = [a, b, c] ∧ k (.ow (.lst (madeD ad a b c))) none
/-- the values of the fields by name -/
def lookF (fs : List (Str × D)) (n : Str) : D := (fs.lookup n).getD .non
def fieldN : List Str := ["line", "word", "column", "why", "name", "what", "number", "row", "many", "limit", "promise", "witness"]
def s_law_fields (ad : Str → Addr) : TF := fun o ds k kx => ∃ (one : D) (ns : List Str), o = none ∧ ds = [one, .lst (ns.map .str)] ∧ ns.length ≤ 100 ∧
  (ns = [] ∨ ∃ C fs nms, one = .exc C fs ∧ (C, nms) ∈ T_cs ad ∧ ∀ n ∈ ns, n ∈ nms ∧ n ∈ fieldN ∧ ∃ z, fs.lookup n = some z) ∧ k (.ow (.lst (match one with
    | .exc _ fs => ns.map (lookF fs)
    | _ => []))) none
def s_law_kinds (ad : Str → Addr) : TF := fun o ds k kx => ∃ (one : D) (x : Str), o = none ∧ ds = [one] ∧ x ∈ kindN ∧ tyD one = some (.ref (ad x)) ∧ okCls (T_cs ad) one ∧ k (.ow (.lst (kindN.map fun y => .bl (decide (y = x))))) none
variable {P : Program} {w : World} {K : PySem.W.Frag} {mg : Str → Option Value} {base : Heap} {ad : Str → Addr}
abbrev st_law_pen : PySem.Stmt := top 17
abbrev N_law_pen : List Str := ["script", "fold", "cell"]
abbrev P_law_pen : List Str := ["script"]
theorem S_law_pen : FnScope N_law_pen P_law_pen (defScope st_law_pen) := ⟨rfl, rfl, rfl, by decide +kernel, rfl, by decide +kernel, by decide +kernel⟩
def d_law_pen (K : PySem.W.Frag) (ad : Str → Addr) (wd : DX) : TDs :=
  (dSeq (dAsg (dC (.int 71)) (dName 1))
  (dSeq (dFor (diSeq (dVar 0)) (dName 2) (dAsg (d2 (fI' (fun _ j => 0 < j) fun i j => .int (i % j)) (dCB fInt1 (dCons (d2 fAdd (d2 (fI' CMul fun i j => .int (i * j)) (dVar 1) (dC (.int 179))) (dVar 2)) dNil)) (dC (.int 1000000613))) (dName 1)))
  (dRet (dDisp [((dC (.str "cells")), (dCB fList (dCons (dVar 0) dNil))), ((dC (.str "at")), (dC (.int 0))), ((dC (.str "digits")), (dC (.int 0))), ((dC (.str "count")), (dC (.int 0))), ((dC (.str "fold")), (dVar 1))]))))
theorem c_law_pen (T : Txt P w K mg base ad)  {f : Addr} (cdv : Value) (A : Around) (outer : List PySem.Env) (s : Shared) (H : Hp) (E : XK) (B : BG) (wd : DX)
    (hr : Room 2 (A.deeper (envOfC "_law_pen" (defScope st_law_pen) s.heap.objs.size f cdv))) (hg : (A.deeper (envOfC "_law_pen" (defScope st_law_pen) s.heap.objs.size f cdv)).guards = some []) :
    ∃ t, CSs (cxOf (L2.CX P w) P w K mg base N_law_pen "_law_pen" (defScope st_law_pen) f cdv A outer s H E) K B ⟨fun cls d _ H => E cls d H, wd⟩ (defBody st_law_pen) t (d_law_pen K ad wd) := by
  have S := S_law_pen
  have tk : Takes (cxOf (L2.CX P w) P w K mg base N_law_pen "_law_pen" (defScope st_law_pen) f cdv A outer s H E) (fun cls d _ H => E cls d H) := takes_of rfl rfl rfl rfl
  exact ⟨_, by exact (css_cons (cs_asg ce_int (cg_name 1 S.nd))
    (css_cons (cs_for (passes_of rfl) rfl (ci_seq (ce_var 0)) (cg_name 2 S.nd) (css_one (cs_asg (ce_mod (ce_ct ok_int1 call_int1 rfl (T.bn "int" (by decide)) (ca_cons (ce_add (ce_mul (ce_var 1) ce_int) (ce_var 2)) ca_nil)) ce_int) (cg_name 1 S.nd))))
    (css_one (cs_ret (ce_disp (cps_cons ce_str (ce_ct ok_list call_list_of rfl (T.bn "list" (by decide)) (ca_cons (ce_var 0) ca_nil)) (cps_cons ce_str ce_int (cps_cons ce_str ce_int (cps_cons ce_str ce_int (cps_cons ce_str (ce_var 1) cps_nil))))))))))⟩
abbrev st_law_draw : PySem.Stmt := top 18
abbrev N_law_draw : List Str := ["pen", "many", "cell", "digit", "blend"]
abbrev P_law_draw : List Str := ["pen", "many"]
theorem S_law_draw : FnScope N_law_draw P_law_draw (defScope st_law_draw) := ⟨rfl, rfl, rfl, by decide +kernel, rfl, by decide +kernel, by decide +kernel⟩
def d_law_draw (K : PySem.W.Frag) (ad : Str → Addr) (wd : DX) : TDs :=
  (dSeq (dPut 0 (dC (.str "count")) (d2 fAdd (dGet (dVar 0) (dC (.str "count"))) (dC (.int 1))))
  (dSeq (dIfS (dAnd (dTest (d2 (fEqA id) (dGet (dVar 0) (dC (.str "digits"))) (dC (.int 0)))) (dTest (d2 (fI0' fun i j => .bl (decide (i < j))) (dGet (dVar 0) (dC (.str "at"))) (dCB fLen (dCons (dGet (dVar 0) (dC (.str "cells"))) dNil))))) (dSeq (dAsg (d2 fIx (dGet (dVar 0) (dC (.str "cells"))) (dGet (dVar 0) (dC (.str "at")))) (dName 2))
  (dSeq (dPut 0 (dC (.str "at")) (d2 fAdd (dGet (dVar 0) (dC (.str "at"))) (dC (.int 1))))
  (dIfS (dTest (d2 (fI0' fun i j => .bl (decide (j ≤ i))) (dVar 2) (d2 (fI' CPow fun i j => .int (i ^ j.toNat)) (dC (.int 10)) (dC (.int 18))))) (dPut 0 (dC (.str "digits")) (d2 (fI0' fun i j => .int (i - j)) (dVar 2) (d2 (fI' CPow fun i j => .int (i ^ j.toNat)) (dC (.int 10)) (dC (.int 18))))) (dPut 0 (dC (.str "fold")) (d2 (fI' (fun _ j => 0 < j) fun i j => .int (i % j)) (dCB fInt1 (dCons (d2 fAdd (d2 (fI' CMul fun i j => .int (i * j)) (dGet (dVar 0) (dC (.str "fold"))) (dC (.int 70183))) (dVar 2)) dNil)) (dC (.int 2147482787))))))) dNext)
  (dSeq (dIfS (dTest (d2 (fI0' fun i j => .bl (decide (j < i))) (dGet (dVar 0) (dC (.str "digits"))) (dC (.int 0)))) (dSeq (dAsg (d2 (fI' (fun _ j => 0 < j) fun i j => .int (i % j)) (dCB fInt1 (dCons (dGet (dVar 0) (dC (.str "digits"))) dNil)) (dVar 1)) (dName 3))
  (dSeq (dPut 0 (dC (.str "digits")) (d2 (fI' CDivN fun i j => .int (i.fdiv j)) (dGet (dVar 0) (dC (.str "digits"))) (dVar 1)))
  (dRet (dVar 3)))) dNext)
  (dSeq (dAsg (d2 fAdd (d2 fAdd (dGet (dVar 0) (dC (.str "fold"))) (d2 (fI' CMul fun i j => .int (i * j)) (dGet (dVar 0) (dC (.str "count"))) (dC (.int 7937)))) (dC (.int 107))) (dName 4))
  (dRet (d2 (fI' (fun _ j => 0 < j) fun i j => .int (i % j)) (d2 (fI' CDivN fun i j => .int (i.fdiv j)) (dCB fInt1 (dCons (d2 (fI' (fun _ j => 0 < j) fun i j => .int (i % j)) (d2 (fI' CPow fun i j => .int (i ^ j.toNat)) (dVar 4) (dC (.int 17))) (dC (.int 2305843009213693951))) dNil)) (dC (.int 128))) (dVar 1)))))))
theorem c_law_draw (T : Txt P w K mg base ad)  {f : Addr} (cdv : Value) (A : Around) (outer : List PySem.Env) (s : Shared) (H : Hp) (E : XK) (B : BG) (wd : DX)
    (hr : Room 2 (A.deeper (envOfC "_law_draw" (defScope st_law_draw) s.heap.objs.size f cdv))) (hg : (A.deeper (envOfC "_law_draw" (defScope st_law_draw) s.heap.objs.size f cdv)).guards = some []) :
    ∃ t, CSs (cxOf (L2.CX P w) P w K mg base N_law_draw "_law_draw" (defScope st_law_draw) f cdv A outer s H E) K B ⟨fun cls d _ H => E cls d H, wd⟩ (defBody st_law_draw) t (d_law_draw K ad wd) := by
  have S := S_law_draw
  have tk : Takes (cxOf (L2.CX P w) P w K mg base N_law_draw "_law_draw" (defScope st_law_draw) f cdv A outer s H E) (fun cls d _ H => E cls d H) := takes_of rfl rfl rfl rfl
  exact ⟨_, by exact (css_cons (cs_put 0 hr (ce_var 0) ce_str (ce_add (ce_get hr (ce_var 0) ce_str) ce_int))
    (css_cons (cs_if (ct_w (cw_and (ct_eq hr (ce_get hr (ce_var 0) ce_str) ce_int) (cw_and1 (ct_cmp (ok_lift ok_lt) op_lt (nomark _) (ce_get hr (ce_var 0) ce_str) (ce_cb ok_len call_len rfl (T.bn "len" (by decide)) (ca_cons (ce_get hr (ce_var 0) ce_str) ca_nil)))))) (css_cons (cs_asg (ce_ix (ce_get hr (ce_var 0) ce_str) (ce_get hr (ce_var 0) ce_str)) (cg_name 2 S.nd))
    (css_cons (cs_put 0 hr (ce_var 0) ce_str (ce_add (ce_get hr (ce_var 0) ce_str) ce_int))
    (css_one (cs_if (ct_cmp (ok_lift ok_ge) op_ge (nomark _) (ce_var 2) (ce_pow ce_int ce_int)) (css_one (cs_put 0 hr (ce_var 0) ce_str (ce_sub (ce_var 2) (ce_pow ce_int ce_int)))) (css_one (cs_put 0 hr (ce_var 0) ce_str (ce_mod (ce_ct ok_int1 call_int1 rfl (T.bn "int" (by decide)) (ca_cons (ce_add (ce_mul (ce_get hr (ce_var 0) ce_str) ce_int) (ce_var 2)) ca_nil)) ce_int))))))) css_nil)
    (css_cons (cs_if (ct_cmp (ok_lift ok_gt) op_gt (nomark _) (ce_get hr (ce_var 0) ce_str) ce_int) (css_cons (cs_asg (ce_mod (ce_ct ok_int1 call_int1 rfl (T.bn "int" (by decide)) (ca_cons (ce_get hr (ce_var 0) ce_str) ca_nil)) (ce_var 1)) (cg_name 3 S.nd))
    (css_cons (cs_put 0 hr (ce_var 0) ce_str (ce_fdiv (ce_get hr (ce_var 0) ce_str) (ce_var 1)))
    (css_one (cs_ret (ce_var 3))))) css_nil)
    (css_cons (cs_asg (ce_add (ce_add (ce_get hr (ce_var 0) ce_str) (ce_mul (ce_get hr (ce_var 0) ce_str) ce_int)) ce_int) (cg_name 4 S.nd))
    (css_one (cs_ret (ce_mod (ce_fdiv (ce_ct ok_int1 call_int1 rfl (T.bn "int" (by decide)) (ca_cons (ce_mod (ce_pow (ce_var 4) ce_int) ce_int) ca_nil)) ce_int) (ce_var 1))))))))⟩
abbrev st_law_pick : PySem.Stmt := top 19
abbrev N_law_pick : List Str := ["pen", "some"]
abbrev P_law_pick : List Str := ["pen", "some"]
theorem S_law_pick : FnScope N_law_pick P_law_pick (defScope st_law_pick) := ⟨rfl, rfl, rfl, by decide +kernel, rfl, by decide +kernel, by decide +kernel⟩
def d_law_pick (K : PySem.W.Frag) (ad : Str → Addr) (wd : DX) : TDs :=
  (dRet (d2 fIx (dVar 1) (dCallIo s_law_draw wd 0 (dCons (dCB fLen (dCons (dVar 1) dNil)) dNil))))
theorem c_law_pick (T : Txt P w K mg base ad) (G_law_draw : FD P w K mg base 3 "_law_draw" P_law_draw (s_law_draw)) {f : Addr} (cdv : Value) (A : Around) (outer : List PySem.Env) (s : Shared) (H : Hp) (E : XK) (B : BG) (wd : DX)
    (hr : Room 3 (A.deeper (envOfC "_law_pick" (defScope st_law_pick) s.heap.objs.size f cdv))) (hg : (A.deeper (envOfC "_law_pick" (defScope st_law_pick) s.heap.objs.size f cdv)).guards = some []) :
    ∃ t, CSs (cxOf (L2.CX P w) P w K mg base N_law_pick "_law_pick" (defScope st_law_pick) f cdv A outer s H E) K B ⟨fun cls d _ H => E cls d H, wd⟩ (defBody st_law_pick) t (d_law_pick K ad wd) := by
  have S := S_law_pick
  have tk : Takes (cxOf (L2.CX P w) P w K mg base N_law_pick "_law_pick" (defScope st_law_pick) f cdv A outer s H E) (fun cls d _ H => E cls d H) := takes_of rfl rfl rfl rfl
  exact ⟨_, by exact (css_one (cs_ret (ce_ix (ce_var 1) (ce_callIo 0 G_law_draw (hr.mono (by decide)) hg tk (ce_var 0) (ca_cons (ce_cb ok_len call_len rfl (T.bn "len" (by decide)) (ca_cons (ce_var 1) ca_nil)) ca_nil)))))⟩
abbrev st_law_value : PySem.Stmt := top 20
abbrev N_law_value : List Str := ["pen"]
abbrev P_law_value : List Str := ["pen"]
theorem S_law_value : FnScope N_law_value P_law_value (defScope st_law_value) := ⟨rfl, rfl, rfl, by decide +kernel, rfl, by decide +kernel, by decide +kernel⟩
def d_law_value (K : PySem.W.Frag) (ad : Str → Addr) (wd : DX) : TDs :=
  (dRet (dCallIo s_law_pick wd 0 (dCons (dLst (dCons (dC (.str "")) (dCons (dC (.str "a")) (dCons (dC (.int 0)) (dCons (dUn fNeg (dC (.int 1))) (dCons (dC (.bl true)) (dCons (dC .non) (dCons (dTup dNil) (dCons (dTup (dCons (dC (.str "a")) (dCons (dC (.int 1)) dNil))) (dCons (dLst (dCons (dC (.int 1)) (dCons (dC (.str "b")) dNil))) (dCons (dLst dNil) (dCons (d2 (fI' CPow fun i j => .int (i ^ j.toNat)) (dC (.int 10)) (dC (.int 40))) (dCons (dTup (dCons (dTup (dCons (dC (.str "x")) (dCons (dC (.int 2)) dNil))) (dCons (dC .non) dNil))) dNil))))))))))))) dNil)))
theorem c_law_value (T : Txt P w K mg base ad) (G_law_pick : FD P w K mg base 4 "_law_pick" P_law_pick (s_law_pick)) {f : Addr} (cdv : Value) (A : Around) (outer : List PySem.Env) (s : Shared) (H : Hp) (E : XK) (B : BG) (wd : DX)
    (hr : Room 4 (A.deeper (envOfC "_law_value" (defScope st_law_value) s.heap.objs.size f cdv))) (hg : (A.deeper (envOfC "_law_value" (defScope st_law_value) s.heap.objs.size f cdv)).guards = some []) :
    ∃ t, CSs (cxOf (L2.CX P w) P w K mg base N_law_value "_law_value" (defScope st_law_value) f cdv A outer s H E) K B ⟨fun cls d _ H => E cls d H, wd⟩ (defBody st_law_value) t (d_law_value K ad wd) := by
  have S := S_law_value
  have tk : Takes (cxOf (L2.CX P w) P w K mg base N_law_value "_law_value" (defScope st_law_value) f cdv A outer s H E) (fun cls d _ H => E cls d H) := takes_of rfl rfl rfl rfl
  exact ⟨_, by exact (css_one (cs_ret (ce_callIo 0 G_law_pick (hr.mono (by decide)) hg tk (ce_var 0) (ca_cons (ce_lst (ca_cons ce_str (ca_cons ce_str (ca_cons ce_int (ca_cons (ce_neg ce_int) (ca_cons ce_bl (ca_cons ce_non (ca_cons (ce_tup ca_nil) (ca_cons (ce_tup (ca_cons ce_str (ca_cons ce_int ca_nil))) (ca_cons (ce_lst (ca_cons ce_int (ca_cons ce_str ca_nil))) (ca_cons (ce_lst ca_nil) (ca_cons (ce_pow ce_int ce_int) (ca_cons (ce_tup (ca_cons (ce_tup (ca_cons ce_str (ca_cons ce_int ca_nil))) (ca_cons ce_non ca_nil))) ca_nil))))))))))))) ca_nil))))⟩
abbrev st_law_made_errors : PySem.Stmt := top 22
abbrev N_law_made_errors : List Str := ["one", "two", "three", "rows"]
abbrev P_law_made_errors : List Str := ["one", "two", "three"]
theorem S_law_made_errors : FnScope N_law_made_errors P_law_made_errors (defScope st_law_made_errors) := ⟨rfl, rfl, rfl, by decide +kernel, rfl, by decide +kernel, by decide +kernel⟩
def d_law_made_errors (K : PySem.W.Frag) (ad : Str → Addr) (wd : DX) : TDs :=
  (dSeq (dAsg (dLst (dCons (dTup (dCons (dMkX (ad "BadText") (flds "BadText") (dCons (dVar 0) (dCons (dVar 1) dNil))) (dCons (dLst (dCons (dC (.str "line")) (dCons (dC (.str "word")) dNil))) dNil))) (dCons (dTup (dCons (dMkX (ad "BadName") (flds "BadName") (dCons (dVar 0) dNil)) (dCons (dLst (dCons (dC (.str "name")) dNil)) dNil))) (dCons (dTup (dCons (dMkX (ad "BadNumber") (flds "BadNumber") (dCons (dVar 0) (dCons (dVar 1) dNil))) (dCons (dLst (dCons (dC (.str "what")) (dCons (dC (.str "number")) dNil))) dNil))) dNil)))) (dName 3))
  (dSeq (dAsg (d2 fAdd (dVar 3) (dLst (dCons (dTup (dCons (dMkX (ad "BadRow") (flds "BadRow") (dCons (dVar 0) (dCons (dVar 1) dNil))) (dCons (dLst (dCons (dC (.str "what")) (dCons (dC (.str "row")) dNil))) dNil))) (dCons (dTup (dCons (dMkX (ad "NoName") (flds "NoName") (dCons (dVar 0) dNil)) (dCons (dLst (dCons (dC (.str "name")) dNil)) dNil))) (dCons (dTup (dCons (dMkX (ad "TakenName") (flds "TakenName") (dCons (dVar 0) dNil)) (dCons (dLst (dCons (dC (.str "name")) dNil)) dNil))) dNil))))) (dName 3))
  (dSeq (dAsg (d2 fAdd (dVar 3) (dLst (dCons (dTup (dCons (dMkX (ad "Unlike") (flds "Unlike") (dCons (dVar 0) dNil)) (dCons (dLst (dCons (dC (.str "what")) dNil)) dNil))) (dCons (dTup (dCons (dMkX (ad "NotThere") (flds "NotThere") (dCons (dVar 0) dNil)) (dCons (dLst (dCons (dC (.str "what")) dNil)) dNil))) (dCons (dTup (dCons (dMkX (ad "TooMany") (flds "TooMany") (dCons (dVar 0) (dCons (dVar 1) (dCons (dVar 2) dNil)))) (dCons (dLst (dCons (dC (.str "what")) (dCons (dC (.str "many")) (dCons (dC (.str "limit")) dNil)))) dNil))) dNil))))) (dName 3))
  (dSeq (dAsg (d2 fAdd (dVar 3) (dLst (dCons (dTup (dCons (dMkX (ad "Misread") (flds "Misread") (dCons (dVar 0) (dCons (dVar 1) dNil))) (dCons (dLst (dCons (dC (.str "line")) (dCons (dC (.str "column")) dNil))) dNil))) (dCons (dTup (dCons (dMkX (ad "Misplaced") (flds "Misplaced") (dCons (dVar 0) (dCons (dVar 1) (dCons (dVar 2) (dCons (dVar 0) dNil))))) (dCons (dLst (dCons (dC (.str "line")) (dCons (dC (.str "column")) (dCons (dC (.str "why")) (dCons (dC (.str "name")) dNil))))) dNil))) dNil)))) (dName 3))
  (dRet (d2 fAdd (dVar 3) (dLst (dCons (dTup (dCons (dMkX (ad "NotKept") (flds "NotKept") (dCons (dVar 0) (dCons (dVar 1) dNil))) (dCons (dLst (dCons (dC (.str "promise")) (dCons (dC (.str "witness")) dNil))) dNil))) dNil))))))))
theorem c_law_made_errors (T : Txt P w K mg base ad)  {f : Addr} (cdv : Value) (A : Around) (outer : List PySem.Env) (s : Shared) (H : Hp) (E : XK) (B : BG) (wd : DX)
    (hr : Room 2 (A.deeper (envOfC "_law_made_errors" (defScope st_law_made_errors) s.heap.objs.size f cdv))) (hg : (A.deeper (envOfC "_law_made_errors" (defScope st_law_made_errors) s.heap.objs.size f cdv)).guards = some []) :
    ∃ t, CSs (cxOf (L2.CX P w) P w K mg base N_law_made_errors "_law_made_errors" (defScope st_law_made_errors) f cdv A outer s H E) K B ⟨fun cls d _ H => E cls d H, wd⟩ (defBody st_law_made_errors) t (d_law_made_errors K ad wd) := by
  have S := S_law_made_errors
  have tk : Takes (cxOf (L2.CX P w) P w K mg base N_law_made_errors "_law_made_errors" (defScope st_law_made_errors) f cdv A outer s H E) (fun cls d _ H => E cls d H) := takes_of rfl rfl rfl rfl
  exact ⟨_, by exact (css_cons (cs_asg (ce_lst (ca_cons (ce_tup (ca_cons (ce_mkX (T.xc "BadText" (by decide)) (T.io "BadText" (by decide)) (by decide) (hr.mono (by decide)) (T.cls "BadText" (by decide)) (ca_cons (ce_var 0) (ca_cons (ce_var 1) ca_nil))) (ca_cons (ce_lst (ca_cons ce_str (ca_cons ce_str ca_nil))) ca_nil))) (ca_cons (ce_tup (ca_cons (ce_mkX (T.xc "BadName" (by decide)) (T.io "BadName" (by decide)) (by decide) (hr.mono (by decide)) (T.cls "BadName" (by decide)) (ca_cons (ce_var 0) ca_nil)) (ca_cons (ce_lst (ca_cons ce_str ca_nil)) ca_nil))) (ca_cons (ce_tup (ca_cons (ce_mkX (T.xc "BadNumber" (by decide)) (T.io "BadNumber" (by decide)) (by decide) (hr.mono (by decide)) (T.cls "BadNumber" (by decide)) (ca_cons (ce_var 0) (ca_cons (ce_var 1) ca_nil))) (ca_cons (ce_lst (ca_cons ce_str (ca_cons ce_str ca_nil))) ca_nil))) ca_nil)))) (cg_name 3 S.nd))
    (css_cons (cs_asg (ce_add (ce_var 3) (ce_lst (ca_cons (ce_tup (ca_cons (ce_mkX (T.xc "BadRow" (by decide)) (T.io "BadRow" (by decide)) (by decide) (hr.mono (by decide)) (T.cls "BadRow" (by decide)) (ca_cons (ce_var 0) (ca_cons (ce_var 1) ca_nil))) (ca_cons (ce_lst (ca_cons ce_str (ca_cons ce_str ca_nil))) ca_nil))) (ca_cons (ce_tup (ca_cons (ce_mkX (T.xc "NoName" (by decide)) (T.io "NoName" (by decide)) (by decide) (hr.mono (by decide)) (T.cls "NoName" (by decide)) (ca_cons (ce_var 0) ca_nil)) (ca_cons (ce_lst (ca_cons ce_str ca_nil)) ca_nil))) (ca_cons (ce_tup (ca_cons (ce_mkX (T.xc "TakenName" (by decide)) (T.io "TakenName" (by decide)) (by decide) (hr.mono (by decide)) (T.cls "TakenName" (by decide)) (ca_cons (ce_var 0) ca_nil)) (ca_cons (ce_lst (ca_cons ce_str ca_nil)) ca_nil))) ca_nil))))) (cg_name 3 S.nd))
    (css_cons (cs_asg (ce_add (ce_var 3) (ce_lst (ca_cons (ce_tup (ca_cons (ce_mkX (T.xc "Unlike" (by decide)) (T.io "Unlike" (by decide)) (by decide) (hr.mono (by decide)) (T.cls "Unlike" (by decide)) (ca_cons (ce_var 0) ca_nil)) (ca_cons (ce_lst (ca_cons ce_str ca_nil)) ca_nil))) (ca_cons (ce_tup (ca_cons (ce_mkX (T.xc "NotThere" (by decide)) (T.io "NotThere" (by decide)) (by decide) (hr.mono (by decide)) (T.cls "NotThere" (by decide)) (ca_cons (ce_var 0) ca_nil)) (ca_cons (ce_lst (ca_cons ce_str ca_nil)) ca_nil))) (ca_cons (ce_tup (ca_cons (ce_mkX (T.xc "TooMany" (by decide)) (T.io "TooMany" (by decide)) (by decide) (hr.mono (by decide)) (T.cls "TooMany" (by decide)) (ca_cons (ce_var 0) (ca_cons (ce_var 1) (ca_cons (ce_var 2) ca_nil)))) (ca_cons (ce_lst (ca_cons ce_str (ca_cons ce_str (ca_cons ce_str ca_nil)))) ca_nil))) ca_nil))))) (cg_name 3 S.nd))
    (css_cons (cs_asg (ce_add (ce_var 3) (ce_lst (ca_cons (ce_tup (ca_cons (ce_mkX (T.xc "Misread" (by decide)) (T.io "Misread" (by decide)) (by decide) (hr.mono (by decide)) (T.cls "Misread" (by decide)) (ca_cons (ce_var 0) (ca_cons (ce_var 1) ca_nil))) (ca_cons (ce_lst (ca_cons ce_str (ca_cons ce_str ca_nil))) ca_nil))) (ca_cons (ce_tup (ca_cons (ce_mkX (T.xc "Misplaced" (by decide)) (T.io "Misplaced" (by decide)) (by decide) (hr.mono (by decide)) (T.cls "Misplaced" (by decide)) (ca_cons (ce_var 0) (ca_cons (ce_var 1) (ca_cons (ce_var 2) (ca_cons (ce_var 0) ca_nil))))) (ca_cons (ce_lst (ca_cons ce_str (ca_cons ce_str (ca_cons ce_str (ca_cons ce_str ca_nil))))) ca_nil))) ca_nil)))) (cg_name 3 S.nd))
    (css_one (cs_ret (ce_add (ce_var 3) (ce_lst (ca_cons (ce_tup (ca_cons (ce_mkX (T.xc "NotKept" (by decide)) (T.io "NotKept" (by decide)) (by decide) (hr.mono (by decide)) (T.cls "NotKept" (by decide)) (ca_cons (ce_var 0) (ca_cons (ce_var 1) ca_nil))) (ca_cons (ce_lst (ca_cons ce_str (ca_cons ce_str ca_nil))) ca_nil))) ca_nil)))))))))⟩
abbrev st_law_fields : PySem.Stmt := top 21
abbrev N_law_fields : List Str := ["one", "names", "found", "name"]
abbrev P_law_fields : List Str := ["one", "names"]
theorem S_law_fields : FnScope N_law_fields P_law_fields (defScope st_law_fields) := ⟨rfl, rfl, rfl, by decide +kernel, rfl, by decide +kernel, by decide +kernel⟩
def d_law_fields (K : PySem.W.Frag) (ad : Str → Addr) (wd : DX) : TDs :=
  (dSeq (dAsg (dLst dNil) (dName 2))
  (dSeq (dFor (diSeq (dVar 1)) (dName 3) (dIfS (dTest (d2 (fEqA id) (dVar 3) (dC (.str "line")))) (dDrop (dMut "list" 2 fAppend (dCons (dXF (T_cs ad) (dVar 0) "line") dNil))) (dIfS (dTest (d2 (fEqA id) (dVar 3) (dC (.str "word")))) (dDrop (dMut "list" 2 fAppend (dCons (dXF (T_cs ad) (dVar 0) "word") dNil))) (dIfS (dTest (d2 (fEqA id) (dVar 3) (dC (.str "column")))) (dDrop (dMut "list" 2 fAppend (dCons (dXF (T_cs ad) (dVar 0) "column") dNil))) (dIfS (dTest (d2 (fEqA id) (dVar 3) (dC (.str "why")))) (dDrop (dMut "list" 2 fAppend (dCons (dXF (T_cs ad) (dVar 0) "why") dNil))) (dIfS (dTest (d2 (fEqA id) (dVar 3) (dC (.str "name")))) (dDrop (dMut "list" 2 fAppend (dCons (dXF (T_cs ad) (dVar 0) "name") dNil))) (dIfS (dTest (d2 (fEqA id) (dVar 3) (dC (.str "what")))) (dDrop (dMut "list" 2 fAppend (dCons (dXF (T_cs ad) (dVar 0) "what") dNil))) (dIfS (dTest (d2 (fEqA id) (dVar 3) (dC (.str "number")))) (dDrop (dMut "list" 2 fAppend (dCons (dXF (T_cs ad) (dVar 0) "number") dNil))) (dIfS (dTest (d2 (fEqA id) (dVar 3) (dC (.str "row")))) (dDrop (dMut "list" 2 fAppend (dCons (dXF (T_cs ad) (dVar 0) "row") dNil))) (dIfS (dTest (d2 (fEqA id) (dVar 3) (dC (.str "many")))) (dDrop (dMut "list" 2 fAppend (dCons (dXF (T_cs ad) (dVar 0) "many") dNil))) (dIfS (dTest (d2 (fEqA id) (dVar 3) (dC (.str "limit")))) (dDrop (dMut "list" 2 fAppend (dCons (dXF (T_cs ad) (dVar 0) "limit") dNil))) (dIfS (dTest (d2 (fEqA id) (dVar 3) (dC (.str "promise")))) (dDrop (dMut "list" 2 fAppend (dCons (dXF (T_cs ad) (dVar 0) "promise") dNil))) (dDrop (dMut "list" 2 fAppend (dCons (dXF (T_cs ad) (dVar 0) "witness") dNil)))))))))))))))
  (dRet (dVar 2))))
theorem c_law_fields (T : Txt P w K mg base ad)  {f : Addr} (cdv : Value) (A : Around) (outer : List PySem.Env) (s : Shared) (H : Hp) (E : XK) (B : BG) (wd : DX)
    (hr : Room 2 (A.deeper (envOfC "_law_fields" (defScope st_law_fields) s.heap.objs.size f cdv))) (hg : (A.deeper (envOfC "_law_fields" (defScope st_law_fields) s.heap.objs.size f cdv)).guards = some []) :
    ∃ t, CSs (cxOf (L2.CX P w) P w K mg base N_law_fields "_law_fields" (defScope st_law_fields) f cdv A outer s H E) K B ⟨fun cls d _ H => E cls d H, wd⟩ (defBody st_law_fields) t (d_law_fields K ad wd) := by
  have S := S_law_fields
  have tk : Takes (cxOf (L2.CX P w) P w K mg base N_law_fields "_law_fields" (defScope st_law_fields) f cdv A outer s H E) (fun cls d _ H => E cls d H) := takes_of rfl rfl rfl rfl
  exact ⟨_, by exact (css_cons (cs_asg (ce_lst ca_nil) (cg_name 2 S.nd))
    (css_cons (cs_for (passes_of rfl) rfl (ci_seq (ce_var 1)) (cg_name 3 S.nd) (css_one (cs_if (ct_eq hr (ce_var 3) ce_str) (css_one (cs_expr (ce_mut 2 PySem.F.slot_list_append PySem.F.type_list_append mt_append ok_append (ce_var 2) (ca_cons (ce_xf T.kn (ce_var 0)) ca_nil)))) (css_one (cs_if (ct_eq hr (ce_var 3) ce_str) (css_one (cs_expr (ce_mut 2 PySem.F.slot_list_append PySem.F.type_list_append mt_append ok_append (ce_var 2) (ca_cons (ce_xf T.kn (ce_var 0)) ca_nil)))) (css_one (cs_if (ct_eq hr (ce_var 3) ce_str) (css_one (cs_expr (ce_mut 2 PySem.F.slot_list_append PySem.F.type_list_append mt_append ok_append (ce_var 2) (ca_cons (ce_xf T.kn (ce_var 0)) ca_nil)))) (css_one (cs_if (ct_eq hr (ce_var 3) ce_str) (css_one (cs_expr (ce_mut 2 PySem.F.slot_list_append PySem.F.type_list_append mt_append ok_append (ce_var 2) (ca_cons (ce_xf T.kn (ce_var 0)) ca_nil)))) (css_one (cs_if (ct_eq hr (ce_var 3) ce_str) (css_one (cs_expr (ce_mut 2 PySem.F.slot_list_append PySem.F.type_list_append mt_append ok_append (ce_var 2) (ca_cons (ce_xf T.kn (ce_var 0)) ca_nil)))) (css_one (cs_if (ct_eq hr (ce_var 3) ce_str) (css_one (cs_expr (ce_mut 2 PySem.F.slot_list_append PySem.F.type_list_append mt_append ok_append (ce_var 2) (ca_cons (ce_xf T.kn (ce_var 0)) ca_nil)))) (css_one (cs_if (ct_eq hr (ce_var 3) ce_str) (css_one (cs_expr (ce_mut 2 PySem.F.slot_list_append PySem.F.type_list_append mt_append ok_append (ce_var 2) (ca_cons (ce_xf T.kn (ce_var 0)) ca_nil)))) (css_one (cs_if (ct_eq hr (ce_var 3) ce_str) (css_one (cs_expr (ce_mut 2 PySem.F.slot_list_append PySem.F.type_list_append mt_append ok_append (ce_var 2) (ca_cons (ce_xf T.kn (ce_var 0)) ca_nil)))) (css_one (cs_if (ct_eq hr (ce_var 3) ce_str) (css_one (cs_expr (ce_mut 2 PySem.F.slot_list_append PySem.F.type_list_append mt_append ok_append (ce_var 2) (ca_cons (ce_xf T.kn (ce_var 0)) ca_nil)))) (css_one (cs_if (ct_eq hr (ce_var 3) ce_str) (css_one (cs_expr (ce_mut 2 PySem.F.slot_list_append PySem.F.type_list_append mt_append ok_append (ce_var 2) (ca_cons (ce_xf T.kn (ce_var 0)) ca_nil)))) (css_one (cs_if (ct_eq hr (ce_var 3) ce_str) (css_one (cs_expr (ce_mut 2 PySem.F.slot_list_append PySem.F.type_list_append mt_append ok_append (ce_var 2) (ca_cons (ce_xf T.kn (ce_var 0)) ca_nil)))) (css_one (cs_expr (ce_mut 2 PySem.F.slot_list_append PySem.F.type_list_append mt_append ok_append (ce_var 2) (ca_cons (ce_xf T.kn (ce_var 0)) ca_nil)))))))))))))))))))))))))))
    (css_one (cs_ret (ce_var 2)))))⟩
abbrev st_law_kinds : PySem.Stmt := top 23
abbrev N_law_kinds : List Str := ["one", "found"]
abbrev P_law_kinds : List Str := ["one"]
theorem S_law_kinds : FnScope N_law_kinds P_law_kinds (defScope st_law_kinds) := ⟨rfl, rfl, rfl, by decide +kernel, rfl, by decide +kernel, by decide +kernel⟩
def d_law_kinds (K : PySem.W.Frag) (ad : Str → Addr) (wd : DX) : TDs :=
  (dSeq (dAsg (dLst (dCons (dCB (fIs K (T_cs ad)) (dCons (dVar 0) (dCons (dC (.ref (ad "BadText"))) dNil))) (dCons (dCB (fIs K (T_cs ad)) (dCons (dVar 0) (dCons (dC (.ref (ad "BadName"))) dNil))) (dCons (dCB (fIs K (T_cs ad)) (dCons (dVar 0) (dCons (dC (.ref (ad "BadNumber"))) dNil))) (dCons (dCB (fIs K (T_cs ad)) (dCons (dVar 0) (dCons (dC (.ref (ad "BadRow"))) dNil))) dNil))))) (dName 1))
  (dSeq (dAsg (d2 fAdd (dVar 1) (dLst (dCons (dCB (fIs K (T_cs ad)) (dCons (dVar 0) (dCons (dC (.ref (ad "NoName"))) dNil))) (dCons (dCB (fIs K (T_cs ad)) (dCons (dVar 0) (dCons (dC (.ref (ad "TakenName"))) dNil))) (dCons (dCB (fIs K (T_cs ad)) (dCons (dVar 0) (dCons (dC (.ref (ad "Unlike"))) dNil))) (dCons (dCB (fIs K (T_cs ad)) (dCons (dVar 0) (dCons (dC (.ref (ad "NotThere"))) dNil))) dNil)))))) (dName 1))
  (dSeq (dAsg (d2 fAdd (dVar 1) (dLst (dCons (dCB (fIs K (T_cs ad)) (dCons (dVar 0) (dCons (dC (.ref (ad "TooMany"))) dNil))) (dCons (dCB (fIs K (T_cs ad)) (dCons (dVar 0) (dCons (dC (.ref (ad "Misread"))) dNil))) (dCons (dCB (fIs K (T_cs ad)) (dCons (dVar 0) (dCons (dC (.ref (ad "Misplaced"))) dNil))) (dCons (dCB (fIs K (T_cs ad)) (dCons (dVar 0) (dCons (dC (.ref (ad "NotKept"))) dNil))) dNil)))))) (dName 1))
  (dRet (d2 fAdd (dVar 1) (dLst (dCons (dCB (fIs K (T_cs ad)) (dCons (dVar 0) (dCons (dC (.ref (ad "NothingToUndo"))) dNil))) (dCons (dCB (fIs K (T_cs ad)) (dCons (dVar 0) (dCons (dC (.ref (ad "NothingToRedo"))) dNil))) dNil))))))))
theorem c_law_kinds (T : Txt P w K mg base ad)  {f : Addr} (cdv : Value) (A : Around) (outer : List PySem.Env) (s : Shared) (H : Hp) (E : XK) (B : BG) (wd : DX)
    (hr : Room 2 (A.deeper (envOfC "_law_kinds" (defScope st_law_kinds) s.heap.objs.size f cdv))) (hg : (A.deeper (envOfC "_law_kinds" (defScope st_law_kinds) s.heap.objs.size f cdv)).guards = some []) :
    ∃ t, CSs (cxOf (L2.CX P w) P w K mg base N_law_kinds "_law_kinds" (defScope st_law_kinds) f cdv A outer s H E) K B ⟨fun cls d _ H => E cls d H, wd⟩ (defBody st_law_kinds) t (d_law_kinds K ad wd) := by
  have S := S_law_kinds
  have tk : Takes (cxOf (L2.CX P w) P w K mg base N_law_kinds "_law_kinds" (defScope st_law_kinds) f cdv A outer s H E) (fun cls d _ H => E cls d H) := takes_of rfl rfl rfl rfl
  exact ⟨_, by exact (css_cons (cs_asg (ce_lst (ca_cons (ce_cb (ok_is T.kn) call_isE rfl (T.bn "isinstance" (by decide)) (ca_cons (ce_var 0) (ca_cons (ce_cls (T.cls "BadText" (by decide))) ca_nil))) (ca_cons (ce_cb (ok_is T.kn) call_isE rfl (T.bn "isinstance" (by decide)) (ca_cons (ce_var 0) (ca_cons (ce_cls (T.cls "BadName" (by decide))) ca_nil))) (ca_cons (ce_cb (ok_is T.kn) call_isE rfl (T.bn "isinstance" (by decide)) (ca_cons (ce_var 0) (ca_cons (ce_cls (T.cls "BadNumber" (by decide))) ca_nil))) (ca_cons (ce_cb (ok_is T.kn) call_isE rfl (T.bn "isinstance" (by decide)) (ca_cons (ce_var 0) (ca_cons (ce_cls (T.cls "BadRow" (by decide))) ca_nil))) ca_nil))))) (cg_name 1 S.nd))
    (css_cons (cs_asg (ce_add (ce_var 1) (ce_lst (ca_cons (ce_cb (ok_is T.kn) call_isE rfl (T.bn "isinstance" (by decide)) (ca_cons (ce_var 0) (ca_cons (ce_cls (T.cls "NoName" (by decide))) ca_nil))) (ca_cons (ce_cb (ok_is T.kn) call_isE rfl (T.bn "isinstance" (by decide)) (ca_cons (ce_var 0) (ca_cons (ce_cls (T.cls "TakenName" (by decide))) ca_nil))) (ca_cons (ce_cb (ok_is T.kn) call_isE rfl (T.bn "isinstance" (by decide)) (ca_cons (ce_var 0) (ca_cons (ce_cls (T.cls "Unlike" (by decide))) ca_nil))) (ca_cons (ce_cb (ok_is T.kn) call_isE rfl (T.bn "isinstance" (by decide)) (ca_cons (ce_var 0) (ca_cons (ce_cls (T.cls "NotThere" (by decide))) ca_nil))) ca_nil)))))) (cg_name 1 S.nd))
    (css_cons (cs_asg (ce_add (ce_var 1) (ce_lst (ca_cons (ce_cb (ok_is T.kn) call_isE rfl (T.bn "isinstance" (by decide)) (ca_cons (ce_var 0) (ca_cons (ce_cls (T.cls "TooMany" (by decide))) ca_nil))) (ca_cons (ce_cb (ok_is T.kn) call_isE rfl (T.bn "isinstance" (by decide)) (ca_cons (ce_var 0) (ca_cons (ce_cls (T.cls "Misread" (by decide))) ca_nil))) (ca_cons (ce_cb (ok_is T.kn) call_isE rfl (T.bn "isinstance" (by decide)) (ca_cons (ce_var 0) (ca_cons (ce_cls (T.cls "Misplaced" (by decide))) ca_nil))) (ca_cons (ce_cb (ok_is T.kn) call_isE rfl (T.bn "isinstance" (by decide)) (ca_cons (ce_var 0) (ca_cons (ce_cls (T.cls "NotKept" (by decide))) ca_nil))) ca_nil)))))) (cg_name 1 S.nd))
    (css_one (cs_ret (ce_add (ce_var 1) (ce_lst (ca_cons (ce_cb (ok_is T.kn) call_isE rfl (T.bn "isinstance" (by decide)) (ca_cons (ce_var 0) (ca_cons (ce_cls (T.cls "NothingToUndo" (by decide))) ca_nil))) (ca_cons (ce_cb (ok_is T.kn) call_isE rfl (T.bn "isinstance" (by decide)) (ca_cons (ce_var 0) (ca_cons (ce_cls (T.cls "NothingToRedo" (by decide))) ca_nil))) ca_nil)))))))))⟩
end K1
/-! K2 -/
set_option Elab.async false
set_option maxRecDepth 100000
set_option maxHeartbeats 4000000
set_option linter.all false
namespace K1
open PySem PySem.Spec PyProof.Rows L2 Evl DL
theorem map_cons_int {ns : List Int} {d : D} {ds : List D} (h : d :: ds = ns.map D.int) : ∃ (n : Int) (r : List Int), d = .int n ∧ ds = r.map D.int := by
  cases ns with
  | nil => cases h
  | cons n r =>
    simp only [List.map_cons, List.cons.injEq] at h
    exact ⟨n, r, h.1, h.2⟩
section
variable {a b c d e z : D}
abbrev pl (a b c d e : D) : List (Key × D) := [((.inr "cells" : Key), a), (.inr "at", b), (.inr "digits", c), (.inr "count", d), (.inr "fold", e)]
theorem pen_new : putD (putD (putD (putD (putD [] (.inr "cells") a) (.inr "at") b) (.inr "digits") c) (.inr "count") d) (.inr "fold") e = pl a b c d e := by rfl
theorem pg_cells : getD (pl a b c d e) (.inr "cells") = some a := by rfl
theorem pg_at : getD (pl a b c d e) (.inr "at") = some b := by rfl
theorem pg_digits : getD (pl a b c d e) (.inr "digits") = some c := by rfl
theorem pg_count : getD (pl a b c d e) (.inr "count") = some d := by rfl
theorem pg_fold : getD (pl a b c d e) (.inr "fold") = some e := by rfl
theorem pp_at : putD (pl a b c d e) (.inr "at") z = pl a z c d e := by rfl
theorem pp_digits : putD (pl a b c d e) (.inr "digits") z = pl a b z d e := by rfl
theorem pp_count : putD (pl a b c d e) (.inr "count") z = pl a b c z e := by rfl
theorem pp_fold : putD (pl a b c d e) (.inr "fold") z = pl a b c d z := by rfl
end
theorem pure_pen {K : PySem.W.Frag} {ad : Str → Addr} (o ds k kx) (h : s_law_pen o ds k kx) : bodyF N_law_pen.length (d_law_pen K ad) o ds k kx := by
  obtain ⟨ns, rfl, rfl, hl, hk⟩ := h
  refine ⟨Nat.le_of_ble_eq_true rfl, fun a => ?_⟩
  simp only [d_law_pen, N_law_pen, dSeq, dAsg, dC, dName, q_put, dFor, diSeq, dVar, q_see_im, q_see_ow, q_see_al, q_frz_im, q_frz_ow, q_frz_al, q_startN, q_startS, dDrop, dRet, dRetN, dNext, dBreak, dCont, dIfS, dTest, dAnd, dOr, dNot, dAndV, dOrV, dNotV, dIf, d2, dUn, fNeg, fI0', fI', fI0, fI, fLift, fEqA, fEq, q_eqv_int, q_eqv_str, q_sh_int, PyData.canLay0, id_eq, fAdd, dCB, dNil, dCons, looks, fLen, q_lenL, q_lenT, fList, q_seqL, q_seqR, q_seqT, fInt1, fTuple, q_walkL, q_walkR, q_walkT, q_walkS, q_itL, q_itT, dSl, dPart, dNoPart, q_slL, q_slT, dUnp, dgCons, dgNil, dNameC, plainS, dLst, dTup, frzs, dPut, dGet, keyD, dDisp, dPairs, DL.pairD, mergeD, fIx, dMut, isT, fAppend, dCall, dCallIo, q_rvI, q_rvO, q_ioN, q_ioS, q_rv_im, q_rv_ow, q_rv_al, py, dYes, List.cons.injEq, Prod.mk.injEq, and_assoc, List.map_cons, List.map_nil, List.length_cons, List.length_nil, List.nil_append, List.cons_append, List.append_nil, List.replicate_succ, List.replicate_zero, List.getElem?_cons_zero, List.getElem?_cons_succ, List.getElem?_nil, List.set_cons_zero, List.set_cons_succ, List.foldl_cons, List.foldl_nil, Option.some.injEq, Option.isSome_some, Option.isSome_none, exists_eq_left', exists_eq_left, exists_eq', exists_eq, exists_and_left, exists_const, true_and, and_true, ne_eq, not_false_eq_true, D.int.injEq, D.str.injEq, D.bl.injEq, D.lst.injEq, D.tup.injEq, D.dct.injEq, S.ow.injEq, Option.map_some, reduceIte, Bool.false_eq_true, if_true, if_false, Nat.reduceAdd, Nat.reduceSub, Nat.sub_zero, Nat.zero_add]
  refine loop_ind (fun ms ρ => ∃ (ms' : List Int) (f : Int) (c : S), ms = ms'.map D.int ∧ ρ = [S.im (D.rol (ns.map D.int)), S.im (D.int f), c] ∧ 0 ≤ f ∧ f < 1000000613) ?_ ?_ _ _ ⟨ns, 71, .un, rfl, rfl, by omega, by omega⟩
  · rintro ρ ⟨ms', f, c, hm, rfl, h0, h1⟩
    simp only [dSeq, dAsg, dC, dName, q_put, dFor, diSeq, dVar, q_see_im, q_see_ow, q_see_al, q_frz_im, q_frz_ow, q_frz_al, q_startN, q_startS, dDrop, dRet, dRetN, dNext, dBreak, dCont, dIfS, dTest, dAnd, dOr, dNot, dAndV, dOrV, dNotV, dIf, d2, dUn, fNeg, fI0', fI', fI0, fI, fLift, fEqA, fEq, q_eqv_int, q_eqv_str, q_sh_int, PyData.canLay0, id_eq, fAdd, dCB, dNil, dCons, looks, fLen, q_lenL, q_lenT, fList, q_seqL, q_seqR, q_seqT, fInt1, fTuple, q_walkL, q_walkR, q_walkT, q_walkS, q_itL, q_itT, dSl, dPart, dNoPart, q_slL, q_slT, dUnp, dgCons, dgNil, dNameC, plainS, dLst, dTup, frzs, dPut, dGet, keyD, dDisp, dPairs, DL.pairD, mergeD, fIx, dMut, isT, fAppend, dCall, dCallIo, q_rvI, q_rvO, q_ioN, q_ioS, q_rv_im, q_rv_ow, q_rv_al, py, dYes, List.cons.injEq, Prod.mk.injEq, and_assoc, List.map_cons, List.map_nil, List.length_cons, List.length_nil, List.nil_append, List.cons_append, List.append_nil, List.replicate_succ, List.replicate_zero, List.getElem?_cons_zero, List.getElem?_cons_succ, List.getElem?_nil, List.set_cons_zero, List.set_cons_succ, List.foldl_cons, List.foldl_nil, Option.some.injEq, Option.isSome_some, Option.isSome_none, exists_eq_left', exists_eq_left, exists_eq', exists_eq, exists_and_left, exists_const, true_and, and_true, ne_eq, not_false_eq_true, D.int.injEq, D.str.injEq, D.bl.injEq, D.lst.injEq, D.tup.injEq, D.dct.injEq, S.ow.injEq, Option.map_some, reduceIte, Bool.false_eq_true, if_true, if_false, Nat.reduceAdd, Nat.reduceSub, Nat.sub_zero, Nat.zero_add, pen_new]
    refine fun _ => ⟨by decide, fun _ => hk _ ⟨ns, 0, 0, 0, f, rfl, by omega, by omega, hl, by omega, by omega, by omega, h0, by omega⟩⟩
  · rintro d ds ρ L hL ⟨ms', f, c, hm, rfl, h0, h1⟩
    obtain ⟨n, r, rfl, rfl⟩ := map_cons_int hm
    simp only [dSeq, dAsg, dC, dName, q_put, dFor, diSeq, dVar, q_see_im, q_see_ow, q_see_al, q_frz_im, q_frz_ow, q_frz_al, q_startN, q_startS, dDrop, dRet, dRetN, dNext, dBreak, dCont, dIfS, dTest, dAnd, dOr, dNot, dAndV, dOrV, dNotV, dIf, d2, dUn, fNeg, fI0', fI', fI0, fI, fLift, fEqA, fEq, q_eqv_int, q_eqv_str, q_sh_int, PyData.canLay0, id_eq, fAdd, dCB, dNil, dCons, looks, fLen, q_lenL, q_lenT, fList, q_seqL, q_seqR, q_seqT, fInt1, fTuple, q_walkL, q_walkR, q_walkT, q_walkS, q_itL, q_itT, dSl, dPart, dNoPart, q_slL, q_slT, dUnp, dgCons, dgNil, dNameC, plainS, dLst, dTup, frzs, dPut, dGet, keyD, dDisp, dPairs, DL.pairD, mergeD, fIx, dMut, isT, fAppend, dCall, dCallIo, q_rvI, q_rvO, q_ioN, q_ioS, q_rv_im, q_rv_ow, q_rv_al, py, dYes, List.cons.injEq, Prod.mk.injEq, and_assoc, List.map_cons, List.map_nil, List.length_cons, List.length_nil, List.nil_append, List.cons_append, List.append_nil, List.replicate_succ, List.replicate_zero, List.getElem?_cons_zero, List.getElem?_cons_succ, List.getElem?_nil, List.set_cons_zero, List.set_cons_succ, List.foldl_cons, List.foldl_nil, Option.some.injEq, Option.isSome_some, Option.isSome_none, exists_eq_left', exists_eq_left, exists_eq', exists_eq, exists_and_left, exists_const, true_and, and_true, ne_eq, not_false_eq_true, D.int.injEq, D.str.injEq, D.bl.injEq, D.lst.injEq, D.tup.injEq, D.dct.injEq, S.ow.injEq, Option.map_some, reduceIte, Bool.false_eq_true, if_true, if_false, Nat.reduceAdd, Nat.reduceSub, Nat.sub_zero, Nat.zero_add]
    refine ⟨.inr (by constructor <;> decide), by decide, hL _ ⟨r, _, _, rfl, rfl, Int.emod_nonneg _ (by decide), Int.emod_lt_of_pos _ (by decide)⟩⟩
theorem PenOk.up {n : Nat} {cells : List Int} {a d c f : Int} (h : PenOk n cells a d c f) : PenOk (n + 1) cells a d (c + 1) f := ⟨h.a0, h.a1, h.a2, h.d0, by have := h.c0; omega, by have := h.c1; omega, h.f0, h.f1⟩
theorem pure_draw {K : PySem.W.Frag} {ad : Str → Addr} (o ds k kx) (h : s_law_draw o ds k kx) : bodyF N_law_draw.length (d_law_draw K ad) o ds k kx := by
  obtain ⟨m, n, p, rfl, rfl, ⟨cells, at_, dg, ct, fo, rfl, ok⟩, m0, m1, hn, hk⟩ := h
  refine ⟨Nat.le_of_ble_eq_true rfl, fun a => ?_⟩
  unfold d_law_draw
  have z5 : 5 < sizeLine := by decide
  have ok2 := ok.up
  refine seq_cut (fun ρ => ρ = [.ow a (penD cells at_ dg (ct + 1) fo), .im (.int m), .un, .un, .un]) ?_ fun U hU => ?_
  rotate_left
  · simp only [N_law_draw, penD, dSeq, dAsg, dC, dName, q_put, dFor, diSeq, dVar, q_see_im, q_see_ow, q_see_al, q_frz_im, q_frz_ow, q_frz_al, q_startN, q_startS, dDrop, dRet, dRetN, dNext, dBreak, dCont, dIfS, dTest, dAnd, dOr, dNot, dAndV, dOrV, dNotV, dIf, d2, dUn, fNeg, fI0', fI', fI0, fI, fLift, fEqA, fEq, q_eqv_int, q_eqv_str, q_sh_int, PyData.canLay0, id_eq, fAdd, dCB, dNil, dCons, looks, fLen, q_lenL, q_lenT, fList, q_seqL, q_seqR, q_seqT, fInt1, fTuple, q_walkL, q_walkR, q_walkT, q_walkS, q_itL, q_itT, dSl, dPart, dNoPart, q_slL, q_slT, dUnp, dgCons, dgNil, dNameC, plainS, dLst, dTup, frzs, dPut, dGet, keyD, dDisp, dPairs, DL.pairD, mergeD, fIx, dMut, isT, fAppend, dCall, dCallIo, q_rvI, q_rvO, q_ioN, q_ioS, q_rv_im, q_rv_ow, q_rv_al, py, dYes, List.cons.injEq, Prod.mk.injEq, and_assoc, List.map_cons, List.map_nil, List.length_cons, List.length_nil, List.nil_append, List.cons_append, List.append_nil, List.replicate_succ, List.replicate_zero, List.getElem?_cons_zero, List.getElem?_cons_succ, List.getElem?_nil, List.set_cons_zero, List.set_cons_succ, List.foldl_cons, List.foldl_nil, Option.some.injEq, Option.isSome_some, Option.isSome_none, exists_eq_left', exists_eq_left, exists_eq', exists_eq, exists_and_left, exists_const, true_and, and_true, ne_eq, not_false_eq_true, D.int.injEq, D.str.injEq, D.bl.injEq, D.lst.injEq, D.tup.injEq, D.dct.injEq, S.ow.injEq, Option.map_some, reduceIte, Bool.false_eq_true, if_true, if_false, Nat.reduceAdd, Nat.reduceSub, Nat.sub_zero, Nat.zero_add, pg_cells, pg_at, pg_digits, pg_count, pg_fold, pp_at, pp_digits, pp_count, pp_fold]
    exact ⟨z5, hU _ rfl⟩
  rintro _ rfl
  refine seq_cut (fun ρ => ∃ c at_ dg fo, ρ = [.ow a (penD cells at_ dg (ct + 1) fo), .im (.int m), c, .un, .un] ∧ PenOk (n + 1) cells at_ dg (ct + 1) fo) ?_ fun U hU => ?_
  rotate_left
  · refine if_det (decide (dg = 0) && decide (at_ < (cells.length : Int))) [.ow a (penD cells at_ dg (ct + 1) fo), .im (.int m), .un, .un, .un] (fun Q hq => ?_) (fun hb => ?_) fun _ => ?_
    · simp only [N_law_draw, penD, dSeq, dAsg, dC, dName, q_put, dFor, diSeq, dVar, q_see_im, q_see_ow, q_see_al, q_frz_im, q_frz_ow, q_frz_al, q_startN, q_startS, dDrop, dRet, dRetN, dNext, dBreak, dCont, dIfS, dTest, dAnd, dOr, dNot, dAndV, dOrV, dNotV, dIf, d2, dUn, fNeg, fI0', fI', fI0, fI, fLift, fEqA, fEq, q_eqv_int, q_eqv_str, q_sh_int, PyData.canLay0, id_eq, fAdd, dCB, dNil, dCons, looks, fLen, q_lenL, q_lenT, fList, q_seqL, q_seqR, q_seqT, fInt1, fTuple, q_walkL, q_walkR, q_walkT, q_walkS, q_itL, q_itT, dSl, dPart, dNoPart, q_slL, q_slT, dUnp, dgCons, dgNil, dNameC, plainS, dLst, dTup, frzs, dPut, dGet, keyD, dDisp, dPairs, DL.pairD, mergeD, fIx, dMut, isT, fAppend, dCall, dCallIo, q_rvI, q_rvO, q_ioN, q_ioS, q_rv_im, q_rv_ow, q_rv_al, py, dYes, List.cons.injEq, Prod.mk.injEq, and_assoc, List.map_cons, List.map_nil, List.length_cons, List.length_nil, List.nil_append, List.cons_append, List.append_nil, List.replicate_succ, List.replicate_zero, List.getElem?_cons_zero, List.getElem?_cons_succ, List.getElem?_nil, List.set_cons_zero, List.set_cons_succ, List.foldl_cons, List.foldl_nil, Option.some.injEq, Option.isSome_some, Option.isSome_none, exists_eq_left', exists_eq_left, exists_eq', exists_eq, exists_and_left, exists_const, true_and, and_true, ne_eq, not_false_eq_true, D.int.injEq, D.str.injEq, D.bl.injEq, D.lst.injEq, D.tup.injEq, D.dct.injEq, S.ow.injEq, Option.map_some, reduceIte, Bool.false_eq_true, if_true, if_false, Nat.reduceAdd, Nat.reduceSub, Nat.sub_zero, Nat.zero_add, pg_cells, pg_at, pg_digits, pg_count, pg_fold, pp_at, pp_digits, pp_count, pp_fold]
      simp only [penD] at hq
      by_cases h0 : dg = 0
      · subst h0
        simpa using hq
      · simpa [h0] using hq
    · have hb2 : dg = 0 ∧ at_ < cells.length := by simpa using hb
      have hlt : at_.toNat < cells.length := by have := ok.a0; omega
      refine seq_cut (fun ρ => ρ = [.ow a (penD cells at_ dg (ct + 1) fo), .im (.int m), .im (.int cells[at_.toNat]), .un, .un]) ?_ fun U hU => ?_
      rotate_left
      · simp only [N_law_draw, penD, dSeq, dAsg, dC, dName, q_put, dFor, diSeq, dVar, q_see_im, q_see_ow, q_see_al, q_frz_im, q_frz_ow, q_frz_al, q_startN, q_startS, dDrop, dRet, dRetN, dNext, dBreak, dCont, dIfS, dTest, dAnd, dOr, dNot, dAndV, dOrV, dNotV, dIf, d2, dUn, fNeg, fI0', fI', fI0, fI, fLift, fEqA, fEq, q_eqv_int, q_eqv_str, q_sh_int, PyData.canLay0, id_eq, fAdd, dCB, dNil, dCons, looks, fLen, q_lenL, q_lenT, fList, q_seqL, q_seqR, q_seqT, fInt1, fTuple, q_walkL, q_walkR, q_walkT, q_walkS, q_itL, q_itT, dSl, dPart, dNoPart, q_slL, q_slT, dUnp, dgCons, dgNil, dNameC, plainS, dLst, dTup, frzs, dPut, dGet, keyD, dDisp, dPairs, DL.pairD, mergeD, fIx, dMut, isT, fAppend, dCall, dCallIo, q_rvI, q_rvO, q_ioN, q_ioS, q_rv_im, q_rv_ow, q_rv_al, py, dYes, List.cons.injEq, Prod.mk.injEq, and_assoc, List.map_cons, List.map_nil, List.length_cons, List.length_nil, List.nil_append, List.cons_append, List.append_nil, List.replicate_succ, List.replicate_zero, List.getElem?_cons_zero, List.getElem?_cons_succ, List.getElem?_nil, List.set_cons_zero, List.set_cons_succ, List.foldl_cons, List.foldl_nil, Option.some.injEq, Option.isSome_some, Option.isSome_none, exists_eq_left', exists_eq_left, exists_eq', exists_eq, exists_and_left, exists_const, true_and, and_true, ne_eq, not_false_eq_true, D.int.injEq, D.str.injEq, D.bl.injEq, D.lst.injEq, D.tup.injEq, D.dct.injEq, S.ow.injEq, Option.map_some, reduceIte, Bool.false_eq_true, if_true, if_false, Nat.reduceAdd, Nat.reduceSub, Nat.sub_zero, Nat.zero_add, pg_cells, pg_at, pg_digits, pg_count, pg_fold, pp_at, pp_digits, pp_count, pp_fold]
        have e : atI (cells.map D.int) at_ = some (.int cells[at_.toNat]) := by
          have ha := ok.a0
          have h := L2.atI_nat (xs := cells.map D.int) (j := at_.toNat) (v := D.int cells[at_.toNat]) (by simp [hlt])
          rwa [Int.toNat_of_nonneg ha] at h
        exact ⟨_, e, hU _ rfl⟩
      rintro _ rfl
      refine seq_cut (fun ρ => ρ = [.ow a (penD cells (at_ + 1) dg (ct + 1) fo), .im (.int m), .im (.int cells[at_.toNat]), .un, .un]) ?_ fun U hU => ?_
      rotate_left
      · simp only [N_law_draw, penD, dSeq, dAsg, dC, dName, q_put, dFor, diSeq, dVar, q_see_im, q_see_ow, q_see_al, q_frz_im, q_frz_ow, q_frz_al, q_startN, q_startS, dDrop, dRet, dRetN, dNext, dBreak, dCont, dIfS, dTest, dAnd, dOr, dNot, dAndV, dOrV, dNotV, dIf, d2, dUn, fNeg, fI0', fI', fI0, fI, fLift, fEqA, fEq, q_eqv_int, q_eqv_str, q_sh_int, PyData.canLay0, id_eq, fAdd, dCB, dNil, dCons, looks, fLen, q_lenL, q_lenT, fList, q_seqL, q_seqR, q_seqT, fInt1, fTuple, q_walkL, q_walkR, q_walkT, q_walkS, q_itL, q_itT, dSl, dPart, dNoPart, q_slL, q_slT, dUnp, dgCons, dgNil, dNameC, plainS, dLst, dTup, frzs, dPut, dGet, keyD, dDisp, dPairs, DL.pairD, mergeD, fIx, dMut, isT, fAppend, dCall, dCallIo, q_rvI, q_rvO, q_ioN, q_ioS, q_rv_im, q_rv_ow, q_rv_al, py, dYes, List.cons.injEq, Prod.mk.injEq, and_assoc, List.map_cons, List.map_nil, List.length_cons, List.length_nil, List.nil_append, List.cons_append, List.append_nil, List.replicate_succ, List.replicate_zero, List.getElem?_cons_zero, List.getElem?_cons_succ, List.getElem?_nil, List.set_cons_zero, List.set_cons_succ, List.foldl_cons, List.foldl_nil, Option.some.injEq, Option.isSome_some, Option.isSome_none, exists_eq_left', exists_eq_left, exists_eq', exists_eq, exists_and_left, exists_const, true_and, and_true, ne_eq, not_false_eq_true, D.int.injEq, D.str.injEq, D.bl.injEq, D.lst.injEq, D.tup.injEq, D.dct.injEq, S.ow.injEq, Option.map_some, reduceIte, Bool.false_eq_true, if_true, if_false, Nat.reduceAdd, Nat.reduceSub, Nat.sub_zero, Nat.zero_add, pg_cells, pg_at, pg_digits, pg_count, pg_fold, pp_at, pp_digits, pp_count, pp_fold]
        exact ⟨z5, hU _ rfl⟩
      rintro _ rfl
      simp only [N_law_draw, penD, dSeq, dAsg, dC, dName, q_put, dFor, diSeq, dVar, q_see_im, q_see_ow, q_see_al, q_frz_im, q_frz_ow, q_frz_al, q_startN, q_startS, dDrop, dRet, dRetN, dNext, dBreak, dCont, dIfS, dTest, dAnd, dOr, dNot, dAndV, dOrV, dNotV, dIf, d2, dUn, fNeg, fI0', fI', fI0, fI, fLift, fEqA, fEq, q_eqv_int, q_eqv_str, q_sh_int, PyData.canLay0, id_eq, fAdd, dCB, dNil, dCons, looks, fLen, q_lenL, q_lenT, fList, q_seqL, q_seqR, q_seqT, fInt1, fTuple, q_walkL, q_walkR, q_walkT, q_walkS, q_itL, q_itT, dSl, dPart, dNoPart, q_slL, q_slT, dUnp, dgCons, dgNil, dNameC, plainS, dLst, dTup, frzs, dPut, dGet, keyD, dDisp, dPairs, DL.pairD, mergeD, fIx, dMut, isT, fAppend, dCall, dCallIo, q_rvI, q_rvO, q_ioN, q_ioS, q_rv_im, q_rv_ow, q_rv_al, py, dYes, List.cons.injEq, Prod.mk.injEq, and_assoc, List.map_cons, List.map_nil, List.length_cons, List.length_nil, List.nil_append, List.cons_append, List.append_nil, List.replicate_succ, List.replicate_zero, List.getElem?_cons_zero, List.getElem?_cons_succ, List.getElem?_nil, List.set_cons_zero, List.set_cons_succ, List.foldl_cons, List.foldl_nil, Option.some.injEq, Option.isSome_some, Option.isSome_none, exists_eq_left', exists_eq_left, exists_eq', exists_eq, exists_and_left, exists_const, true_and, and_true, ne_eq, not_false_eq_true, D.int.injEq, D.str.injEq, D.bl.injEq, D.lst.injEq, D.tup.injEq, D.dct.injEq, S.ow.injEq, Option.map_some, reduceIte, Bool.false_eq_true, if_true, if_false, Nat.reduceAdd, Nat.reduceSub, Nat.sub_zero, Nat.zero_add, pg_cells, pg_at, pg_digits, pg_count, pg_fold, pp_at, pp_digits, pp_count, pp_fold]
      refine ⟨⟨by decide, by decide, by decide⟩, ?_⟩
      split
      · rename_i h18
        have h18 := of_decide_eq_true h18
        refine ⟨⟨by decide, by decide, by decide⟩, z5, hU _ ⟨_, _, _, _, rfl, ⟨by have := ok.a0; omega, by omega, ok.a2, ?_, ok2.c0, ok2.c1, ok.f0, ok.f1⟩⟩⟩
        omega
      · refine ⟨.inr (by constructor <;> decide), by decide, z5, hU _ ⟨_, _, _, _, rfl, ⟨by have := ok.a0; omega, by omega, ok.a2, ok.d0, ok2.c0, ok2.c1, Int.emod_nonneg _ (by decide), Int.emod_lt_of_pos _ (by decide)⟩⟩⟩
    · exact hU _ ⟨_, _, _, _, rfl, ok2⟩
  rintro _ ⟨c, at_, dg, fo, rfl, ok2⟩
  refine seq_cut (fun ρ => ρ = [.ow a (penD cells at_ dg (ct + 1) fo), .im (.int m), c, .un, .un]) ?_ fun U hU => ?_
  rotate_left
  · simp only [N_law_draw, penD, dSeq, dAsg, dC, dName, q_put, dFor, diSeq, dVar, q_see_im, q_see_ow, q_see_al, q_frz_im, q_frz_ow, q_frz_al, q_startN, q_startS, dDrop, dRet, dRetN, dNext, dBreak, dCont, dIfS, dTest, dAnd, dOr, dNot, dAndV, dOrV, dNotV, dIf, d2, dUn, fNeg, fI0', fI', fI0, fI, fLift, fEqA, fEq, q_eqv_int, q_eqv_str, q_sh_int, PyData.canLay0, id_eq, fAdd, dCB, dNil, dCons, looks, fLen, q_lenL, q_lenT, fList, q_seqL, q_seqR, q_seqT, fInt1, fTuple, q_walkL, q_walkR, q_walkT, q_walkS, q_itL, q_itT, dSl, dPart, dNoPart, q_slL, q_slT, dUnp, dgCons, dgNil, dNameC, plainS, dLst, dTup, frzs, dPut, dGet, keyD, dDisp, dPairs, DL.pairD, mergeD, fIx, dMut, isT, fAppend, dCall, dCallIo, q_rvI, q_rvO, q_ioN, q_ioS, q_rv_im, q_rv_ow, q_rv_al, py, dYes, List.cons.injEq, Prod.mk.injEq, and_assoc, List.map_cons, List.map_nil, List.length_cons, List.length_nil, List.nil_append, List.cons_append, List.append_nil, List.replicate_succ, List.replicate_zero, List.getElem?_cons_zero, List.getElem?_cons_succ, List.getElem?_nil, List.set_cons_zero, List.set_cons_succ, List.foldl_cons, List.foldl_nil, Option.some.injEq, Option.isSome_some, Option.isSome_none, exists_eq_left', exists_eq_left, exists_eq', exists_eq, exists_and_left, exists_const, true_and, and_true, ne_eq, not_false_eq_true, D.int.injEq, D.str.injEq, D.bl.injEq, D.lst.injEq, D.tup.injEq, D.dct.injEq, S.ow.injEq, Option.map_some, reduceIte, Bool.false_eq_true, if_true, if_false, Nat.reduceAdd, Nat.reduceSub, Nat.sub_zero, Nat.zero_add, pg_cells, pg_at, pg_digits, pg_count, pg_fold, pp_at, pp_digits, pp_count, pp_fold]
    split
    · refine ⟨m0, ⟨by omega, by omega⟩, z5, hk _ _ (Int.emod_nonneg _ (by omega)) (Int.emod_lt_of_pos _ m0) ⟨_, _, _, _, _, rfl, ok2.a0, ok2.a1, ok2.a2, ?_, ok2.c0, ok2.c1, ok2.f0, ok2.f1⟩⟩
      exact Int.fdiv_nonneg ok2.d0 (by omega)
    · exact hU _ rfl
  rintro _ rfl
  simp only [N_law_draw, penD, dSeq, dAsg, dC, dName, q_put, dFor, diSeq, dVar, q_see_im, q_see_ow, q_see_al, q_frz_im, q_frz_ow, q_frz_al, q_startN, q_startS, dDrop, dRet, dRetN, dNext, dBreak, dCont, dIfS, dTest, dAnd, dOr, dNot, dAndV, dOrV, dNotV, dIf, d2, dUn, fNeg, fI0', fI', fI0, fI, fLift, fEqA, fEq, q_eqv_int, q_eqv_str, q_sh_int, PyData.canLay0, id_eq, fAdd, dCB, dNil, dCons, looks, fLen, q_lenL, q_lenT, fList, q_seqL, q_seqR, q_seqT, fInt1, fTuple, q_walkL, q_walkR, q_walkT, q_walkS, q_itL, q_itT, dSl, dPart, dNoPart, q_slL, q_slT, dUnp, dgCons, dgNil, dNameC, plainS, dLst, dTup, frzs, dPut, dGet, keyD, dDisp, dPairs, DL.pairD, mergeD, fIx, dMut, isT, fAppend, dCall, dCallIo, q_rvI, q_rvO, q_ioN, q_ioS, q_rv_im, q_rv_ow, q_rv_al, py, dYes, List.cons.injEq, Prod.mk.injEq, and_assoc, List.map_cons, List.map_nil, List.length_cons, List.length_nil, List.nil_append, List.cons_append, List.append_nil, List.replicate_succ, List.replicate_zero, List.getElem?_cons_zero, List.getElem?_cons_succ, List.getElem?_nil, List.set_cons_zero, List.set_cons_succ, List.foldl_cons, List.foldl_nil, Option.some.injEq, Option.isSome_some, Option.isSome_none, exists_eq_left', exists_eq_left, exists_eq', exists_eq, exists_and_left, exists_const, true_and, and_true, ne_eq, not_false_eq_true, D.int.injEq, D.str.injEq, D.bl.injEq, D.lst.injEq, D.tup.injEq, D.dct.injEq, S.ow.injEq, Option.map_some, reduceIte, Bool.false_eq_true, if_true, if_false, Nat.reduceAdd, Nat.reduceSub, Nat.sub_zero, Nat.zero_add, pg_cells, pg_at, pg_digits, pg_count, pg_fold, pp_at, pp_digits, pp_count, pp_fold]
  refine ⟨.inr (by constructor <;> decide), ⟨by decide, by decide, ?_⟩, by decide, ⟨by decide, by decide⟩, m0, hk _ _ (Int.emod_nonneg _ (by omega)) (Int.emod_lt_of_pos _ m0) ⟨_, _, _, _, _, rfl, ok2⟩⟩
  have h1 := ok2.c1
  have h2 := ok2.c0
  have h3 := ok2.f0
  have h4 := ok2.f1
  omega
end K1
/-! K3 -/
set_option Elab.async false
set_option maxRecDepth 100000
set_option maxHeartbeats 4000000
set_option linter.all false
namespace K1
open PySem PySem.Spec PyProof.Rows L2 Evl DL
theorem atI_mem {α : Type} {xs : List α} {i : Int} (h0 : 0 ≤ i) (h1 : i < xs.length) : ∃ x, atI xs i = some x ∧ x ∈ xs := by
  have hlt : i.toNat < xs.length := by omega
  have h := L2.atI_nat (xs := xs) (j := i.toNat) (v := xs[i.toNat]) (by simp [hlt])
  rw [Int.toNat_of_nonneg h0] at h
  exact ⟨_, h, List.getElem_mem hlt⟩
theorem pure_pick {K : PySem.W.Frag} {ad : Str → Addr} (o ds k kx) (h : s_law_pick o ds k kx) : bodyF N_law_pick.length (d_law_pick K ad) o ds k kx := by
  obtain ⟨xs, n, p, rfl, rfl, hp, h0, h1, hn, hk⟩ := h
  refine ⟨Nat.le_of_ble_eq_true rfl, fun a => ?_⟩
  simp only [d_law_pick, N_law_pick, dSeq, dAsg, dC, dName, q_put, dFor, diSeq, dVar, q_see_im, q_see_ow, q_see_al, q_frz_im, q_frz_ow, q_frz_al, q_startN, q_startS, dDrop, dRet, dRetN, dNext, dBreak, dCont, dIfS, dTest, dAnd, dOr, dNot, dAndV, dOrV, dNotV, dIf, d2, dUn, fNeg, fI0', fI', fI0, fI, fLift, fEqA, fEq, q_eqv_int, q_eqv_str, q_sh_int, PyData.canLay0, id_eq, fAdd, dCB, dNil, dCons, looks, fLen, q_lenL, q_lenT, fList, q_seqL, q_seqR, q_seqT, fInt1, fTuple, q_walkL, q_walkR, q_walkT, q_walkS, q_itL, q_itT, dSl, dPart, dNoPart, q_slL, q_slT, dUnp, dgCons, dgNil, dNameC, plainS, dLst, dTup, frzs, dPut, dGet, keyD, dDisp, dPairs, DL.pairD, mergeD, fIx, dMut, isT, fAppend, dCall, dCallIo, q_rvI, q_rvO, q_ioN, q_ioS, q_rv_im, q_rv_ow, q_rv_al, py, dYes, List.cons.injEq, Prod.mk.injEq, and_assoc, List.map_cons, List.map_nil, List.length_cons, List.length_nil, List.nil_append, List.cons_append, List.append_nil, List.replicate_succ, List.replicate_zero, List.getElem?_cons_zero, List.getElem?_cons_succ, List.getElem?_nil, List.set_cons_zero, List.set_cons_succ, List.foldl_cons, List.foldl_nil, Option.some.injEq, Option.isSome_some, Option.isSome_none, exists_eq_left', exists_eq_left, exists_eq', exists_eq, exists_and_left, exists_const, true_and, and_true, ne_eq, not_false_eq_true, D.int.injEq, D.str.injEq, D.bl.injEq, D.lst.injEq, D.tup.injEq, D.dct.injEq, S.ow.injEq, Option.map_some, reduceIte, Bool.false_eq_true, if_true, if_false, Nat.reduceAdd, Nat.reduceSub, Nat.sub_zero, Nat.zero_add]
  refine ⟨_, n, p, rfl, rfl, hp, by omega, by omega, hn, fun d p' d0 d1 hp' => ?_⟩
  obtain ⟨x, hx, hm⟩ := atI_mem (xs := xs) d0 d1
  simp only [dSeq, dAsg, dC, dName, q_put, dFor, diSeq, dVar, q_see_im, q_see_ow, q_see_al, q_frz_im, q_frz_ow, q_frz_al, q_startN, q_startS, dDrop, dRet, dRetN, dNext, dBreak, dCont, dIfS, dTest, dAnd, dOr, dNot, dAndV, dOrV, dNotV, dIf, d2, dUn, fNeg, fI0', fI', fI0, fI, fLift, fEqA, fEq, q_eqv_int, q_eqv_str, q_sh_int, PyData.canLay0, id_eq, fAdd, dCB, dNil, dCons, looks, fLen, q_lenL, q_lenT, fList, q_seqL, q_seqR, q_seqT, fInt1, fTuple, q_walkL, q_walkR, q_walkT, q_walkS, q_itL, q_itT, dSl, dPart, dNoPart, q_slL, q_slT, dUnp, dgCons, dgNil, dNameC, plainS, dLst, dTup, frzs, dPut, dGet, keyD, dDisp, dPairs, DL.pairD, mergeD, fIx, dMut, isT, fAppend, dCall, dCallIo, q_rvI, q_rvO, q_ioN, q_ioS, q_rv_im, q_rv_ow, q_rv_al, py, dYes, List.cons.injEq, Prod.mk.injEq, and_assoc, List.map_cons, List.map_nil, List.length_cons, List.length_nil, List.nil_append, List.cons_append, List.append_nil, List.replicate_succ, List.replicate_zero, List.getElem?_cons_zero, List.getElem?_cons_succ, List.getElem?_nil, List.set_cons_zero, List.set_cons_succ, List.foldl_cons, List.foldl_nil, Option.some.injEq, Option.isSome_some, Option.isSome_none, exists_eq_left', exists_eq_left, exists_eq', exists_eq, exists_and_left, exists_const, true_and, and_true, ne_eq, not_false_eq_true, D.int.injEq, D.str.injEq, D.bl.injEq, D.lst.injEq, D.tup.injEq, D.dct.injEq, S.ow.injEq, Option.map_some, reduceIte, Bool.false_eq_true, if_true, if_false, Nat.reduceAdd, Nat.reduceSub, Nat.sub_zero, Nat.zero_add]
  exact ⟨x, hx, hk x p' hm hp'⟩
theorem pure_value {K : PySem.W.Frag} {ad : Str → Addr} (o ds k kx) (h : s_law_value o ds k kx) : bodyF N_law_value.length (d_law_value K ad) o ds k kx := by
  obtain ⟨n, p, rfl, rfl, hp, hn, hk⟩ := h
  refine ⟨Nat.le_of_ble_eq_true rfl, fun a => ?_⟩
  simp only [d_law_value, N_law_value, dSeq, dAsg, dC, dName, q_put, dFor, diSeq, dVar, q_see_im, q_see_ow, q_see_al, q_frz_im, q_frz_ow, q_frz_al, q_startN, q_startS, dDrop, dRet, dRetN, dNext, dBreak, dCont, dIfS, dTest, dAnd, dOr, dNot, dAndV, dOrV, dNotV, dIf, d2, dUn, fNeg, fI0', fI', fI0, fI, fLift, fEqA, fEq, q_eqv_int, q_eqv_str, q_sh_int, PyData.canLay0, id_eq, fAdd, dCB, dNil, dCons, looks, fLen, q_lenL, q_lenT, fList, q_seqL, q_seqR, q_seqT, fInt1, fTuple, q_walkL, q_walkR, q_walkT, q_walkS, q_itL, q_itT, dSl, dPart, dNoPart, q_slL, q_slT, dUnp, dgCons, dgNil, dNameC, plainS, dLst, dTup, frzs, dPut, dGet, keyD, dDisp, dPairs, DL.pairD, mergeD, fIx, dMut, isT, fAppend, dCall, dCallIo, q_rvI, q_rvO, q_ioN, q_ioS, q_rv_im, q_rv_ow, q_rv_al, py, dYes, List.cons.injEq, Prod.mk.injEq, and_assoc, List.map_cons, List.map_nil, List.length_cons, List.length_nil, List.nil_append, List.cons_append, List.append_nil, List.replicate_succ, List.replicate_zero, List.getElem?_cons_zero, List.getElem?_cons_succ, List.getElem?_nil, List.set_cons_zero, List.set_cons_succ, List.foldl_cons, List.foldl_nil, Option.some.injEq, Option.isSome_some, Option.isSome_none, exists_eq_left', exists_eq_left, exists_eq', exists_eq, exists_and_left, exists_const, true_and, and_true, ne_eq, not_false_eq_true, D.int.injEq, D.str.injEq, D.bl.injEq, D.lst.injEq, D.tup.injEq, D.dct.injEq, S.ow.injEq, Option.map_some, reduceIte, Bool.false_eq_true, if_true, if_false, Nat.reduceAdd, Nat.reduceSub, Nat.sub_zero, Nat.zero_add]
  have z (n : Nat) (h : n ≤ 100) : n ≤ sizeLine := Nat.le_trans h (by decide)
  refine ⟨z _ (by decide), z _ (by decide), z _ (by decide), fun _ => ⟨z _ (by decide), fun _ => ⟨⟨by decide, by decide, by decide⟩, z _ (by decide), z _ (by decide), z _ (by decide), fun _ => ⟨_, n, p, rfl, rfl, hp, by decide, by decide, hn, fun x p' hx hp' => ?_⟩⟩⟩⟩
  simp only [dSeq, dAsg, dC, dName, q_put, dFor, diSeq, dVar, q_see_im, q_see_ow, q_see_al, q_frz_im, q_frz_ow, q_frz_al, q_startN, q_startS, dDrop, dRet, dRetN, dNext, dBreak, dCont, dIfS, dTest, dAnd, dOr, dNot, dAndV, dOrV, dNotV, dIf, d2, dUn, fNeg, fI0', fI', fI0, fI, fLift, fEqA, fEq, q_eqv_int, q_eqv_str, q_sh_int, PyData.canLay0, id_eq, fAdd, dCB, dNil, dCons, looks, fLen, q_lenL, q_lenT, fList, q_seqL, q_seqR, q_seqT, fInt1, fTuple, q_walkL, q_walkR, q_walkT, q_walkS, q_itL, q_itT, dSl, dPart, dNoPart, q_slL, q_slT, dUnp, dgCons, dgNil, dNameC, plainS, dLst, dTup, frzs, dPut, dGet, keyD, dDisp, dPairs, DL.pairD, mergeD, fIx, dMut, isT, fAppend, dCall, dCallIo, q_rvI, q_rvO, q_ioN, q_ioS, q_rv_im, q_rv_ow, q_rv_al, py, dYes, List.cons.injEq, Prod.mk.injEq, and_assoc, List.map_cons, List.map_nil, List.length_cons, List.length_nil, List.nil_append, List.cons_append, List.append_nil, List.replicate_succ, List.replicate_zero, List.getElem?_cons_zero, List.getElem?_cons_succ, List.getElem?_nil, List.set_cons_zero, List.set_cons_succ, List.foldl_cons, List.foldl_nil, Option.some.injEq, Option.isSome_some, Option.isSome_none, exists_eq_left', exists_eq_left, exists_eq', exists_eq, exists_and_left, exists_const, true_and, and_true, ne_eq, not_false_eq_true, D.int.injEq, D.str.injEq, D.bl.injEq, D.lst.injEq, D.tup.injEq, D.dct.injEq, S.ow.injEq, Option.map_some, reduceIte, Bool.false_eq_true, if_true, if_false, Nat.reduceAdd, Nat.reduceSub, Nat.sub_zero, Nat.zero_add]
  exact hk x p' hx hp'
theorem fl_BadText : flds "BadText" = (["line", "word"] : List Str) := by decide +kernel
theorem fl_Misread : flds "Misread" = (["line", "column"] : List Str) := by decide +kernel
theorem fl_Misplaced : flds "Misplaced" = (["line", "column", "why", "name"] : List Str) := by decide +kernel
theorem fl_BadName : flds "BadName" = (["name"] : List Str) := by decide +kernel
theorem fl_BadNumber : flds "BadNumber" = (["what", "number"] : List Str) := by decide +kernel
theorem fl_BadRow : flds "BadRow" = (["what", "row"] : List Str) := by decide +kernel
theorem fl_NoName : flds "NoName" = (["name"] : List Str) := by decide +kernel
theorem fl_TakenName : flds "TakenName" = (["name"] : List Str) := by decide +kernel
theorem fl_Unlike : flds "Unlike" = (["what"] : List Str) := by decide +kernel
theorem fl_NotThere : flds "NotThere" = (["what"] : List Str) := by decide +kernel
theorem fl_TooMany : flds "TooMany" = (["what", "many", "limit"] : List Str) := by decide +kernel
theorem fl_NotKept : flds "NotKept" = (["promise", "witness"] : List Str) := by decide +kernel
theorem pure_made {K : PySem.W.Frag} {ad : Str → Addr} (o ds k kx) (h : s_law_made_errors ad o ds k kx) : bodyF N_law_made_errors.length (d_law_made_errors K ad) o ds k kx := by
  obtain ⟨a, b, c, rfl, rfl, hk⟩ := h
  refine ⟨Nat.le_of_ble_eq_true rfl, fun q => ?_⟩
  unfold d_law_made_errors
  simp only [q_startN, N_law_made_errors, List.length_cons, List.length_nil, List.map_cons, List.map_nil, List.cons_append, List.nil_append, List.replicate_succ, List.replicate_zero, Nat.reduceAdd, Nat.reduceSub]
  (repeat (first | with_reducible refine Eq.mpr e_seq ?_ | with_reducible refine Eq.mpr e_ifb ?_ | with_reducible refine Eq.mpr e_ex ?_ | with_reducible refine Eq.mpr e_asg ?_ | with_reducible refine Eq.mpr e_c ?_ | with_reducible refine Eq.mpr e_var ?_ | ((with_reducible apply i_on); case h => ((try simp only [frzs, q_see_im, q_see_ow, e_seeal, q_frz_im, q_frz_ow, e_frzal, e_rd1, e_rd2, e_rd3, e_ow, e_se1, e_se2, e_fz1, e_fz2, e_dct, e_lstP, e_intP, e_int0, e_blP, e_excP, e_onO, e_putIm, e_putOw, looks, keyD, DL.pairD, py, pys, Option.map_some, q_seqL, q_seqR, q_seqT, q_walkL, q_walkR, q_walkT, q_walkS, q_lenL, q_lenT, q_itL, q_itT, tyD, clsD, List.getElem?_cons_zero, List.getElem?_cons_succ, List.set_cons_zero, List.set_cons_succ]); rfl)) | ((with_reducible apply i_onP); case h => ((try simp only [frzs, q_see_im, q_see_ow, e_seeal, q_frz_im, q_frz_ow, e_frzal, e_rd1, e_rd2, e_rd3, e_ow, e_se1, e_se2, e_fz1, e_fz2, e_dct, e_lstP, e_intP, e_int0, e_blP, e_excP, e_onO, e_putIm, e_putOw, looks, keyD, DL.pairD, py, pys, Option.map_some, q_seqL, q_seqR, q_seqT, q_walkL, q_walkR, q_walkT, q_walkS, q_lenL, q_lenT, q_itL, q_itT, tyD, clsD, List.getElem?_cons_zero, List.getElem?_cons_succ, List.set_cons_zero, List.set_cons_succ]); rfl)) | with_reducible refine Eq.mpr e_2 ?_ | with_reducible refine Eq.mpr e_cons ?_ | with_reducible refine Eq.mpr e_nil ?_ | with_reducible refine Eq.mpr f_tup ?_ | with_reducible refine Eq.mpr f_lst ?_ | with_reducible refine Eq.mpr f_mkX ?_ | with_reducible refine Eq.mpr e_cb ?_ | with_reducible refine Eq.mpr e_get ?_ | with_reducible refine Eq.mpr f_put ?_ | with_reducible refine Eq.mpr e_name ?_ | with_reducible refine Eq.mpr e_addL ?_ | with_reducible refine Eq.mpr e_addI ?_ | with_reducible refine Eq.mpr e_addT ?_ | with_reducible refine Eq.mpr e_addS ?_ | with_reducible refine Eq.mpr e_I0 ?_ | with_reducible refine Eq.mpr e_I ?_ | with_reducible refine Eq.mpr e_eqS ?_ | with_reducible refine Eq.mpr e_eqI ?_ | with_reducible refine Eq.mpr e_eqL ?_ | with_reducible refine Eq.mpr e_eq ?_ | with_reducible refine Eq.mpr e_ix ?_ | with_reducible refine Eq.mpr e_len ?_ | with_reducible refine Eq.mpr e_list ?_ | with_reducible refine Eq.mpr e_tuple ?_ | with_reducible refine Eq.mpr e_int1 ?_ | with_reducible refine Eq.mpr e_is ?_ | with_reducible refine Eq.mpr e_repr ?_ | with_reducible refine Eq.mpr e_un ?_ | with_reducible refine Eq.mpr e_neg ?_ | with_reducible refine Eq.mpr f_disp ?_ | with_reducible refine Eq.mpr e_pairs1 ?_ | with_reducible refine Eq.mpr e_pairs0 ?_ | with_reducible refine Eq.mpr e_part ?_ | with_reducible refine Eq.mpr e_nopart ?_ | with_reducible refine Eq.mpr e_sl ?_ | with_reducible refine Eq.mpr q_slL ?_ | with_reducible refine Eq.mpr q_slT ?_ | with_reducible refine Eq.mpr f_mut ?_ | with_reducible refine Eq.mpr e_append ?_ | with_reducible refine Eq.mpr f_call ?_ | with_reducible refine Eq.mpr f_callIo ?_ | with_reducible refine Eq.mpr e_mk0 ?_ | with_reducible refine Eq.mpr f_xf ?_ | with_reducible refine Eq.mpr e_test ?_ | with_reducible refine Eq.mpr e_and ?_ | with_reducible refine Eq.mpr e_or ?_ | with_reducible refine Eq.mpr e_not ?_ | with_reducible refine Eq.mpr e_if ?_ | with_reducible refine Eq.mpr e_andV ?_ | with_reducible refine Eq.mpr e_orV ?_ | with_reducible refine Eq.mpr e_notV ?_ | with_reducible refine Eq.mpr e_nameC ?_ | with_reducible refine Eq.mpr e_unp ?_ | with_reducible refine Eq.mpr e_gcons ?_ | with_reducible refine Eq.mpr e_gnil ?_ | with_reducible refine Eq.mpr e_iseq ?_ | with_reducible refine Eq.mpr e_irng1 ?_ | with_reducible refine Eq.mpr f_ienum ?_ | with_reducible refine Eq.mpr e_lc ?_ | with_reducible refine Eq.mpr e_yes ?_ | with_reducible refine Eq.mpr e_bt ?_ | with_reducible refine Eq.mpr e_bf ?_ | with_reducible refine Eq.mpr e_nt ?_ | with_reducible refine Eq.mpr e_nf ?_ | with_reducible refine Eq.mpr q_rvI ?_ | with_reducible refine Eq.mpr q_rvO ?_ | with_reducible refine Eq.mpr e_ret ?_ | with_reducible refine Eq.mpr e_drop ?_ | with_reducible refine Eq.mpr e_next ?_ | with_reducible refine Eq.mpr e_ifS ?_ | with_reducible refine Eq.mpr e_for ?_ | with_reducible refine Eq.mpr e_brk ?_ | with_reducible refine Eq.mpr e_cnt ?_ | ((with_reducible apply i_and); case l => first | rfl | (simp only [List.length_cons, List.length_nil, List.length_append, sizeLine_eq, Nat.reduceAdd]; done) | (simp only [List.length_cons, List.length_nil, List.length_append, sizeLine_eq, Nat.reduceAdd]; first | decide | omega)) | (with_reducible intro _)))
  exact ⟨none, _, rfl, rfl, hk⟩
end K1
/-! K4 -/
-- EXTRA: e_c
set_option Elab.async false
set_option maxRecDepth 100000
set_option maxHeartbeats 4000000
set_option linter.all false
namespace K1
open PySem PySem.Spec PyProof.Rows L2 Evl DL
theorem chain {A B : TDs} {D0 : DEnds} {a b c : S} {n lit : Str} (h1 : n = lit → A D0 [a, b, c, .im (.str n)]) (h2 : n ≠ lit → B D0 [a, b, c, .im (.str n)]) : dIfS (dTest (d2 (fEqA id) (dVar 3) (dC (.str lit)))) A B D0 [a, b, c, .im (.str n)] := by
  (repeat (first | with_reducible refine Eq.mpr e_seq ?_ | with_reducible refine Eq.mpr e_ifb ?_ | with_reducible refine Eq.mpr e_ex ?_ | with_reducible refine Eq.mpr e_asg ?_ | with_reducible refine Eq.mpr e_c ?_ | with_reducible refine Eq.mpr e_var ?_ | ((with_reducible apply i_on); case h => ((try simp only [frzs, q_see_im, q_see_ow, e_seeal, q_frz_im, q_frz_ow, e_frzal, e_rd1, e_rd2, e_rd3, e_ow, e_se1, e_se2, e_fz1, e_fz2, e_dct, e_lstP, e_intP, e_int0, e_blP, e_excP, e_onO, e_putIm, e_putOw, looks, keyD, DL.pairD, py, pys, Option.map_some, q_seqL, q_seqR, q_seqT, q_walkL, q_walkR, q_walkT, q_walkS, q_lenL, q_lenT, q_itL, q_itT, tyD, clsD, List.getElem?_cons_zero, List.getElem?_cons_succ, List.set_cons_zero, List.set_cons_succ, e_c]); rfl)) | ((with_reducible apply i_onP); case h => ((try simp only [frzs, q_see_im, q_see_ow, e_seeal, q_frz_im, q_frz_ow, e_frzal, e_rd1, e_rd2, e_rd3, e_ow, e_se1, e_se2, e_fz1, e_fz2, e_dct, e_lstP, e_intP, e_int0, e_blP, e_excP, e_onO, e_putIm, e_putOw, looks, keyD, DL.pairD, py, pys, Option.map_some, q_seqL, q_seqR, q_seqT, q_walkL, q_walkR, q_walkT, q_walkS, q_lenL, q_lenT, q_itL, q_itT, tyD, clsD, List.getElem?_cons_zero, List.getElem?_cons_succ, List.set_cons_zero, List.set_cons_succ, e_c]); rfl)) | with_reducible refine Eq.mpr e_2 ?_ | with_reducible refine Eq.mpr e_cons ?_ | with_reducible refine Eq.mpr e_nil ?_ | with_reducible refine Eq.mpr f_tup ?_ | with_reducible refine Eq.mpr f_lst ?_ | with_reducible refine Eq.mpr f_mkX ?_ | with_reducible refine Eq.mpr e_cb ?_ | with_reducible refine Eq.mpr e_get ?_ | with_reducible refine Eq.mpr f_put ?_ | with_reducible refine Eq.mpr e_name ?_ | with_reducible refine Eq.mpr e_addL ?_ | with_reducible refine Eq.mpr e_addI ?_ | with_reducible refine Eq.mpr e_addT ?_ | with_reducible refine Eq.mpr e_addS ?_ | with_reducible refine Eq.mpr e_I0 ?_ | with_reducible refine Eq.mpr e_I ?_ | with_reducible refine Eq.mpr e_eqS ?_ | with_reducible refine Eq.mpr e_eqI ?_ | with_reducible refine Eq.mpr e_eqL ?_ | with_reducible refine Eq.mpr e_eq ?_ | with_reducible refine Eq.mpr e_ix ?_ | with_reducible refine Eq.mpr e_len ?_ | with_reducible refine Eq.mpr e_list ?_ | with_reducible refine Eq.mpr e_tuple ?_ | with_reducible refine Eq.mpr e_int1 ?_ | with_reducible refine Eq.mpr e_is ?_ | with_reducible refine Eq.mpr e_repr ?_ | with_reducible refine Eq.mpr e_un ?_ | with_reducible refine Eq.mpr e_neg ?_ | with_reducible refine Eq.mpr f_disp ?_ | with_reducible refine Eq.mpr e_pairs1 ?_ | with_reducible refine Eq.mpr e_pairs0 ?_ | with_reducible refine Eq.mpr e_part ?_ | with_reducible refine Eq.mpr e_nopart ?_ | with_reducible refine Eq.mpr e_sl ?_ | with_reducible refine Eq.mpr q_slL ?_ | with_reducible refine Eq.mpr q_slT ?_ | with_reducible refine Eq.mpr f_mut ?_ | with_reducible refine Eq.mpr e_append ?_ | with_reducible refine Eq.mpr f_call ?_ | with_reducible refine Eq.mpr f_callIo ?_ | with_reducible refine Eq.mpr e_mk0 ?_ | with_reducible refine Eq.mpr f_xf ?_ | with_reducible refine Eq.mpr e_test ?_ | with_reducible refine Eq.mpr e_and ?_ | with_reducible refine Eq.mpr e_or ?_ | with_reducible refine Eq.mpr e_not ?_ | with_reducible refine Eq.mpr e_if ?_ | with_reducible refine Eq.mpr e_andV ?_ | with_reducible refine Eq.mpr e_orV ?_ | with_reducible refine Eq.mpr e_notV ?_ | with_reducible refine Eq.mpr e_nameC ?_ | with_reducible refine Eq.mpr e_unp ?_ | with_reducible refine Eq.mpr e_gcons ?_ | with_reducible refine Eq.mpr e_gnil ?_ | with_reducible refine Eq.mpr e_iseq ?_ | with_reducible refine Eq.mpr e_irng1 ?_ | with_reducible refine Eq.mpr f_ienum ?_ | with_reducible refine Eq.mpr e_lc ?_ | with_reducible refine Eq.mpr e_yes ?_ | with_reducible refine Eq.mpr e_bt ?_ | with_reducible refine Eq.mpr e_bf ?_ | with_reducible refine Eq.mpr e_nt ?_ | with_reducible refine Eq.mpr e_nf ?_ | with_reducible refine Eq.mpr q_rvI ?_ | with_reducible refine Eq.mpr q_rvO ?_ | with_reducible refine Eq.mpr e_ret ?_ | with_reducible refine Eq.mpr e_drop ?_ | with_reducible refine Eq.mpr e_next ?_ | with_reducible refine Eq.mpr e_ifS ?_ | with_reducible refine Eq.mpr e_for ?_ | with_reducible refine Eq.mpr e_brk ?_ | with_reducible refine Eq.mpr e_cnt ?_ | ((with_reducible apply i_and); case l => first | rfl | (simp only [List.length_cons, List.length_nil, List.length_append, sizeLine_eq, Nat.reduceAdd]; done) | (simp only [List.length_cons, List.length_nil, List.length_append, sizeLine_eq, Nat.reduceAdd]; first | decide | omega)) | (with_reducible intro _)))
  refine onB_split (fun h => h1 ?_) fun h => h2 ?_
  · exact of_decide_eq_true h
  · exact of_decide_eq_false h
theorem branch {ad : Str → Addr} {D0 : DEnds} {C p : Addr} {fs : List (Str × D)} {N : D} {acc : List D} {c : S} {f : Str} {nms : List Str} {z : D} (hz : acc.length < sizeLine) (hm : (C, nms) ∈ T_cs ad) (hf : f ∈ nms) (hl : fs.lookup f = some z) (h : D0.nx [.im (.exc C fs), .im N, .ow p (.lst (acc ++ [z])), c]) :
    dDrop (dMut "list" 2 fAppend (dCons (dXF (T_cs ad) (dVar 0) f) dNil)) D0 [.im (.exc C fs), .im N, .ow p (.lst acc), c] := by
  (repeat (first | with_reducible refine Eq.mpr e_seq ?_ | with_reducible refine Eq.mpr e_ifb ?_ | with_reducible refine Eq.mpr e_ex ?_ | with_reducible refine Eq.mpr e_asg ?_ | with_reducible refine Eq.mpr e_c ?_ | with_reducible refine Eq.mpr e_var ?_ | ((with_reducible apply i_on); case h => ((try simp only [frzs, q_see_im, q_see_ow, e_seeal, q_frz_im, q_frz_ow, e_frzal, e_rd1, e_rd2, e_rd3, e_ow, e_se1, e_se2, e_fz1, e_fz2, e_dct, e_lstP, e_intP, e_int0, e_blP, e_excP, e_onO, e_putIm, e_putOw, looks, keyD, DL.pairD, py, pys, Option.map_some, q_seqL, q_seqR, q_seqT, q_walkL, q_walkR, q_walkT, q_walkS, q_lenL, q_lenT, q_itL, q_itT, tyD, clsD, List.getElem?_cons_zero, List.getElem?_cons_succ, List.set_cons_zero, List.set_cons_succ, e_c]); rfl)) | ((with_reducible apply i_onP); case h => ((try simp only [frzs, q_see_im, q_see_ow, e_seeal, q_frz_im, q_frz_ow, e_frzal, e_rd1, e_rd2, e_rd3, e_ow, e_se1, e_se2, e_fz1, e_fz2, e_dct, e_lstP, e_intP, e_int0, e_blP, e_excP, e_onO, e_putIm, e_putOw, looks, keyD, DL.pairD, py, pys, Option.map_some, q_seqL, q_seqR, q_seqT, q_walkL, q_walkR, q_walkT, q_walkS, q_lenL, q_lenT, q_itL, q_itT, tyD, clsD, List.getElem?_cons_zero, List.getElem?_cons_succ, List.set_cons_zero, List.set_cons_succ, e_c]); rfl)) | with_reducible refine Eq.mpr e_2 ?_ | with_reducible refine Eq.mpr e_cons ?_ | with_reducible refine Eq.mpr e_nil ?_ | with_reducible refine Eq.mpr f_tup ?_ | with_reducible refine Eq.mpr f_lst ?_ | with_reducible refine Eq.mpr f_mkX ?_ | with_reducible refine Eq.mpr e_cb ?_ | with_reducible refine Eq.mpr e_get ?_ | with_reducible refine Eq.mpr f_put ?_ | with_reducible refine Eq.mpr e_name ?_ | with_reducible refine Eq.mpr e_addL ?_ | with_reducible refine Eq.mpr e_addI ?_ | with_reducible refine Eq.mpr e_addT ?_ | with_reducible refine Eq.mpr e_addS ?_ | with_reducible refine Eq.mpr e_I0 ?_ | with_reducible refine Eq.mpr e_I ?_ | with_reducible refine Eq.mpr e_eqS ?_ | with_reducible refine Eq.mpr e_eqI ?_ | with_reducible refine Eq.mpr e_eqL ?_ | with_reducible refine Eq.mpr e_eq ?_ | with_reducible refine Eq.mpr e_ix ?_ | with_reducible refine Eq.mpr e_len ?_ | with_reducible refine Eq.mpr e_list ?_ | with_reducible refine Eq.mpr e_tuple ?_ | with_reducible refine Eq.mpr e_int1 ?_ | with_reducible refine Eq.mpr e_is ?_ | with_reducible refine Eq.mpr e_repr ?_ | with_reducible refine Eq.mpr e_un ?_ | with_reducible refine Eq.mpr e_neg ?_ | with_reducible refine Eq.mpr f_disp ?_ | with_reducible refine Eq.mpr e_pairs1 ?_ | with_reducible refine Eq.mpr e_pairs0 ?_ | with_reducible refine Eq.mpr e_part ?_ | with_reducible refine Eq.mpr e_nopart ?_ | with_reducible refine Eq.mpr e_sl ?_ | with_reducible refine Eq.mpr q_slL ?_ | with_reducible refine Eq.mpr q_slT ?_ | with_reducible refine Eq.mpr f_mut ?_ | with_reducible refine Eq.mpr e_append ?_ | with_reducible refine Eq.mpr f_call ?_ | with_reducible refine Eq.mpr f_callIo ?_ | with_reducible refine Eq.mpr e_mk0 ?_ | with_reducible refine Eq.mpr f_xf ?_ | with_reducible refine Eq.mpr e_test ?_ | with_reducible refine Eq.mpr e_and ?_ | with_reducible refine Eq.mpr e_or ?_ | with_reducible refine Eq.mpr e_not ?_ | with_reducible refine Eq.mpr e_if ?_ | with_reducible refine Eq.mpr e_andV ?_ | with_reducible refine Eq.mpr e_orV ?_ | with_reducible refine Eq.mpr e_notV ?_ | with_reducible refine Eq.mpr e_nameC ?_ | with_reducible refine Eq.mpr e_unp ?_ | with_reducible refine Eq.mpr e_gcons ?_ | with_reducible refine Eq.mpr e_gnil ?_ | with_reducible refine Eq.mpr e_iseq ?_ | with_reducible refine Eq.mpr e_irng1 ?_ | with_reducible refine Eq.mpr f_ienum ?_ | with_reducible refine Eq.mpr e_lc ?_ | with_reducible refine Eq.mpr e_yes ?_ | with_reducible refine Eq.mpr e_bt ?_ | with_reducible refine Eq.mpr e_bf ?_ | with_reducible refine Eq.mpr e_nt ?_ | with_reducible refine Eq.mpr e_nf ?_ | with_reducible refine Eq.mpr q_rvI ?_ | with_reducible refine Eq.mpr q_rvO ?_ | with_reducible refine Eq.mpr e_ret ?_ | with_reducible refine Eq.mpr e_drop ?_ | with_reducible refine Eq.mpr e_next ?_ | with_reducible refine Eq.mpr e_ifS ?_ | with_reducible refine Eq.mpr e_for ?_ | with_reducible refine Eq.mpr e_brk ?_ | with_reducible refine Eq.mpr e_cnt ?_ | ((with_reducible apply i_and); case l => first | rfl | (simp only [List.length_cons, List.length_nil, List.length_append, sizeLine_eq, Nat.reduceAdd]; done) | (simp only [List.length_cons, List.length_nil, List.length_append, sizeLine_eq, Nat.reduceAdd]; first | decide | omega)) | (with_reducible intro _)))
  refine ⟨⟨nms, hm, hf⟩, i_on hl ?_⟩
  (repeat (first | with_reducible refine Eq.mpr e_seq ?_ | with_reducible refine Eq.mpr e_ifb ?_ | with_reducible refine Eq.mpr e_ex ?_ | with_reducible refine Eq.mpr e_asg ?_ | with_reducible refine Eq.mpr e_c ?_ | with_reducible refine Eq.mpr e_var ?_ | ((with_reducible apply i_on); case h => ((try simp only [frzs, q_see_im, q_see_ow, e_seeal, q_frz_im, q_frz_ow, e_frzal, e_rd1, e_rd2, e_rd3, e_ow, e_se1, e_se2, e_fz1, e_fz2, e_dct, e_lstP, e_intP, e_int0, e_blP, e_excP, e_onO, e_putIm, e_putOw, looks, keyD, DL.pairD, py, pys, Option.map_some, q_seqL, q_seqR, q_seqT, q_walkL, q_walkR, q_walkT, q_walkS, q_lenL, q_lenT, q_itL, q_itT, tyD, clsD, List.getElem?_cons_zero, List.getElem?_cons_succ, List.set_cons_zero, List.set_cons_succ, e_c]); rfl)) | ((with_reducible apply i_onP); case h => ((try simp only [frzs, q_see_im, q_see_ow, e_seeal, q_frz_im, q_frz_ow, e_frzal, e_rd1, e_rd2, e_rd3, e_ow, e_se1, e_se2, e_fz1, e_fz2, e_dct, e_lstP, e_intP, e_int0, e_blP, e_excP, e_onO, e_putIm, e_putOw, looks, keyD, DL.pairD, py, pys, Option.map_some, q_seqL, q_seqR, q_seqT, q_walkL, q_walkR, q_walkT, q_walkS, q_lenL, q_lenT, q_itL, q_itT, tyD, clsD, List.getElem?_cons_zero, List.getElem?_cons_succ, List.set_cons_zero, List.set_cons_succ, e_c]); rfl)) | with_reducible refine Eq.mpr e_2 ?_ | with_reducible refine Eq.mpr e_cons ?_ | with_reducible refine Eq.mpr e_nil ?_ | with_reducible refine Eq.mpr f_tup ?_ | with_reducible refine Eq.mpr f_lst ?_ | with_reducible refine Eq.mpr f_mkX ?_ | with_reducible refine Eq.mpr e_cb ?_ | with_reducible refine Eq.mpr e_get ?_ | with_reducible refine Eq.mpr f_put ?_ | with_reducible refine Eq.mpr e_name ?_ | with_reducible refine Eq.mpr e_addL ?_ | with_reducible refine Eq.mpr e_addI ?_ | with_reducible refine Eq.mpr e_addT ?_ | with_reducible refine Eq.mpr e_addS ?_ | with_reducible refine Eq.mpr e_I0 ?_ | with_reducible refine Eq.mpr e_I ?_ | with_reducible refine Eq.mpr e_eqS ?_ | with_reducible refine Eq.mpr e_eqI ?_ | with_reducible refine Eq.mpr e_eqL ?_ | with_reducible refine Eq.mpr e_eq ?_ | with_reducible refine Eq.mpr e_ix ?_ | with_reducible refine Eq.mpr e_len ?_ | with_reducible refine Eq.mpr e_list ?_ | with_reducible refine Eq.mpr e_tuple ?_ | with_reducible refine Eq.mpr e_int1 ?_ | with_reducible refine Eq.mpr e_is ?_ | with_reducible refine Eq.mpr e_repr ?_ | with_reducible refine Eq.mpr e_un ?_ | with_reducible refine Eq.mpr e_neg ?_ | with_reducible refine Eq.mpr f_disp ?_ | with_reducible refine Eq.mpr e_pairs1 ?_ | with_reducible refine Eq.mpr e_pairs0 ?_ | with_reducible refine Eq.mpr e_part ?_ | with_reducible refine Eq.mpr e_nopart ?_ | with_reducible refine Eq.mpr e_sl ?_ | with_reducible refine Eq.mpr q_slL ?_ | with_reducible refine Eq.mpr q_slT ?_ | with_reducible refine Eq.mpr f_mut ?_ | with_reducible refine Eq.mpr e_append ?_ | with_reducible refine Eq.mpr f_call ?_ | with_reducible refine Eq.mpr f_callIo ?_ | with_reducible refine Eq.mpr e_mk0 ?_ | with_reducible refine Eq.mpr f_xf ?_ | with_reducible refine Eq.mpr e_test ?_ | with_reducible refine Eq.mpr e_and ?_ | with_reducible refine Eq.mpr e_or ?_ | with_reducible refine Eq.mpr e_not ?_ | with_reducible refine Eq.mpr e_if ?_ | with_reducible refine Eq.mpr e_andV ?_ | with_reducible refine Eq.mpr e_orV ?_ | with_reducible refine Eq.mpr e_notV ?_ | with_reducible refine Eq.mpr e_nameC ?_ | with_reducible refine Eq.mpr e_unp ?_ | with_reducible refine Eq.mpr e_gcons ?_ | with_reducible refine Eq.mpr e_gnil ?_ | with_reducible refine Eq.mpr e_iseq ?_ | with_reducible refine Eq.mpr e_irng1 ?_ | with_reducible refine Eq.mpr f_ienum ?_ | with_reducible refine Eq.mpr e_lc ?_ | with_reducible refine Eq.mpr e_yes ?_ | with_reducible refine Eq.mpr e_bt ?_ | with_reducible refine Eq.mpr e_bf ?_ | with_reducible refine Eq.mpr e_nt ?_ | with_reducible refine Eq.mpr e_nf ?_ | with_reducible refine Eq.mpr q_rvI ?_ | with_reducible refine Eq.mpr q_rvO ?_ | with_reducible refine Eq.mpr e_ret ?_ | with_reducible refine Eq.mpr e_drop ?_ | with_reducible refine Eq.mpr e_next ?_ | with_reducible refine Eq.mpr e_ifS ?_ | with_reducible refine Eq.mpr e_for ?_ | with_reducible refine Eq.mpr e_brk ?_ | with_reducible refine Eq.mpr e_cnt ?_ | ((with_reducible apply i_and); case l => first | rfl | (simp only [List.length_cons, List.length_nil, List.length_append, sizeLine_eq, Nat.reduceAdd]; done) | (simp only [List.length_cons, List.length_nil, List.length_append, sizeLine_eq, Nat.reduceAdd]; first | decide | omega)) | (with_reducible intro _)))
  exact ⟨hz, h⟩
theorem map_cons_str {ns : List Str} {d : D} {ds : List D} (h : d :: ds = ns.map D.str) : ∃ (n : Str) (r : List Str), d = .str n ∧ ds = r.map D.str ∧ ns = n :: r := by
  cases ns with
  | nil => cases h
  | cons n r =>
    simp only [List.map_cons, List.cons.injEq] at h
    exact ⟨n, r, h.1, h.2, rfl⟩
theorem pure_fields {K : PySem.W.Frag} {ad : Str → Addr} (o ds k kx) (h : s_law_fields ad o ds k kx) : bodyF N_law_fields.length (d_law_fields K ad) o ds k kx := by
  obtain ⟨one, ns, rfl, rfl, hl, hc, hk⟩ := h
  refine ⟨Nat.le_of_ble_eq_true rfl, fun q => ?_⟩
  unfold d_law_fields
  simp only [q_startN, N_law_fields, List.length_cons, List.length_nil, List.map_cons, List.map_nil, List.cons_append, List.nil_append, List.replicate_succ, List.replicate_zero, Nat.reduceAdd, Nat.reduceSub]
  rcases hc with rfl | ⟨C, fs, nms, rfl, hm, hn⟩
  · (repeat (first | with_reducible refine Eq.mpr e_seq ?_ | with_reducible refine Eq.mpr e_ifb ?_ | with_reducible refine Eq.mpr e_ex ?_ | with_reducible refine Eq.mpr e_asg ?_ | with_reducible refine Eq.mpr e_c ?_ | with_reducible refine Eq.mpr e_var ?_ | ((with_reducible apply i_on); case h => ((try simp only [frzs, q_see_im, q_see_ow, e_seeal, q_frz_im, q_frz_ow, e_frzal, e_rd1, e_rd2, e_rd3, e_ow, e_se1, e_se2, e_fz1, e_fz2, e_dct, e_lstP, e_intP, e_int0, e_blP, e_excP, e_onO, e_putIm, e_putOw, looks, keyD, DL.pairD, py, pys, Option.map_some, q_seqL, q_seqR, q_seqT, q_walkL, q_walkR, q_walkT, q_walkS, q_lenL, q_lenT, q_itL, q_itT, tyD, clsD, List.getElem?_cons_zero, List.getElem?_cons_succ, List.set_cons_zero, List.set_cons_succ, e_c]); rfl)) | ((with_reducible apply i_onP); case h => ((try simp only [frzs, q_see_im, q_see_ow, e_seeal, q_frz_im, q_frz_ow, e_frzal, e_rd1, e_rd2, e_rd3, e_ow, e_se1, e_se2, e_fz1, e_fz2, e_dct, e_lstP, e_intP, e_int0, e_blP, e_excP, e_onO, e_putIm, e_putOw, looks, keyD, DL.pairD, py, pys, Option.map_some, q_seqL, q_seqR, q_seqT, q_walkL, q_walkR, q_walkT, q_walkS, q_lenL, q_lenT, q_itL, q_itT, tyD, clsD, List.getElem?_cons_zero, List.getElem?_cons_succ, List.set_cons_zero, List.set_cons_succ, e_c]); rfl)) | with_reducible refine Eq.mpr e_2 ?_ | with_reducible refine Eq.mpr e_cons ?_ | with_reducible refine Eq.mpr e_nil ?_ | with_reducible refine Eq.mpr f_tup ?_ | with_reducible refine Eq.mpr f_lst ?_ | with_reducible refine Eq.mpr f_mkX ?_ | with_reducible refine Eq.mpr e_cb ?_ | with_reducible refine Eq.mpr e_get ?_ | with_reducible refine Eq.mpr f_put ?_ | with_reducible refine Eq.mpr e_name ?_ | with_reducible refine Eq.mpr e_addL ?_ | with_reducible refine Eq.mpr e_addI ?_ | with_reducible refine Eq.mpr e_addT ?_ | with_reducible refine Eq.mpr e_addS ?_ | with_reducible refine Eq.mpr e_I0 ?_ | with_reducible refine Eq.mpr e_I ?_ | with_reducible refine Eq.mpr e_eqS ?_ | with_reducible refine Eq.mpr e_eqI ?_ | with_reducible refine Eq.mpr e_eqL ?_ | with_reducible refine Eq.mpr e_eq ?_ | with_reducible refine Eq.mpr e_ix ?_ | with_reducible refine Eq.mpr e_len ?_ | with_reducible refine Eq.mpr e_list ?_ | with_reducible refine Eq.mpr e_tuple ?_ | with_reducible refine Eq.mpr e_int1 ?_ | with_reducible refine Eq.mpr e_is ?_ | with_reducible refine Eq.mpr e_repr ?_ | with_reducible refine Eq.mpr e_un ?_ | with_reducible refine Eq.mpr e_neg ?_ | with_reducible refine Eq.mpr f_disp ?_ | with_reducible refine Eq.mpr e_pairs1 ?_ | with_reducible refine Eq.mpr e_pairs0 ?_ | with_reducible refine Eq.mpr e_part ?_ | with_reducible refine Eq.mpr e_nopart ?_ | with_reducible refine Eq.mpr e_sl ?_ | with_reducible refine Eq.mpr q_slL ?_ | with_reducible refine Eq.mpr q_slT ?_ | with_reducible refine Eq.mpr f_mut ?_ | with_reducible refine Eq.mpr e_append ?_ | with_reducible refine Eq.mpr f_call ?_ | with_reducible refine Eq.mpr f_callIo ?_ | with_reducible refine Eq.mpr e_mk0 ?_ | with_reducible refine Eq.mpr f_xf ?_ | with_reducible refine Eq.mpr e_test ?_ | with_reducible refine Eq.mpr e_and ?_ | with_reducible refine Eq.mpr e_or ?_ | with_reducible refine Eq.mpr e_not ?_ | with_reducible refine Eq.mpr e_if ?_ | with_reducible refine Eq.mpr e_andV ?_ | with_reducible refine Eq.mpr e_orV ?_ | with_reducible refine Eq.mpr e_notV ?_ | with_reducible refine Eq.mpr e_nameC ?_ | with_reducible refine Eq.mpr e_unp ?_ | with_reducible refine Eq.mpr e_gcons ?_ | with_reducible refine Eq.mpr e_gnil ?_ | with_reducible refine Eq.mpr e_iseq ?_ | with_reducible refine Eq.mpr e_irng1 ?_ | with_reducible refine Eq.mpr f_ienum ?_ | with_reducible refine Eq.mpr e_lc ?_ | with_reducible refine Eq.mpr e_yes ?_ | with_reducible refine Eq.mpr e_bt ?_ | with_reducible refine Eq.mpr e_bf ?_ | with_reducible refine Eq.mpr e_nt ?_ | with_reducible refine Eq.mpr e_nf ?_ | with_reducible refine Eq.mpr q_rvI ?_ | with_reducible refine Eq.mpr q_rvO ?_ | with_reducible refine Eq.mpr e_ret ?_ | with_reducible refine Eq.mpr e_drop ?_ | with_reducible refine Eq.mpr e_next ?_ | with_reducible refine Eq.mpr e_ifS ?_ | with_reducible refine Eq.mpr e_for ?_ | with_reducible refine Eq.mpr e_brk ?_ | with_reducible refine Eq.mpr e_cnt ?_ | ((with_reducible apply i_and); case l => first | rfl | (simp only [List.length_cons, List.length_nil, List.length_append, sizeLine_eq, Nat.reduceAdd]; done) | (simp only [List.length_cons, List.length_nil, List.length_append, sizeLine_eq, Nat.reduceAdd]; first | decide | omega)) | (with_reducible intro _)))
    refine ⟨trivial, ?_⟩
    (repeat (first | with_reducible refine Eq.mpr e_seq ?_ | with_reducible refine Eq.mpr e_ifb ?_ | with_reducible refine Eq.mpr e_ex ?_ | with_reducible refine Eq.mpr e_asg ?_ | with_reducible refine Eq.mpr e_c ?_ | with_reducible refine Eq.mpr e_var ?_ | ((with_reducible apply i_on); case h => ((try simp only [frzs, q_see_im, q_see_ow, e_seeal, q_frz_im, q_frz_ow, e_frzal, e_rd1, e_rd2, e_rd3, e_ow, e_se1, e_se2, e_fz1, e_fz2, e_dct, e_lstP, e_intP, e_int0, e_blP, e_excP, e_onO, e_putIm, e_putOw, looks, keyD, DL.pairD, py, pys, Option.map_some, q_seqL, q_seqR, q_seqT, q_walkL, q_walkR, q_walkT, q_walkS, q_lenL, q_lenT, q_itL, q_itT, tyD, clsD, List.getElem?_cons_zero, List.getElem?_cons_succ, List.set_cons_zero, List.set_cons_succ, e_c]); rfl)) | ((with_reducible apply i_onP); case h => ((try simp only [frzs, q_see_im, q_see_ow, e_seeal, q_frz_im, q_frz_ow, e_frzal, e_rd1, e_rd2, e_rd3, e_ow, e_se1, e_se2, e_fz1, e_fz2, e_dct, e_lstP, e_intP, e_int0, e_blP, e_excP, e_onO, e_putIm, e_putOw, looks, keyD, DL.pairD, py, pys, Option.map_some, q_seqL, q_seqR, q_seqT, q_walkL, q_walkR, q_walkT, q_walkS, q_lenL, q_lenT, q_itL, q_itT, tyD, clsD, List.getElem?_cons_zero, List.getElem?_cons_succ, List.set_cons_zero, List.set_cons_succ, e_c]); rfl)) | with_reducible refine Eq.mpr e_2 ?_ | with_reducible refine Eq.mpr e_cons ?_ | with_reducible refine Eq.mpr e_nil ?_ | with_reducible refine Eq.mpr f_tup ?_ | with_reducible refine Eq.mpr f_lst ?_ | with_reducible refine Eq.mpr f_mkX ?_ | with_reducible refine Eq.mpr e_cb ?_ | with_reducible refine Eq.mpr e_get ?_ | with_reducible refine Eq.mpr f_put ?_ | with_reducible refine Eq.mpr e_name ?_ | with_reducible refine Eq.mpr e_addL ?_ | with_reducible refine Eq.mpr e_addI ?_ | with_reducible refine Eq.mpr e_addT ?_ | with_reducible refine Eq.mpr e_addS ?_ | with_reducible refine Eq.mpr e_I0 ?_ | with_reducible refine Eq.mpr e_I ?_ | with_reducible refine Eq.mpr e_eqS ?_ | with_reducible refine Eq.mpr e_eqI ?_ | with_reducible refine Eq.mpr e_eqL ?_ | with_reducible refine Eq.mpr e_eq ?_ | with_reducible refine Eq.mpr e_ix ?_ | with_reducible refine Eq.mpr e_len ?_ | with_reducible refine Eq.mpr e_list ?_ | with_reducible refine Eq.mpr e_tuple ?_ | with_reducible refine Eq.mpr e_int1 ?_ | with_reducible refine Eq.mpr e_is ?_ | with_reducible refine Eq.mpr e_repr ?_ | with_reducible refine Eq.mpr e_un ?_ | with_reducible refine Eq.mpr e_neg ?_ | with_reducible refine Eq.mpr f_disp ?_ | with_reducible refine Eq.mpr e_pairs1 ?_ | with_reducible refine Eq.mpr e_pairs0 ?_ | with_reducible refine Eq.mpr e_part ?_ | with_reducible refine Eq.mpr e_nopart ?_ | with_reducible refine Eq.mpr e_sl ?_ | with_reducible refine Eq.mpr q_slL ?_ | with_reducible refine Eq.mpr q_slT ?_ | with_reducible refine Eq.mpr f_mut ?_ | with_reducible refine Eq.mpr e_append ?_ | with_reducible refine Eq.mpr f_call ?_ | with_reducible refine Eq.mpr f_callIo ?_ | with_reducible refine Eq.mpr e_mk0 ?_ | with_reducible refine Eq.mpr f_xf ?_ | with_reducible refine Eq.mpr e_test ?_ | with_reducible refine Eq.mpr e_and ?_ | with_reducible refine Eq.mpr e_or ?_ | with_reducible refine Eq.mpr e_not ?_ | with_reducible refine Eq.mpr e_if ?_ | with_reducible refine Eq.mpr e_andV ?_ | with_reducible refine Eq.mpr e_orV ?_ | with_reducible refine Eq.mpr e_notV ?_ | with_reducible refine Eq.mpr e_nameC ?_ | with_reducible refine Eq.mpr e_unp ?_ | with_reducible refine Eq.mpr e_gcons ?_ | with_reducible refine Eq.mpr e_gnil ?_ | with_reducible refine Eq.mpr e_iseq ?_ | with_reducible refine Eq.mpr e_irng1 ?_ | with_reducible refine Eq.mpr f_ienum ?_ | with_reducible refine Eq.mpr e_lc ?_ | with_reducible refine Eq.mpr e_yes ?_ | with_reducible refine Eq.mpr e_bt ?_ | with_reducible refine Eq.mpr e_bf ?_ | with_reducible refine Eq.mpr e_nt ?_ | with_reducible refine Eq.mpr e_nf ?_ | with_reducible refine Eq.mpr q_rvI ?_ | with_reducible refine Eq.mpr q_rvO ?_ | with_reducible refine Eq.mpr e_ret ?_ | with_reducible refine Eq.mpr e_drop ?_ | with_reducible refine Eq.mpr e_next ?_ | with_reducible refine Eq.mpr e_ifS ?_ | with_reducible refine Eq.mpr e_for ?_ | with_reducible refine Eq.mpr e_brk ?_ | with_reducible refine Eq.mpr e_cnt ?_ | ((with_reducible apply i_and); case l => first | rfl | (simp only [List.length_cons, List.length_nil, List.length_append, sizeLine_eq, Nat.reduceAdd]; done) | (simp only [List.length_cons, List.length_nil, List.length_append, sizeLine_eq, Nat.reduceAdd]; first | decide | omega)) | (with_reducible intro _)))
    refine ⟨none, _, rfl, rfl, ?_⟩
    cases one <;> exact hk
  · (repeat (first | with_reducible refine Eq.mpr e_seq ?_ | with_reducible refine Eq.mpr e_ifb ?_ | with_reducible refine Eq.mpr e_ex ?_ | with_reducible refine Eq.mpr e_asg ?_ | with_reducible refine Eq.mpr e_c ?_ | with_reducible refine Eq.mpr e_var ?_ | ((with_reducible apply i_on); case h => ((try simp only [frzs, q_see_im, q_see_ow, e_seeal, q_frz_im, q_frz_ow, e_frzal, e_rd1, e_rd2, e_rd3, e_ow, e_se1, e_se2, e_fz1, e_fz2, e_dct, e_lstP, e_intP, e_int0, e_blP, e_excP, e_onO, e_putIm, e_putOw, looks, keyD, DL.pairD, py, pys, Option.map_some, q_seqL, q_seqR, q_seqT, q_walkL, q_walkR, q_walkT, q_walkS, q_lenL, q_lenT, q_itL, q_itT, tyD, clsD, List.getElem?_cons_zero, List.getElem?_cons_succ, List.set_cons_zero, List.set_cons_succ, e_c]); rfl)) | ((with_reducible apply i_onP); case h => ((try simp only [frzs, q_see_im, q_see_ow, e_seeal, q_frz_im, q_frz_ow, e_frzal, e_rd1, e_rd2, e_rd3, e_ow, e_se1, e_se2, e_fz1, e_fz2, e_dct, e_lstP, e_intP, e_int0, e_blP, e_excP, e_onO, e_putIm, e_putOw, looks, keyD, DL.pairD, py, pys, Option.map_some, q_seqL, q_seqR, q_seqT, q_walkL, q_walkR, q_walkT, q_walkS, q_lenL, q_lenT, q_itL, q_itT, tyD, clsD, List.getElem?_cons_zero, List.getElem?_cons_succ, List.set_cons_zero, List.set_cons_succ, e_c]); rfl)) | with_reducible refine Eq.mpr e_2 ?_ | with_reducible refine Eq.mpr e_cons ?_ | with_reducible refine Eq.mpr e_nil ?_ | with_reducible refine Eq.mpr f_tup ?_ | with_reducible refine Eq.mpr f_lst ?_ | with_reducible refine Eq.mpr f_mkX ?_ | with_reducible refine Eq.mpr e_cb ?_ | with_reducible refine Eq.mpr e_get ?_ | with_reducible refine Eq.mpr f_put ?_ | with_reducible refine Eq.mpr e_name ?_ | with_reducible refine Eq.mpr e_addL ?_ | with_reducible refine Eq.mpr e_addI ?_ | with_reducible refine Eq.mpr e_addT ?_ | with_reducible refine Eq.mpr e_addS ?_ | with_reducible refine Eq.mpr e_I0 ?_ | with_reducible refine Eq.mpr e_I ?_ | with_reducible refine Eq.mpr e_eqS ?_ | with_reducible refine Eq.mpr e_eqI ?_ | with_reducible refine Eq.mpr e_eqL ?_ | with_reducible refine Eq.mpr e_eq ?_ | with_reducible refine Eq.mpr e_ix ?_ | with_reducible refine Eq.mpr e_len ?_ | with_reducible refine Eq.mpr e_list ?_ | with_reducible refine Eq.mpr e_tuple ?_ | with_reducible refine Eq.mpr e_int1 ?_ | with_reducible refine Eq.mpr e_is ?_ | with_reducible refine Eq.mpr e_repr ?_ | with_reducible refine Eq.mpr e_un ?_ | with_reducible refine Eq.mpr e_neg ?_ | with_reducible refine Eq.mpr f_disp ?_ | with_reducible refine Eq.mpr e_pairs1 ?_ | with_reducible refine Eq.mpr e_pairs0 ?_ | with_reducible refine Eq.mpr e_part ?_ | with_reducible refine Eq.mpr e_nopart ?_ | with_reducible refine Eq.mpr e_sl ?_ | with_reducible refine Eq.mpr q_slL ?_ | with_reducible refine Eq.mpr q_slT ?_ | with_reducible refine Eq.mpr f_mut ?_ | with_reducible refine Eq.mpr e_append ?_ | with_reducible refine Eq.mpr f_call ?_ | with_reducible refine Eq.mpr f_callIo ?_ | with_reducible refine Eq.mpr e_mk0 ?_ | with_reducible refine Eq.mpr f_xf ?_ | with_reducible refine Eq.mpr e_test ?_ | with_reducible refine Eq.mpr e_and ?_ | with_reducible refine Eq.mpr e_or ?_ | with_reducible refine Eq.mpr e_not ?_ | with_reducible refine Eq.mpr e_if ?_ | with_reducible refine Eq.mpr e_andV ?_ | with_reducible refine Eq.mpr e_orV ?_ | with_reducible refine Eq.mpr e_notV ?_ | with_reducible refine Eq.mpr e_nameC ?_ | with_reducible refine Eq.mpr e_unp ?_ | with_reducible refine Eq.mpr e_gcons ?_ | with_reducible refine Eq.mpr e_gnil ?_ | with_reducible refine Eq.mpr e_iseq ?_ | with_reducible refine Eq.mpr e_irng1 ?_ | with_reducible refine Eq.mpr f_ienum ?_ | with_reducible refine Eq.mpr e_lc ?_ | with_reducible refine Eq.mpr e_yes ?_ | with_reducible refine Eq.mpr e_bt ?_ | with_reducible refine Eq.mpr e_bf ?_ | with_reducible refine Eq.mpr e_nt ?_ | with_reducible refine Eq.mpr e_nf ?_ | with_reducible refine Eq.mpr q_rvI ?_ | with_reducible refine Eq.mpr q_rvO ?_ | with_reducible refine Eq.mpr e_ret ?_ | with_reducible refine Eq.mpr e_drop ?_ | with_reducible refine Eq.mpr e_next ?_ | with_reducible refine Eq.mpr e_ifS ?_ | with_reducible refine Eq.mpr e_for ?_ | with_reducible refine Eq.mpr e_brk ?_ | with_reducible refine Eq.mpr e_cnt ?_ | ((with_reducible apply i_and); case l => first | rfl | (simp only [List.length_cons, List.length_nil, List.length_append, sizeLine_eq, Nat.reduceAdd]; done) | (simp only [List.length_cons, List.length_nil, List.length_append, sizeLine_eq, Nat.reduceAdd]; first | decide | omega)) | (with_reducible intro _)))
    refine loop_ind (fun ms ρ => ∃ (a r : List Str) (c : S) (p : Addr), ns = a ++ r ∧ ms = r.map D.str ∧ ρ = [S.im (.exc C fs), S.im (.lst (ns.map D.str)), .ow p (.lst (a.map (lookF fs))), c]) ?_ ?_ _ _ ⟨[], ns, _, _, rfl, rfl, rfl⟩
    · rintro ρ ⟨a, r, c, p, hns, hr, rfl⟩
      refine ⟨trivial, ?_⟩
      have hr0 : r = [] := by
        cases r with
        | nil => rfl
        | cons x y => cases hr
      subst hr0
      (repeat (first | with_reducible refine Eq.mpr e_seq ?_ | with_reducible refine Eq.mpr e_ifb ?_ | with_reducible refine Eq.mpr e_ex ?_ | with_reducible refine Eq.mpr e_asg ?_ | with_reducible refine Eq.mpr e_c ?_ | with_reducible refine Eq.mpr e_var ?_ | ((with_reducible apply i_on); case h => ((try simp only [frzs, q_see_im, q_see_ow, e_seeal, q_frz_im, q_frz_ow, e_frzal, e_rd1, e_rd2, e_rd3, e_ow, e_se1, e_se2, e_fz1, e_fz2, e_dct, e_lstP, e_intP, e_int0, e_blP, e_excP, e_onO, e_putIm, e_putOw, looks, keyD, DL.pairD, py, pys, Option.map_some, q_seqL, q_seqR, q_seqT, q_walkL, q_walkR, q_walkT, q_walkS, q_lenL, q_lenT, q_itL, q_itT, tyD, clsD, List.getElem?_cons_zero, List.getElem?_cons_succ, List.set_cons_zero, List.set_cons_succ, e_c]); rfl)) | ((with_reducible apply i_onP); case h => ((try simp only [frzs, q_see_im, q_see_ow, e_seeal, q_frz_im, q_frz_ow, e_frzal, e_rd1, e_rd2, e_rd3, e_ow, e_se1, e_se2, e_fz1, e_fz2, e_dct, e_lstP, e_intP, e_int0, e_blP, e_excP, e_onO, e_putIm, e_putOw, looks, keyD, DL.pairD, py, pys, Option.map_some, q_seqL, q_seqR, q_seqT, q_walkL, q_walkR, q_walkT, q_walkS, q_lenL, q_lenT, q_itL, q_itT, tyD, clsD, List.getElem?_cons_zero, List.getElem?_cons_succ, List.set_cons_zero, List.set_cons_succ, e_c]); rfl)) | with_reducible refine Eq.mpr e_2 ?_ | with_reducible refine Eq.mpr e_cons ?_ | with_reducible refine Eq.mpr e_nil ?_ | with_reducible refine Eq.mpr f_tup ?_ | with_reducible refine Eq.mpr f_lst ?_ | with_reducible refine Eq.mpr f_mkX ?_ | with_reducible refine Eq.mpr e_cb ?_ | with_reducible refine Eq.mpr e_get ?_ | with_reducible refine Eq.mpr f_put ?_ | with_reducible refine Eq.mpr e_name ?_ | with_reducible refine Eq.mpr e_addL ?_ | with_reducible refine Eq.mpr e_addI ?_ | with_reducible refine Eq.mpr e_addT ?_ | with_reducible refine Eq.mpr e_addS ?_ | with_reducible refine Eq.mpr e_I0 ?_ | with_reducible refine Eq.mpr e_I ?_ | with_reducible refine Eq.mpr e_eqS ?_ | with_reducible refine Eq.mpr e_eqI ?_ | with_reducible refine Eq.mpr e_eqL ?_ | with_reducible refine Eq.mpr e_eq ?_ | with_reducible refine Eq.mpr e_ix ?_ | with_reducible refine Eq.mpr e_len ?_ | with_reducible refine Eq.mpr e_list ?_ | with_reducible refine Eq.mpr e_tuple ?_ | with_reducible refine Eq.mpr e_int1 ?_ | with_reducible refine Eq.mpr e_is ?_ | with_reducible refine Eq.mpr e_repr ?_ | with_reducible refine Eq.mpr e_un ?_ | with_reducible refine Eq.mpr e_neg ?_ | with_reducible refine Eq.mpr f_disp ?_ | with_reducible refine Eq.mpr e_pairs1 ?_ | with_reducible refine Eq.mpr e_pairs0 ?_ | with_reducible refine Eq.mpr e_part ?_ | with_reducible refine Eq.mpr e_nopart ?_ | with_reducible refine Eq.mpr e_sl ?_ | with_reducible refine Eq.mpr q_slL ?_ | with_reducible refine Eq.mpr q_slT ?_ | with_reducible refine Eq.mpr f_mut ?_ | with_reducible refine Eq.mpr e_append ?_ | with_reducible refine Eq.mpr f_call ?_ | with_reducible refine Eq.mpr f_callIo ?_ | with_reducible refine Eq.mpr e_mk0 ?_ | with_reducible refine Eq.mpr f_xf ?_ | with_reducible refine Eq.mpr e_test ?_ | with_reducible refine Eq.mpr e_and ?_ | with_reducible refine Eq.mpr e_or ?_ | with_reducible refine Eq.mpr e_not ?_ | with_reducible refine Eq.mpr e_if ?_ | with_reducible refine Eq.mpr e_andV ?_ | with_reducible refine Eq.mpr e_orV ?_ | with_reducible refine Eq.mpr e_notV ?_ | with_reducible refine Eq.mpr e_nameC ?_ | with_reducible refine Eq.mpr e_unp ?_ | with_reducible refine Eq.mpr e_gcons ?_ | with_reducible refine Eq.mpr e_gnil ?_ | with_reducible refine Eq.mpr e_iseq ?_ | with_reducible refine Eq.mpr e_irng1 ?_ | with_reducible refine Eq.mpr f_ienum ?_ | with_reducible refine Eq.mpr e_lc ?_ | with_reducible refine Eq.mpr e_yes ?_ | with_reducible refine Eq.mpr e_bt ?_ | with_reducible refine Eq.mpr e_bf ?_ | with_reducible refine Eq.mpr e_nt ?_ | with_reducible refine Eq.mpr e_nf ?_ | with_reducible refine Eq.mpr q_rvI ?_ | with_reducible refine Eq.mpr q_rvO ?_ | with_reducible refine Eq.mpr e_ret ?_ | with_reducible refine Eq.mpr e_drop ?_ | with_reducible refine Eq.mpr e_next ?_ | with_reducible refine Eq.mpr e_ifS ?_ | with_reducible refine Eq.mpr e_for ?_ | with_reducible refine Eq.mpr e_brk ?_ | with_reducible refine Eq.mpr e_cnt ?_ | ((with_reducible apply i_and); case l => first | rfl | (simp only [List.length_cons, List.length_nil, List.length_append, sizeLine_eq, Nat.reduceAdd]; done) | (simp only [List.length_cons, List.length_nil, List.length_append, sizeLine_eq, Nat.reduceAdd]; first | decide | omega)) | (with_reducible intro _)))
      refine ⟨none, _, rfl, rfl, ?_⟩
      rw [List.append_nil] at hns
      rw [hns] at hk
      exact hk
    · rintro d ds ρ L hL ⟨a, r, c, p, hns, hr, rfl⟩
      obtain ⟨n, r2, rfl, rfl, rfl⟩ := map_cons_str hr
      refine ⟨trivial, ?_⟩
      obtain ⟨h1, h2, z, h3⟩ := hn n (by rw [hns]; simp)
      have hz : (a.map (lookF fs)).length < sizeLine := by
        rw [List.length_map]
        have : ns.length = a.length + (r2.length + 1) := by rw [hns]; simp
        have h4 : sizeLine = 16777216 := sizeLine_eq
        omega
      have fin : L [S.im (.exc C fs), S.im (.lst (ns.map D.str)), .ow p (.lst (a.map (lookF fs) ++ [z])), .im (.str n)] := by
        refine hL _ ⟨a ++ [n], r2, .im (.str n), p, by rw [hns]; simp, rfl, ?_⟩
        have : lookF fs n = z := by simp [lookF, h3]
        rw [List.map_append, List.map_cons, this]
        rfl
      (repeat (first | with_reducible refine Eq.mpr e_seq ?_ | with_reducible refine Eq.mpr e_ifb ?_ | with_reducible refine Eq.mpr e_ex ?_ | with_reducible refine Eq.mpr e_asg ?_ | with_reducible refine Eq.mpr e_c ?_ | with_reducible refine Eq.mpr e_var ?_ | ((with_reducible apply i_on); case h => ((try simp only [frzs, q_see_im, q_see_ow, e_seeal, q_frz_im, q_frz_ow, e_frzal, e_rd1, e_rd2, e_rd3, e_ow, e_se1, e_se2, e_fz1, e_fz2, e_dct, e_lstP, e_intP, e_int0, e_blP, e_excP, e_onO, e_putIm, e_putOw, looks, keyD, DL.pairD, py, pys, Option.map_some, q_seqL, q_seqR, q_seqT, q_walkL, q_walkR, q_walkT, q_walkS, q_lenL, q_lenT, q_itL, q_itT, tyD, clsD, List.getElem?_cons_zero, List.getElem?_cons_succ, List.set_cons_zero, List.set_cons_succ, e_c]); rfl)) | ((with_reducible apply i_onP); case h => ((try simp only [frzs, q_see_im, q_see_ow, e_seeal, q_frz_im, q_frz_ow, e_frzal, e_rd1, e_rd2, e_rd3, e_ow, e_se1, e_se2, e_fz1, e_fz2, e_dct, e_lstP, e_intP, e_int0, e_blP, e_excP, e_onO, e_putIm, e_putOw, looks, keyD, DL.pairD, py, pys, Option.map_some, q_seqL, q_seqR, q_seqT, q_walkL, q_walkR, q_walkT, q_walkS, q_lenL, q_lenT, q_itL, q_itT, tyD, clsD, List.getElem?_cons_zero, List.getElem?_cons_succ, List.set_cons_zero, List.set_cons_succ, e_c]); rfl)) | with_reducible refine Eq.mpr e_2 ?_ | with_reducible refine Eq.mpr e_cons ?_ | with_reducible refine Eq.mpr e_nil ?_ | with_reducible refine Eq.mpr f_tup ?_ | with_reducible refine Eq.mpr f_lst ?_ | with_reducible refine Eq.mpr f_mkX ?_ | with_reducible refine Eq.mpr e_cb ?_ | with_reducible refine Eq.mpr e_get ?_ | with_reducible refine Eq.mpr f_put ?_ | with_reducible refine Eq.mpr e_name ?_ | with_reducible refine Eq.mpr e_addL ?_ | with_reducible refine Eq.mpr e_addI ?_ | with_reducible refine Eq.mpr e_addT ?_ | with_reducible refine Eq.mpr e_addS ?_ | with_reducible refine Eq.mpr e_I0 ?_ | with_reducible refine Eq.mpr e_I ?_ | with_reducible refine Eq.mpr e_eqS ?_ | with_reducible refine Eq.mpr e_eqI ?_ | with_reducible refine Eq.mpr e_eqL ?_ | with_reducible refine Eq.mpr e_eq ?_ | with_reducible refine Eq.mpr e_ix ?_ | with_reducible refine Eq.mpr e_len ?_ | with_reducible refine Eq.mpr e_list ?_ | with_reducible refine Eq.mpr e_tuple ?_ | with_reducible refine Eq.mpr e_int1 ?_ | with_reducible refine Eq.mpr e_is ?_ | with_reducible refine Eq.mpr e_repr ?_ | with_reducible refine Eq.mpr e_un ?_ | with_reducible refine Eq.mpr e_neg ?_ | with_reducible refine Eq.mpr f_disp ?_ | with_reducible refine Eq.mpr e_pairs1 ?_ | with_reducible refine Eq.mpr e_pairs0 ?_ | with_reducible refine Eq.mpr e_part ?_ | with_reducible refine Eq.mpr e_nopart ?_ | with_reducible refine Eq.mpr e_sl ?_ | with_reducible refine Eq.mpr q_slL ?_ | with_reducible refine Eq.mpr q_slT ?_ | with_reducible refine Eq.mpr f_mut ?_ | with_reducible refine Eq.mpr e_append ?_ | with_reducible refine Eq.mpr f_call ?_ | with_reducible refine Eq.mpr f_callIo ?_ | with_reducible refine Eq.mpr e_mk0 ?_ | with_reducible refine Eq.mpr f_xf ?_ | with_reducible refine Eq.mpr e_test ?_ | with_reducible refine Eq.mpr e_and ?_ | with_reducible refine Eq.mpr e_or ?_ | with_reducible refine Eq.mpr e_not ?_ | with_reducible refine Eq.mpr e_if ?_ | with_reducible refine Eq.mpr e_andV ?_ | with_reducible refine Eq.mpr e_orV ?_ | with_reducible refine Eq.mpr e_notV ?_ | with_reducible refine Eq.mpr e_nameC ?_ | with_reducible refine Eq.mpr e_unp ?_ | with_reducible refine Eq.mpr e_gcons ?_ | with_reducible refine Eq.mpr e_gnil ?_ | with_reducible refine Eq.mpr e_iseq ?_ | with_reducible refine Eq.mpr e_irng1 ?_ | with_reducible refine Eq.mpr f_ienum ?_ | with_reducible refine Eq.mpr e_lc ?_ | with_reducible refine Eq.mpr e_yes ?_ | with_reducible refine Eq.mpr e_bt ?_ | with_reducible refine Eq.mpr e_bf ?_ | with_reducible refine Eq.mpr e_nt ?_ | with_reducible refine Eq.mpr e_nf ?_ | with_reducible refine Eq.mpr q_rvI ?_ | with_reducible refine Eq.mpr q_rvO ?_ | with_reducible refine Eq.mpr e_ret ?_ | with_reducible refine Eq.mpr e_drop ?_ | with_reducible refine Eq.mpr e_next ?_ | with_reducible refine Eq.mpr e_for ?_ | with_reducible refine Eq.mpr e_brk ?_ | with_reducible refine Eq.mpr e_cnt ?_ | ((with_reducible apply i_and); case l => first | rfl | (simp only [List.length_cons, List.length_nil, List.length_append, sizeLine_eq, Nat.reduceAdd]; done) | (simp only [List.length_cons, List.length_nil, List.length_append, sizeLine_eq, Nat.reduceAdd]; first | decide | omega)) | (with_reducible intro _)))
      refine chain (fun e => ?_) fun nline => ?_
      · subst e
        exact branch hz hm h1 h3 fin
      refine chain (fun e => ?_) fun nword => ?_
      · subst e
        exact branch hz hm h1 h3 fin
      refine chain (fun e => ?_) fun ncolumn => ?_
      · subst e
        exact branch hz hm h1 h3 fin
      refine chain (fun e => ?_) fun nwhy => ?_
      · subst e
        exact branch hz hm h1 h3 fin
      refine chain (fun e => ?_) fun nname => ?_
      · subst e
        exact branch hz hm h1 h3 fin
      refine chain (fun e => ?_) fun nwhat => ?_
      · subst e
        exact branch hz hm h1 h3 fin
      refine chain (fun e => ?_) fun nnumber => ?_
      · subst e
        exact branch hz hm h1 h3 fin
      refine chain (fun e => ?_) fun nrow => ?_
      · subst e
        exact branch hz hm h1 h3 fin
      refine chain (fun e => ?_) fun nmany => ?_
      · subst e
        exact branch hz hm h1 h3 fin
      refine chain (fun e => ?_) fun nlimit => ?_
      · subst e
        exact branch hz hm h1 h3 fin
      refine chain (fun e => ?_) fun npromise => ?_
      · subst e
        exact branch hz hm h1 h3 fin
      have e : n = "witness" := by
        simp only [fieldN, List.mem_cons, List.mem_nil_iff, or_false] at h2
        simpa [nline, nword, ncolumn, nwhy, nname, nwhat, nnumber, nrow, nmany, nlimit, npromise] using h2
      subst e
      exact branch hz hm h1 h3 fin
theorem is_step {P : Program} {w : World} {K : PySem.W.Frag} {mg : Str → Option Value} {base : Heap} {ad : Str → Addr} (T : Txt P w K mg base ad) {one : D} {x y : Str} (hx : x ∈ kindN) (ht : tyD one = some (.ref (ad x))) (ho : okCls (T_cs ad) one) {k : Bool → Prop} (hy : y ∈ kindN) (h : k (decide (y = x))) :
    onS (tyD one) fun t => onS (clsD (.ref (ad y))) fun u => okCls (T_cs ad) one ∧ onS (PySem.W.kitOne K t u) fun b => k b :=
  i_on ht (i_on rfl ⟨ho, i_on (T.is1 x hx y hy) h⟩)
theorem pure_kinds {P : Program} {w : World} {K : PySem.W.Frag} {mg : Str → Option Value} {base : Heap} {ad : Str → Addr} (T : Txt P w K mg base ad) (o ds k kx) (h : s_law_kinds ad o ds k kx) : bodyF N_law_kinds.length (d_law_kinds K ad) o ds k kx := by
  obtain ⟨one, x, rfl, rfl, hx, ht, ho, hk⟩ := h
  refine ⟨Nat.le_of_ble_eq_true rfl, fun q => ?_⟩
  unfold d_law_kinds
  simp only [q_startN, N_law_kinds, List.length_cons, List.length_nil, List.map_cons, List.map_nil, List.cons_append, List.nil_append, List.replicate_succ, List.replicate_zero, Nat.reduceAdd, Nat.reduceSub]
  (repeat (first | with_reducible refine Eq.mpr e_seq ?_ | with_reducible refine Eq.mpr e_ifb ?_ | with_reducible refine Eq.mpr e_ex ?_ | with_reducible refine Eq.mpr e_asg ?_ | with_reducible refine Eq.mpr e_c ?_ | with_reducible refine Eq.mpr e_var ?_ | ((with_reducible apply i_on); case h => ((try simp only [frzs, q_see_im, q_see_ow, e_seeal, q_frz_im, q_frz_ow, e_frzal, e_rd1, e_rd2, e_rd3, e_ow, e_se1, e_se2, e_fz1, e_fz2, e_dct, e_lstP, e_intP, e_int0, e_blP, e_excP, e_onO, e_putIm, e_putOw, looks, keyD, DL.pairD, py, pys, Option.map_some, q_seqL, q_seqR, q_seqT, q_walkL, q_walkR, q_walkT, q_walkS, q_lenL, q_lenT, q_itL, q_itT, tyD, clsD, List.getElem?_cons_zero, List.getElem?_cons_succ, List.set_cons_zero, List.set_cons_succ, e_c]); rfl)) | ((with_reducible apply i_onP); case h => ((try simp only [frzs, q_see_im, q_see_ow, e_seeal, q_frz_im, q_frz_ow, e_frzal, e_rd1, e_rd2, e_rd3, e_ow, e_se1, e_se2, e_fz1, e_fz2, e_dct, e_lstP, e_intP, e_int0, e_blP, e_excP, e_onO, e_putIm, e_putOw, looks, keyD, DL.pairD, py, pys, Option.map_some, q_seqL, q_seqR, q_seqT, q_walkL, q_walkR, q_walkT, q_walkS, q_lenL, q_lenT, q_itL, q_itT, tyD, clsD, List.getElem?_cons_zero, List.getElem?_cons_succ, List.set_cons_zero, List.set_cons_succ, e_c]); rfl)) | with_reducible refine Eq.mpr e_2 ?_ | with_reducible refine Eq.mpr e_cons ?_ | with_reducible refine Eq.mpr e_nil ?_ | with_reducible refine Eq.mpr f_tup ?_ | with_reducible refine Eq.mpr f_lst ?_ | with_reducible refine Eq.mpr f_mkX ?_ | with_reducible refine Eq.mpr e_cb ?_ | with_reducible refine Eq.mpr e_get ?_ | with_reducible refine Eq.mpr f_put ?_ | with_reducible refine Eq.mpr e_name ?_ | with_reducible refine Eq.mpr e_addL ?_ | with_reducible refine Eq.mpr e_addI ?_ | with_reducible refine Eq.mpr e_addT ?_ | with_reducible refine Eq.mpr e_addS ?_ | with_reducible refine Eq.mpr e_I0 ?_ | with_reducible refine Eq.mpr e_I ?_ | with_reducible refine Eq.mpr e_eqS ?_ | with_reducible refine Eq.mpr e_eqI ?_ | with_reducible refine Eq.mpr e_eqL ?_ | with_reducible refine Eq.mpr e_eq ?_ | with_reducible refine Eq.mpr e_ix ?_ | with_reducible refine Eq.mpr e_len ?_ | with_reducible refine Eq.mpr e_list ?_ | with_reducible refine Eq.mpr e_tuple ?_ | with_reducible refine Eq.mpr e_int1 ?_ | with_reducible refine Eq.mpr e_is ?_ | with_reducible refine Eq.mpr e_repr ?_ | with_reducible refine Eq.mpr e_un ?_ | with_reducible refine Eq.mpr e_neg ?_ | with_reducible refine Eq.mpr f_disp ?_ | with_reducible refine Eq.mpr e_pairs1 ?_ | with_reducible refine Eq.mpr e_pairs0 ?_ | with_reducible refine Eq.mpr e_part ?_ | with_reducible refine Eq.mpr e_nopart ?_ | with_reducible refine Eq.mpr e_sl ?_ | with_reducible refine Eq.mpr q_slL ?_ | with_reducible refine Eq.mpr q_slT ?_ | with_reducible refine Eq.mpr f_mut ?_ | with_reducible refine Eq.mpr e_append ?_ | with_reducible refine Eq.mpr f_call ?_ | with_reducible refine Eq.mpr f_callIo ?_ | with_reducible refine Eq.mpr e_mk0 ?_ | with_reducible refine Eq.mpr f_xf ?_ | with_reducible refine Eq.mpr e_test ?_ | with_reducible refine Eq.mpr e_and ?_ | with_reducible refine Eq.mpr e_or ?_ | with_reducible refine Eq.mpr e_not ?_ | with_reducible refine Eq.mpr e_if ?_ | with_reducible refine Eq.mpr e_andV ?_ | with_reducible refine Eq.mpr e_orV ?_ | with_reducible refine Eq.mpr e_notV ?_ | with_reducible refine Eq.mpr e_nameC ?_ | with_reducible refine Eq.mpr e_unp ?_ | with_reducible refine Eq.mpr e_gcons ?_ | with_reducible refine Eq.mpr e_gnil ?_ | with_reducible refine Eq.mpr e_iseq ?_ | with_reducible refine Eq.mpr e_irng1 ?_ | with_reducible refine Eq.mpr f_ienum ?_ | with_reducible refine Eq.mpr e_lc ?_ | with_reducible refine Eq.mpr e_yes ?_ | with_reducible refine Eq.mpr e_bt ?_ | with_reducible refine Eq.mpr e_bf ?_ | with_reducible refine Eq.mpr e_nt ?_ | with_reducible refine Eq.mpr e_nf ?_ | with_reducible refine Eq.mpr q_rvI ?_ | with_reducible refine Eq.mpr q_rvO ?_ | with_reducible refine Eq.mpr e_ret ?_ | with_reducible refine Eq.mpr e_drop ?_ | with_reducible refine Eq.mpr e_next ?_ | with_reducible refine Eq.mpr e_ifS ?_ | with_reducible refine Eq.mpr e_for ?_ | with_reducible refine Eq.mpr e_brk ?_ | with_reducible refine Eq.mpr e_cnt ?_ | ((with_reducible apply i_and); case l => first | rfl | (simp only [List.length_cons, List.length_nil, List.length_append, sizeLine_eq, Nat.reduceAdd]; done) | (simp only [List.length_cons, List.length_nil, List.length_append, sizeLine_eq, Nat.reduceAdd]; first | decide | omega)) | (with_reducible intro _)))
  refine is_step (y := "BadText") T hx ht ho (by decide) ?_
  (repeat (first | with_reducible refine Eq.mpr e_seq ?_ | with_reducible refine Eq.mpr e_ifb ?_ | with_reducible refine Eq.mpr e_ex ?_ | with_reducible refine Eq.mpr e_asg ?_ | with_reducible refine Eq.mpr e_c ?_ | with_reducible refine Eq.mpr e_var ?_ | ((with_reducible apply i_on); case h => ((try simp only [frzs, q_see_im, q_see_ow, e_seeal, q_frz_im, q_frz_ow, e_frzal, e_rd1, e_rd2, e_rd3, e_ow, e_se1, e_se2, e_fz1, e_fz2, e_dct, e_lstP, e_intP, e_int0, e_blP, e_excP, e_onO, e_putIm, e_putOw, looks, keyD, DL.pairD, py, pys, Option.map_some, q_seqL, q_seqR, q_seqT, q_walkL, q_walkR, q_walkT, q_walkS, q_lenL, q_lenT, q_itL, q_itT, tyD, clsD, List.getElem?_cons_zero, List.getElem?_cons_succ, List.set_cons_zero, List.set_cons_succ, e_c]); rfl)) | ((with_reducible apply i_onP); case h => ((try simp only [frzs, q_see_im, q_see_ow, e_seeal, q_frz_im, q_frz_ow, e_frzal, e_rd1, e_rd2, e_rd3, e_ow, e_se1, e_se2, e_fz1, e_fz2, e_dct, e_lstP, e_intP, e_int0, e_blP, e_excP, e_onO, e_putIm, e_putOw, looks, keyD, DL.pairD, py, pys, Option.map_some, q_seqL, q_seqR, q_seqT, q_walkL, q_walkR, q_walkT, q_walkS, q_lenL, q_lenT, q_itL, q_itT, tyD, clsD, List.getElem?_cons_zero, List.getElem?_cons_succ, List.set_cons_zero, List.set_cons_succ, e_c]); rfl)) | with_reducible refine Eq.mpr e_2 ?_ | with_reducible refine Eq.mpr e_cons ?_ | with_reducible refine Eq.mpr e_nil ?_ | with_reducible refine Eq.mpr f_tup ?_ | with_reducible refine Eq.mpr f_lst ?_ | with_reducible refine Eq.mpr f_mkX ?_ | with_reducible refine Eq.mpr e_cb ?_ | with_reducible refine Eq.mpr e_get ?_ | with_reducible refine Eq.mpr f_put ?_ | with_reducible refine Eq.mpr e_name ?_ | with_reducible refine Eq.mpr e_addL ?_ | with_reducible refine Eq.mpr e_addI ?_ | with_reducible refine Eq.mpr e_addT ?_ | with_reducible refine Eq.mpr e_addS ?_ | with_reducible refine Eq.mpr e_I0 ?_ | with_reducible refine Eq.mpr e_I ?_ | with_reducible refine Eq.mpr e_eqS ?_ | with_reducible refine Eq.mpr e_eqI ?_ | with_reducible refine Eq.mpr e_eqL ?_ | with_reducible refine Eq.mpr e_eq ?_ | with_reducible refine Eq.mpr e_ix ?_ | with_reducible refine Eq.mpr e_len ?_ | with_reducible refine Eq.mpr e_list ?_ | with_reducible refine Eq.mpr e_tuple ?_ | with_reducible refine Eq.mpr e_int1 ?_ | with_reducible refine Eq.mpr e_is ?_ | with_reducible refine Eq.mpr e_repr ?_ | with_reducible refine Eq.mpr e_un ?_ | with_reducible refine Eq.mpr e_neg ?_ | with_reducible refine Eq.mpr f_disp ?_ | with_reducible refine Eq.mpr e_pairs1 ?_ | with_reducible refine Eq.mpr e_pairs0 ?_ | with_reducible refine Eq.mpr e_part ?_ | with_reducible refine Eq.mpr e_nopart ?_ | with_reducible refine Eq.mpr e_sl ?_ | with_reducible refine Eq.mpr q_slL ?_ | with_reducible refine Eq.mpr q_slT ?_ | with_reducible refine Eq.mpr f_mut ?_ | with_reducible refine Eq.mpr e_append ?_ | with_reducible refine Eq.mpr f_call ?_ | with_reducible refine Eq.mpr f_callIo ?_ | with_reducible refine Eq.mpr e_mk0 ?_ | with_reducible refine Eq.mpr f_xf ?_ | with_reducible refine Eq.mpr e_test ?_ | with_reducible refine Eq.mpr e_and ?_ | with_reducible refine Eq.mpr e_or ?_ | with_reducible refine Eq.mpr e_not ?_ | with_reducible refine Eq.mpr e_if ?_ | with_reducible refine Eq.mpr e_andV ?_ | with_reducible refine Eq.mpr e_orV ?_ | with_reducible refine Eq.mpr e_notV ?_ | with_reducible refine Eq.mpr e_nameC ?_ | with_reducible refine Eq.mpr e_unp ?_ | with_reducible refine Eq.mpr e_gcons ?_ | with_reducible refine Eq.mpr e_gnil ?_ | with_reducible refine Eq.mpr e_iseq ?_ | with_reducible refine Eq.mpr e_irng1 ?_ | with_reducible refine Eq.mpr f_ienum ?_ | with_reducible refine Eq.mpr e_lc ?_ | with_reducible refine Eq.mpr e_yes ?_ | with_reducible refine Eq.mpr e_bt ?_ | with_reducible refine Eq.mpr e_bf ?_ | with_reducible refine Eq.mpr e_nt ?_ | with_reducible refine Eq.mpr e_nf ?_ | with_reducible refine Eq.mpr q_rvI ?_ | with_reducible refine Eq.mpr q_rvO ?_ | with_reducible refine Eq.mpr e_ret ?_ | with_reducible refine Eq.mpr e_drop ?_ | with_reducible refine Eq.mpr e_next ?_ | with_reducible refine Eq.mpr e_ifS ?_ | with_reducible refine Eq.mpr e_for ?_ | with_reducible refine Eq.mpr e_brk ?_ | with_reducible refine Eq.mpr e_cnt ?_ | ((with_reducible apply i_and); case l => first | rfl | (simp only [List.length_cons, List.length_nil, List.length_append, sizeLine_eq, Nat.reduceAdd]; done) | (simp only [List.length_cons, List.length_nil, List.length_append, sizeLine_eq, Nat.reduceAdd]; first | decide | omega)) | (with_reducible intro _)))
  refine is_step (y := "BadName") T hx ht ho (by decide) ?_
  (repeat (first | with_reducible refine Eq.mpr e_seq ?_ | with_reducible refine Eq.mpr e_ifb ?_ | with_reducible refine Eq.mpr e_ex ?_ | with_reducible refine Eq.mpr e_asg ?_ | with_reducible refine Eq.mpr e_c ?_ | with_reducible refine Eq.mpr e_var ?_ | ((with_reducible apply i_on); case h => ((try simp only [frzs, q_see_im, q_see_ow, e_seeal, q_frz_im, q_frz_ow, e_frzal, e_rd1, e_rd2, e_rd3, e_ow, e_se1, e_se2, e_fz1, e_fz2, e_dct, e_lstP, e_intP, e_int0, e_blP, e_excP, e_onO, e_putIm, e_putOw, looks, keyD, DL.pairD, py, pys, Option.map_some, q_seqL, q_seqR, q_seqT, q_walkL, q_walkR, q_walkT, q_walkS, q_lenL, q_lenT, q_itL, q_itT, tyD, clsD, List.getElem?_cons_zero, List.getElem?_cons_succ, List.set_cons_zero, List.set_cons_succ, e_c]); rfl)) | ((with_reducible apply i_onP); case h => ((try simp only [frzs, q_see_im, q_see_ow, e_seeal, q_frz_im, q_frz_ow, e_frzal, e_rd1, e_rd2, e_rd3, e_ow, e_se1, e_se2, e_fz1, e_fz2, e_dct, e_lstP, e_intP, e_int0, e_blP, e_excP, e_onO, e_putIm, e_putOw, looks, keyD, DL.pairD, py, pys, Option.map_some, q_seqL, q_seqR, q_seqT, q_walkL, q_walkR, q_walkT, q_walkS, q_lenL, q_lenT, q_itL, q_itT, tyD, clsD, List.getElem?_cons_zero, List.getElem?_cons_succ, List.set_cons_zero, List.set_cons_succ, e_c]); rfl)) | with_reducible refine Eq.mpr e_2 ?_ | with_reducible refine Eq.mpr e_cons ?_ | with_reducible refine Eq.mpr e_nil ?_ | with_reducible refine Eq.mpr f_tup ?_ | with_reducible refine Eq.mpr f_lst ?_ | with_reducible refine Eq.mpr f_mkX ?_ | with_reducible refine Eq.mpr e_cb ?_ | with_reducible refine Eq.mpr e_get ?_ | with_reducible refine Eq.mpr f_put ?_ | with_reducible refine Eq.mpr e_name ?_ | with_reducible refine Eq.mpr e_addL ?_ | with_reducible refine Eq.mpr e_addI ?_ | with_reducible refine Eq.mpr e_addT ?_ | with_reducible refine Eq.mpr e_addS ?_ | with_reducible refine Eq.mpr e_I0 ?_ | with_reducible refine Eq.mpr e_I ?_ | with_reducible refine Eq.mpr e_eqS ?_ | with_reducible refine Eq.mpr e_eqI ?_ | with_reducible refine Eq.mpr e_eqL ?_ | with_reducible refine Eq.mpr e_eq ?_ | with_reducible refine Eq.mpr e_ix ?_ | with_reducible refine Eq.mpr e_len ?_ | with_reducible refine Eq.mpr e_list ?_ | with_reducible refine Eq.mpr e_tuple ?_ | with_reducible refine Eq.mpr e_int1 ?_ | with_reducible refine Eq.mpr e_is ?_ | with_reducible refine Eq.mpr e_repr ?_ | with_reducible refine Eq.mpr e_un ?_ | with_reducible refine Eq.mpr e_neg ?_ | with_reducible refine Eq.mpr f_disp ?_ | with_reducible refine Eq.mpr e_pairs1 ?_ | with_reducible refine Eq.mpr e_pairs0 ?_ | with_reducible refine Eq.mpr e_part ?_ | with_reducible refine Eq.mpr e_nopart ?_ | with_reducible refine Eq.mpr e_sl ?_ | with_reducible refine Eq.mpr q_slL ?_ | with_reducible refine Eq.mpr q_slT ?_ | with_reducible refine Eq.mpr f_mut ?_ | with_reducible refine Eq.mpr e_append ?_ | with_reducible refine Eq.mpr f_call ?_ | with_reducible refine Eq.mpr f_callIo ?_ | with_reducible refine Eq.mpr e_mk0 ?_ | with_reducible refine Eq.mpr f_xf ?_ | with_reducible refine Eq.mpr e_test ?_ | with_reducible refine Eq.mpr e_and ?_ | with_reducible refine Eq.mpr e_or ?_ | with_reducible refine Eq.mpr e_not ?_ | with_reducible refine Eq.mpr e_if ?_ | with_reducible refine Eq.mpr e_andV ?_ | with_reducible refine Eq.mpr e_orV ?_ | with_reducible refine Eq.mpr e_notV ?_ | with_reducible refine Eq.mpr e_nameC ?_ | with_reducible refine Eq.mpr e_unp ?_ | with_reducible refine Eq.mpr e_gcons ?_ | with_reducible refine Eq.mpr e_gnil ?_ | with_reducible refine Eq.mpr e_iseq ?_ | with_reducible refine Eq.mpr e_irng1 ?_ | with_reducible refine Eq.mpr f_ienum ?_ | with_reducible refine Eq.mpr e_lc ?_ | with_reducible refine Eq.mpr e_yes ?_ | with_reducible refine Eq.mpr e_bt ?_ | with_reducible refine Eq.mpr e_bf ?_ | with_reducible refine Eq.mpr e_nt ?_ | with_reducible refine Eq.mpr e_nf ?_ | with_reducible refine Eq.mpr q_rvI ?_ | with_reducible refine Eq.mpr q_rvO ?_ | with_reducible refine Eq.mpr e_ret ?_ | with_reducible refine Eq.mpr e_drop ?_ | with_reducible refine Eq.mpr e_next ?_ | with_reducible refine Eq.mpr e_ifS ?_ | with_reducible refine Eq.mpr e_for ?_ | with_reducible refine Eq.mpr e_brk ?_ | with_reducible refine Eq.mpr e_cnt ?_ | ((with_reducible apply i_and); case l => first | rfl | (simp only [List.length_cons, List.length_nil, List.length_append, sizeLine_eq, Nat.reduceAdd]; done) | (simp only [List.length_cons, List.length_nil, List.length_append, sizeLine_eq, Nat.reduceAdd]; first | decide | omega)) | (with_reducible intro _)))
  refine is_step (y := "BadNumber") T hx ht ho (by decide) ?_
  (repeat (first | with_reducible refine Eq.mpr e_seq ?_ | with_reducible refine Eq.mpr e_ifb ?_ | with_reducible refine Eq.mpr e_ex ?_ | with_reducible refine Eq.mpr e_asg ?_ | with_reducible refine Eq.mpr e_c ?_ | with_reducible refine Eq.mpr e_var ?_ | ((with_reducible apply i_on); case h => ((try simp only [frzs, q_see_im, q_see_ow, e_seeal, q_frz_im, q_frz_ow, e_frzal, e_rd1, e_rd2, e_rd3, e_ow, e_se1, e_se2, e_fz1, e_fz2, e_dct, e_lstP, e_intP, e_int0, e_blP, e_excP, e_onO, e_putIm, e_putOw, looks, keyD, DL.pairD, py, pys, Option.map_some, q_seqL, q_seqR, q_seqT, q_walkL, q_walkR, q_walkT, q_walkS, q_lenL, q_lenT, q_itL, q_itT, tyD, clsD, List.getElem?_cons_zero, List.getElem?_cons_succ, List.set_cons_zero, List.set_cons_succ, e_c]); rfl)) | ((with_reducible apply i_onP); case h => ((try simp only [frzs, q_see_im, q_see_ow, e_seeal, q_frz_im, q_frz_ow, e_frzal, e_rd1, e_rd2, e_rd3, e_ow, e_se1, e_se2, e_fz1, e_fz2, e_dct, e_lstP, e_intP, e_int0, e_blP, e_excP, e_onO, e_putIm, e_putOw, looks, keyD, DL.pairD, py, pys, Option.map_some, q_seqL, q_seqR, q_seqT, q_walkL, q_walkR, q_walkT, q_walkS, q_lenL, q_lenT, q_itL, q_itT, tyD, clsD, List.getElem?_cons_zero, List.getElem?_cons_succ, List.set_cons_zero, List.set_cons_succ, e_c]); rfl)) | with_reducible refine Eq.mpr e_2 ?_ | with_reducible refine Eq.mpr e_cons ?_ | with_reducible refine Eq.mpr e_nil ?_ | with_reducible refine Eq.mpr f_tup ?_ | with_reducible refine Eq.mpr f_lst ?_ | with_reducible refine Eq.mpr f_mkX ?_ | with_reducible refine Eq.mpr e_cb ?_ | with_reducible refine Eq.mpr e_get ?_ | with_reducible refine Eq.mpr f_put ?_ | with_reducible refine Eq.mpr e_name ?_ | with_reducible refine Eq.mpr e_addL ?_ | with_reducible refine Eq.mpr e_addI ?_ | with_reducible refine Eq.mpr e_addT ?_ | with_reducible refine Eq.mpr e_addS ?_ | with_reducible refine Eq.mpr e_I0 ?_ | with_reducible refine Eq.mpr e_I ?_ | with_reducible refine Eq.mpr e_eqS ?_ | with_reducible refine Eq.mpr e_eqI ?_ | with_reducible refine Eq.mpr e_eqL ?_ | with_reducible refine Eq.mpr e_eq ?_ | with_reducible refine Eq.mpr e_ix ?_ | with_reducible refine Eq.mpr e_len ?_ | with_reducible refine Eq.mpr e_list ?_ | with_reducible refine Eq.mpr e_tuple ?_ | with_reducible refine Eq.mpr e_int1 ?_ | with_reducible refine Eq.mpr e_is ?_ | with_reducible refine Eq.mpr e_repr ?_ | with_reducible refine Eq.mpr e_un ?_ | with_reducible refine Eq.mpr e_neg ?_ | with_reducible refine Eq.mpr f_disp ?_ | with_reducible refine Eq.mpr e_pairs1 ?_ | with_reducible refine Eq.mpr e_pairs0 ?_ | with_reducible refine Eq.mpr e_part ?_ | with_reducible refine Eq.mpr e_nopart ?_ | with_reducible refine Eq.mpr e_sl ?_ | with_reducible refine Eq.mpr q_slL ?_ | with_reducible refine Eq.mpr q_slT ?_ | with_reducible refine Eq.mpr f_mut ?_ | with_reducible refine Eq.mpr e_append ?_ | with_reducible refine Eq.mpr f_call ?_ | with_reducible refine Eq.mpr f_callIo ?_ | with_reducible refine Eq.mpr e_mk0 ?_ | with_reducible refine Eq.mpr f_xf ?_ | with_reducible refine Eq.mpr e_test ?_ | with_reducible refine Eq.mpr e_and ?_ | with_reducible refine Eq.mpr e_or ?_ | with_reducible refine Eq.mpr e_not ?_ | with_reducible refine Eq.mpr e_if ?_ | with_reducible refine Eq.mpr e_andV ?_ | with_reducible refine Eq.mpr e_orV ?_ | with_reducible refine Eq.mpr e_notV ?_ | with_reducible refine Eq.mpr e_nameC ?_ | with_reducible refine Eq.mpr e_unp ?_ | with_reducible refine Eq.mpr e_gcons ?_ | with_reducible refine Eq.mpr e_gnil ?_ | with_reducible refine Eq.mpr e_iseq ?_ | with_reducible refine Eq.mpr e_irng1 ?_ | with_reducible refine Eq.mpr f_ienum ?_ | with_reducible refine Eq.mpr e_lc ?_ | with_reducible refine Eq.mpr e_yes ?_ | with_reducible refine Eq.mpr e_bt ?_ | with_reducible refine Eq.mpr e_bf ?_ | with_reducible refine Eq.mpr e_nt ?_ | with_reducible refine Eq.mpr e_nf ?_ | with_reducible refine Eq.mpr q_rvI ?_ | with_reducible refine Eq.mpr q_rvO ?_ | with_reducible refine Eq.mpr e_ret ?_ | with_reducible refine Eq.mpr e_drop ?_ | with_reducible refine Eq.mpr e_next ?_ | with_reducible refine Eq.mpr e_ifS ?_ | with_reducible refine Eq.mpr e_for ?_ | with_reducible refine Eq.mpr e_brk ?_ | with_reducible refine Eq.mpr e_cnt ?_ | ((with_reducible apply i_and); case l => first | rfl | (simp only [List.length_cons, List.length_nil, List.length_append, sizeLine_eq, Nat.reduceAdd]; done) | (simp only [List.length_cons, List.length_nil, List.length_append, sizeLine_eq, Nat.reduceAdd]; first | decide | omega)) | (with_reducible intro _)))
  refine is_step (y := "BadRow") T hx ht ho (by decide) ?_
  (repeat (first | with_reducible refine Eq.mpr e_seq ?_ | with_reducible refine Eq.mpr e_ifb ?_ | with_reducible refine Eq.mpr e_ex ?_ | with_reducible refine Eq.mpr e_asg ?_ | with_reducible refine Eq.mpr e_c ?_ | with_reducible refine Eq.mpr e_var ?_ | ((with_reducible apply i_on); case h => ((try simp only [frzs, q_see_im, q_see_ow, e_seeal, q_frz_im, q_frz_ow, e_frzal, e_rd1, e_rd2, e_rd3, e_ow, e_se1, e_se2, e_fz1, e_fz2, e_dct, e_lstP, e_intP, e_int0, e_blP, e_excP, e_onO, e_putIm, e_putOw, looks, keyD, DL.pairD, py, pys, Option.map_some, q_seqL, q_seqR, q_seqT, q_walkL, q_walkR, q_walkT, q_walkS, q_lenL, q_lenT, q_itL, q_itT, tyD, clsD, List.getElem?_cons_zero, List.getElem?_cons_succ, List.set_cons_zero, List.set_cons_succ, e_c]); rfl)) | ((with_reducible apply i_onP); case h => ((try simp only [frzs, q_see_im, q_see_ow, e_seeal, q_frz_im, q_frz_ow, e_frzal, e_rd1, e_rd2, e_rd3, e_ow, e_se1, e_se2, e_fz1, e_fz2, e_dct, e_lstP, e_intP, e_int0, e_blP, e_excP, e_onO, e_putIm, e_putOw, looks, keyD, DL.pairD, py, pys, Option.map_some, q_seqL, q_seqR, q_seqT, q_walkL, q_walkR, q_walkT, q_walkS, q_lenL, q_lenT, q_itL, q_itT, tyD, clsD, List.getElem?_cons_zero, List.getElem?_cons_succ, List.set_cons_zero, List.set_cons_succ, e_c]); rfl)) | with_reducible refine Eq.mpr e_2 ?_ | with_reducible refine Eq.mpr e_cons ?_ | with_reducible refine Eq.mpr e_nil ?_ | with_reducible refine Eq.mpr f_tup ?_ | with_reducible refine Eq.mpr f_lst ?_ | with_reducible refine Eq.mpr f_mkX ?_ | with_reducible refine Eq.mpr e_cb ?_ | with_reducible refine Eq.mpr e_get ?_ | with_reducible refine Eq.mpr f_put ?_ | with_reducible refine Eq.mpr e_name ?_ | with_reducible refine Eq.mpr e_addL ?_ | with_reducible refine Eq.mpr e_addI ?_ | with_reducible refine Eq.mpr e_addT ?_ | with_reducible refine Eq.mpr e_addS ?_ | with_reducible refine Eq.mpr e_I0 ?_ | with_reducible refine Eq.mpr e_I ?_ | with_reducible refine Eq.mpr e_eqS ?_ | with_reducible refine Eq.mpr e_eqI ?_ | with_reducible refine Eq.mpr e_eqL ?_ | with_reducible refine Eq.mpr e_eq ?_ | with_reducible refine Eq.mpr e_ix ?_ | with_reducible refine Eq.mpr e_len ?_ | with_reducible refine Eq.mpr e_list ?_ | with_reducible refine Eq.mpr e_tuple ?_ | with_reducible refine Eq.mpr e_int1 ?_ | with_reducible refine Eq.mpr e_is ?_ | with_reducible refine Eq.mpr e_repr ?_ | with_reducible refine Eq.mpr e_un ?_ | with_reducible refine Eq.mpr e_neg ?_ | with_reducible refine Eq.mpr f_disp ?_ | with_reducible refine Eq.mpr e_pairs1 ?_ | with_reducible refine Eq.mpr e_pairs0 ?_ | with_reducible refine Eq.mpr e_part ?_ | with_reducible refine Eq.mpr e_nopart ?_ | with_reducible refine Eq.mpr e_sl ?_ | with_reducible refine Eq.mpr q_slL ?_ | with_reducible refine Eq.mpr q_slT ?_ | with_reducible refine Eq.mpr f_mut ?_ | with_reducible refine Eq.mpr e_append ?_ | with_reducible refine Eq.mpr f_call ?_ | with_reducible refine Eq.mpr f_callIo ?_ | with_reducible refine Eq.mpr e_mk0 ?_ | with_reducible refine Eq.mpr f_xf ?_ | with_reducible refine Eq.mpr e_test ?_ | with_reducible refine Eq.mpr e_and ?_ | with_reducible refine Eq.mpr e_or ?_ | with_reducible refine Eq.mpr e_not ?_ | with_reducible refine Eq.mpr e_if ?_ | with_reducible refine Eq.mpr e_andV ?_ | with_reducible refine Eq.mpr e_orV ?_ | with_reducible refine Eq.mpr e_notV ?_ | with_reducible refine Eq.mpr e_nameC ?_ | with_reducible refine Eq.mpr e_unp ?_ | with_reducible refine Eq.mpr e_gcons ?_ | with_reducible refine Eq.mpr e_gnil ?_ | with_reducible refine Eq.mpr e_iseq ?_ | with_reducible refine Eq.mpr e_irng1 ?_ | with_reducible refine Eq.mpr f_ienum ?_ | with_reducible refine Eq.mpr e_lc ?_ | with_reducible refine Eq.mpr e_yes ?_ | with_reducible refine Eq.mpr e_bt ?_ | with_reducible refine Eq.mpr e_bf ?_ | with_reducible refine Eq.mpr e_nt ?_ | with_reducible refine Eq.mpr e_nf ?_ | with_reducible refine Eq.mpr q_rvI ?_ | with_reducible refine Eq.mpr q_rvO ?_ | with_reducible refine Eq.mpr e_ret ?_ | with_reducible refine Eq.mpr e_drop ?_ | with_reducible refine Eq.mpr e_next ?_ | with_reducible refine Eq.mpr e_ifS ?_ | with_reducible refine Eq.mpr e_for ?_ | with_reducible refine Eq.mpr e_brk ?_ | with_reducible refine Eq.mpr e_cnt ?_ | ((with_reducible apply i_and); case l => first | rfl | (simp only [List.length_cons, List.length_nil, List.length_append, sizeLine_eq, Nat.reduceAdd]; done) | (simp only [List.length_cons, List.length_nil, List.length_append, sizeLine_eq, Nat.reduceAdd]; first | decide | omega)) | (with_reducible intro _)))
  refine is_step (y := "NoName") T hx ht ho (by decide) ?_
  (repeat (first | with_reducible refine Eq.mpr e_seq ?_ | with_reducible refine Eq.mpr e_ifb ?_ | with_reducible refine Eq.mpr e_ex ?_ | with_reducible refine Eq.mpr e_asg ?_ | with_reducible refine Eq.mpr e_c ?_ | with_reducible refine Eq.mpr e_var ?_ | ((with_reducible apply i_on); case h => ((try simp only [frzs, q_see_im, q_see_ow, e_seeal, q_frz_im, q_frz_ow, e_frzal, e_rd1, e_rd2, e_rd3, e_ow, e_se1, e_se2, e_fz1, e_fz2, e_dct, e_lstP, e_intP, e_int0, e_blP, e_excP, e_onO, e_putIm, e_putOw, looks, keyD, DL.pairD, py, pys, Option.map_some, q_seqL, q_seqR, q_seqT, q_walkL, q_walkR, q_walkT, q_walkS, q_lenL, q_lenT, q_itL, q_itT, tyD, clsD, List.getElem?_cons_zero, List.getElem?_cons_succ, List.set_cons_zero, List.set_cons_succ, e_c]); rfl)) | ((with_reducible apply i_onP); case h => ((try simp only [frzs, q_see_im, q_see_ow, e_seeal, q_frz_im, q_frz_ow, e_frzal, e_rd1, e_rd2, e_rd3, e_ow, e_se1, e_se2, e_fz1, e_fz2, e_dct, e_lstP, e_intP, e_int0, e_blP, e_excP, e_onO, e_putIm, e_putOw, looks, keyD, DL.pairD, py, pys, Option.map_some, q_seqL, q_seqR, q_seqT, q_walkL, q_walkR, q_walkT, q_walkS, q_lenL, q_lenT, q_itL, q_itT, tyD, clsD, List.getElem?_cons_zero, List.getElem?_cons_succ, List.set_cons_zero, List.set_cons_succ, e_c]); rfl)) | with_reducible refine Eq.mpr e_2 ?_ | with_reducible refine Eq.mpr e_cons ?_ | with_reducible refine Eq.mpr e_nil ?_ | with_reducible refine Eq.mpr f_tup ?_ | with_reducible refine Eq.mpr f_lst ?_ | with_reducible refine Eq.mpr f_mkX ?_ | with_reducible refine Eq.mpr e_cb ?_ | with_reducible refine Eq.mpr e_get ?_ | with_reducible refine Eq.mpr f_put ?_ | with_reducible refine Eq.mpr e_name ?_ | with_reducible refine Eq.mpr e_addL ?_ | with_reducible refine Eq.mpr e_addI ?_ | with_reducible refine Eq.mpr e_addT ?_ | with_reducible refine Eq.mpr e_addS ?_ | with_reducible refine Eq.mpr e_I0 ?_ | with_reducible refine Eq.mpr e_I ?_ | with_reducible refine Eq.mpr e_eqS ?_ | with_reducible refine Eq.mpr e_eqI ?_ | with_reducible refine Eq.mpr e_eqL ?_ | with_reducible refine Eq.mpr e_eq ?_ | with_reducible refine Eq.mpr e_ix ?_ | with_reducible refine Eq.mpr e_len ?_ | with_reducible refine Eq.mpr e_list ?_ | with_reducible refine Eq.mpr e_tuple ?_ | with_reducible refine Eq.mpr e_int1 ?_ | with_reducible refine Eq.mpr e_is ?_ | with_reducible refine Eq.mpr e_repr ?_ | with_reducible refine Eq.mpr e_un ?_ | with_reducible refine Eq.mpr e_neg ?_ | with_reducible refine Eq.mpr f_disp ?_ | with_reducible refine Eq.mpr e_pairs1 ?_ | with_reducible refine Eq.mpr e_pairs0 ?_ | with_reducible refine Eq.mpr e_part ?_ | with_reducible refine Eq.mpr e_nopart ?_ | with_reducible refine Eq.mpr e_sl ?_ | with_reducible refine Eq.mpr q_slL ?_ | with_reducible refine Eq.mpr q_slT ?_ | with_reducible refine Eq.mpr f_mut ?_ | with_reducible refine Eq.mpr e_append ?_ | with_reducible refine Eq.mpr f_call ?_ | with_reducible refine Eq.mpr f_callIo ?_ | with_reducible refine Eq.mpr e_mk0 ?_ | with_reducible refine Eq.mpr f_xf ?_ | with_reducible refine Eq.mpr e_test ?_ | with_reducible refine Eq.mpr e_and ?_ | with_reducible refine Eq.mpr e_or ?_ | with_reducible refine Eq.mpr e_not ?_ | with_reducible refine Eq.mpr e_if ?_ | with_reducible refine Eq.mpr e_andV ?_ | with_reducible refine Eq.mpr e_orV ?_ | with_reducible refine Eq.mpr e_notV ?_ | with_reducible refine Eq.mpr e_nameC ?_ | with_reducible refine Eq.mpr e_unp ?_ | with_reducible refine Eq.mpr e_gcons ?_ | with_reducible refine Eq.mpr e_gnil ?_ | with_reducible refine Eq.mpr e_iseq ?_ | with_reducible refine Eq.mpr e_irng1 ?_ | with_reducible refine Eq.mpr f_ienum ?_ | with_reducible refine Eq.mpr e_lc ?_ | with_reducible refine Eq.mpr e_yes ?_ | with_reducible refine Eq.mpr e_bt ?_ | with_reducible refine Eq.mpr e_bf ?_ | with_reducible refine Eq.mpr e_nt ?_ | with_reducible refine Eq.mpr e_nf ?_ | with_reducible refine Eq.mpr q_rvI ?_ | with_reducible refine Eq.mpr q_rvO ?_ | with_reducible refine Eq.mpr e_ret ?_ | with_reducible refine Eq.mpr e_drop ?_ | with_reducible refine Eq.mpr e_next ?_ | with_reducible refine Eq.mpr e_ifS ?_ | with_reducible refine Eq.mpr e_for ?_ | with_reducible refine Eq.mpr e_brk ?_ | with_reducible refine Eq.mpr e_cnt ?_ | ((with_reducible apply i_and); case l => first | rfl | (simp only [List.length_cons, List.length_nil, List.length_append, sizeLine_eq, Nat.reduceAdd]; done) | (simp only [List.length_cons, List.length_nil, List.length_append, sizeLine_eq, Nat.reduceAdd]; first | decide | omega)) | (with_reducible intro _)))
  refine is_step (y := "TakenName") T hx ht ho (by decide) ?_
  (repeat (first | with_reducible refine Eq.mpr e_seq ?_ | with_reducible refine Eq.mpr e_ifb ?_ | with_reducible refine Eq.mpr e_ex ?_ | with_reducible refine Eq.mpr e_asg ?_ | with_reducible refine Eq.mpr e_c ?_ | with_reducible refine Eq.mpr e_var ?_ | ((with_reducible apply i_on); case h => ((try simp only [frzs, q_see_im, q_see_ow, e_seeal, q_frz_im, q_frz_ow, e_frzal, e_rd1, e_rd2, e_rd3, e_ow, e_se1, e_se2, e_fz1, e_fz2, e_dct, e_lstP, e_intP, e_int0, e_blP, e_excP, e_onO, e_putIm, e_putOw, looks, keyD, DL.pairD, py, pys, Option.map_some, q_seqL, q_seqR, q_seqT, q_walkL, q_walkR, q_walkT, q_walkS, q_lenL, q_lenT, q_itL, q_itT, tyD, clsD, List.getElem?_cons_zero, List.getElem?_cons_succ, List.set_cons_zero, List.set_cons_succ, e_c]); rfl)) | ((with_reducible apply i_onP); case h => ((try simp only [frzs, q_see_im, q_see_ow, e_seeal, q_frz_im, q_frz_ow, e_frzal, e_rd1, e_rd2, e_rd3, e_ow, e_se1, e_se2, e_fz1, e_fz2, e_dct, e_lstP, e_intP, e_int0, e_blP, e_excP, e_onO, e_putIm, e_putOw, looks, keyD, DL.pairD, py, pys, Option.map_some, q_seqL, q_seqR, q_seqT, q_walkL, q_walkR, q_walkT, q_walkS, q_lenL, q_lenT, q_itL, q_itT, tyD, clsD, List.getElem?_cons_zero, List.getElem?_cons_succ, List.set_cons_zero, List.set_cons_succ, e_c]); rfl)) | with_reducible refine Eq.mpr e_2 ?_ | with_reducible refine Eq.mpr e_cons ?_ | with_reducible refine Eq.mpr e_nil ?_ | with_reducible refine Eq.mpr f_tup ?_ | with_reducible refine Eq.mpr f_lst ?_ | with_reducible refine Eq.mpr f_mkX ?_ | with_reducible refine Eq.mpr e_cb ?_ | with_reducible refine Eq.mpr e_get ?_ | with_reducible refine Eq.mpr f_put ?_ | with_reducible refine Eq.mpr e_name ?_ | with_reducible refine Eq.mpr e_addL ?_ | with_reducible refine Eq.mpr e_addI ?_ | with_reducible refine Eq.mpr e_addT ?_ | with_reducible refine Eq.mpr e_addS ?_ | with_reducible refine Eq.mpr e_I0 ?_ | with_reducible refine Eq.mpr e_I ?_ | with_reducible refine Eq.mpr e_eqS ?_ | with_reducible refine Eq.mpr e_eqI ?_ | with_reducible refine Eq.mpr e_eqL ?_ | with_reducible refine Eq.mpr e_eq ?_ | with_reducible refine Eq.mpr e_ix ?_ | with_reducible refine Eq.mpr e_len ?_ | with_reducible refine Eq.mpr e_list ?_ | with_reducible refine Eq.mpr e_tuple ?_ | with_reducible refine Eq.mpr e_int1 ?_ | with_reducible refine Eq.mpr e_is ?_ | with_reducible refine Eq.mpr e_repr ?_ | with_reducible refine Eq.mpr e_un ?_ | with_reducible refine Eq.mpr e_neg ?_ | with_reducible refine Eq.mpr f_disp ?_ | with_reducible refine Eq.mpr e_pairs1 ?_ | with_reducible refine Eq.mpr e_pairs0 ?_ | with_reducible refine Eq.mpr e_part ?_ | with_reducible refine Eq.mpr e_nopart ?_ | with_reducible refine Eq.mpr e_sl ?_ | with_reducible refine Eq.mpr q_slL ?_ | with_reducible refine Eq.mpr q_slT ?_ | with_reducible refine Eq.mpr f_mut ?_ | with_reducible refine Eq.mpr e_append ?_ | with_reducible refine Eq.mpr f_call ?_ | with_reducible refine Eq.mpr f_callIo ?_ | with_reducible refine Eq.mpr e_mk0 ?_ | with_reducible refine Eq.mpr f_xf ?_ | with_reducible refine Eq.mpr e_test ?_ | with_reducible refine Eq.mpr e_and ?_ | with_reducible refine Eq.mpr e_or ?_ | with_reducible refine Eq.mpr e_not ?_ | with_reducible refine Eq.mpr e_if ?_ | with_reducible refine Eq.mpr e_andV ?_ | with_reducible refine Eq.mpr e_orV ?_ | with_reducible refine Eq.mpr e_notV ?_ | with_reducible refine Eq.mpr e_nameC ?_ | with_reducible refine Eq.mpr e_unp ?_ | with_reducible refine Eq.mpr e_gcons ?_ | with_reducible refine Eq.mpr e_gnil ?_ | with_reducible refine Eq.mpr e_iseq ?_ | with_reducible refine Eq.mpr e_irng1 ?_ | with_reducible refine Eq.mpr f_ienum ?_ | with_reducible refine Eq.mpr e_lc ?_ | with_reducible refine Eq.mpr e_yes ?_ | with_reducible refine Eq.mpr e_bt ?_ | with_reducible refine Eq.mpr e_bf ?_ | with_reducible refine Eq.mpr e_nt ?_ | with_reducible refine Eq.mpr e_nf ?_ | with_reducible refine Eq.mpr q_rvI ?_ | with_reducible refine Eq.mpr q_rvO ?_ | with_reducible refine Eq.mpr e_ret ?_ | with_reducible refine Eq.mpr e_drop ?_ | with_reducible refine Eq.mpr e_next ?_ | with_reducible refine Eq.mpr e_ifS ?_ | with_reducible refine Eq.mpr e_for ?_ | with_reducible refine Eq.mpr e_brk ?_ | with_reducible refine Eq.mpr e_cnt ?_ | ((with_reducible apply i_and); case l => first | rfl | (simp only [List.length_cons, List.length_nil, List.length_append, sizeLine_eq, Nat.reduceAdd]; done) | (simp only [List.length_cons, List.length_nil, List.length_append, sizeLine_eq, Nat.reduceAdd]; first | decide | omega)) | (with_reducible intro _)))
  refine is_step (y := "Unlike") T hx ht ho (by decide) ?_
  (repeat (first | with_reducible refine Eq.mpr e_seq ?_ | with_reducible refine Eq.mpr e_ifb ?_ | with_reducible refine Eq.mpr e_ex ?_ | with_reducible refine Eq.mpr e_asg ?_ | with_reducible refine Eq.mpr e_c ?_ | with_reducible refine Eq.mpr e_var ?_ | ((with_reducible apply i_on); case h => ((try simp only [frzs, q_see_im, q_see_ow, e_seeal, q_frz_im, q_frz_ow, e_frzal, e_rd1, e_rd2, e_rd3, e_ow, e_se1, e_se2, e_fz1, e_fz2, e_dct, e_lstP, e_intP, e_int0, e_blP, e_excP, e_onO, e_putIm, e_putOw, looks, keyD, DL.pairD, py, pys, Option.map_some, q_seqL, q_seqR, q_seqT, q_walkL, q_walkR, q_walkT, q_walkS, q_lenL, q_lenT, q_itL, q_itT, tyD, clsD, List.getElem?_cons_zero, List.getElem?_cons_succ, List.set_cons_zero, List.set_cons_succ, e_c]); rfl)) | ((with_reducible apply i_onP); case h => ((try simp only [frzs, q_see_im, q_see_ow, e_seeal, q_frz_im, q_frz_ow, e_frzal, e_rd1, e_rd2, e_rd3, e_ow, e_se1, e_se2, e_fz1, e_fz2, e_dct, e_lstP, e_intP, e_int0, e_blP, e_excP, e_onO, e_putIm, e_putOw, looks, keyD, DL.pairD, py, pys, Option.map_some, q_seqL, q_seqR, q_seqT, q_walkL, q_walkR, q_walkT, q_walkS, q_lenL, q_lenT, q_itL, q_itT, tyD, clsD, List.getElem?_cons_zero, List.getElem?_cons_succ, List.set_cons_zero, List.set_cons_succ, e_c]); rfl)) | with_reducible refine Eq.mpr e_2 ?_ | with_reducible refine Eq.mpr e_cons ?_ | with_reducible refine Eq.mpr e_nil ?_ | with_reducible refine Eq.mpr f_tup ?_ | with_reducible refine Eq.mpr f_lst ?_ | with_reducible refine Eq.mpr f_mkX ?_ | with_reducible refine Eq.mpr e_cb ?_ | with_reducible refine Eq.mpr e_get ?_ | with_reducible refine Eq.mpr f_put ?_ | with_reducible refine Eq.mpr e_name ?_ | with_reducible refine Eq.mpr e_addL ?_ | with_reducible refine Eq.mpr e_addI ?_ | with_reducible refine Eq.mpr e_addT ?_ | with_reducible refine Eq.mpr e_addS ?_ | with_reducible refine Eq.mpr e_I0 ?_ | with_reducible refine Eq.mpr e_I ?_ | with_reducible refine Eq.mpr e_eqS ?_ | with_reducible refine Eq.mpr e_eqI ?_ | with_reducible refine Eq.mpr e_eqL ?_ | with_reducible refine Eq.mpr e_eq ?_ | with_reducible refine Eq.mpr e_ix ?_ | with_reducible refine Eq.mpr e_len ?_ | with_reducible refine Eq.mpr e_list ?_ | with_reducible refine Eq.mpr e_tuple ?_ | with_reducible refine Eq.mpr e_int1 ?_ | with_reducible refine Eq.mpr e_is ?_ | with_reducible refine Eq.mpr e_repr ?_ | with_reducible refine Eq.mpr e_un ?_ | with_reducible refine Eq.mpr e_neg ?_ | with_reducible refine Eq.mpr f_disp ?_ | with_reducible refine Eq.mpr e_pairs1 ?_ | with_reducible refine Eq.mpr e_pairs0 ?_ | with_reducible refine Eq.mpr e_part ?_ | with_reducible refine Eq.mpr e_nopart ?_ | with_reducible refine Eq.mpr e_sl ?_ | with_reducible refine Eq.mpr q_slL ?_ | with_reducible refine Eq.mpr q_slT ?_ | with_reducible refine Eq.mpr f_mut ?_ | with_reducible refine Eq.mpr e_append ?_ | with_reducible refine Eq.mpr f_call ?_ | with_reducible refine Eq.mpr f_callIo ?_ | with_reducible refine Eq.mpr e_mk0 ?_ | with_reducible refine Eq.mpr f_xf ?_ | with_reducible refine Eq.mpr e_test ?_ | with_reducible refine Eq.mpr e_and ?_ | with_reducible refine Eq.mpr e_or ?_ | with_reducible refine Eq.mpr e_not ?_ | with_reducible refine Eq.mpr e_if ?_ | with_reducible refine Eq.mpr e_andV ?_ | with_reducible refine Eq.mpr e_orV ?_ | with_reducible refine Eq.mpr e_notV ?_ | with_reducible refine Eq.mpr e_nameC ?_ | with_reducible refine Eq.mpr e_unp ?_ | with_reducible refine Eq.mpr e_gcons ?_ | with_reducible refine Eq.mpr e_gnil ?_ | with_reducible refine Eq.mpr e_iseq ?_ | with_reducible refine Eq.mpr e_irng1 ?_ | with_reducible refine Eq.mpr f_ienum ?_ | with_reducible refine Eq.mpr e_lc ?_ | with_reducible refine Eq.mpr e_yes ?_ | with_reducible refine Eq.mpr e_bt ?_ | with_reducible refine Eq.mpr e_bf ?_ | with_reducible refine Eq.mpr e_nt ?_ | with_reducible refine Eq.mpr e_nf ?_ | with_reducible refine Eq.mpr q_rvI ?_ | with_reducible refine Eq.mpr q_rvO ?_ | with_reducible refine Eq.mpr e_ret ?_ | with_reducible refine Eq.mpr e_drop ?_ | with_reducible refine Eq.mpr e_next ?_ | with_reducible refine Eq.mpr e_ifS ?_ | with_reducible refine Eq.mpr e_for ?_ | with_reducible refine Eq.mpr e_brk ?_ | with_reducible refine Eq.mpr e_cnt ?_ | ((with_reducible apply i_and); case l => first | rfl | (simp only [List.length_cons, List.length_nil, List.length_append, sizeLine_eq, Nat.reduceAdd]; done) | (simp only [List.length_cons, List.length_nil, List.length_append, sizeLine_eq, Nat.reduceAdd]; first | decide | omega)) | (with_reducible intro _)))
  refine is_step (y := "NotThere") T hx ht ho (by decide) ?_
  (repeat (first | with_reducible refine Eq.mpr e_seq ?_ | with_reducible refine Eq.mpr e_ifb ?_ | with_reducible refine Eq.mpr e_ex ?_ | with_reducible refine Eq.mpr e_asg ?_ | with_reducible refine Eq.mpr e_c ?_ | with_reducible refine Eq.mpr e_var ?_ | ((with_reducible apply i_on); case h => ((try simp only [frzs, q_see_im, q_see_ow, e_seeal, q_frz_im, q_frz_ow, e_frzal, e_rd1, e_rd2, e_rd3, e_ow, e_se1, e_se2, e_fz1, e_fz2, e_dct, e_lstP, e_intP, e_int0, e_blP, e_excP, e_onO, e_putIm, e_putOw, looks, keyD, DL.pairD, py, pys, Option.map_some, q_seqL, q_seqR, q_seqT, q_walkL, q_walkR, q_walkT, q_walkS, q_lenL, q_lenT, q_itL, q_itT, tyD, clsD, List.getElem?_cons_zero, List.getElem?_cons_succ, List.set_cons_zero, List.set_cons_succ, e_c]); rfl)) | ((with_reducible apply i_onP); case h => ((try simp only [frzs, q_see_im, q_see_ow, e_seeal, q_frz_im, q_frz_ow, e_frzal, e_rd1, e_rd2, e_rd3, e_ow, e_se1, e_se2, e_fz1, e_fz2, e_dct, e_lstP, e_intP, e_int0, e_blP, e_excP, e_onO, e_putIm, e_putOw, looks, keyD, DL.pairD, py, pys, Option.map_some, q_seqL, q_seqR, q_seqT, q_walkL, q_walkR, q_walkT, q_walkS, q_lenL, q_lenT, q_itL, q_itT, tyD, clsD, List.getElem?_cons_zero, List.getElem?_cons_succ, List.set_cons_zero, List.set_cons_succ, e_c]); rfl)) | with_reducible refine Eq.mpr e_2 ?_ | with_reducible refine Eq.mpr e_cons ?_ | with_reducible refine Eq.mpr e_nil ?_ | with_reducible refine Eq.mpr f_tup ?_ | with_reducible refine Eq.mpr f_lst ?_ | with_reducible refine Eq.mpr f_mkX ?_ | with_reducible refine Eq.mpr e_cb ?_ | with_reducible refine Eq.mpr e_get ?_ | with_reducible refine Eq.mpr f_put ?_ | with_reducible refine Eq.mpr e_name ?_ | with_reducible refine Eq.mpr e_addL ?_ | with_reducible refine Eq.mpr e_addI ?_ | with_reducible refine Eq.mpr e_addT ?_ | with_reducible refine Eq.mpr e_addS ?_ | with_reducible refine Eq.mpr e_I0 ?_ | with_reducible refine Eq.mpr e_I ?_ | with_reducible refine Eq.mpr e_eqS ?_ | with_reducible refine Eq.mpr e_eqI ?_ | with_reducible refine Eq.mpr e_eqL ?_ | with_reducible refine Eq.mpr e_eq ?_ | with_reducible refine Eq.mpr e_ix ?_ | with_reducible refine Eq.mpr e_len ?_ | with_reducible refine Eq.mpr e_list ?_ | with_reducible refine Eq.mpr e_tuple ?_ | with_reducible refine Eq.mpr e_int1 ?_ | with_reducible refine Eq.mpr e_is ?_ | with_reducible refine Eq.mpr e_repr ?_ | with_reducible refine Eq.mpr e_un ?_ | with_reducible refine Eq.mpr e_neg ?_ | with_reducible refine Eq.mpr f_disp ?_ | with_reducible refine Eq.mpr e_pairs1 ?_ | with_reducible refine Eq.mpr e_pairs0 ?_ | with_reducible refine Eq.mpr e_part ?_ | with_reducible refine Eq.mpr e_nopart ?_ | with_reducible refine Eq.mpr e_sl ?_ | with_reducible refine Eq.mpr q_slL ?_ | with_reducible refine Eq.mpr q_slT ?_ | with_reducible refine Eq.mpr f_mut ?_ | with_reducible refine Eq.mpr e_append ?_ | with_reducible refine Eq.mpr f_call ?_ | with_reducible refine Eq.mpr f_callIo ?_ | with_reducible refine Eq.mpr e_mk0 ?_ | with_reducible refine Eq.mpr f_xf ?_ | with_reducible refine Eq.mpr e_test ?_ | with_reducible refine Eq.mpr e_and ?_ | with_reducible refine Eq.mpr e_or ?_ | with_reducible refine Eq.mpr e_not ?_ | with_reducible refine Eq.mpr e_if ?_ | with_reducible refine Eq.mpr e_andV ?_ | with_reducible refine Eq.mpr e_orV ?_ | with_reducible refine Eq.mpr e_notV ?_ | with_reducible refine Eq.mpr e_nameC ?_ | with_reducible refine Eq.mpr e_unp ?_ | with_reducible refine Eq.mpr e_gcons ?_ | with_reducible refine Eq.mpr e_gnil ?_ | with_reducible refine Eq.mpr e_iseq ?_ | with_reducible refine Eq.mpr e_irng1 ?_ | with_reducible refine Eq.mpr f_ienum ?_ | with_reducible refine Eq.mpr e_lc ?_ | with_reducible refine Eq.mpr e_yes ?_ | with_reducible refine Eq.mpr e_bt ?_ | with_reducible refine Eq.mpr e_bf ?_ | with_reducible refine Eq.mpr e_nt ?_ | with_reducible refine Eq.mpr e_nf ?_ | with_reducible refine Eq.mpr q_rvI ?_ | with_reducible refine Eq.mpr q_rvO ?_ | with_reducible refine Eq.mpr e_ret ?_ | with_reducible refine Eq.mpr e_drop ?_ | with_reducible refine Eq.mpr e_next ?_ | with_reducible refine Eq.mpr e_ifS ?_ | with_reducible refine Eq.mpr e_for ?_ | with_reducible refine Eq.mpr e_brk ?_ | with_reducible refine Eq.mpr e_cnt ?_ | ((with_reducible apply i_and); case l => first | rfl | (simp only [List.length_cons, List.length_nil, List.length_append, sizeLine_eq, Nat.reduceAdd]; done) | (simp only [List.length_cons, List.length_nil, List.length_append, sizeLine_eq, Nat.reduceAdd]; first | decide | omega)) | (with_reducible intro _)))
  refine is_step (y := "TooMany") T hx ht ho (by decide) ?_
  (repeat (first | with_reducible refine Eq.mpr e_seq ?_ | with_reducible refine Eq.mpr e_ifb ?_ | with_reducible refine Eq.mpr e_ex ?_ | with_reducible refine Eq.mpr e_asg ?_ | with_reducible refine Eq.mpr e_c ?_ | with_reducible refine Eq.mpr e_var ?_ | ((with_reducible apply i_on); case h => ((try simp only [frzs, q_see_im, q_see_ow, e_seeal, q_frz_im, q_frz_ow, e_frzal, e_rd1, e_rd2, e_rd3, e_ow, e_se1, e_se2, e_fz1, e_fz2, e_dct, e_lstP, e_intP, e_int0, e_blP, e_excP, e_onO, e_putIm, e_putOw, looks, keyD, DL.pairD, py, pys, Option.map_some, q_seqL, q_seqR, q_seqT, q_walkL, q_walkR, q_walkT, q_walkS, q_lenL, q_lenT, q_itL, q_itT, tyD, clsD, List.getElem?_cons_zero, List.getElem?_cons_succ, List.set_cons_zero, List.set_cons_succ, e_c]); rfl)) | ((with_reducible apply i_onP); case h => ((try simp only [frzs, q_see_im, q_see_ow, e_seeal, q_frz_im, q_frz_ow, e_frzal, e_rd1, e_rd2, e_rd3, e_ow, e_se1, e_se2, e_fz1, e_fz2, e_dct, e_lstP, e_intP, e_int0, e_blP, e_excP, e_onO, e_putIm, e_putOw, looks, keyD, DL.pairD, py, pys, Option.map_some, q_seqL, q_seqR, q_seqT, q_walkL, q_walkR, q_walkT, q_walkS, q_lenL, q_lenT, q_itL, q_itT, tyD, clsD, List.getElem?_cons_zero, List.getElem?_cons_succ, List.set_cons_zero, List.set_cons_succ, e_c]); rfl)) | with_reducible refine Eq.mpr e_2 ?_ | with_reducible refine Eq.mpr e_cons ?_ | with_reducible refine Eq.mpr e_nil ?_ | with_reducible refine Eq.mpr f_tup ?_ | with_reducible refine Eq.mpr f_lst ?_ | with_reducible refine Eq.mpr f_mkX ?_ | with_reducible refine Eq.mpr e_cb ?_ | with_reducible refine Eq.mpr e_get ?_ | with_reducible refine Eq.mpr f_put ?_ | with_reducible refine Eq.mpr e_name ?_ | with_reducible refine Eq.mpr e_addL ?_ | with_reducible refine Eq.mpr e_addI ?_ | with_reducible refine Eq.mpr e_addT ?_ | with_reducible refine Eq.mpr e_addS ?_ | with_reducible refine Eq.mpr e_I0 ?_ | with_reducible refine Eq.mpr e_I ?_ | with_reducible refine Eq.mpr e_eqS ?_ | with_reducible refine Eq.mpr e_eqI ?_ | with_reducible refine Eq.mpr e_eqL ?_ | with_reducible refine Eq.mpr e_eq ?_ | with_reducible refine Eq.mpr e_ix ?_ | with_reducible refine Eq.mpr e_len ?_ | with_reducible refine Eq.mpr e_list ?_ | with_reducible refine Eq.mpr e_tuple ?_ | with_reducible refine Eq.mpr e_int1 ?_ | with_reducible refine Eq.mpr e_is ?_ | with_reducible refine Eq.mpr e_repr ?_ | with_reducible refine Eq.mpr e_un ?_ | with_reducible refine Eq.mpr e_neg ?_ | with_reducible refine Eq.mpr f_disp ?_ | with_reducible refine Eq.mpr e_pairs1 ?_ | with_reducible refine Eq.mpr e_pairs0 ?_ | with_reducible refine Eq.mpr e_part ?_ | with_reducible refine Eq.mpr e_nopart ?_ | with_reducible refine Eq.mpr e_sl ?_ | with_reducible refine Eq.mpr q_slL ?_ | with_reducible refine Eq.mpr q_slT ?_ | with_reducible refine Eq.mpr f_mut ?_ | with_reducible refine Eq.mpr e_append ?_ | with_reducible refine Eq.mpr f_call ?_ | with_reducible refine Eq.mpr f_callIo ?_ | with_reducible refine Eq.mpr e_mk0 ?_ | with_reducible refine Eq.mpr f_xf ?_ | with_reducible refine Eq.mpr e_test ?_ | with_reducible refine Eq.mpr e_and ?_ | with_reducible refine Eq.mpr e_or ?_ | with_reducible refine Eq.mpr e_not ?_ | with_reducible refine Eq.mpr e_if ?_ | with_reducible refine Eq.mpr e_andV ?_ | with_reducible refine Eq.mpr e_orV ?_ | with_reducible refine Eq.mpr e_notV ?_ | with_reducible refine Eq.mpr e_nameC ?_ | with_reducible refine Eq.mpr e_unp ?_ | with_reducible refine Eq.mpr e_gcons ?_ | with_reducible refine Eq.mpr e_gnil ?_ | with_reducible refine Eq.mpr e_iseq ?_ | with_reducible refine Eq.mpr e_irng1 ?_ | with_reducible refine Eq.mpr f_ienum ?_ | with_reducible refine Eq.mpr e_lc ?_ | with_reducible refine Eq.mpr e_yes ?_ | with_reducible refine Eq.mpr e_bt ?_ | with_reducible refine Eq.mpr e_bf ?_ | with_reducible refine Eq.mpr e_nt ?_ | with_reducible refine Eq.mpr e_nf ?_ | with_reducible refine Eq.mpr q_rvI ?_ | with_reducible refine Eq.mpr q_rvO ?_ | with_reducible refine Eq.mpr e_ret ?_ | with_reducible refine Eq.mpr e_drop ?_ | with_reducible refine Eq.mpr e_next ?_ | with_reducible refine Eq.mpr e_ifS ?_ | with_reducible refine Eq.mpr e_for ?_ | with_reducible refine Eq.mpr e_brk ?_ | with_reducible refine Eq.mpr e_cnt ?_ | ((with_reducible apply i_and); case l => first | rfl | (simp only [List.length_cons, List.length_nil, List.length_append, sizeLine_eq, Nat.reduceAdd]; done) | (simp only [List.length_cons, List.length_nil, List.length_append, sizeLine_eq, Nat.reduceAdd]; first | decide | omega)) | (with_reducible intro _)))
  refine is_step (y := "Misread") T hx ht ho (by decide) ?_
  (repeat (first | with_reducible refine Eq.mpr e_seq ?_ | with_reducible refine Eq.mpr e_ifb ?_ | with_reducible refine Eq.mpr e_ex ?_ | with_reducible refine Eq.mpr e_asg ?_ | with_reducible refine Eq.mpr e_c ?_ | with_reducible refine Eq.mpr e_var ?_ | ((with_reducible apply i_on); case h => ((try simp only [frzs, q_see_im, q_see_ow, e_seeal, q_frz_im, q_frz_ow, e_frzal, e_rd1, e_rd2, e_rd3, e_ow, e_se1, e_se2, e_fz1, e_fz2, e_dct, e_lstP, e_intP, e_int0, e_blP, e_excP, e_onO, e_putIm, e_putOw, looks, keyD, DL.pairD, py, pys, Option.map_some, q_seqL, q_seqR, q_seqT, q_walkL, q_walkR, q_walkT, q_walkS, q_lenL, q_lenT, q_itL, q_itT, tyD, clsD, List.getElem?_cons_zero, List.getElem?_cons_succ, List.set_cons_zero, List.set_cons_succ, e_c]); rfl)) | ((with_reducible apply i_onP); case h => ((try simp only [frzs, q_see_im, q_see_ow, e_seeal, q_frz_im, q_frz_ow, e_frzal, e_rd1, e_rd2, e_rd3, e_ow, e_se1, e_se2, e_fz1, e_fz2, e_dct, e_lstP, e_intP, e_int0, e_blP, e_excP, e_onO, e_putIm, e_putOw, looks, keyD, DL.pairD, py, pys, Option.map_some, q_seqL, q_seqR, q_seqT, q_walkL, q_walkR, q_walkT, q_walkS, q_lenL, q_lenT, q_itL, q_itT, tyD, clsD, List.getElem?_cons_zero, List.getElem?_cons_succ, List.set_cons_zero, List.set_cons_succ, e_c]); rfl)) | with_reducible refine Eq.mpr e_2 ?_ | with_reducible refine Eq.mpr e_cons ?_ | with_reducible refine Eq.mpr e_nil ?_ | with_reducible refine Eq.mpr f_tup ?_ | with_reducible refine Eq.mpr f_lst ?_ | with_reducible refine Eq.mpr f_mkX ?_ | with_reducible refine Eq.mpr e_cb ?_ | with_reducible refine Eq.mpr e_get ?_ | with_reducible refine Eq.mpr f_put ?_ | with_reducible refine Eq.mpr e_name ?_ | with_reducible refine Eq.mpr e_addL ?_ | with_reducible refine Eq.mpr e_addI ?_ | with_reducible refine Eq.mpr e_addT ?_ | with_reducible refine Eq.mpr e_addS ?_ | with_reducible refine Eq.mpr e_I0 ?_ | with_reducible refine Eq.mpr e_I ?_ | with_reducible refine Eq.mpr e_eqS ?_ | with_reducible refine Eq.mpr e_eqI ?_ | with_reducible refine Eq.mpr e_eqL ?_ | with_reducible refine Eq.mpr e_eq ?_ | with_reducible refine Eq.mpr e_ix ?_ | with_reducible refine Eq.mpr e_len ?_ | with_reducible refine Eq.mpr e_list ?_ | with_reducible refine Eq.mpr e_tuple ?_ | with_reducible refine Eq.mpr e_int1 ?_ | with_reducible refine Eq.mpr e_is ?_ | with_reducible refine Eq.mpr e_repr ?_ | with_reducible refine Eq.mpr e_un ?_ | with_reducible refine Eq.mpr e_neg ?_ | with_reducible refine Eq.mpr f_disp ?_ | with_reducible refine Eq.mpr e_pairs1 ?_ | with_reducible refine Eq.mpr e_pairs0 ?_ | with_reducible refine Eq.mpr e_part ?_ | with_reducible refine Eq.mpr e_nopart ?_ | with_reducible refine Eq.mpr e_sl ?_ | with_reducible refine Eq.mpr q_slL ?_ | with_reducible refine Eq.mpr q_slT ?_ | with_reducible refine Eq.mpr f_mut ?_ | with_reducible refine Eq.mpr e_append ?_ | with_reducible refine Eq.mpr f_call ?_ | with_reducible refine Eq.mpr f_callIo ?_ | with_reducible refine Eq.mpr e_mk0 ?_ | with_reducible refine Eq.mpr f_xf ?_ | with_reducible refine Eq.mpr e_test ?_ | with_reducible refine Eq.mpr e_and ?_ | with_reducible refine Eq.mpr e_or ?_ | with_reducible refine Eq.mpr e_not ?_ | with_reducible refine Eq.mpr e_if ?_ | with_reducible refine Eq.mpr e_andV ?_ | with_reducible refine Eq.mpr e_orV ?_ | with_reducible refine Eq.mpr e_notV ?_ | with_reducible refine Eq.mpr e_nameC ?_ | with_reducible refine Eq.mpr e_unp ?_ | with_reducible refine Eq.mpr e_gcons ?_ | with_reducible refine Eq.mpr e_gnil ?_ | with_reducible refine Eq.mpr e_iseq ?_ | with_reducible refine Eq.mpr e_irng1 ?_ | with_reducible refine Eq.mpr f_ienum ?_ | with_reducible refine Eq.mpr e_lc ?_ | with_reducible refine Eq.mpr e_yes ?_ | with_reducible refine Eq.mpr e_bt ?_ | with_reducible refine Eq.mpr e_bf ?_ | with_reducible refine Eq.mpr e_nt ?_ | with_reducible refine Eq.mpr e_nf ?_ | with_reducible refine Eq.mpr q_rvI ?_ | with_reducible refine Eq.mpr q_rvO ?_ | with_reducible refine Eq.mpr e_ret ?_ | with_reducible refine Eq.mpr e_drop ?_ | with_reducible refine Eq.mpr e_next ?_ | with_reducible refine Eq.mpr e_ifS ?_ | with_reducible refine Eq.mpr e_for ?_ | with_reducible refine Eq.mpr e_brk ?_ | with_reducible refine Eq.mpr e_cnt ?_ | ((with_reducible apply i_and); case l => first | rfl | (simp only [List.length_cons, List.length_nil, List.length_append, sizeLine_eq, Nat.reduceAdd]; done) | (simp only [List.length_cons, List.length_nil, List.length_append, sizeLine_eq, Nat.reduceAdd]; first | decide | omega)) | (with_reducible intro _)))
  refine is_step (y := "Misplaced") T hx ht ho (by decide) ?_
  (repeat (first | with_reducible refine Eq.mpr e_seq ?_ | with_reducible refine Eq.mpr e_ifb ?_ | with_reducible refine Eq.mpr e_ex ?_ | with_reducible refine Eq.mpr e_asg ?_ | with_reducible refine Eq.mpr e_c ?_ | with_reducible refine Eq.mpr e_var ?_ | ((with_reducible apply i_on); case h => ((try simp only [frzs, q_see_im, q_see_ow, e_seeal, q_frz_im, q_frz_ow, e_frzal, e_rd1, e_rd2, e_rd3, e_ow, e_se1, e_se2, e_fz1, e_fz2, e_dct, e_lstP, e_intP, e_int0, e_blP, e_excP, e_onO, e_putIm, e_putOw, looks, keyD, DL.pairD, py, pys, Option.map_some, q_seqL, q_seqR, q_seqT, q_walkL, q_walkR, q_walkT, q_walkS, q_lenL, q_lenT, q_itL, q_itT, tyD, clsD, List.getElem?_cons_zero, List.getElem?_cons_succ, List.set_cons_zero, List.set_cons_succ, e_c]); rfl)) | ((with_reducible apply i_onP); case h => ((try simp only [frzs, q_see_im, q_see_ow, e_seeal, q_frz_im, q_frz_ow, e_frzal, e_rd1, e_rd2, e_rd3, e_ow, e_se1, e_se2, e_fz1, e_fz2, e_dct, e_lstP, e_intP, e_int0, e_blP, e_excP, e_onO, e_putIm, e_putOw, looks, keyD, DL.pairD, py, pys, Option.map_some, q_seqL, q_seqR, q_seqT, q_walkL, q_walkR, q_walkT, q_walkS, q_lenL, q_lenT, q_itL, q_itT, tyD, clsD, List.getElem?_cons_zero, List.getElem?_cons_succ, List.set_cons_zero, List.set_cons_succ, e_c]); rfl)) | with_reducible refine Eq.mpr e_2 ?_ | with_reducible refine Eq.mpr e_cons ?_ | with_reducible refine Eq.mpr e_nil ?_ | with_reducible refine Eq.mpr f_tup ?_ | with_reducible refine Eq.mpr f_lst ?_ | with_reducible refine Eq.mpr f_mkX ?_ | with_reducible refine Eq.mpr e_cb ?_ | with_reducible refine Eq.mpr e_get ?_ | with_reducible refine Eq.mpr f_put ?_ | with_reducible refine Eq.mpr e_name ?_ | with_reducible refine Eq.mpr e_addL ?_ | with_reducible refine Eq.mpr e_addI ?_ | with_reducible refine Eq.mpr e_addT ?_ | with_reducible refine Eq.mpr e_addS ?_ | with_reducible refine Eq.mpr e_I0 ?_ | with_reducible refine Eq.mpr e_I ?_ | with_reducible refine Eq.mpr e_eqS ?_ | with_reducible refine Eq.mpr e_eqI ?_ | with_reducible refine Eq.mpr e_eqL ?_ | with_reducible refine Eq.mpr e_eq ?_ | with_reducible refine Eq.mpr e_ix ?_ | with_reducible refine Eq.mpr e_len ?_ | with_reducible refine Eq.mpr e_list ?_ | with_reducible refine Eq.mpr e_tuple ?_ | with_reducible refine Eq.mpr e_int1 ?_ | with_reducible refine Eq.mpr e_is ?_ | with_reducible refine Eq.mpr e_repr ?_ | with_reducible refine Eq.mpr e_un ?_ | with_reducible refine Eq.mpr e_neg ?_ | with_reducible refine Eq.mpr f_disp ?_ | with_reducible refine Eq.mpr e_pairs1 ?_ | with_reducible refine Eq.mpr e_pairs0 ?_ | with_reducible refine Eq.mpr e_part ?_ | with_reducible refine Eq.mpr e_nopart ?_ | with_reducible refine Eq.mpr e_sl ?_ | with_reducible refine Eq.mpr q_slL ?_ | with_reducible refine Eq.mpr q_slT ?_ | with_reducible refine Eq.mpr f_mut ?_ | with_reducible refine Eq.mpr e_append ?_ | with_reducible refine Eq.mpr f_call ?_ | with_reducible refine Eq.mpr f_callIo ?_ | with_reducible refine Eq.mpr e_mk0 ?_ | with_reducible refine Eq.mpr f_xf ?_ | with_reducible refine Eq.mpr e_test ?_ | with_reducible refine Eq.mpr e_and ?_ | with_reducible refine Eq.mpr e_or ?_ | with_reducible refine Eq.mpr e_not ?_ | with_reducible refine Eq.mpr e_if ?_ | with_reducible refine Eq.mpr e_andV ?_ | with_reducible refine Eq.mpr e_orV ?_ | with_reducible refine Eq.mpr e_notV ?_ | with_reducible refine Eq.mpr e_nameC ?_ | with_reducible refine Eq.mpr e_unp ?_ | with_reducible refine Eq.mpr e_gcons ?_ | with_reducible refine Eq.mpr e_gnil ?_ | with_reducible refine Eq.mpr e_iseq ?_ | with_reducible refine Eq.mpr e_irng1 ?_ | with_reducible refine Eq.mpr f_ienum ?_ | with_reducible refine Eq.mpr e_lc ?_ | with_reducible refine Eq.mpr e_yes ?_ | with_reducible refine Eq.mpr e_bt ?_ | with_reducible refine Eq.mpr e_bf ?_ | with_reducible refine Eq.mpr e_nt ?_ | with_reducible refine Eq.mpr e_nf ?_ | with_reducible refine Eq.mpr q_rvI ?_ | with_reducible refine Eq.mpr q_rvO ?_ | with_reducible refine Eq.mpr e_ret ?_ | with_reducible refine Eq.mpr e_drop ?_ | with_reducible refine Eq.mpr e_next ?_ | with_reducible refine Eq.mpr e_ifS ?_ | with_reducible refine Eq.mpr e_for ?_ | with_reducible refine Eq.mpr e_brk ?_ | with_reducible refine Eq.mpr e_cnt ?_ | ((with_reducible apply i_and); case l => first | rfl | (simp only [List.length_cons, List.length_nil, List.length_append, sizeLine_eq, Nat.reduceAdd]; done) | (simp only [List.length_cons, List.length_nil, List.length_append, sizeLine_eq, Nat.reduceAdd]; first | decide | omega)) | (with_reducible intro _)))
  refine is_step (y := "NotKept") T hx ht ho (by decide) ?_
  (repeat (first | with_reducible refine Eq.mpr e_seq ?_ | with_reducible refine Eq.mpr e_ifb ?_ | with_reducible refine Eq.mpr e_ex ?_ | with_reducible refine Eq.mpr e_asg ?_ | with_reducible refine Eq.mpr e_c ?_ | with_reducible refine Eq.mpr e_var ?_ | ((with_reducible apply i_on); case h => ((try simp only [frzs, q_see_im, q_see_ow, e_seeal, q_frz_im, q_frz_ow, e_frzal, e_rd1, e_rd2, e_rd3, e_ow, e_se1, e_se2, e_fz1, e_fz2, e_dct, e_lstP, e_intP, e_int0, e_blP, e_excP, e_onO, e_putIm, e_putOw, looks, keyD, DL.pairD, py, pys, Option.map_some, q_seqL, q_seqR, q_seqT, q_walkL, q_walkR, q_walkT, q_walkS, q_lenL, q_lenT, q_itL, q_itT, tyD, clsD, List.getElem?_cons_zero, List.getElem?_cons_succ, List.set_cons_zero, List.set_cons_succ, e_c]); rfl)) | ((with_reducible apply i_onP); case h => ((try simp only [frzs, q_see_im, q_see_ow, e_seeal, q_frz_im, q_frz_ow, e_frzal, e_rd1, e_rd2, e_rd3, e_ow, e_se1, e_se2, e_fz1, e_fz2, e_dct, e_lstP, e_intP, e_int0, e_blP, e_excP, e_onO, e_putIm, e_putOw, looks, keyD, DL.pairD, py, pys, Option.map_some, q_seqL, q_seqR, q_seqT, q_walkL, q_walkR, q_walkT, q_walkS, q_lenL, q_lenT, q_itL, q_itT, tyD, clsD, List.getElem?_cons_zero, List.getElem?_cons_succ, List.set_cons_zero, List.set_cons_succ, e_c]); rfl)) | with_reducible refine Eq.mpr e_2 ?_ | with_reducible refine Eq.mpr e_cons ?_ | with_reducible refine Eq.mpr e_nil ?_ | with_reducible refine Eq.mpr f_tup ?_ | with_reducible refine Eq.mpr f_lst ?_ | with_reducible refine Eq.mpr f_mkX ?_ | with_reducible refine Eq.mpr e_cb ?_ | with_reducible refine Eq.mpr e_get ?_ | with_reducible refine Eq.mpr f_put ?_ | with_reducible refine Eq.mpr e_name ?_ | with_reducible refine Eq.mpr e_addL ?_ | with_reducible refine Eq.mpr e_addI ?_ | with_reducible refine Eq.mpr e_addT ?_ | with_reducible refine Eq.mpr e_addS ?_ | with_reducible refine Eq.mpr e_I0 ?_ | with_reducible refine Eq.mpr e_I ?_ | with_reducible refine Eq.mpr e_eqS ?_ | with_reducible refine Eq.mpr e_eqI ?_ | with_reducible refine Eq.mpr e_eqL ?_ | with_reducible refine Eq.mpr e_eq ?_ | with_reducible refine Eq.mpr e_ix ?_ | with_reducible refine Eq.mpr e_len ?_ | with_reducible refine Eq.mpr e_list ?_ | with_reducible refine Eq.mpr e_tuple ?_ | with_reducible refine Eq.mpr e_int1 ?_ | with_reducible refine Eq.mpr e_is ?_ | with_reducible refine Eq.mpr e_repr ?_ | with_reducible refine Eq.mpr e_un ?_ | with_reducible refine Eq.mpr e_neg ?_ | with_reducible refine Eq.mpr f_disp ?_ | with_reducible refine Eq.mpr e_pairs1 ?_ | with_reducible refine Eq.mpr e_pairs0 ?_ | with_reducible refine Eq.mpr e_part ?_ | with_reducible refine Eq.mpr e_nopart ?_ | with_reducible refine Eq.mpr e_sl ?_ | with_reducible refine Eq.mpr q_slL ?_ | with_reducible refine Eq.mpr q_slT ?_ | with_reducible refine Eq.mpr f_mut ?_ | with_reducible refine Eq.mpr e_append ?_ | with_reducible refine Eq.mpr f_call ?_ | with_reducible refine Eq.mpr f_callIo ?_ | with_reducible refine Eq.mpr e_mk0 ?_ | with_reducible refine Eq.mpr f_xf ?_ | with_reducible refine Eq.mpr e_test ?_ | with_reducible refine Eq.mpr e_and ?_ | with_reducible refine Eq.mpr e_or ?_ | with_reducible refine Eq.mpr e_not ?_ | with_reducible refine Eq.mpr e_if ?_ | with_reducible refine Eq.mpr e_andV ?_ | with_reducible refine Eq.mpr e_orV ?_ | with_reducible refine Eq.mpr e_notV ?_ | with_reducible refine Eq.mpr e_nameC ?_ | with_reducible refine Eq.mpr e_unp ?_ | with_reducible refine Eq.mpr e_gcons ?_ | with_reducible refine Eq.mpr e_gnil ?_ | with_reducible refine Eq.mpr e_iseq ?_ | with_reducible refine Eq.mpr e_irng1 ?_ | with_reducible refine Eq.mpr f_ienum ?_ | with_reducible refine Eq.mpr e_lc ?_ | with_reducible refine Eq.mpr e_yes ?_ | with_reducible refine Eq.mpr e_bt ?_ | with_reducible refine Eq.mpr e_bf ?_ | with_reducible refine Eq.mpr e_nt ?_ | with_reducible refine Eq.mpr e_nf ?_ | with_reducible refine Eq.mpr q_rvI ?_ | with_reducible refine Eq.mpr q_rvO ?_ | with_reducible refine Eq.mpr e_ret ?_ | with_reducible refine Eq.mpr e_drop ?_ | with_reducible refine Eq.mpr e_next ?_ | with_reducible refine Eq.mpr e_ifS ?_ | with_reducible refine Eq.mpr e_for ?_ | with_reducible refine Eq.mpr e_brk ?_ | with_reducible refine Eq.mpr e_cnt ?_ | ((with_reducible apply i_and); case l => first | rfl | (simp only [List.length_cons, List.length_nil, List.length_append, sizeLine_eq, Nat.reduceAdd]; done) | (simp only [List.length_cons, List.length_nil, List.length_append, sizeLine_eq, Nat.reduceAdd]; first | decide | omega)) | (with_reducible intro _)))
  refine is_step (y := "NothingToUndo") T hx ht ho (by decide) ?_
  (repeat (first | with_reducible refine Eq.mpr e_seq ?_ | with_reducible refine Eq.mpr e_ifb ?_ | with_reducible refine Eq.mpr e_ex ?_ | with_reducible refine Eq.mpr e_asg ?_ | with_reducible refine Eq.mpr e_c ?_ | with_reducible refine Eq.mpr e_var ?_ | ((with_reducible apply i_on); case h => ((try simp only [frzs, q_see_im, q_see_ow, e_seeal, q_frz_im, q_frz_ow, e_frzal, e_rd1, e_rd2, e_rd3, e_ow, e_se1, e_se2, e_fz1, e_fz2, e_dct, e_lstP, e_intP, e_int0, e_blP, e_excP, e_onO, e_putIm, e_putOw, looks, keyD, DL.pairD, py, pys, Option.map_some, q_seqL, q_seqR, q_seqT, q_walkL, q_walkR, q_walkT, q_walkS, q_lenL, q_lenT, q_itL, q_itT, tyD, clsD, List.getElem?_cons_zero, List.getElem?_cons_succ, List.set_cons_zero, List.set_cons_succ, e_c]); rfl)) | ((with_reducible apply i_onP); case h => ((try simp only [frzs, q_see_im, q_see_ow, e_seeal, q_frz_im, q_frz_ow, e_frzal, e_rd1, e_rd2, e_rd3, e_ow, e_se1, e_se2, e_fz1, e_fz2, e_dct, e_lstP, e_intP, e_int0, e_blP, e_excP, e_onO, e_putIm, e_putOw, looks, keyD, DL.pairD, py, pys, Option.map_some, q_seqL, q_seqR, q_seqT, q_walkL, q_walkR, q_walkT, q_walkS, q_lenL, q_lenT, q_itL, q_itT, tyD, clsD, List.getElem?_cons_zero, List.getElem?_cons_succ, List.set_cons_zero, List.set_cons_succ, e_c]); rfl)) | with_reducible refine Eq.mpr e_2 ?_ | with_reducible refine Eq.mpr e_cons ?_ | with_reducible refine Eq.mpr e_nil ?_ | with_reducible refine Eq.mpr f_tup ?_ | with_reducible refine Eq.mpr f_lst ?_ | with_reducible refine Eq.mpr f_mkX ?_ | with_reducible refine Eq.mpr e_cb ?_ | with_reducible refine Eq.mpr e_get ?_ | with_reducible refine Eq.mpr f_put ?_ | with_reducible refine Eq.mpr e_name ?_ | with_reducible refine Eq.mpr e_addL ?_ | with_reducible refine Eq.mpr e_addI ?_ | with_reducible refine Eq.mpr e_addT ?_ | with_reducible refine Eq.mpr e_addS ?_ | with_reducible refine Eq.mpr e_I0 ?_ | with_reducible refine Eq.mpr e_I ?_ | with_reducible refine Eq.mpr e_eqS ?_ | with_reducible refine Eq.mpr e_eqI ?_ | with_reducible refine Eq.mpr e_eqL ?_ | with_reducible refine Eq.mpr e_eq ?_ | with_reducible refine Eq.mpr e_ix ?_ | with_reducible refine Eq.mpr e_len ?_ | with_reducible refine Eq.mpr e_list ?_ | with_reducible refine Eq.mpr e_tuple ?_ | with_reducible refine Eq.mpr e_int1 ?_ | with_reducible refine Eq.mpr e_is ?_ | with_reducible refine Eq.mpr e_repr ?_ | with_reducible refine Eq.mpr e_un ?_ | with_reducible refine Eq.mpr e_neg ?_ | with_reducible refine Eq.mpr f_disp ?_ | with_reducible refine Eq.mpr e_pairs1 ?_ | with_reducible refine Eq.mpr e_pairs0 ?_ | with_reducible refine Eq.mpr e_part ?_ | with_reducible refine Eq.mpr e_nopart ?_ | with_reducible refine Eq.mpr e_sl ?_ | with_reducible refine Eq.mpr q_slL ?_ | with_reducible refine Eq.mpr q_slT ?_ | with_reducible refine Eq.mpr f_mut ?_ | with_reducible refine Eq.mpr e_append ?_ | with_reducible refine Eq.mpr f_call ?_ | with_reducible refine Eq.mpr f_callIo ?_ | with_reducible refine Eq.mpr e_mk0 ?_ | with_reducible refine Eq.mpr f_xf ?_ | with_reducible refine Eq.mpr e_test ?_ | with_reducible refine Eq.mpr e_and ?_ | with_reducible refine Eq.mpr e_or ?_ | with_reducible refine Eq.mpr e_not ?_ | with_reducible refine Eq.mpr e_if ?_ | with_reducible refine Eq.mpr e_andV ?_ | with_reducible refine Eq.mpr e_orV ?_ | with_reducible refine Eq.mpr e_notV ?_ | with_reducible refine Eq.mpr e_nameC ?_ | with_reducible refine Eq.mpr e_unp ?_ | with_reducible refine Eq.mpr e_gcons ?_ | with_reducible refine Eq.mpr e_gnil ?_ | with_reducible refine Eq.mpr e_iseq ?_ | with_reducible refine Eq.mpr e_irng1 ?_ | with_reducible refine Eq.mpr f_ienum ?_ | with_reducible refine Eq.mpr e_lc ?_ | with_reducible refine Eq.mpr e_yes ?_ | with_reducible refine Eq.mpr e_bt ?_ | with_reducible refine Eq.mpr e_bf ?_ | with_reducible refine Eq.mpr e_nt ?_ | with_reducible refine Eq.mpr e_nf ?_ | with_reducible refine Eq.mpr q_rvI ?_ | with_reducible refine Eq.mpr q_rvO ?_ | with_reducible refine Eq.mpr e_ret ?_ | with_reducible refine Eq.mpr e_drop ?_ | with_reducible refine Eq.mpr e_next ?_ | with_reducible refine Eq.mpr e_ifS ?_ | with_reducible refine Eq.mpr e_for ?_ | with_reducible refine Eq.mpr e_brk ?_ | with_reducible refine Eq.mpr e_cnt ?_ | ((with_reducible apply i_and); case l => first | rfl | (simp only [List.length_cons, List.length_nil, List.length_append, sizeLine_eq, Nat.reduceAdd]; done) | (simp only [List.length_cons, List.length_nil, List.length_append, sizeLine_eq, Nat.reduceAdd]; first | decide | omega)) | (with_reducible intro _)))
  refine is_step (y := "NothingToRedo") T hx ht ho (by decide) ?_
  (repeat (first | with_reducible refine Eq.mpr e_seq ?_ | with_reducible refine Eq.mpr e_ifb ?_ | with_reducible refine Eq.mpr e_ex ?_ | with_reducible refine Eq.mpr e_asg ?_ | with_reducible refine Eq.mpr e_c ?_ | with_reducible refine Eq.mpr e_var ?_ | ((with_reducible apply i_on); case h => ((try simp only [frzs, q_see_im, q_see_ow, e_seeal, q_frz_im, q_frz_ow, e_frzal, e_rd1, e_rd2, e_rd3, e_ow, e_se1, e_se2, e_fz1, e_fz2, e_dct, e_lstP, e_intP, e_int0, e_blP, e_excP, e_onO, e_putIm, e_putOw, looks, keyD, DL.pairD, py, pys, Option.map_some, q_seqL, q_seqR, q_seqT, q_walkL, q_walkR, q_walkT, q_walkS, q_lenL, q_lenT, q_itL, q_itT, tyD, clsD, List.getElem?_cons_zero, List.getElem?_cons_succ, List.set_cons_zero, List.set_cons_succ, e_c]); rfl)) | ((with_reducible apply i_onP); case h => ((try simp only [frzs, q_see_im, q_see_ow, e_seeal, q_frz_im, q_frz_ow, e_frzal, e_rd1, e_rd2, e_rd3, e_ow, e_se1, e_se2, e_fz1, e_fz2, e_dct, e_lstP, e_intP, e_int0, e_blP, e_excP, e_onO, e_putIm, e_putOw, looks, keyD, DL.pairD, py, pys, Option.map_some, q_seqL, q_seqR, q_seqT, q_walkL, q_walkR, q_walkT, q_walkS, q_lenL, q_lenT, q_itL, q_itT, tyD, clsD, List.getElem?_cons_zero, List.getElem?_cons_succ, List.set_cons_zero, List.set_cons_succ, e_c]); rfl)) | with_reducible refine Eq.mpr e_2 ?_ | with_reducible refine Eq.mpr e_cons ?_ | with_reducible refine Eq.mpr e_nil ?_ | with_reducible refine Eq.mpr f_tup ?_ | with_reducible refine Eq.mpr f_lst ?_ | with_reducible refine Eq.mpr f_mkX ?_ | with_reducible refine Eq.mpr e_cb ?_ | with_reducible refine Eq.mpr e_get ?_ | with_reducible refine Eq.mpr f_put ?_ | with_reducible refine Eq.mpr e_name ?_ | with_reducible refine Eq.mpr e_addL ?_ | with_reducible refine Eq.mpr e_addI ?_ | with_reducible refine Eq.mpr e_addT ?_ | with_reducible refine Eq.mpr e_addS ?_ | with_reducible refine Eq.mpr e_I0 ?_ | with_reducible refine Eq.mpr e_I ?_ | with_reducible refine Eq.mpr e_eqS ?_ | with_reducible refine Eq.mpr e_eqI ?_ | with_reducible refine Eq.mpr e_eqL ?_ | with_reducible refine Eq.mpr e_eq ?_ | with_reducible refine Eq.mpr e_ix ?_ | with_reducible refine Eq.mpr e_len ?_ | with_reducible refine Eq.mpr e_list ?_ | with_reducible refine Eq.mpr e_tuple ?_ | with_reducible refine Eq.mpr e_int1 ?_ | with_reducible refine Eq.mpr e_is ?_ | with_reducible refine Eq.mpr e_repr ?_ | with_reducible refine Eq.mpr e_un ?_ | with_reducible refine Eq.mpr e_neg ?_ | with_reducible refine Eq.mpr f_disp ?_ | with_reducible refine Eq.mpr e_pairs1 ?_ | with_reducible refine Eq.mpr e_pairs0 ?_ | with_reducible refine Eq.mpr e_part ?_ | with_reducible refine Eq.mpr e_nopart ?_ | with_reducible refine Eq.mpr e_sl ?_ | with_reducible refine Eq.mpr q_slL ?_ | with_reducible refine Eq.mpr q_slT ?_ | with_reducible refine Eq.mpr f_mut ?_ | with_reducible refine Eq.mpr e_append ?_ | with_reducible refine Eq.mpr f_call ?_ | with_reducible refine Eq.mpr f_callIo ?_ | with_reducible refine Eq.mpr e_mk0 ?_ | with_reducible refine Eq.mpr f_xf ?_ | with_reducible refine Eq.mpr e_test ?_ | with_reducible refine Eq.mpr e_and ?_ | with_reducible refine Eq.mpr e_or ?_ | with_reducible refine Eq.mpr e_not ?_ | with_reducible refine Eq.mpr e_if ?_ | with_reducible refine Eq.mpr e_andV ?_ | with_reducible refine Eq.mpr e_orV ?_ | with_reducible refine Eq.mpr e_notV ?_ | with_reducible refine Eq.mpr e_nameC ?_ | with_reducible refine Eq.mpr e_unp ?_ | with_reducible refine Eq.mpr e_gcons ?_ | with_reducible refine Eq.mpr e_gnil ?_ | with_reducible refine Eq.mpr e_iseq ?_ | with_reducible refine Eq.mpr e_irng1 ?_ | with_reducible refine Eq.mpr f_ienum ?_ | with_reducible refine Eq.mpr e_lc ?_ | with_reducible refine Eq.mpr e_yes ?_ | with_reducible refine Eq.mpr e_bt ?_ | with_reducible refine Eq.mpr e_bf ?_ | with_reducible refine Eq.mpr e_nt ?_ | with_reducible refine Eq.mpr e_nf ?_ | with_reducible refine Eq.mpr q_rvI ?_ | with_reducible refine Eq.mpr q_rvO ?_ | with_reducible refine Eq.mpr e_ret ?_ | with_reducible refine Eq.mpr e_drop ?_ | with_reducible refine Eq.mpr e_next ?_ | with_reducible refine Eq.mpr e_ifS ?_ | with_reducible refine Eq.mpr e_for ?_ | with_reducible refine Eq.mpr e_brk ?_ | with_reducible refine Eq.mpr e_cnt ?_ | ((with_reducible apply i_and); case l => first | rfl | (simp only [List.length_cons, List.length_nil, List.length_append, sizeLine_eq, Nat.reduceAdd]; done) | (simp only [List.length_cons, List.length_nil, List.length_append, sizeLine_eq, Nat.reduceAdd]; first | decide | omega)) | (with_reducible intro _)))
  exact ⟨none, _, rfl, rfl, hk⟩
end K1
/-! K5 -/
set_option Elab.async false
set_option maxRecDepth 100000
set_option maxHeartbeats 4000000
set_option linter.all false
namespace DL
open PySem PySem.Spec PyProof.Rows L2 Evl
/-! ### the exception that a suite holds -/
def tHX (K : PySem.W.Frag) (a : Addr) (cls : Value) (d : Option Addr) (te : TE) (f : Str) : TE := fun σ H Q => te σ H fun x H1 => x = .ref a ∧ ∃ C dd fs v names, cls = .ref C ∧ d = some dd ∧ H1 dd = some (.xd fs) ∧ XCl K C names ∧ f ∈ names ∧ fs.lookup f = some v ∧ Q v H1
theorem held_look {X : Cx} {a C dd : Addr} {oe : Obj} {pn : List (Addr × Obj)} {pins : List (Addr × Obj)} {σ : L2.St} {H : Hp} {s : Shared} {fs : List (Str × V)} (hz : Zc (.ref C) (some dd) oe) (hf : ∃ vs, oe.data = .fields vs) (I : Inv (X.suite a ((a, oe) :: pn)) pins σ H s) (e : H dd = some (.xd fs)) :
    ∃ od, PySem.W.InstAt s.heap a oe C (some od) ∧ ∀ f v, fs.lookup f = some v → ∃ u, PySem.W.lookIn f od = some (some u) ∧ RelV v u := by
  obtain ⟨ha, _⟩ := I.pin (a, oe) (List.mem_append_left _ List.mem_cons_self)
  obtain ⟨vs, hd⟩ := hf
  have hx : ObjOk X.prog X.w H s.heap dd (.xd fs) := I.hok dd _ e
  obtain ⟨mA, hns, hr⟩ := hx
  obtain ⟨od, ho, hl⟩ := lookIn_ns hns
  refine ⟨od, ⟨ha, hz.1, by unfold PySem.W.notCls; rw [hd] <;> rfl, by rw [hz.2]; exact ho⟩, fun f v hfl => ?_⟩
  have r := hr f
  rw [hfl] at r
  obtain ⟨u, hu, ru⟩ := RelO.some_of (v := v) (o := mA f) r
  exact ⟨u, by rw [hl, hu], ru⟩
theorem pe_hx {X : Cx} {a : Addr} {oe : Obj} {cls : Value} {d : Option Addr} {pn : List (Addr × Obj)} {e : PySem.Expr} {te : TE} {f : Str} {pos : Pos} (hz : Zc cls d oe) (hf : ∃ vs, oe.data = .fields vs) (he : PE (X.suite a ((a, oe) :: pn)) e te) (hb : attributeBase e f X.env (eval e X.env) = eval e X.env := by rfl) :
    PE (X.suite a ((a, oe) :: pn)) (.Attribute e f pos) (tHX X.K a cls d te f) := by
  refine ⟨fun pins s σ H Q I h => ?_⟩
  refine attr_of hb (thn (he.run pins s σ H _ I h) fun u s1 ⟨x, H1, I1, rx, ex, C, dd, fs, v, names, ec, ed, ea, xc, hm, hl, q⟩ => ?_)
  subst ex ec ed
  obtain rfl : u = Value.ref a := rx
  obtain ⟨od, J, look⟩ := held_look hz hf I1 ea
  obtain ⟨u, hu, ru⟩ := look f v hl
  exact HandSPX.exc_get I1.kIn J xc.ga xc.gg xc.ox.exC (PySem.W.findObj_own xc.hd (xc.no f hm) rfl hu) (handed_of ru) ⟨v, H1, I1.tok _, ru, q⟩
def rIsH (K : PySem.W.Frag) (a : Addr) (cls : Value) (d : Option Addr) : List V → Hp → VK → Prop := fun xs H Q => ∃ (c : V) (u : Value) (b : Bool) (C dd : Addr) (fs : List (Str × V)) (names : List Str), xs = [.ref a, c] ∧ ClsV c u ∧ cls = .ref C ∧ d = some dd ∧ H dd = some (.xd fs) ∧ XCl K C names ∧ ClsGet K ∧
  PySem.W.kitOne K (.ref C) u = some b ∧ Q (.bl b) H
theorem call_isH {X : Cx} {a : Addr} {oe : Obj} {cls : Value} {d : Option Addr} {pn : List (Addr × Obj)} (hz : Zc cls d oe) (hf : ∃ vs, oe.data = .fields vs) : CallR (X.suite a ((a, oe) :: pn)) (.builtin "isinstance") (rIsH X.K a cls d) := by
  intro pins s σ H xs us Q I r h
  obtain ⟨c, u, b, C, dd, fs, names, rfl, k, rfl, rfl, ea, xc, cg, e, q⟩ := h
  obtain ⟨u1, u2, rfl, r1, r2⟩ := vals2 r
  have e2 := k.eq r2
  subst e2
  obtain rfl : u1 = Value.ref a := r1
  obtain ⟨od, J, _⟩ := held_look hz hf I ea
  have hcl : (PySem.W.clsIn X.K C).isSome = true := by
    obtain ⟨cd, hc, _⟩ := PySem.W.any_some xc.hd
    rw [hc]
    rfl
  exact PySem.W.kia_one (PySem.W.kitx_exc hcl xc.ga xc.gg xc.ox.exC xc.ca cg.hn cg.ht xc.mo) I.kIn J e (fun z => nomatch z) fun tk => ⟨.bl b, H, I.tok tk, rfl, q⟩
theorem RelF.same {K : PySem.W.Frag} {B : BG} {F H H' : Hp} {σ : L2.St} {ρ : DL.Env} {τ : List (V × DV)} (R : RelF K B F σ H ρ τ) (e : Ex H H') : RelF K B F σ H' ρ τ :=
  R.grow (Ex.refl F) (R.sub.trans e) (fun a ha => ⟨by
    obtain ⟨d, hO⟩ := own_at R ha
    obtain ⟨o, ho⟩ := hO.some
    rw [ho]
    exact e a o ho, R.nf a ha⟩) (R.fr.trans e) fun a ha => .inl ha
end DL
namespace K1
open PySem PySem.Spec PyProof.Rows L2 Evl DL
abbrev stlaw : PySem.Stmt := top 24
abbrev Nlaw : List Str := ["script", "pen", "values", "at", "made", "one", "names", "due", "place", "kept", "last", "found", "told"]
abbrev Plaw : List Str := ["script"]
theorem Slaw : FnScope Nlaw Plaw (defScope stlaw) := ⟨rfl, rfl, rfl, by decide +kernel, rfl, by decide +kernel, by decide +kernel⟩
/-- [1, [2], 3] -/
def L123 : TE := tLst (tCons (tC (.int 1)) (tCons (tLst (tCons (tC (.int 2)) tNil)) (tCons (tC (.int 3)) tNil)))
def tsH (K : PySem.W.Frag) (ad : Str → Addr) : Addr → Value → Option Addr → TS := fun a cls d => tDrop (tBM K "list" rAppend (tVar 11) (tCons (tAndV (tCB (rIsH K a cls d) (tCons (tVar 12) (tCons (tC (.ty "ValueError")) tNil)))
  (tAndV (tCB (rIsH K a cls d) (tCons (tVar 12) (tCons (tC (.ref (ad "NotThere"))) tNil))) (tOp (rEqD K) (tHX K a cls d (tVar 12) "what") L123))) tNil))
def tTry (K : PySem.W.Frag) (ad : Str → Addr) : TS := fun D σ H => (fun (W : WX) => (fun _ σ H => tMkO (ad "NotThere") (spInit (ad "NotThere") (flds "NotThere")) [] (tCons L123 tNil) σ H fun cls d H' => W cls d σ H' : TS)) (wAs K (.ref (ad "DepositError")) 12 (tsH K ad) (fun _ _ _ _ => False) D) D σ H
def tTail (K : PySem.W.Frag) (ad : Str → Addr) : TS :=
  tSeq (tAsg (tLst (tCons (tC (.int 1)) (tCons (tLst (tCons (tC (.int 2)) tNil)) tNil))) (gName 9))
  (tSeq (tAsg (tMkX (ad "BadRow") (flds "BadRow") (tCons (tC (.str "x")) (tCons (tVar 9) tNil))) (gName 10))
  (tSeq (tDrop (tBM K "list" rAppend (tVar 9) (tCons (tC (.int 3)) tNil)))
  (tSeq (tIfS (tTest (tOp (rNeD K) (tXF K (tVar 10) "row") L123)) (tRet (tC (.bl false))) tNext)
  (tSeq (tAsg (tLst tNil) (gName 11))
  (tSeq (tTry K ad)
  (tRet (tOp (rEqD K) (tVar 11) (tLst (tCons (tC (.bl true)) tNil)))))))))
variable {P : Program} {w : World} {K : PySem.W.Frag} {mg : Str → Option Value} {base : Heap} {ad : Str → Addr}
theorem tail_text (T : Txt P w K mg base ad) {f : Addr} (cdv : Value) (A : Around) (outer : List PySem.Env) (s : Shared) (H : Hp) (E : XK) (hr : Room 4 (A.deeper (envOfC "law" (defScope stlaw) s.heap.objs.size f cdv))) :
    PSs (cxOf (L2.CX P w) P w K mg base Nlaw "law" (defScope stlaw) f cdv A outer s H E) ((defBody stlaw).drop 3) (tTail K ad) := by
  have S := Slaw
  obtain ⟨fI, fd, k, iC, tI, hk, F1, hb⟩ := (T.io "NotThere" (by decide)).ex
  have l123 : ∀ {X : Cx} {p1 p2 p3 p4 p5 : Pos} {j1 j2 j3}, PE X (.List [.Constant (.int 1) j1 p1, .List [.Constant (.int 2) j2 p2] p3, .Constant (.int 3) j3 p4] p5) L123 := pe_lst (pa_cons pe_int (pa_cons (pe_lst (pa_cons pe_int pa_nil)) (pa_cons pe_int pa_nil)))
  exact (pss_cons (ps_set (i := 9) S.nd rfl (Or.inl rfl) (pe_lst (pa_cons pe_int (pa_cons (pe_lst (pa_cons pe_int pa_nil)) pa_nil))))
    (pss_cons (ps_set (i := 10) S.nd rfl (Or.inl rfl) (pe_mkX (T.xc "BadRow" (by decide)) (T.io "BadRow" (by decide)) (by decide) (hr.mono (by decide)) rfl (T.cls "BadRow" (by decide)) (pa_cons pe_str (pa_cons (pv 9) pa_nil))))
    (pss_cons (ps_expr (pe_bm PySem.F.plainAttrs_list PySem.F.slot_list_append PySem.F.type_list_append mt_append (pv 9) (pa_cons pe_int pa_nil)))
    (pss_cons (ps_if (pt_cmpR (op_neD hr.units) (pe_xf (pv 10)) l123 (nomark _)) (pss_one (ps_ret pe_bl)) pss_nil)
    (pss_cons (ps_set (i := 11) S.nd rfl (Or.inl rfl) (pe_lst pa_nil))
    (pss_cons (ps_try_as (i := 12) (tb := fun W => (fun _ σ H => tMkO (ad "NotThere") (spInit (ad "NotThere") (flds "NotThere")) [] (tCons L123 tNil) σ H fun cls d H' => W cls d σ H' : TS)) (ts := tsH K ad) (Wout := fun _ _ _ _ => False) rfl rfl S.nd rfl rfl ⟨rfl, by decide, Or.inl (T.cls "DepositError" (by decide))⟩ takes0
      (fun W pn xe tk _ => pss_one (ps_raise rfl tk (pmk_oex (T.xc "NotThere" (by decide)).ox iC tI F1 ((hr.mono (by omega) : Room (k + 1) _)) hb .nil pass0 rfl (T.cls "NotThere" (by decide)) (by exact pa_cons l123 pa_nil))))
      (fun a oe cls d pn hz hf => pss_one (ps_expr (pe_bm PySem.F.plainAttrs_list PySem.F.slot_list_append PySem.F.type_list_append mt_append (pv 11) (pa_cons
        (pe_and (pe_callB (call_isH hz hf) rfl (T.bn "isinstance" (by decide)) rfl (pa_cons (pv 12) (pa_cons (pe_bltn rfl (T.bn "ValueError" (by decide)) rfl rfl) pa_nil)))
          (pe_and (pe_callB (call_isH hz hf) rfl (T.bn "isinstance" (by decide)) rfl (pa_cons (pv 12) (pa_cons (pe_glob rfl (T.cls "NotThere" (by decide)) rfl) pa_nil)))
            (pe_one (pe_cmpR (op_eqD hr.units) (pe_hx hz hf (pv 12)) l123 (nomark _))))) pa_nil)))))
    (pss_one (ps_ret (pe_cmpR (op_eqD hr.units) (pv 11) (pe_lst (pa_cons pe_bl pa_nil)) (nomark _))))))))))
end K1
/-! K6 -/
set_option Elab.async false
set_option maxRecDepth 100000
set_option maxHeartbeats 4000000
set_option linter.all false
namespace K1
open PySem PySem.Spec PyProof.Rows L2 Evl DL
variable {P : Program} {w : World} {K : PySem.W.Frag} {mg : Str → Option Value} {base : Heap} {ad : Str → Addr}
def d123 : D := .lst [.int 1, .lst [.int 2], .int 3]
def q123 : PyData := .list [.int 1, .list [.int 2], .int 3]
theorem py123 : py d123 = some q123 := by simp [d123, q123, py, pys]
theorem sz (n : Nat) (h : Nat.ble n 1000 = true) : n ≤ sizeLine := by
  rw [sizeLine_eq]
  have := Nat.le_of_ble_eq_true h
  omega
theorem dvs1 {F : Hp} {d : D} {v : V} (h : Dv K F d v) : Dvs K F [d] [v] := by
  simp only [Dvs]
  exact ⟨v, [], rfl, h, rfl⟩
theorem dvsC {F : Hp} {d : D} {v : V} {ds : List D} {vs : List V} (h : Dv K F d v) (g : Dvs K F ds vs) : Dvs K F (d :: ds) (v :: vs) := by
  simp only [Dvs]
  exact ⟨v, vs, rfl, h, g⟩
theorem dv_lst {F : Hp} {a : Addr} {ds : List D} {vs : List V} (h : F a = some (.lst vs)) (g : Dvs K F ds vs) : Dv K F (.lst ds) (.ref a) := by
  simp only [Dv]
  exact ⟨a, vs, rfl, h, g⟩
theorem run123 {σ : L2.St} {H : Hp} {Q : VK} (h : ∀ p H', Ex H H' → H p = none → Dv K H' d123 (.ref p) → Q (.ref p) H') : L123 σ H Q := by
  refine ⟨sz _ rfl, fun p1 h1 => ⟨sz _ rfl, fun p2 h2 => h p2 _ ((Ex.new h1).trans (Ex.new h2)) (fresh_back (Ex.new h1) h2) ?_⟩⟩
  have n12 : p1 ≠ p2 := ne_of_none upd_same h2
  exact dv_lst upd_same (dvsC dv_int (dvsC (dv_lst ((upd_ne n12).trans upd_same) (dvs1 dv_int)) (dvs1 dv_int)))
def dTail : TDs := fun D0 ρ => 13 ≤ ρ.length ∧ ρ[9]? = some .un ∧ ρ[10]? = some .un ∧ ρ[11]? = some .un ∧ ρ[12]? = some .un ∧ D0.rt (.im (.bl true)) ρ
theorem shaped123 : SeqAt.shaped q123 = true := by decide +kernel
theorem eqv123 : PyData.eqv q123 q123 = true := by decide +kernel
theorem RelF.slots {B : BG} {F H : Hp} {σ σ' : L2.St} {ρ : DL.Env} {τ : List (V × DV)} (R : RelF K B F σ H ρ τ) (hl : σ'.length = σ.length) (h : ∀ (i : Nat) (s : DL.S), ρ[i]? = some s → s = DL.S.un ∨ σ'[i]? = σ[i]?) : RelF K B F σ' H ρ τ where
  sub := R.sub
  bs := R.bs
  fr := R.fr
  ng := R.ng
  og := R.og
  len := by rw [hl]; exact R.len
  sl := fun i s hs => by
    rcases h i s hs with rfl | e
    · trivial
    · rw [e]
      exact R.sl i s hs
  tm := R.tm
  nd := R.nd
  nf := R.nf
theorem ifF {A B : Prop} (h : B) : if false = true then A else B := by simpa using h
theorem ifT {A B : Prop} (h : A) : if true = true then A else B := by simpa using h
theorem del_upd {H : Hp} {a dx : Addr} {o1 o2 : HO} {u : HO} (hne : dx ≠ a) (ha : H a = none) : upd (L2.del (upd (upd (upd H a o1) dx o2) a u) a) dx (.xd fs) = upd H dx (.xd fs) := by
  funext b
  by_cases h1 : b = dx
  · subst h1
    rw [upd_same, upd_same]
  · rw [upd_ne h1, upd_ne h1]
    by_cases h2 : b = a
    · subst h2
      rw [del_same, ha]
    · rw [del_ne h2, upd_ne h2, upd_ne h1, upd_ne h2]
theorem tail_pure (T : Txt P w K mg base ad) (hex : PySem.W.exmOne K (.ref (ad "NotThere")) (.ref (ad "DepositError")) = some true) {B : BG} {W : Wp} : SS K B W (tTail K ad) dTail := fun σ H ρ τ D0 Dd na wl ⟨F, R⟩ hd nx bk ct rt => by
  obtain ⟨hlen, u9, u10, u11, u12, hq⟩ := hd
  have hl : 13 ≤ σ.length := by rw [R.len]; exact hlen
  -- kept
  refine ⟨sz _ rfl, fun p1 h1 => ⟨sz _ rfl, fun p2 h2 => ?_⟩⟩
  have E2 : Ex H (upd (upd H p1 (.lst [.int 2])) p2 (.lst [.int 1, .ref p1])) := (Ex.new h1).trans (Ex.new h2)
  have n12 : p1 ≠ p2 := ne_of_none upd_same h2
  have f1 : upd (upd H p1 (.lst [.int 2])) p2 (.lst [.int 1, .ref p1]) p1 = some (.lst [.int 2]) := (upd_ne n12).trans upd_same
  have f2 : upd (upd H p1 (.lst [.int 2])) p2 (.lst [.int 1, .ref p1]) p2 = some (.lst [.int 1, .ref p1]) := upd_same
  have hp2 : H p2 = none := fresh_back (Ex.new h1) h2
  generalize upd (upd H p1 (.lst [.int 2])) p2 (.lst [.int 1, .ref p1]) = H2 at E2 f1 f2
  -- last
  refine ⟨.ref p2, List.getElem?_set_self (by omega), by rw [fl_BadRow]; rfl, fun e dx he hdx hne => ?_⟩
  rw [fl_BadRow]
  have na2 : upd H2 dx (exd dx ((["what", "row"] : List Str).zip [V.str "x", V.ref p2]).reverse) e = none := (upd_ne (Ne.symm hne)).trans he
  have E3 := (Ex.new hdx).trans (Ex.new (o := exo e (ad "BadRow") (some dx)) na2)
  have f1' := E3 _ _ f1
  have f2' := E3 _ _ f2
  have fe : upd (upd H2 dx (exd dx ((["what", "row"] : List Str).zip [V.str "x", V.ref p2]).reverse)) e (exo e (ad "BadRow") (some dx)) e = some (exo e (ad "BadRow") (some dx)) := upd_same
  have fdx : upd (upd H2 dx (exd dx ((["what", "row"] : List Str).zip [V.str "x", V.ref p2]).reverse)) e (exo e (ad "BadRow") (some dx)) dx = some (exd dx ((["what", "row"] : List Str).zip [V.str "x", V.ref p2]).reverse) := (upd_ne hne).trans upd_same
  have E3' := E2.trans E3
  have ne2 : p2 ≠ e := ne_of_none f2 he
  have nd2 : p2 ≠ dx := ne_of_none f2 hdx
  generalize upd (upd H2 dx (exd dx ((["what", "row"] : List Str).zip [V.str "x", V.ref p2]).reverse)) e (exo e (ad "BadRow") (some dx)) = H3 at f1' f2' fe fdx E3'
  -- kept.append(3)
  refine ⟨.ref p2, (List.getElem?_set_ne (by decide)).trans (List.getElem?_set_self (by omega)), .inl ⟨rfl, _, sq_of f2'⟩, p2, _, .int 3, rfl, rfl, f2', Nat.lt_of_lt_of_le (by decide : 2 < 1000) (sz _ rfl), ?_⟩
  have E4 : Ex H (upd H3 p2 (.lst ([.int 1, .ref p1] ++ [.int 3]))) := E3'.mut hp2
  have g1 : upd H3 p2 (.lst ([.int 1, .ref p1] ++ [.int 3])) p1 = some (.lst [.int 2]) := (upd_ne n12).trans f1'
  have g2 : upd H3 p2 (.lst ([.int 1, .ref p1] ++ [.int 3])) p2 = some (.lst [.int 1, .ref p1, .int 3]) := upd_same
  have ge : upd H3 p2 (.lst ([.int 1, .ref p1] ++ [.int 3])) e = some (exo e (ad "BadRow") (some dx)) := (upd_ne (Ne.symm ne2)).trans fe
  have gd : upd H3 p2 (.lst ([.int 1, .ref p1] ++ [.int 3])) dx = some (exd dx ((["what", "row"] : List Str).zip [V.str "x", V.ref p2]).reverse) := (upd_ne (Ne.symm nd2)).trans fdx
  generalize upd H3 p2 (.lst ([.int 1, .ref p1] ++ [.int 3])) = H4 at E4 g1 g2 ge gd
  have gk : Dv K H4 d123 (.ref p2) := dv_lst g2 (dvsC dv_int (dvsC (dv_lst g1 (dvs1 dv_int)) (dvs1 dv_int)))
  -- if last.row != ..
  refine ⟨.ref e, (List.getElem?_set_self (by rw [List.length_set]; omega)), e, _, dx, _, .ref p2, _, rfl, ge, gd, T.xc "BadRow" (by decide), by rw [fl_BadRow]; decide, by rfl, run123 (K := K) fun p3 H5 e5 n5 d5 => ⟨q123, q123, dp_of (gk.mono e5) py123, dp_of d5 py123, shaped123, shaped123, false, by rw [eqv123]; rfl, ?_⟩⟩
  refine ifF ?_
  have E5 := E4.trans e5
  -- found = []
  refine ⟨sz _ rfl, fun p5 h5 => ?_⟩
  have hp5 : H p5 = none := fresh_back E5 h5
  have E6 := E5.trans (Ex.new (o := .lst []) h5)
  have k5 : upd H5 p5 (.lst []) p5 = some (.lst []) := upd_same
  generalize upd H5 p5 (.lst []) = H6 at E6 k5
  -- try
  dsimp only [gName, tSeq, tTry, tMkO, tCons, tNil]
  refine run123 (K := K) fun p7 H7 e7 n7 d7 => ⟨by show 1 ≤ 1000; decide, fun a ha => ⟨a, [.ref p7], rfl, by rw [fl_NotThere]; rfl, upd_same, fun dd hdd hne2 => ⟨rfl, dd, _, upd_same, (upd_ne hne2).trans upd_same, (upd_ne hne2).symm.trans hdd, ?_⟩⟩⟩
  have hd7 : H7 dd = none := (upd_ne hne2).symm.trans hdd
  rw [del_upd hne2 ha, fl_NotThere]
  have E7 := E6.trans e7
  have k7 := e7 _ _ k5
  have E8 := E7.trans (Ex.new (o := .xd ((["what"] : List Str).zip [V.ref p7]).reverse) hd7)
  have k8 := Ex.new (o := .xd ((["what"] : List Str).zip [V.ref p7]).reverse) hd7 _ _ k7
  have d8 := d7.mono (Ex.new (o := .xd ((["what"] : List Str).zip [V.ref p7]).reverse) hd7)
  have x8 : upd H7 dd (.xd ((["what"] : List Str).zip [V.ref p7]).reverse) dd = some (.xd ((["what"] : List Str).zip [V.ref p7]).reverse) := upd_same
  generalize upd H7 dd (.xd ((["what"] : List Str).zip [V.ref p7]).reverse) = H8 at E8 k8 d8 x8
  refine ⟨true, hex, fun _ a2 ha2 => ?_, fun z => Bool.noConfusion z⟩
  have l9 : (σ.set 9 (some (V.ref p2))).length = σ.length := List.length_set
  have l10 : ((σ.set 9 (some (V.ref p2))).set 10 (some (V.ref e))).length = σ.length := by rw [List.length_set, l9]
  have l11 : (((σ.set 9 (some (V.ref p2))).set 10 (some (V.ref e))).set 11 (some (V.ref p5))).length = σ.length := by rw [List.length_set, l10]
  have g12 : ((((σ.set 9 (some (V.ref p2))).set 10 (some (V.ref e))).set 11 (some (V.ref p5))).set 12 (some (V.ref a2)))[12]? = some (some (V.ref a2)) := List.getElem?_set_self (by rw [l11]; omega)
  have g11 : ((((σ.set 9 (some (V.ref p2))).set 10 (some (V.ref e))).set 11 (some (V.ref p5))).set 12 (some (V.ref a2)))[11]? = some (some (V.ref p5)) := (List.getElem?_set_ne (by decide)).trans (List.getElem?_set_self (by rw [l10]; omega))
  have xN := T.xc "NotThere" (by decide)
  have cg := T.kn.1
  have i3 := T.is3 "NotThere" (by decide)
  have i1 := T.is1 "NotThere" (by decide) "NotThere" (by decide)
  rw [decide_eq_true rfl] at i1
  refine ⟨.ref p5, g11, .inl ⟨rfl, [], sq_of k8⟩, .ref a2, g12, .ty "ValueError", .type "ValueError", true, ad "NotThere", dd, _, _, rfl, .ty _, rfl, rfl, x8, xN, cg, i3, true, rfl, ?_⟩
  refine ifT ?_
  refine ⟨.ref a2, g12, .ref (ad "NotThere"), .ref (ad "NotThere"), true, ad "NotThere", dd, _, _, rfl, .own _, rfl, rfl, x8, xN, cg, i1, true, rfl, ?_⟩
  refine ifT ?_
  refine ⟨.ref a2, g12, rfl, ad "NotThere", dd, _, .ref p7, _, rfl, rfl, x8, xN, by rw [fl_NotThere]; decide, by rfl, run123 (K := K) fun p9 H9 e9 n9 d9 => ⟨q123, q123, dp_of (d8.mono e9) py123, dp_of d9 py123, shaped123, shaped123, ?_⟩⟩
  rw [eqv123]
  refine ⟨p5, [], .bl true, rfl, rfl, e9 _ _ k8, Nat.lt_of_lt_of_le (by decide : 0 < 1000) (sz _ rfl), ?_⟩
  have E9 := (E8.trans e9).mut (o := .lst ([] ++ [.bl true])) hp5
  have k9 : upd H9 p5 (.lst ([] ++ [.bl true])) p5 = some (.lst [.bl true]) := upd_same
  generalize upd H9 p5 (.lst ([] ++ [.bl true])) = H10 at E9 k9
  -- return found == [True]
  have g11' : (((((σ.set 9 (some (V.ref p2))).set 10 (some (V.ref e))).set 11 (some (V.ref p5))).set 12 (some (V.ref a2))).set 12 none)[11]? = some (some (V.ref p5)) := (List.getElem?_set_ne (by decide)).trans g11
  refine ⟨.ref p5, g11', sz _ rfl, fun p10 h10 => ?_⟩
  have e10 := Ex.new (o := .lst [.bl true]) h10
  have dA : Dv K (upd H10 p10 (.lst [.bl true])) (.lst [.bl true]) (.ref p5) := dv_lst (e10 _ _ k9) (dvs1 dv_bl)
  have dB : Dv K (upd H10 p10 (.lst [.bl true])) (.lst [.bl true]) (.ref p10) := dv_lst upd_same (dvs1 dv_bl)
  have pyT : py (.lst [.bl true]) = some (.list [.bool true]) := by simp [py, pys]
  refine ⟨_, _, dp_of dA pyT, dp_of dB pyT, by decide +kernel, by decide +kernel, ?_⟩
  have ev : PyData.eqv (.list [.bool true]) (.list [.bool true]) = true := by decide +kernel
  rw [ev]
  refine rt (.bl true) (.im (.bl true)) (((((σ.set 9 (some (V.ref p2))).set 10 (some (V.ref e))).set 11 (some (V.ref p5))).set 12 (some (V.ref a2))).set 12 none) _ ρ ⟨F, ?_⟩ hq
  refine RelF.pushIm ((RelF.slots R ?_ fun i s hs => ?_).same (E9.trans e10)) dv_bl
  · rw [List.length_set, List.length_set, l11]
  · by_cases i9 : i = 9
    · subst i9; rw [u9] at hs; cases hs; exact .inl rfl
    · by_cases i10 : i = 10
      · subst i10; rw [u10] at hs; cases hs; exact .inl rfl
      · by_cases i11 : i = 11
        · subst i11; rw [u11] at hs; cases hs; exact .inl rfl
        · by_cases i12 : i = 12
          · subst i12; rw [u12] at hs; cases hs; exact .inl rfl
          · right
            rw [List.getElem?_set_ne (Ne.symm i12), List.getElem?_set_ne (Ne.symm i12), List.getElem?_set_ne (Ne.symm i11), List.getElem?_set_ne (Ne.symm i10), List.getElem?_set_ne (Ne.symm i9)]
end K1
/-! K7 -/
set_option Elab.async false
set_option maxRecDepth 100000
set_option maxHeartbeats 4000000
set_option linter.all false
namespace DL
open PySem PySem.Spec PyProof.Rows L2 Evl
/-- data that repr tells shortly -/
structure Sh (n : Nat) (d : D) (q : PyData) : Prop where
  p : py d = some q
  s : q.showable = true
  h : q.hasDict = false
  d : q.depth ≤ 30
  l : q.shown.length ≤ n
theorem sh_list {n : Nat} : ∀ {ds : List D}, (∀ d ∈ ds, ∃ q, Sh n d q) → ∃ qs, pys ds = some qs ∧ PyData.showableAll qs = true ∧ PyData.hasDictAll qs = false ∧ PyData.depthAll qs ≤ 30 ∧ ((PyData.shownAll qs).map (·.length)).sum ≤ n * ds.length ∧ (PyData.shownAll qs).length = ds.length
  | [], _ => ⟨[], rfl, rfl, rfl, by simp [PyData.depthAll], by simp [PyData.shownAll], rfl⟩
  | d :: ds, h => by
    obtain ⟨q, hq⟩ := h d List.mem_cons_self
    obtain ⟨qs, h1, h2, h3, h4, h5, h6⟩ := sh_list fun e he => h e (List.mem_cons_of_mem _ he)
    refine ⟨q :: qs, ?_, ?_, ?_, ?_, ?_, ?_⟩
    · simp only [pys, hq.p, h1]
    · simp only [PyData.showableAll, hq.s, h2, Bool.and_self]
    · simp only [PyData.hasDictAll, hq.h, h3, Bool.or_self]
    · simp only [PyData.depthAll]
      have := hq.d
      omega
    · simp only [PyData.shownAll, List.map_cons, List.sum_cons, List.length_cons]
      have := hq.l
      rw [Nat.mul_add]
      omega
    · simp only [PyData.shownAll, List.length_cons, h6]
theorem repr_of {n : Nat} {ds : List D} (h : ∀ d ∈ ds, ∃ q, Sh n d q) (hz : n * ds.length + 2 * ds.length + 3 ≤ 16777216) : ∃ q, py (.lst ds) = some q ∧ q.showable = true ∧ q.hasDict = false ∧ q.depth + 1 ≤ 64 ∧ q.shown.length ≤ sizeLine := by
  obtain ⟨qs, h1, h2, h3, h4, h5, h6⟩ := sh_list h
  refine ⟨.list qs, by simp [py, h1], ?_, ?_, ?_, ?_⟩
  · simpa only [PyData.showable] using h2
  · simpa only [PyData.hasDict] using h3
  · simp only [PyData.depth]
    omega
  · simp only [PyData.shown]
    have := listText_len_le (PyData.shownAll qs)
    rw [sizeLine_eq]
    omega
theorem lc_map {G : DL.Env → Prop} {dg : DG} {dt : TDt} {de : TD} {vs : List Nat} {Qe : List D → DL.Env → Prop} (f : D → D) (ρ0 : DL.Env) (hG : G ρ0) (items : List D) (hz : items.length < 16777216)
    (step : ∀ d ∈ items, ∀ (acc : List D) (L : List D → DL.Env → Prop), acc.length < sizeLine → L (acc ++ [f d]) ρ0 → dg (.im d) ρ0 fun ρ2 => dt ρ2 fun b ρ3 =>
      if b = true then de ρ3 fun x ρ4 => ∃ z, DL.see ρ4 x = some z ∧ acc.length < sizeLine ∧ plains (frz ρ4 x) vs = true ∧ L (acc ++ [z]) (setE unS (frz ρ4 x) vs) else plains ρ3 vs = true ∧ L acc (setE unS ρ3 vs))
    (h : Qe (items.map f) ρ0) : dLcL G dg dt de vs Qe items [] ρ0 := by
  refine lc_ind (fun ds acc ρ => ρ = ρ0 ∧ items = items.take acc.length ++ ds ∧ acc = (items.take acc.length).map f) ?_ ?_ _ _ _ ⟨rfl, rfl, rfl⟩
  · rintro acc _ ⟨rfl, h1, h2⟩
    rw [List.append_nil] at h1
    rw [← h1] at h2
    exact ⟨hG, h2 ▸ h⟩
  · rintro d ds acc _ L hL ⟨rfl, h1, h2⟩
    have hlt : acc.length < items.length := by
      have := congrArg List.length h1
      rw [List.length_append, List.length_take, List.length_cons] at this
      omega
    have ed : items[acc.length]? = some d := by
      rw [h1, List.getElem?_append_right (by rw [List.length_take]; omega), List.length_take, Nat.min_eq_left (by omega), Nat.sub_self]
      rfl
    have et : items.take (acc ++ [f d]).length = items.take acc.length ++ [d] := by
      rw [List.length_append, List.length_singleton, List.take_succ, ed]
      rfl
    refine ⟨hG, step d (List.mem_of_getElem? ed) acc L (by rw [sizeLine_eq]; omega) (hL _ _ ⟨rfl, ?_, ?_⟩)⟩
    · rw [et, List.append_assoc]
      exact h1
    · rw [et, List.map_append, ← h2]
      rfl
end DL
namespace K1
open PySem PySem.Spec PyProof.Rows L2 Evl DL
theorem sh_vals : ∀ d ∈ vals, ∃ q, Sh 100 d q := by
  intro d hd
  simp only [vals, List.mem_cons, List.mem_nil_iff, or_false] at hd
  rcases hd with rfl | rfl | rfl | rfl | rfl | rfl | rfl | rfl | rfl | rfl | rfl | rfl
  all_goals exact ⟨_, rfl, by decide +kernel, by decide +kernel, by decide +kernel, by decide +kernel⟩
end K1
/-! K8 -/
set_option Elab.async false
set_option maxRecDepth 100000
set_option maxHeartbeats 4000000
set_option linter.all false
namespace K1
open PySem PySem.Spec PyProof.Rows L2 Evl DL
variable {P : Program} {w : World} {K : PySem.W.Frag} {mg : Str → Option Value} {base : Heap} {ad : Str → Addr}
def dlaw1 (ad : Str → Addr) (wd : DX) : TDs := (dAsg (dCall s_law_pen wd (dCons (dVar 0) dNil)) (dName 1))
def dlaw2 (ad : Str → Addr) (wd : DX) : TDs := (dAsg (dLst (dCons (dCallIo s_law_value wd 1 dNil) (dCons (dCallIo s_law_value wd 1 dNil) (dCons (dCallIo s_law_value wd 1 dNil) dNil)))) (dName 2))
def dlaw3 (K : PySem.W.Frag) (ad : Str → Addr) (wd : DX) : TDs := (dFor (diEnum (dCons (d2 fAdd (dCall (s_law_made_errors ad) wd (dCons (d2 fIx (dVar 2) (dC (.int 0))) (dCons (d2 fIx (dVar 2) (dC (.int 1))) (dCons (d2 fIx (dVar 2) (dC (.int 2))) dNil)))) (dLst (dCons (dTup (dCons (dMk0 (ad "NothingToUndo")) (dCons (dLst dNil) dNil))) (dCons (dTup (dCons (dMk0 (ad "NothingToRedo")) (dCons (dLst dNil) dNil))) dNil)))) dNil)) (dUnp 2 (dgCons (dName 3) (dgCons (dName 4) dgNil))) (dSeq (dAsg (dVar 4) (dUnp 2 (dgCons (dName 5) (dgCons (dName 6) dgNil))))
  (dSeq (dIfS (dOr (dNot (dTest (dCB (fIs K (T_cs ad)) (dCons (dVar 5) (dCons (dC (.ref (ad "DepositError"))) dNil))))) (dNot (dTest (dCB (fIs K (T_cs ad)) (dCons (dVar 5) (dCons (dC (.ty "ValueError")) dNil)))))) (dRet (dC (.bl false))) dNext)
  (dSeq (dAsg (dSl (d2 fAdd (dVar 2) (dVar 2)) dNoPart (dPart (dCB fLen (dCons (dVar 6) dNil)))) (dName 7))
  (dSeq (dIfS (dTest (d2 (fEqA not) (dCB fRepr (dCons (dCall (s_law_fields ad) wd (dCons (dVar 5) (dCons (dVar 6) dNil))) dNil)) (dCB fRepr (dCons (dVar 7) dNil)))) (dRet (dC (.bl false))) dNext)
  (dIfS (dTest (d2 (fEqA not) (dCall (s_law_kinds ad) wd (dCons (dVar 5) dNil)) (dLc (diRng1 (dCons (dC (.int 14)) dNil)) (dNameC 8) dYes (d2 (fEqA id) (dVar 8) (dVar 3)) [8]))) (dRet (dC (.bl false))) dNext))))))
def dlaw (K : PySem.W.Frag) (ad : Str → Addr) (wd : DX) : TDs := dSeq (dlaw1 ad wd) (dSeq (dlaw2 ad wd) (dSeq (dlaw3 K ad wd) dTail))
theorem claw (T : Txt P w K mg base ad) (hex : PySem.W.exmOne K (.ref (ad "NotThere")) (.ref (ad "DepositError")) = some true) (G_law_pen : FD P w K mg base 3 "_law_pen" P_law_pen (s_law_pen)) (G_law_value : FD P w K mg base 5 "_law_value" P_law_value (s_law_value)) (G_law_made_errors : FD P w K mg base 3 "_law_made_errors" P_law_made_errors ((s_law_made_errors ad))) (G_law_kinds : FD P w K mg base 3 "_law_kinds" P_law_kinds ((s_law_kinds ad))) (G_law_fields : FD P w K mg base 3 "_law_fields" P_law_fields ((s_law_fields ad))) {f : Addr} (cdv : Value) (A : Around) (outer : List PySem.Env) (s : Shared) (H : Hp) (E : XK) (B : BG) (wd : DX)
    (hr : Room 5 (A.deeper (envOfC "law" (defScope stlaw) s.heap.objs.size f cdv))) (hg : (A.deeper (envOfC "law" (defScope stlaw) s.heap.objs.size f cdv)).guards = some []) :
    ∃ t, CSs (cxOf (L2.CX P w) P w K mg base Nlaw "law" (defScope stlaw) f cdv A outer s H E) K B ⟨fun cls d _ H => E cls d H, wd⟩ (defBody stlaw) t (dlaw K ad wd) := by
  have S := Slaw
  have tk : Takes (cxOf (L2.CX P w) P w K mg base Nlaw "law" (defScope stlaw) f cdv A outer s H E) (fun cls d _ H => E cls d H) := takes_of rfl rfl rfl rfl
  have tl : CSs (cxOf (L2.CX P w) P w K mg base Nlaw "law" (defScope stlaw) f cdv A outer s H E) K B ⟨fun cls d _ H => E cls d H, wd⟩ ((defBody stlaw).drop 3) (tTail K ad) dTail := ⟨tail_text T cdv A outer s H E (hr.mono (by decide)), tail_pure T hex⟩
  exact ⟨_, by exact (css_cons (cs_asg (ce_call G_law_pen (hr.mono (by decide)) hg tk (ca_cons (ce_var 0) ca_nil)) (cg_name 1 S.nd))
    (css_cons (cs_asg (ce_lst (ca_cons (ce_callIo 1 G_law_value (hr.mono (by decide)) hg tk (ce_var 1) ca_nil) (ca_cons (ce_callIo 1 G_law_value (hr.mono (by decide)) hg tk (ce_var 1) ca_nil) (ca_cons (ce_callIo 1 G_law_value (hr.mono (by decide)) hg tk (ce_var 1) ca_nil) ca_nil)))) (cg_name 2 S.nd))
    (css_cons (cs_for (passes_of rfl) rfl (ci_enum (T.bn "enumerate" (by decide)) (ca_cons (ce_add (ce_call G_law_made_errors (hr.mono (by decide)) hg tk (ca_cons (ce_ix (ce_var 2) ce_int) (ca_cons (ce_ix (ce_var 2) ce_int) (ca_cons (ce_ix (ce_var 2) ce_int) ca_nil)))) (ce_lst (ca_cons (ce_tup (ca_cons (ce_mk0 PySem.F.excBase_ValueError (T.e0 "NothingToUndo" (by decide)).1 (T.e0 "NothingToUndo" (by decide)).2 (T.cls "NothingToUndo" (by decide))) (ca_cons (ce_lst ca_nil) ca_nil))) (ca_cons (ce_tup (ca_cons (ce_mk0 PySem.F.excBase_ValueError (T.e0 "NothingToRedo" (by decide)).1 (T.e0 "NothingToRedo" (by decide)).2 (T.cls "NothingToRedo" (by decide))) (ca_cons (ce_lst ca_nil) ca_nil))) ca_nil)))) ca_nil)) (cg_tup rfl (cgs_cons (cg_name 3 S.nd) (cgs_cons (cg_name 4 S.nd) cgs_nil))) (css_cons (cs_asg (ce_var 4) (cg_tup rfl (cgs_cons (cg_name 5 S.nd) (cgs_cons (cg_name 6 S.nd) cgs_nil))))
    (css_cons (cs_if (ct_w (cw_or (ct_not (ct_val (ce_cb (ok_is T.kn) call_isE rfl (T.bn "isinstance" (by decide)) (ca_cons (ce_var 5) (ca_cons (ce_cls (T.cls "DepositError" (by decide))) ca_nil))))) (cw_or1 (ct_not (ct_val (ce_cb (ok_is T.kn) call_isE rfl (T.bn "isinstance" (by decide)) (ca_cons (ce_var 5) (ca_cons (ce_ty (T.bn "ValueError" (by decide)) rfl) ca_nil)))))))) (css_one (cs_ret ce_bl)) css_nil)
    (css_cons (cs_asg (ce_sl (ce_add (ce_var 2) (ce_var 2)) co_none (co_some (ce_cb ok_len call_len rfl (T.bn "len" (by decide)) (ca_cons (ce_var 6) ca_nil)))) (cg_name 7 S.nd))
    (css_cons (cs_if (ct_ne hr (ce_cb ok_repr (call_repr hr hg) rfl (T.bn "repr" (by decide)) (ca_cons (ce_call G_law_fields (hr.mono (by decide)) hg tk (ca_cons (ce_var 5) (ca_cons (ce_var 6) ca_nil))) ca_nil)) (ce_cb ok_repr (call_repr hr hg) rfl (T.bn "repr" (by decide)) (ca_cons (ce_var 7) ca_nil))) (css_one (cs_ret ce_bl)) css_nil)
    (css_one (cs_if (ct_ne hr (ce_call G_law_kinds (hr.mono (by decide)) hg tk (ca_cons (ce_var 5) ca_nil)) (ce_lc [("place", 8)] rfl S.nd (ci_rng1 (T.bn "range" (by decide)) (ca_cons ce_int ca_nil)) (blkOk_by (own := [("place", 8)]) (N := Nlaw) (sc := defScope stlaw) (by decide +kernel)) (fun _ _ _ _ _ => (cgc_name 8 (by decide) S.nd)) (fun _ _ _ _ _ => cts_nil) (fun _ _ _ _ _ => (ce_eq hr (ce_var 8) (ce_var 3))))) (css_one (cs_ret ce_bl)) css_nil))))))) tl)))⟩
end K1
/-! K9 -/
set_option Elab.async false
set_option maxRecDepth 100000
set_option maxHeartbeats 8000000
set_option linter.all false
namespace K1
open PySem PySem.Spec PyProof.Rows L2 Evl DL
variable {P : Program} {w : World} {K : PySem.W.Frag} {mg : Str → Option Value} {base : Heap} {ad : Str → Addr}
def slaw : TF := fun o ds k kx => ∃ ns : List Int, o = none ∧ ds = [.rol (ns.map .int)] ∧ ns.length ≤ 1000 ∧ k (.im (.bl true)) none
/-- all that is made -/
def allD (ad : Str → Addr) (a b c : D) : List D := madeD ad a b c ++ [.tup [.ex0 (ad "NothingToUndo"), .lst []], .tup [.ex0 (ad "NothingToRedo"), .lst []]]
/-- what is known of one that is made -/
structure One (ad : Str → Addr) (a b c : D) (m : D) : Prop where
  ex : ∃ (i : Nat) (x : Str) (one : D) (ns : List Str), m = .tup [.int (i : Int), .tup [one, .lst (ns.map .str)]] ∧ i < 14 ∧ kindN[i]? = some x ∧ tyD one = some (.ref (ad x)) ∧ okCls (T_cs ad) one ∧ ns.length ≤ 4 ∧
    (ns = [] ∨ ∃ C fs nms, one = .exc C fs ∧ (C, nms) ∈ T_cs ad ∧ ∀ n ∈ ns, n ∈ nms ∧ n ∈ fieldN ∧ ∃ z, fs.lookup n = some z) ∧
    (match one with
      | .exc _ fs => ns.map (lookF fs)
      | _ => []) = [a, b, c, a, b, c].take ns.length
theorem all_one {a b c : D} : ∀ m ∈ enumD (allD ad a b c) 0, One ad a b c m := by
  intro m hm
  simp only [enumD, allD, madeD, List.cons_append, List.nil_append, List.zipIdx_cons, List.zipIdx_nil, List.map_cons, List.map_nil, List.mem_cons, List.mem_nil_iff, or_false] at hm
  rcases hm with rfl | rfl | rfl | rfl | rfl | rfl | rfl | rfl | rfl | rfl | rfl | rfl | rfl | rfl
  · refine ⟨⟨0, "BadText", _, ["line", "word"], rfl, by decide, rfl, rfl, ⟨["line", "word"], ?_⟩, by decide, .inr ⟨_, _, ["line", "word"], rfl, ?_, ?_⟩, ?_⟩⟩
    · simp [T_cs, fldT]
    · simp [T_cs, fldT]
    · intro n hn
      rw [fl_BadText]
      refine ⟨hn, ?_, ?_⟩
      · revert n; decide
      · simp only [List.mem_cons, List.mem_nil_iff, or_false] at hn
        rcases hn with rfl | rfl
        all_goals exact ⟨_, rfl⟩
    · simp only [excD, fl_BadText]
      rfl
  · refine ⟨⟨1, "BadName", _, ["name"], rfl, by decide, rfl, rfl, ⟨["name"], ?_⟩, by decide, .inr ⟨_, _, ["name"], rfl, ?_, ?_⟩, ?_⟩⟩
    · simp [T_cs, fldT]
    · simp [T_cs, fldT]
    · intro n hn
      rw [fl_BadName]
      refine ⟨hn, ?_, ?_⟩
      · revert n; decide
      · simp only [List.mem_cons, List.mem_nil_iff, or_false] at hn
        rcases hn with rfl
        all_goals exact ⟨_, rfl⟩
    · simp only [excD, fl_BadName]
      rfl
  · refine ⟨⟨2, "BadNumber", _, ["what", "number"], rfl, by decide, rfl, rfl, ⟨["what", "number"], ?_⟩, by decide, .inr ⟨_, _, ["what", "number"], rfl, ?_, ?_⟩, ?_⟩⟩
    · simp [T_cs, fldT]
    · simp [T_cs, fldT]
    · intro n hn
      rw [fl_BadNumber]
      refine ⟨hn, ?_, ?_⟩
      · revert n; decide
      · simp only [List.mem_cons, List.mem_nil_iff, or_false] at hn
        rcases hn with rfl | rfl
        all_goals exact ⟨_, rfl⟩
    · simp only [excD, fl_BadNumber]
      rfl
  · refine ⟨⟨3, "BadRow", _, ["what", "row"], rfl, by decide, rfl, rfl, ⟨["what", "row"], ?_⟩, by decide, .inr ⟨_, _, ["what", "row"], rfl, ?_, ?_⟩, ?_⟩⟩
    · simp [T_cs, fldT]
    · simp [T_cs, fldT]
    · intro n hn
      rw [fl_BadRow]
      refine ⟨hn, ?_, ?_⟩
      · revert n; decide
      · simp only [List.mem_cons, List.mem_nil_iff, or_false] at hn
        rcases hn with rfl | rfl
        all_goals exact ⟨_, rfl⟩
    · simp only [excD, fl_BadRow]
      rfl
  · refine ⟨⟨4, "NoName", _, ["name"], rfl, by decide, rfl, rfl, ⟨["name"], ?_⟩, by decide, .inr ⟨_, _, ["name"], rfl, ?_, ?_⟩, ?_⟩⟩
    · simp [T_cs, fldT]
    · simp [T_cs, fldT]
    · intro n hn
      rw [fl_NoName]
      refine ⟨hn, ?_, ?_⟩
      · revert n; decide
      · simp only [List.mem_cons, List.mem_nil_iff, or_false] at hn
        rcases hn with rfl
        all_goals exact ⟨_, rfl⟩
    · simp only [excD, fl_NoName]
      rfl
  · refine ⟨⟨5, "TakenName", _, ["name"], rfl, by decide, rfl, rfl, ⟨["name"], ?_⟩, by decide, .inr ⟨_, _, ["name"], rfl, ?_, ?_⟩, ?_⟩⟩
    · simp [T_cs, fldT]
    · simp [T_cs, fldT]
    · intro n hn
      rw [fl_TakenName]
      refine ⟨hn, ?_, ?_⟩
      · revert n; decide
      · simp only [List.mem_cons, List.mem_nil_iff, or_false] at hn
        rcases hn with rfl
        all_goals exact ⟨_, rfl⟩
    · simp only [excD, fl_TakenName]
      rfl
  · refine ⟨⟨6, "Unlike", _, ["what"], rfl, by decide, rfl, rfl, ⟨["what"], ?_⟩, by decide, .inr ⟨_, _, ["what"], rfl, ?_, ?_⟩, ?_⟩⟩
    · simp [T_cs, fldT]
    · simp [T_cs, fldT]
    · intro n hn
      rw [fl_Unlike]
      refine ⟨hn, ?_, ?_⟩
      · revert n; decide
      · simp only [List.mem_cons, List.mem_nil_iff, or_false] at hn
        rcases hn with rfl
        all_goals exact ⟨_, rfl⟩
    · simp only [excD, fl_Unlike]
      rfl
  · refine ⟨⟨7, "NotThere", _, ["what"], rfl, by decide, rfl, rfl, ⟨["what"], ?_⟩, by decide, .inr ⟨_, _, ["what"], rfl, ?_, ?_⟩, ?_⟩⟩
    · simp [T_cs, fldT]
    · simp [T_cs, fldT]
    · intro n hn
      rw [fl_NotThere]
      refine ⟨hn, ?_, ?_⟩
      · revert n; decide
      · simp only [List.mem_cons, List.mem_nil_iff, or_false] at hn
        rcases hn with rfl
        all_goals exact ⟨_, rfl⟩
    · simp only [excD, fl_NotThere]
      rfl
  · refine ⟨⟨8, "TooMany", _, ["what", "many", "limit"], rfl, by decide, rfl, rfl, ⟨["what", "many", "limit"], ?_⟩, by decide, .inr ⟨_, _, ["what", "many", "limit"], rfl, ?_, ?_⟩, ?_⟩⟩
    · simp [T_cs, fldT]
    · simp [T_cs, fldT]
    · intro n hn
      rw [fl_TooMany]
      refine ⟨hn, ?_, ?_⟩
      · revert n; decide
      · simp only [List.mem_cons, List.mem_nil_iff, or_false] at hn
        rcases hn with rfl | rfl | rfl
        all_goals exact ⟨_, rfl⟩
    · simp only [excD, fl_TooMany]
      rfl
  · refine ⟨⟨9, "Misread", _, ["line", "column"], rfl, by decide, rfl, rfl, ⟨["line", "column"], ?_⟩, by decide, .inr ⟨_, _, ["line", "column"], rfl, ?_, ?_⟩, ?_⟩⟩
    · simp [T_cs, fldT]
    · simp [T_cs, fldT]
    · intro n hn
      rw [fl_Misread]
      refine ⟨hn, ?_, ?_⟩
      · revert n; decide
      · simp only [List.mem_cons, List.mem_nil_iff, or_false] at hn
        rcases hn with rfl | rfl
        all_goals exact ⟨_, rfl⟩
    · simp only [excD, fl_Misread]
      rfl
  · refine ⟨⟨10, "Misplaced", _, ["line", "column", "why", "name"], rfl, by decide, rfl, rfl, ⟨["line", "column", "why", "name"], ?_⟩, by decide, .inr ⟨_, _, ["line", "column", "why", "name"], rfl, ?_, ?_⟩, ?_⟩⟩
    · simp [T_cs, fldT]
    · simp [T_cs, fldT]
    · intro n hn
      rw [fl_Misplaced]
      refine ⟨hn, ?_, ?_⟩
      · revert n; decide
      · simp only [List.mem_cons, List.mem_nil_iff, or_false] at hn
        rcases hn with rfl | rfl | rfl | rfl
        all_goals exact ⟨_, rfl⟩
    · simp only [excD, fl_Misplaced]
      rfl
  · refine ⟨⟨11, "NotKept", _, ["promise", "witness"], rfl, by decide, rfl, rfl, ⟨["promise", "witness"], ?_⟩, by decide, .inr ⟨_, _, ["promise", "witness"], rfl, ?_, ?_⟩, ?_⟩⟩
    · simp [T_cs, fldT]
    · simp [T_cs, fldT]
    · intro n hn
      rw [fl_NotKept]
      refine ⟨hn, ?_, ?_⟩
      · revert n; decide
      · simp only [List.mem_cons, List.mem_nil_iff, or_false] at hn
        rcases hn with rfl | rfl
        all_goals exact ⟨_, rfl⟩
    · simp only [excD, fl_NotKept]
      rfl
  · refine ⟨⟨12, "NothingToUndo", _, [], rfl, by decide, rfl, rfl, ⟨[], ?_⟩, by decide, .inl rfl, rfl⟩⟩
    simp [T_cs, fldT]
  · refine ⟨⟨13, "NothingToRedo", _, [], rfl, by decide, rfl, rfl, ⟨[], ?_⟩, by decide, .inl rfl, rfl⟩⟩
    simp [T_cs, fldT]
theorem kinds_at : ∀ i : Nat, i < 14 → ∀ x : Str, kindN[i]? = some x → (kindN.map fun y => D.bl (decide (y = x))) = (rangeD 0 14).map fun d => match d with
    | .int j => D.bl (decide (j = (i : Int)))
    | d => d := by
  intro i hi x hx
  have h : ∀ i : Fin 14, (kindN.map fun y => decide (y = kindN.getD i.1 "")) = (List.range 14).map fun (j : Nat) => decide ((j : Int) = (i.1 : Int)) := by decide +kernel
  have e : kindN.getD i "" = x := by rw [List.getD_eq_getElem?_getD, hx]; rfl
  have h2 := h ⟨i, hi⟩
  simp only [e] at h2
  have h3 := congrArg (List.map D.bl) h2
  rw [List.map_map, List.map_map] at h3
  rw [show (fun y => D.bl (decide (y = x))) = (D.bl ∘ fun y => decide (y = x)) from rfl, h3, rangeD, List.map_map]
  simp
theorem fields_ok {one : D} {fn : List Str} {k kx} (res : List D) (hl : fn.length ≤ 4) (hf : fn = [] ∨ ∃ C fs nms, one = .exc C fs ∧ (C, nms) ∈ T_cs ad ∧ ∀ n ∈ fn, n ∈ nms ∧ n ∈ fieldN ∧ ∃ z, fs.lookup n = some z) (hcut : (match (generalizing := false) one with
      | .exc _ fs => fn.map (lookF fs)
      | _ => []) = res) (h : k (.ow (.lst res)) none) : s_law_fields ad none [one, .lst (fn.map .str)] k kx := by
  refine ⟨one, fn, rfl, rfl, by omega, hf, ?_⟩
  cases one <;> (subst hcut; exact h)
theorem cut_take {xs : List D} {n : Nat} (h : n ≤ xs.length) : DL.cutD xs none (some (n : Int)) = xs.take n := by
  unfold DL.cutD
  rw [HT.sIx_none, HT.sIx_nat, Nat.min_eq_left h]
  simp
theorem bools_eq (bs : List Bool) : ∃ q, py (.lst (bs.map D.bl)) = some q ∧ SeqAt.shaped q = true ∧ PyData.eqv q q = true := by
  have h1 : pys (bs.map D.bl) = some (bs.map PyData.bool) := by
    induction bs with
    | nil => rfl
    | cons b r ih => simp [pys, py, ih]
  refine ⟨.list (bs.map PyData.bool), by simp [py, h1], ?_, ?_⟩
  · have h2 : PyData.canLayAll0 (bs.map PyData.bool) = true := by
      clear h1
      induction bs with
      | nil => rfl
      | cons b r ih => simpa [PyData.canLayAll0, PyData.canLay0] using ih
    have h3 : PyData.depthAll (bs.map PyData.bool) = 0 := by
      clear h1 h2
      induction bs with
      | nil => simp [PyData.depthAll]
      | cons b r ih => simpa [PyData.depthAll, PyData.depth] using ih
    simp [SeqAt.shaped, PyData.canLay0, PyData.depth, h2, h3]
  · show PyData.eqvAll _ _ = true
    clear h1
    induction bs with
    | nil => rfl
    | cons b r ih => simpa [PyData.eqvAll, PyData.eqv] using ih
theorem pure_law (T : Txt P w K mg base ad) (o ds k kx) (h : slaw o ds k kx) : bodyF Nlaw.length (dlaw K ad) o ds k kx := by
  obtain ⟨ns, rfl, rfl, hl, hk⟩ := h
  refine ⟨Nat.le_of_ble_eq_true rfl, fun q => ?_⟩
  unfold dlaw dlaw1 dlaw2
  simp only [q_startN, Nlaw, List.length_cons, List.length_nil, List.map_cons, List.map_nil, List.cons_append, List.nil_append, List.replicate_succ, List.replicate_zero, Nat.reduceAdd, Nat.reduceSub]
  (repeat (first | with_reducible refine Eq.mpr e_seq ?_ | with_reducible refine Eq.mpr e_ifb ?_ | with_reducible refine Eq.mpr e_ex ?_ | with_reducible refine Eq.mpr e_asg ?_ | with_reducible refine Eq.mpr e_c ?_ | with_reducible refine Eq.mpr e_var ?_ | ((with_reducible apply i_on); case h => ((try simp only [frzs, q_see_im, q_see_ow, e_seeal, q_frz_im, q_frz_ow, e_frzal, e_rd1, e_rd2, e_rd3, e_ow, e_se1, e_se2, e_fz1, e_fz2, e_dct, e_lstP, e_intP, e_int0, e_blP, e_excP, e_onO, e_putIm, e_putOw, looks, keyD, DL.pairD, py, pys, Option.map_some, q_seqL, q_seqR, q_seqT, q_walkL, q_walkR, q_walkT, q_walkS, q_lenL, q_lenT, q_itL, q_itT, tyD, clsD, List.getElem?_cons_zero, List.getElem?_cons_succ, List.set_cons_zero, List.set_cons_succ]); rfl)) | ((with_reducible apply i_onP); case h => ((try simp only [frzs, q_see_im, q_see_ow, e_seeal, q_frz_im, q_frz_ow, e_frzal, e_rd1, e_rd2, e_rd3, e_ow, e_se1, e_se2, e_fz1, e_fz2, e_dct, e_lstP, e_intP, e_int0, e_blP, e_excP, e_onO, e_putIm, e_putOw, looks, keyD, DL.pairD, py, pys, Option.map_some, q_seqL, q_seqR, q_seqT, q_walkL, q_walkR, q_walkT, q_walkS, q_lenL, q_lenT, q_itL, q_itT, tyD, clsD, List.getElem?_cons_zero, List.getElem?_cons_succ, List.set_cons_zero, List.set_cons_succ]); rfl)) | with_reducible refine Eq.mpr e_2 ?_ | with_reducible refine Eq.mpr e_cons ?_ | with_reducible refine Eq.mpr e_nil ?_ | with_reducible refine Eq.mpr f_tup ?_ | with_reducible refine Eq.mpr f_lst ?_ | with_reducible refine Eq.mpr f_mkX ?_ | with_reducible refine Eq.mpr e_cb ?_ | with_reducible refine Eq.mpr e_get ?_ | with_reducible refine Eq.mpr f_put ?_ | with_reducible refine Eq.mpr e_name ?_ | with_reducible refine Eq.mpr e_addL ?_ | with_reducible refine Eq.mpr e_addI ?_ | with_reducible refine Eq.mpr e_addT ?_ | with_reducible refine Eq.mpr e_addS ?_ | with_reducible refine Eq.mpr e_I0 ?_ | with_reducible refine Eq.mpr e_I ?_ | with_reducible refine Eq.mpr e_eqS ?_ | with_reducible refine Eq.mpr e_eqI ?_ | with_reducible refine Eq.mpr e_eqL ?_ | with_reducible refine Eq.mpr e_eq ?_ | with_reducible refine Eq.mpr e_ix ?_ | with_reducible refine Eq.mpr e_len ?_ | with_reducible refine Eq.mpr e_list ?_ | with_reducible refine Eq.mpr e_tuple ?_ | with_reducible refine Eq.mpr e_int1 ?_ | with_reducible refine Eq.mpr e_is ?_ | with_reducible refine Eq.mpr e_repr ?_ | with_reducible refine Eq.mpr e_un ?_ | with_reducible refine Eq.mpr e_neg ?_ | with_reducible refine Eq.mpr f_disp ?_ | with_reducible refine Eq.mpr e_pairs1 ?_ | with_reducible refine Eq.mpr e_pairs0 ?_ | with_reducible refine Eq.mpr e_part ?_ | with_reducible refine Eq.mpr e_nopart ?_ | with_reducible refine Eq.mpr e_sl ?_ | with_reducible refine Eq.mpr q_slL ?_ | with_reducible refine Eq.mpr q_slT ?_ | with_reducible refine Eq.mpr f_mut ?_ | with_reducible refine Eq.mpr e_append ?_ | with_reducible refine Eq.mpr f_call ?_ | with_reducible refine Eq.mpr f_callIo ?_ | with_reducible refine Eq.mpr e_mk0 ?_ | with_reducible refine Eq.mpr f_xf ?_ | with_reducible refine Eq.mpr e_test ?_ | with_reducible refine Eq.mpr e_and ?_ | with_reducible refine Eq.mpr e_or ?_ | with_reducible refine Eq.mpr e_not ?_ | with_reducible refine Eq.mpr e_if ?_ | with_reducible refine Eq.mpr e_andV ?_ | with_reducible refine Eq.mpr e_orV ?_ | with_reducible refine Eq.mpr e_notV ?_ | with_reducible refine Eq.mpr e_nameC ?_ | with_reducible refine Eq.mpr e_unp ?_ | with_reducible refine Eq.mpr e_gcons ?_ | with_reducible refine Eq.mpr e_gnil ?_ | with_reducible refine Eq.mpr e_iseq ?_ | with_reducible refine Eq.mpr e_irng1 ?_ | with_reducible refine Eq.mpr f_ienum ?_ | with_reducible refine Eq.mpr e_lc ?_ | with_reducible refine Eq.mpr e_yes ?_ | with_reducible refine Eq.mpr e_bt ?_ | with_reducible refine Eq.mpr e_bf ?_ | with_reducible refine Eq.mpr e_nt ?_ | with_reducible refine Eq.mpr e_nf ?_ | with_reducible refine Eq.mpr q_rvI ?_ | with_reducible refine Eq.mpr q_rvO ?_ | with_reducible refine Eq.mpr e_ret ?_ | with_reducible refine Eq.mpr e_drop ?_ | with_reducible refine Eq.mpr e_next ?_ | with_reducible refine Eq.mpr e_ifS ?_ | with_reducible refine Eq.mpr e_for ?_ | with_reducible refine Eq.mpr e_brk ?_ | with_reducible refine Eq.mpr e_cnt ?_ | ((with_reducible apply i_and); case l => first | rfl | (simp only [List.length_cons, List.length_nil, List.length_append, sizeLine_eq, Nat.reduceAdd]; done) | (simp only [List.length_cons, List.length_nil, List.length_append, sizeLine_eq, Nat.reduceAdd]; first | decide | omega)) | (with_reducible intro _)))
  refine ⟨ns, rfl, rfl, hl, fun p0 hp0 => ?_⟩
  (repeat (first | with_reducible refine Eq.mpr e_seq ?_ | with_reducible refine Eq.mpr e_ifb ?_ | with_reducible refine Eq.mpr e_ex ?_ | with_reducible refine Eq.mpr e_asg ?_ | with_reducible refine Eq.mpr e_c ?_ | with_reducible refine Eq.mpr e_var ?_ | ((with_reducible apply i_on); case h => ((try simp only [frzs, q_see_im, q_see_ow, e_seeal, q_frz_im, q_frz_ow, e_frzal, e_rd1, e_rd2, e_rd3, e_ow, e_se1, e_se2, e_fz1, e_fz2, e_dct, e_lstP, e_intP, e_int0, e_blP, e_excP, e_onO, e_putIm, e_putOw, looks, keyD, DL.pairD, py, pys, Option.map_some, q_seqL, q_seqR, q_seqT, q_walkL, q_walkR, q_walkT, q_walkS, q_lenL, q_lenT, q_itL, q_itT, tyD, clsD, List.getElem?_cons_zero, List.getElem?_cons_succ, List.set_cons_zero, List.set_cons_succ]); rfl)) | ((with_reducible apply i_onP); case h => ((try simp only [frzs, q_see_im, q_see_ow, e_seeal, q_frz_im, q_frz_ow, e_frzal, e_rd1, e_rd2, e_rd3, e_ow, e_se1, e_se2, e_fz1, e_fz2, e_dct, e_lstP, e_intP, e_int0, e_blP, e_excP, e_onO, e_putIm, e_putOw, looks, keyD, DL.pairD, py, pys, Option.map_some, q_seqL, q_seqR, q_seqT, q_walkL, q_walkR, q_walkT, q_walkS, q_lenL, q_lenT, q_itL, q_itT, tyD, clsD, List.getElem?_cons_zero, List.getElem?_cons_succ, List.set_cons_zero, List.set_cons_succ]); rfl)) | with_reducible refine Eq.mpr e_2 ?_ | with_reducible refine Eq.mpr e_cons ?_ | with_reducible refine Eq.mpr e_nil ?_ | with_reducible refine Eq.mpr f_tup ?_ | with_reducible refine Eq.mpr f_lst ?_ | with_reducible refine Eq.mpr f_mkX ?_ | with_reducible refine Eq.mpr e_cb ?_ | with_reducible refine Eq.mpr e_get ?_ | with_reducible refine Eq.mpr f_put ?_ | with_reducible refine Eq.mpr e_name ?_ | with_reducible refine Eq.mpr e_addL ?_ | with_reducible refine Eq.mpr e_addI ?_ | with_reducible refine Eq.mpr e_addT ?_ | with_reducible refine Eq.mpr e_addS ?_ | with_reducible refine Eq.mpr e_I0 ?_ | with_reducible refine Eq.mpr e_I ?_ | with_reducible refine Eq.mpr e_eqS ?_ | with_reducible refine Eq.mpr e_eqI ?_ | with_reducible refine Eq.mpr e_eqL ?_ | with_reducible refine Eq.mpr e_eq ?_ | with_reducible refine Eq.mpr e_ix ?_ | with_reducible refine Eq.mpr e_len ?_ | with_reducible refine Eq.mpr e_list ?_ | with_reducible refine Eq.mpr e_tuple ?_ | with_reducible refine Eq.mpr e_int1 ?_ | with_reducible refine Eq.mpr e_is ?_ | with_reducible refine Eq.mpr e_repr ?_ | with_reducible refine Eq.mpr e_un ?_ | with_reducible refine Eq.mpr e_neg ?_ | with_reducible refine Eq.mpr f_disp ?_ | with_reducible refine Eq.mpr e_pairs1 ?_ | with_reducible refine Eq.mpr e_pairs0 ?_ | with_reducible refine Eq.mpr e_part ?_ | with_reducible refine Eq.mpr e_nopart ?_ | with_reducible refine Eq.mpr e_sl ?_ | with_reducible refine Eq.mpr q_slL ?_ | with_reducible refine Eq.mpr q_slT ?_ | with_reducible refine Eq.mpr f_mut ?_ | with_reducible refine Eq.mpr e_append ?_ | with_reducible refine Eq.mpr f_call ?_ | with_reducible refine Eq.mpr f_callIo ?_ | with_reducible refine Eq.mpr e_mk0 ?_ | with_reducible refine Eq.mpr f_xf ?_ | with_reducible refine Eq.mpr e_test ?_ | with_reducible refine Eq.mpr e_and ?_ | with_reducible refine Eq.mpr e_or ?_ | with_reducible refine Eq.mpr e_not ?_ | with_reducible refine Eq.mpr e_if ?_ | with_reducible refine Eq.mpr e_andV ?_ | with_reducible refine Eq.mpr e_orV ?_ | with_reducible refine Eq.mpr e_notV ?_ | with_reducible refine Eq.mpr e_nameC ?_ | with_reducible refine Eq.mpr e_unp ?_ | with_reducible refine Eq.mpr e_gcons ?_ | with_reducible refine Eq.mpr e_gnil ?_ | with_reducible refine Eq.mpr e_iseq ?_ | with_reducible refine Eq.mpr e_irng1 ?_ | with_reducible refine Eq.mpr f_ienum ?_ | with_reducible refine Eq.mpr e_lc ?_ | with_reducible refine Eq.mpr e_yes ?_ | with_reducible refine Eq.mpr e_bt ?_ | with_reducible refine Eq.mpr e_bf ?_ | with_reducible refine Eq.mpr e_nt ?_ | with_reducible refine Eq.mpr e_nf ?_ | with_reducible refine Eq.mpr q_rvI ?_ | with_reducible refine Eq.mpr q_rvO ?_ | with_reducible refine Eq.mpr e_ret ?_ | with_reducible refine Eq.mpr e_drop ?_ | with_reducible refine Eq.mpr e_next ?_ | with_reducible refine Eq.mpr e_ifS ?_ | with_reducible refine Eq.mpr e_for ?_ | with_reducible refine Eq.mpr e_brk ?_ | with_reducible refine Eq.mpr e_cnt ?_ | ((with_reducible apply i_and); case l => first | rfl | (simp only [List.length_cons, List.length_nil, List.length_append, sizeLine_eq, Nat.reduceAdd]; done) | (simp only [List.length_cons, List.length_nil, List.length_append, sizeLine_eq, Nat.reduceAdd]; first | decide | omega)) | (with_reducible intro _)))
  refine ⟨0, p0, rfl, rfl, hp0, by decide, fun a p1 ha hp1 => ⟨p1, rfl, ?_⟩⟩
  (repeat (first | with_reducible refine Eq.mpr e_seq ?_ | with_reducible refine Eq.mpr e_ifb ?_ | with_reducible refine Eq.mpr e_ex ?_ | with_reducible refine Eq.mpr e_asg ?_ | with_reducible refine Eq.mpr e_c ?_ | with_reducible refine Eq.mpr e_var ?_ | ((with_reducible apply i_on); case h => ((try simp only [frzs, q_see_im, q_see_ow, e_seeal, q_frz_im, q_frz_ow, e_frzal, e_rd1, e_rd2, e_rd3, e_ow, e_se1, e_se2, e_fz1, e_fz2, e_dct, e_lstP, e_intP, e_int0, e_blP, e_excP, e_onO, e_putIm, e_putOw, looks, keyD, DL.pairD, py, pys, Option.map_some, q_seqL, q_seqR, q_seqT, q_walkL, q_walkR, q_walkT, q_walkS, q_lenL, q_lenT, q_itL, q_itT, tyD, clsD, List.getElem?_cons_zero, List.getElem?_cons_succ, List.set_cons_zero, List.set_cons_succ]); rfl)) | ((with_reducible apply i_onP); case h => ((try simp only [frzs, q_see_im, q_see_ow, e_seeal, q_frz_im, q_frz_ow, e_frzal, e_rd1, e_rd2, e_rd3, e_ow, e_se1, e_se2, e_fz1, e_fz2, e_dct, e_lstP, e_intP, e_int0, e_blP, e_excP, e_onO, e_putIm, e_putOw, looks, keyD, DL.pairD, py, pys, Option.map_some, q_seqL, q_seqR, q_seqT, q_walkL, q_walkR, q_walkT, q_walkS, q_lenL, q_lenT, q_itL, q_itT, tyD, clsD, List.getElem?_cons_zero, List.getElem?_cons_succ, List.set_cons_zero, List.set_cons_succ]); rfl)) | with_reducible refine Eq.mpr e_2 ?_ | with_reducible refine Eq.mpr e_cons ?_ | with_reducible refine Eq.mpr e_nil ?_ | with_reducible refine Eq.mpr f_tup ?_ | with_reducible refine Eq.mpr f_lst ?_ | with_reducible refine Eq.mpr f_mkX ?_ | with_reducible refine Eq.mpr e_cb ?_ | with_reducible refine Eq.mpr e_get ?_ | with_reducible refine Eq.mpr f_put ?_ | with_reducible refine Eq.mpr e_name ?_ | with_reducible refine Eq.mpr e_addL ?_ | with_reducible refine Eq.mpr e_addI ?_ | with_reducible refine Eq.mpr e_addT ?_ | with_reducible refine Eq.mpr e_addS ?_ | with_reducible refine Eq.mpr e_I0 ?_ | with_reducible refine Eq.mpr e_I ?_ | with_reducible refine Eq.mpr e_eqS ?_ | with_reducible refine Eq.mpr e_eqI ?_ | with_reducible refine Eq.mpr e_eqL ?_ | with_reducible refine Eq.mpr e_eq ?_ | with_reducible refine Eq.mpr e_ix ?_ | with_reducible refine Eq.mpr e_len ?_ | with_reducible refine Eq.mpr e_list ?_ | with_reducible refine Eq.mpr e_tuple ?_ | with_reducible refine Eq.mpr e_int1 ?_ | with_reducible refine Eq.mpr e_is ?_ | with_reducible refine Eq.mpr e_repr ?_ | with_reducible refine Eq.mpr e_un ?_ | with_reducible refine Eq.mpr e_neg ?_ | with_reducible refine Eq.mpr f_disp ?_ | with_reducible refine Eq.mpr e_pairs1 ?_ | with_reducible refine Eq.mpr e_pairs0 ?_ | with_reducible refine Eq.mpr e_part ?_ | with_reducible refine Eq.mpr e_nopart ?_ | with_reducible refine Eq.mpr e_sl ?_ | with_reducible refine Eq.mpr q_slL ?_ | with_reducible refine Eq.mpr q_slT ?_ | with_reducible refine Eq.mpr f_mut ?_ | with_reducible refine Eq.mpr e_append ?_ | with_reducible refine Eq.mpr f_call ?_ | with_reducible refine Eq.mpr f_callIo ?_ | with_reducible refine Eq.mpr e_mk0 ?_ | with_reducible refine Eq.mpr f_xf ?_ | with_reducible refine Eq.mpr e_test ?_ | with_reducible refine Eq.mpr e_and ?_ | with_reducible refine Eq.mpr e_or ?_ | with_reducible refine Eq.mpr e_not ?_ | with_reducible refine Eq.mpr e_if ?_ | with_reducible refine Eq.mpr e_andV ?_ | with_reducible refine Eq.mpr e_orV ?_ | with_reducible refine Eq.mpr e_notV ?_ | with_reducible refine Eq.mpr e_nameC ?_ | with_reducible refine Eq.mpr e_unp ?_ | with_reducible refine Eq.mpr e_gcons ?_ | with_reducible refine Eq.mpr e_gnil ?_ | with_reducible refine Eq.mpr e_iseq ?_ | with_reducible refine Eq.mpr e_irng1 ?_ | with_reducible refine Eq.mpr f_ienum ?_ | with_reducible refine Eq.mpr e_lc ?_ | with_reducible refine Eq.mpr e_yes ?_ | with_reducible refine Eq.mpr e_bt ?_ | with_reducible refine Eq.mpr e_bf ?_ | with_reducible refine Eq.mpr e_nt ?_ | with_reducible refine Eq.mpr e_nf ?_ | with_reducible refine Eq.mpr q_rvI ?_ | with_reducible refine Eq.mpr q_rvO ?_ | with_reducible refine Eq.mpr e_ret ?_ | with_reducible refine Eq.mpr e_drop ?_ | with_reducible refine Eq.mpr e_next ?_ | with_reducible refine Eq.mpr e_ifS ?_ | with_reducible refine Eq.mpr e_for ?_ | with_reducible refine Eq.mpr e_brk ?_ | with_reducible refine Eq.mpr e_cnt ?_ | ((with_reducible apply i_and); case l => first | rfl | (simp only [List.length_cons, List.length_nil, List.length_append, sizeLine_eq, Nat.reduceAdd]; done) | (simp only [List.length_cons, List.length_nil, List.length_append, sizeLine_eq, Nat.reduceAdd]; first | decide | omega)) | (with_reducible intro _)))
  refine ⟨_, p1, rfl, rfl, hp1, by decide, fun b p2 hb hp2 => ⟨p2, rfl, ?_⟩⟩
  (repeat (first | with_reducible refine Eq.mpr e_seq ?_ | with_reducible refine Eq.mpr e_ifb ?_ | with_reducible refine Eq.mpr e_ex ?_ | with_reducible refine Eq.mpr e_asg ?_ | with_reducible refine Eq.mpr e_c ?_ | with_reducible refine Eq.mpr e_var ?_ | ((with_reducible apply i_on); case h => ((try simp only [frzs, q_see_im, q_see_ow, e_seeal, q_frz_im, q_frz_ow, e_frzal, e_rd1, e_rd2, e_rd3, e_ow, e_se1, e_se2, e_fz1, e_fz2, e_dct, e_lstP, e_intP, e_int0, e_blP, e_excP, e_onO, e_putIm, e_putOw, looks, keyD, DL.pairD, py, pys, Option.map_some, q_seqL, q_seqR, q_seqT, q_walkL, q_walkR, q_walkT, q_walkS, q_lenL, q_lenT, q_itL, q_itT, tyD, clsD, List.getElem?_cons_zero, List.getElem?_cons_succ, List.set_cons_zero, List.set_cons_succ]); rfl)) | ((with_reducible apply i_onP); case h => ((try simp only [frzs, q_see_im, q_see_ow, e_seeal, q_frz_im, q_frz_ow, e_frzal, e_rd1, e_rd2, e_rd3, e_ow, e_se1, e_se2, e_fz1, e_fz2, e_dct, e_lstP, e_intP, e_int0, e_blP, e_excP, e_onO, e_putIm, e_putOw, looks, keyD, DL.pairD, py, pys, Option.map_some, q_seqL, q_seqR, q_seqT, q_walkL, q_walkR, q_walkT, q_walkS, q_lenL, q_lenT, q_itL, q_itT, tyD, clsD, List.getElem?_cons_zero, List.getElem?_cons_succ, List.set_cons_zero, List.set_cons_succ]); rfl)) | with_reducible refine Eq.mpr e_2 ?_ | with_reducible refine Eq.mpr e_cons ?_ | with_reducible refine Eq.mpr e_nil ?_ | with_reducible refine Eq.mpr f_tup ?_ | with_reducible refine Eq.mpr f_lst ?_ | with_reducible refine Eq.mpr f_mkX ?_ | with_reducible refine Eq.mpr e_cb ?_ | with_reducible refine Eq.mpr e_get ?_ | with_reducible refine Eq.mpr f_put ?_ | with_reducible refine Eq.mpr e_name ?_ | with_reducible refine Eq.mpr e_addL ?_ | with_reducible refine Eq.mpr e_addI ?_ | with_reducible refine Eq.mpr e_addT ?_ | with_reducible refine Eq.mpr e_addS ?_ | with_reducible refine Eq.mpr e_I0 ?_ | with_reducible refine Eq.mpr e_I ?_ | with_reducible refine Eq.mpr e_eqS ?_ | with_reducible refine Eq.mpr e_eqI ?_ | with_reducible refine Eq.mpr e_eqL ?_ | with_reducible refine Eq.mpr e_eq ?_ | with_reducible refine Eq.mpr e_ix ?_ | with_reducible refine Eq.mpr e_len ?_ | with_reducible refine Eq.mpr e_list ?_ | with_reducible refine Eq.mpr e_tuple ?_ | with_reducible refine Eq.mpr e_int1 ?_ | with_reducible refine Eq.mpr e_is ?_ | with_reducible refine Eq.mpr e_repr ?_ | with_reducible refine Eq.mpr e_un ?_ | with_reducible refine Eq.mpr e_neg ?_ | with_reducible refine Eq.mpr f_disp ?_ | with_reducible refine Eq.mpr e_pairs1 ?_ | with_reducible refine Eq.mpr e_pairs0 ?_ | with_reducible refine Eq.mpr e_part ?_ | with_reducible refine Eq.mpr e_nopart ?_ | with_reducible refine Eq.mpr e_sl ?_ | with_reducible refine Eq.mpr q_slL ?_ | with_reducible refine Eq.mpr q_slT ?_ | with_reducible refine Eq.mpr f_mut ?_ | with_reducible refine Eq.mpr e_append ?_ | with_reducible refine Eq.mpr f_call ?_ | with_reducible refine Eq.mpr f_callIo ?_ | with_reducible refine Eq.mpr e_mk0 ?_ | with_reducible refine Eq.mpr f_xf ?_ | with_reducible refine Eq.mpr e_test ?_ | with_reducible refine Eq.mpr e_and ?_ | with_reducible refine Eq.mpr e_or ?_ | with_reducible refine Eq.mpr e_not ?_ | with_reducible refine Eq.mpr e_if ?_ | with_reducible refine Eq.mpr e_andV ?_ | with_reducible refine Eq.mpr e_orV ?_ | with_reducible refine Eq.mpr e_notV ?_ | with_reducible refine Eq.mpr e_nameC ?_ | with_reducible refine Eq.mpr e_unp ?_ | with_reducible refine Eq.mpr e_gcons ?_ | with_reducible refine Eq.mpr e_gnil ?_ | with_reducible refine Eq.mpr e_iseq ?_ | with_reducible refine Eq.mpr e_irng1 ?_ | with_reducible refine Eq.mpr f_ienum ?_ | with_reducible refine Eq.mpr e_lc ?_ | with_reducible refine Eq.mpr e_yes ?_ | with_reducible refine Eq.mpr e_bt ?_ | with_reducible refine Eq.mpr e_bf ?_ | with_reducible refine Eq.mpr e_nt ?_ | with_reducible refine Eq.mpr e_nf ?_ | with_reducible refine Eq.mpr q_rvI ?_ | with_reducible refine Eq.mpr q_rvO ?_ | with_reducible refine Eq.mpr e_ret ?_ | with_reducible refine Eq.mpr e_drop ?_ | with_reducible refine Eq.mpr e_next ?_ | with_reducible refine Eq.mpr e_ifS ?_ | with_reducible refine Eq.mpr e_for ?_ | with_reducible refine Eq.mpr e_brk ?_ | with_reducible refine Eq.mpr e_cnt ?_ | ((with_reducible apply i_and); case l => first | rfl | (simp only [List.length_cons, List.length_nil, List.length_append, sizeLine_eq, Nat.reduceAdd]; done) | (simp only [List.length_cons, List.length_nil, List.length_append, sizeLine_eq, Nat.reduceAdd]; first | decide | omega)) | (with_reducible intro _)))
  refine ⟨_, p2, rfl, rfl, hp2, by decide, fun c p3 hc hp3 => ⟨p3, rfl, ?_⟩⟩
  (repeat (first | with_reducible refine Eq.mpr e_seq ?_ | with_reducible refine Eq.mpr e_ifb ?_ | with_reducible refine Eq.mpr e_ex ?_ | with_reducible refine Eq.mpr e_asg ?_ | with_reducible refine Eq.mpr e_c ?_ | with_reducible refine Eq.mpr e_var ?_ | ((with_reducible apply i_on); case h => ((try simp only [frzs, q_see_im, q_see_ow, e_seeal, q_frz_im, q_frz_ow, e_frzal, e_rd1, e_rd2, e_rd3, e_ow, e_se1, e_se2, e_fz1, e_fz2, e_dct, e_lstP, e_intP, e_int0, e_blP, e_excP, e_onO, e_putIm, e_putOw, looks, keyD, DL.pairD, py, pys, Option.map_some, q_seqL, q_seqR, q_seqT, q_walkL, q_walkR, q_walkT, q_walkS, q_lenL, q_lenT, q_itL, q_itT, tyD, clsD, List.getElem?_cons_zero, List.getElem?_cons_succ, List.set_cons_zero, List.set_cons_succ]); rfl)) | ((with_reducible apply i_onP); case h => ((try simp only [frzs, q_see_im, q_see_ow, e_seeal, q_frz_im, q_frz_ow, e_frzal, e_rd1, e_rd2, e_rd3, e_ow, e_se1, e_se2, e_fz1, e_fz2, e_dct, e_lstP, e_intP, e_int0, e_blP, e_excP, e_onO, e_putIm, e_putOw, looks, keyD, DL.pairD, py, pys, Option.map_some, q_seqL, q_seqR, q_seqT, q_walkL, q_walkR, q_walkT, q_walkS, q_lenL, q_lenT, q_itL, q_itT, tyD, clsD, List.getElem?_cons_zero, List.getElem?_cons_succ, List.set_cons_zero, List.set_cons_succ]); rfl)) | with_reducible refine Eq.mpr e_2 ?_ | with_reducible refine Eq.mpr e_cons ?_ | with_reducible refine Eq.mpr e_nil ?_ | with_reducible refine Eq.mpr f_tup ?_ | with_reducible refine Eq.mpr f_lst ?_ | with_reducible refine Eq.mpr f_mkX ?_ | with_reducible refine Eq.mpr e_cb ?_ | with_reducible refine Eq.mpr e_get ?_ | with_reducible refine Eq.mpr f_put ?_ | with_reducible refine Eq.mpr e_name ?_ | with_reducible refine Eq.mpr e_addL ?_ | with_reducible refine Eq.mpr e_addI ?_ | with_reducible refine Eq.mpr e_addT ?_ | with_reducible refine Eq.mpr e_addS ?_ | with_reducible refine Eq.mpr e_I0 ?_ | with_reducible refine Eq.mpr e_I ?_ | with_reducible refine Eq.mpr e_eqS ?_ | with_reducible refine Eq.mpr e_eqI ?_ | with_reducible refine Eq.mpr e_eqL ?_ | with_reducible refine Eq.mpr e_eq ?_ | with_reducible refine Eq.mpr e_ix ?_ | with_reducible refine Eq.mpr e_len ?_ | with_reducible refine Eq.mpr e_list ?_ | with_reducible refine Eq.mpr e_tuple ?_ | with_reducible refine Eq.mpr e_int1 ?_ | with_reducible refine Eq.mpr e_is ?_ | with_reducible refine Eq.mpr e_repr ?_ | with_reducible refine Eq.mpr e_un ?_ | with_reducible refine Eq.mpr e_neg ?_ | with_reducible refine Eq.mpr f_disp ?_ | with_reducible refine Eq.mpr e_pairs1 ?_ | with_reducible refine Eq.mpr e_pairs0 ?_ | with_reducible refine Eq.mpr e_part ?_ | with_reducible refine Eq.mpr e_nopart ?_ | with_reducible refine Eq.mpr e_sl ?_ | with_reducible refine Eq.mpr q_slL ?_ | with_reducible refine Eq.mpr q_slT ?_ | with_reducible refine Eq.mpr f_mut ?_ | with_reducible refine Eq.mpr e_append ?_ | with_reducible refine Eq.mpr f_call ?_ | with_reducible refine Eq.mpr f_callIo ?_ | with_reducible refine Eq.mpr e_mk0 ?_ | with_reducible refine Eq.mpr f_xf ?_ | with_reducible refine Eq.mpr e_test ?_ | with_reducible refine Eq.mpr e_and ?_ | with_reducible refine Eq.mpr e_or ?_ | with_reducible refine Eq.mpr e_not ?_ | with_reducible refine Eq.mpr e_if ?_ | with_reducible refine Eq.mpr e_andV ?_ | with_reducible refine Eq.mpr e_orV ?_ | with_reducible refine Eq.mpr e_notV ?_ | with_reducible refine Eq.mpr e_nameC ?_ | with_reducible refine Eq.mpr e_unp ?_ | with_reducible refine Eq.mpr e_gcons ?_ | with_reducible refine Eq.mpr e_gnil ?_ | with_reducible refine Eq.mpr e_iseq ?_ | with_reducible refine Eq.mpr e_irng1 ?_ | with_reducible refine Eq.mpr f_ienum ?_ | with_reducible refine Eq.mpr e_lc ?_ | with_reducible refine Eq.mpr e_yes ?_ | with_reducible refine Eq.mpr e_bt ?_ | with_reducible refine Eq.mpr e_bf ?_ | with_reducible refine Eq.mpr e_nt ?_ | with_reducible refine Eq.mpr e_nf ?_ | with_reducible refine Eq.mpr q_rvI ?_ | with_reducible refine Eq.mpr q_rvO ?_ | with_reducible refine Eq.mpr e_ret ?_ | with_reducible refine Eq.mpr e_drop ?_ | with_reducible refine Eq.mpr e_next ?_ | with_reducible refine Eq.mpr e_ifS ?_ | with_reducible refine Eq.mpr e_for ?_ | with_reducible refine Eq.mpr e_brk ?_ | with_reducible refine Eq.mpr e_cnt ?_ | ((with_reducible apply i_and); case l => first | rfl | (simp only [List.length_cons, List.length_nil, List.length_append, sizeLine_eq, Nat.reduceAdd]; done) | (simp only [List.length_cons, List.length_nil, List.length_append, sizeLine_eq, Nat.reduceAdd]; first | decide | omega)) | (with_reducible intro _)))
  unfold dlaw3
  (repeat (first | with_reducible refine Eq.mpr e_seq ?_ | with_reducible refine Eq.mpr e_ifb ?_ | with_reducible refine Eq.mpr e_ex ?_ | with_reducible refine Eq.mpr e_asg ?_ | with_reducible refine Eq.mpr e_c ?_ | with_reducible refine Eq.mpr e_var ?_ | ((with_reducible apply i_on); case h => ((try simp only [frzs, q_see_im, q_see_ow, e_seeal, q_frz_im, q_frz_ow, e_frzal, e_rd1, e_rd2, e_rd3, e_ow, e_se1, e_se2, e_fz1, e_fz2, e_dct, e_lstP, e_intP, e_int0, e_blP, e_excP, e_onO, e_putIm, e_putOw, looks, keyD, DL.pairD, py, pys, Option.map_some, q_seqL, q_seqR, q_seqT, q_walkL, q_walkR, q_walkT, q_walkS, q_lenL, q_lenT, q_itL, q_itT, tyD, clsD, List.getElem?_cons_zero, List.getElem?_cons_succ, List.set_cons_zero, List.set_cons_succ]); rfl)) | ((with_reducible apply i_onP); case h => ((try simp only [frzs, q_see_im, q_see_ow, e_seeal, q_frz_im, q_frz_ow, e_frzal, e_rd1, e_rd2, e_rd3, e_ow, e_se1, e_se2, e_fz1, e_fz2, e_dct, e_lstP, e_intP, e_int0, e_blP, e_excP, e_onO, e_putIm, e_putOw, looks, keyD, DL.pairD, py, pys, Option.map_some, q_seqL, q_seqR, q_seqT, q_walkL, q_walkR, q_walkT, q_walkS, q_lenL, q_lenT, q_itL, q_itT, tyD, clsD, List.getElem?_cons_zero, List.getElem?_cons_succ, List.set_cons_zero, List.set_cons_succ]); rfl)) | with_reducible refine Eq.mpr e_2 ?_ | with_reducible refine Eq.mpr e_cons ?_ | with_reducible refine Eq.mpr e_nil ?_ | with_reducible refine Eq.mpr f_tup ?_ | with_reducible refine Eq.mpr f_lst ?_ | with_reducible refine Eq.mpr f_mkX ?_ | with_reducible refine Eq.mpr e_cb ?_ | with_reducible refine Eq.mpr e_get ?_ | with_reducible refine Eq.mpr f_put ?_ | with_reducible refine Eq.mpr e_name ?_ | with_reducible refine Eq.mpr e_addL ?_ | with_reducible refine Eq.mpr e_addI ?_ | with_reducible refine Eq.mpr e_addT ?_ | with_reducible refine Eq.mpr e_addS ?_ | with_reducible refine Eq.mpr e_I0 ?_ | with_reducible refine Eq.mpr e_I ?_ | with_reducible refine Eq.mpr e_eqS ?_ | with_reducible refine Eq.mpr e_eqI ?_ | with_reducible refine Eq.mpr e_eqL ?_ | with_reducible refine Eq.mpr e_eq ?_ | with_reducible refine Eq.mpr e_ix ?_ | with_reducible refine Eq.mpr e_len ?_ | with_reducible refine Eq.mpr e_list ?_ | with_reducible refine Eq.mpr e_tuple ?_ | with_reducible refine Eq.mpr e_int1 ?_ | with_reducible refine Eq.mpr e_is ?_ | with_reducible refine Eq.mpr e_repr ?_ | with_reducible refine Eq.mpr e_un ?_ | with_reducible refine Eq.mpr e_neg ?_ | with_reducible refine Eq.mpr f_disp ?_ | with_reducible refine Eq.mpr e_pairs1 ?_ | with_reducible refine Eq.mpr e_pairs0 ?_ | with_reducible refine Eq.mpr e_part ?_ | with_reducible refine Eq.mpr e_nopart ?_ | with_reducible refine Eq.mpr e_sl ?_ | with_reducible refine Eq.mpr q_slL ?_ | with_reducible refine Eq.mpr q_slT ?_ | with_reducible refine Eq.mpr f_mut ?_ | with_reducible refine Eq.mpr e_append ?_ | with_reducible refine Eq.mpr f_call ?_ | with_reducible refine Eq.mpr f_callIo ?_ | with_reducible refine Eq.mpr e_mk0 ?_ | with_reducible refine Eq.mpr f_xf ?_ | with_reducible refine Eq.mpr e_test ?_ | with_reducible refine Eq.mpr e_and ?_ | with_reducible refine Eq.mpr e_or ?_ | with_reducible refine Eq.mpr e_not ?_ | with_reducible refine Eq.mpr e_if ?_ | with_reducible refine Eq.mpr e_andV ?_ | with_reducible refine Eq.mpr e_orV ?_ | with_reducible refine Eq.mpr e_notV ?_ | with_reducible refine Eq.mpr e_nameC ?_ | with_reducible refine Eq.mpr e_unp ?_ | with_reducible refine Eq.mpr e_gcons ?_ | with_reducible refine Eq.mpr e_gnil ?_ | with_reducible refine Eq.mpr e_iseq ?_ | with_reducible refine Eq.mpr e_irng1 ?_ | with_reducible refine Eq.mpr f_ienum ?_ | with_reducible refine Eq.mpr e_lc ?_ | with_reducible refine Eq.mpr e_yes ?_ | with_reducible refine Eq.mpr e_bt ?_ | with_reducible refine Eq.mpr e_bf ?_ | with_reducible refine Eq.mpr e_nt ?_ | with_reducible refine Eq.mpr e_nf ?_ | with_reducible refine Eq.mpr q_rvI ?_ | with_reducible refine Eq.mpr q_rvO ?_ | with_reducible refine Eq.mpr e_ret ?_ | with_reducible refine Eq.mpr e_drop ?_ | with_reducible refine Eq.mpr e_next ?_ | with_reducible refine Eq.mpr e_ifS ?_ | with_reducible refine Eq.mpr e_for ?_ | with_reducible refine Eq.mpr e_brk ?_ | with_reducible refine Eq.mpr e_cnt ?_ | ((with_reducible apply i_and); case l => first | rfl | (simp only [List.length_cons, List.length_nil, List.length_append, sizeLine_eq, Nat.reduceAdd]; done) | (simp only [List.length_cons, List.length_nil, List.length_append, sizeLine_eq, Nat.reduceAdd]; first | decide | omega)) | (with_reducible intro _)))
  refine ⟨a, b, c, rfl, rfl, ?_⟩
  (repeat (first | with_reducible refine Eq.mpr e_seq ?_ | with_reducible refine Eq.mpr e_ifb ?_ | with_reducible refine Eq.mpr e_ex ?_ | with_reducible refine Eq.mpr e_asg ?_ | with_reducible refine Eq.mpr e_c ?_ | with_reducible refine Eq.mpr e_var ?_ | ((with_reducible apply i_on); case h => ((try simp only [frzs, q_see_im, q_see_ow, e_seeal, q_frz_im, q_frz_ow, e_frzal, e_rd1, e_rd2, e_rd3, e_ow, e_se1, e_se2, e_fz1, e_fz2, e_dct, e_lstP, e_intP, e_int0, e_blP, e_excP, e_onO, e_putIm, e_putOw, looks, keyD, DL.pairD, py, pys, Option.map_some, q_seqL, q_seqR, q_seqT, q_walkL, q_walkR, q_walkT, q_walkS, q_lenL, q_lenT, q_itL, q_itT, tyD, clsD, List.getElem?_cons_zero, List.getElem?_cons_succ, List.set_cons_zero, List.set_cons_succ]); rfl)) | ((with_reducible apply i_onP); case h => ((try simp only [frzs, q_see_im, q_see_ow, e_seeal, q_frz_im, q_frz_ow, e_frzal, e_rd1, e_rd2, e_rd3, e_ow, e_se1, e_se2, e_fz1, e_fz2, e_dct, e_lstP, e_intP, e_int0, e_blP, e_excP, e_onO, e_putIm, e_putOw, looks, keyD, DL.pairD, py, pys, Option.map_some, q_seqL, q_seqR, q_seqT, q_walkL, q_walkR, q_walkT, q_walkS, q_lenL, q_lenT, q_itL, q_itT, tyD, clsD, List.getElem?_cons_zero, List.getElem?_cons_succ, List.set_cons_zero, List.set_cons_succ]); rfl)) | with_reducible refine Eq.mpr e_2 ?_ | with_reducible refine Eq.mpr e_cons ?_ | with_reducible refine Eq.mpr e_nil ?_ | with_reducible refine Eq.mpr f_tup ?_ | with_reducible refine Eq.mpr f_lst ?_ | with_reducible refine Eq.mpr f_mkX ?_ | with_reducible refine Eq.mpr e_cb ?_ | with_reducible refine Eq.mpr e_get ?_ | with_reducible refine Eq.mpr f_put ?_ | with_reducible refine Eq.mpr e_name ?_ | with_reducible refine Eq.mpr e_addL ?_ | with_reducible refine Eq.mpr e_addI ?_ | with_reducible refine Eq.mpr e_addT ?_ | with_reducible refine Eq.mpr e_addS ?_ | with_reducible refine Eq.mpr e_I0 ?_ | with_reducible refine Eq.mpr e_I ?_ | with_reducible refine Eq.mpr e_eqS ?_ | with_reducible refine Eq.mpr e_eqI ?_ | with_reducible refine Eq.mpr e_eqL ?_ | with_reducible refine Eq.mpr e_eq ?_ | with_reducible refine Eq.mpr e_ix ?_ | with_reducible refine Eq.mpr e_len ?_ | with_reducible refine Eq.mpr e_list ?_ | with_reducible refine Eq.mpr e_tuple ?_ | with_reducible refine Eq.mpr e_int1 ?_ | with_reducible refine Eq.mpr e_is ?_ | with_reducible refine Eq.mpr e_repr ?_ | with_reducible refine Eq.mpr e_un ?_ | with_reducible refine Eq.mpr e_neg ?_ | with_reducible refine Eq.mpr f_disp ?_ | with_reducible refine Eq.mpr e_pairs1 ?_ | with_reducible refine Eq.mpr e_pairs0 ?_ | with_reducible refine Eq.mpr e_part ?_ | with_reducible refine Eq.mpr e_nopart ?_ | with_reducible refine Eq.mpr e_sl ?_ | with_reducible refine Eq.mpr q_slL ?_ | with_reducible refine Eq.mpr q_slT ?_ | with_reducible refine Eq.mpr f_mut ?_ | with_reducible refine Eq.mpr e_append ?_ | with_reducible refine Eq.mpr f_call ?_ | with_reducible refine Eq.mpr f_callIo ?_ | with_reducible refine Eq.mpr e_mk0 ?_ | with_reducible refine Eq.mpr f_xf ?_ | with_reducible refine Eq.mpr e_test ?_ | with_reducible refine Eq.mpr e_and ?_ | with_reducible refine Eq.mpr e_or ?_ | with_reducible refine Eq.mpr e_not ?_ | with_reducible refine Eq.mpr e_if ?_ | with_reducible refine Eq.mpr e_andV ?_ | with_reducible refine Eq.mpr e_orV ?_ | with_reducible refine Eq.mpr e_notV ?_ | with_reducible refine Eq.mpr e_nameC ?_ | with_reducible refine Eq.mpr e_unp ?_ | with_reducible refine Eq.mpr e_gcons ?_ | with_reducible refine Eq.mpr e_gnil ?_ | with_reducible refine Eq.mpr e_iseq ?_ | with_reducible refine Eq.mpr e_irng1 ?_ | with_reducible refine Eq.mpr f_ienum ?_ | with_reducible refine Eq.mpr e_lc ?_ | with_reducible refine Eq.mpr e_yes ?_ | with_reducible refine Eq.mpr e_bt ?_ | with_reducible refine Eq.mpr e_bf ?_ | with_reducible refine Eq.mpr e_nt ?_ | with_reducible refine Eq.mpr e_nf ?_ | with_reducible refine Eq.mpr q_rvI ?_ | with_reducible refine Eq.mpr q_rvO ?_ | with_reducible refine Eq.mpr e_ret ?_ | with_reducible refine Eq.mpr e_drop ?_ | with_reducible refine Eq.mpr e_next ?_ | with_reducible refine Eq.mpr e_ifS ?_ | with_reducible refine Eq.mpr e_for ?_ | with_reducible refine Eq.mpr e_brk ?_ | with_reducible refine Eq.mpr e_cnt ?_ | ((with_reducible apply i_and); case l => first | rfl | (simp only [List.length_cons, List.length_nil, List.length_append, sizeLine_eq, Nat.reduceAdd]; done) | (simp only [List.length_cons, List.length_nil, List.length_append, sizeLine_eq, Nat.reduceAdd]; first | decide | omega)) | (with_reducible intro _)))
  refine ⟨by rw [show (madeD ad a b c).length = 12 from rfl, sizeLine_eq]; simp, ?_⟩
  (repeat (first | with_reducible refine Eq.mpr e_seq ?_ | with_reducible refine Eq.mpr e_ifb ?_ | with_reducible refine Eq.mpr e_ex ?_ | with_reducible refine Eq.mpr e_asg ?_ | with_reducible refine Eq.mpr e_c ?_ | with_reducible refine Eq.mpr e_var ?_ | ((with_reducible apply i_on); case h => ((try simp only [frzs, q_see_im, q_see_ow, e_seeal, q_frz_im, q_frz_ow, e_frzal, e_rd1, e_rd2, e_rd3, e_ow, e_se1, e_se2, e_fz1, e_fz2, e_dct, e_lstP, e_intP, e_int0, e_blP, e_excP, e_onO, e_putIm, e_putOw, looks, keyD, DL.pairD, py, pys, Option.map_some, q_seqL, q_seqR, q_seqT, q_walkL, q_walkR, q_walkT, q_walkS, q_lenL, q_lenT, q_itL, q_itT, tyD, clsD, List.getElem?_cons_zero, List.getElem?_cons_succ, List.set_cons_zero, List.set_cons_succ]); rfl)) | ((with_reducible apply i_onP); case h => ((try simp only [frzs, q_see_im, q_see_ow, e_seeal, q_frz_im, q_frz_ow, e_frzal, e_rd1, e_rd2, e_rd3, e_ow, e_se1, e_se2, e_fz1, e_fz2, e_dct, e_lstP, e_intP, e_int0, e_blP, e_excP, e_onO, e_putIm, e_putOw, looks, keyD, DL.pairD, py, pys, Option.map_some, q_seqL, q_seqR, q_seqT, q_walkL, q_walkR, q_walkT, q_walkS, q_lenL, q_lenT, q_itL, q_itT, tyD, clsD, List.getElem?_cons_zero, List.getElem?_cons_succ, List.set_cons_zero, List.set_cons_succ]); rfl)) | with_reducible refine Eq.mpr e_2 ?_ | with_reducible refine Eq.mpr e_cons ?_ | with_reducible refine Eq.mpr e_nil ?_ | with_reducible refine Eq.mpr f_tup ?_ | with_reducible refine Eq.mpr f_lst ?_ | with_reducible refine Eq.mpr f_mkX ?_ | with_reducible refine Eq.mpr e_cb ?_ | with_reducible refine Eq.mpr e_get ?_ | with_reducible refine Eq.mpr f_put ?_ | with_reducible refine Eq.mpr e_name ?_ | with_reducible refine Eq.mpr e_addL ?_ | with_reducible refine Eq.mpr e_addI ?_ | with_reducible refine Eq.mpr e_addT ?_ | with_reducible refine Eq.mpr e_addS ?_ | with_reducible refine Eq.mpr e_I0 ?_ | with_reducible refine Eq.mpr e_I ?_ | with_reducible refine Eq.mpr e_eqS ?_ | with_reducible refine Eq.mpr e_eqI ?_ | with_reducible refine Eq.mpr e_eqL ?_ | with_reducible refine Eq.mpr e_eq ?_ | with_reducible refine Eq.mpr e_ix ?_ | with_reducible refine Eq.mpr e_len ?_ | with_reducible refine Eq.mpr e_list ?_ | with_reducible refine Eq.mpr e_tuple ?_ | with_reducible refine Eq.mpr e_int1 ?_ | with_reducible refine Eq.mpr e_is ?_ | with_reducible refine Eq.mpr e_repr ?_ | with_reducible refine Eq.mpr e_un ?_ | with_reducible refine Eq.mpr e_neg ?_ | with_reducible refine Eq.mpr f_disp ?_ | with_reducible refine Eq.mpr e_pairs1 ?_ | with_reducible refine Eq.mpr e_pairs0 ?_ | with_reducible refine Eq.mpr e_part ?_ | with_reducible refine Eq.mpr e_nopart ?_ | with_reducible refine Eq.mpr e_sl ?_ | with_reducible refine Eq.mpr q_slL ?_ | with_reducible refine Eq.mpr q_slT ?_ | with_reducible refine Eq.mpr f_mut ?_ | with_reducible refine Eq.mpr e_append ?_ | with_reducible refine Eq.mpr f_call ?_ | with_reducible refine Eq.mpr f_callIo ?_ | with_reducible refine Eq.mpr e_mk0 ?_ | with_reducible refine Eq.mpr f_xf ?_ | with_reducible refine Eq.mpr e_test ?_ | with_reducible refine Eq.mpr e_and ?_ | with_reducible refine Eq.mpr e_or ?_ | with_reducible refine Eq.mpr e_not ?_ | with_reducible refine Eq.mpr e_if ?_ | with_reducible refine Eq.mpr e_andV ?_ | with_reducible refine Eq.mpr e_orV ?_ | with_reducible refine Eq.mpr e_notV ?_ | with_reducible refine Eq.mpr e_nameC ?_ | with_reducible refine Eq.mpr e_unp ?_ | with_reducible refine Eq.mpr e_gcons ?_ | with_reducible refine Eq.mpr e_gnil ?_ | with_reducible refine Eq.mpr e_iseq ?_ | with_reducible refine Eq.mpr e_irng1 ?_ | with_reducible refine Eq.mpr f_ienum ?_ | with_reducible refine Eq.mpr e_lc ?_ | with_reducible refine Eq.mpr e_yes ?_ | with_reducible refine Eq.mpr e_bt ?_ | with_reducible refine Eq.mpr e_bf ?_ | with_reducible refine Eq.mpr e_nt ?_ | with_reducible refine Eq.mpr e_nf ?_ | with_reducible refine Eq.mpr q_rvI ?_ | with_reducible refine Eq.mpr q_rvO ?_ | with_reducible refine Eq.mpr e_ret ?_ | with_reducible refine Eq.mpr e_drop ?_ | with_reducible refine Eq.mpr e_next ?_ | with_reducible refine Eq.mpr e_ifS ?_ | with_reducible refine Eq.mpr e_for ?_ | with_reducible refine Eq.mpr e_brk ?_ | with_reducible refine Eq.mpr e_cnt ?_ | ((with_reducible apply i_and); case l => first | rfl | (simp only [List.length_cons, List.length_nil, List.length_append, sizeLine_eq, Nat.reduceAdd]; done) | (simp only [List.length_cons, List.length_nil, List.length_append, sizeLine_eq, Nat.reduceAdd]; first | decide | omega)) | (with_reducible intro _)))
  refine loop_ind (fun ms ρ => (∀ m ∈ ms, One ad a b c m) ∧ ∃ (pp : Addr) (pq : Addr) (s3 s4 s5 s6 s7 : DL.S), ρ = [S.im (D.rol (List.map D.int ns)), S.ow pp p3, S.ow pq (D.lst [a, b, c]), s3, s4, s5, s6, s7, S.un, S.un, S.un, S.un, S.un]) ?_ ?_ _ _ ⟨all_one, _, _, _, _, _, _, _, rfl⟩
  · rintro ρ ⟨_, pp, pq, s3, s4, s5, s6, s7, rfl⟩
    refine ⟨trivial, ?_⟩
    refine ⟨Nat.le_of_ble_eq_true rfl, rfl, rfl, rfl, rfl, none, _, rfl, rfl, hk⟩
  · rintro m ms ρ L hL ⟨hm, pp, pq, s3, s4, s5, s6, s7, rfl⟩
    refine ⟨trivial, ?_⟩
    obtain ⟨i, x, one, fn, rfl, hi, hx, ht, ho, hn4, hf, hcut⟩ := (hm m List.mem_cons_self).ex
    have hL2 : ∀ (pp pq : Addr) (s3 s4 s5 s6 s7 : DL.S), L [S.im (D.rol (List.map D.int ns)), S.ow pp p3, S.ow pq (D.lst [a, b, c]), s3, s4, s5, s6, s7, S.un, S.un, S.un, S.un, S.un] := fun pp pq s3 s4 s5 s6 s7 => hL _ ⟨fun m hm2 => hm m (List.mem_cons_of_mem _ hm2), _, _, _, _, _, _, _, rfl⟩
    have hxk : x ∈ kindN := List.mem_of_getElem? hx
    (repeat (first | with_reducible refine Eq.mpr e_seq ?_ | with_reducible refine Eq.mpr e_ifb ?_ | with_reducible refine Eq.mpr e_ex ?_ | with_reducible refine Eq.mpr e_asg ?_ | with_reducible refine Eq.mpr e_c ?_ | with_reducible refine Eq.mpr e_var ?_ | ((with_reducible apply i_on); case h => ((try simp only [frzs, q_see_im, q_see_ow, e_seeal, q_frz_im, q_frz_ow, e_frzal, e_rd1, e_rd2, e_rd3, e_ow, e_se1, e_se2, e_fz1, e_fz2, e_dct, e_lstP, e_intP, e_int0, e_blP, e_excP, e_onO, e_putIm, e_putOw, looks, keyD, DL.pairD, py, pys, Option.map_some, q_seqL, q_seqR, q_seqT, q_walkL, q_walkR, q_walkT, q_walkS, q_lenL, q_lenT, q_itL, q_itT, tyD, clsD, List.getElem?_cons_zero, List.getElem?_cons_succ, List.set_cons_zero, List.set_cons_succ]); rfl)) | ((with_reducible apply i_onP); case h => ((try simp only [frzs, q_see_im, q_see_ow, e_seeal, q_frz_im, q_frz_ow, e_frzal, e_rd1, e_rd2, e_rd3, e_ow, e_se1, e_se2, e_fz1, e_fz2, e_dct, e_lstP, e_intP, e_int0, e_blP, e_excP, e_onO, e_putIm, e_putOw, looks, keyD, DL.pairD, py, pys, Option.map_some, q_seqL, q_seqR, q_seqT, q_walkL, q_walkR, q_walkT, q_walkS, q_lenL, q_lenT, q_itL, q_itT, tyD, clsD, List.getElem?_cons_zero, List.getElem?_cons_succ, List.set_cons_zero, List.set_cons_succ]); rfl)) | with_reducible refine Eq.mpr e_2 ?_ | with_reducible refine Eq.mpr e_cons ?_ | with_reducible refine Eq.mpr e_nil ?_ | with_reducible refine Eq.mpr f_tup ?_ | with_reducible refine Eq.mpr f_lst ?_ | with_reducible refine Eq.mpr f_mkX ?_ | with_reducible refine Eq.mpr e_cb ?_ | with_reducible refine Eq.mpr e_get ?_ | with_reducible refine Eq.mpr f_put ?_ | with_reducible refine Eq.mpr e_name ?_ | with_reducible refine Eq.mpr e_addL ?_ | with_reducible refine Eq.mpr e_addI ?_ | with_reducible refine Eq.mpr e_addT ?_ | with_reducible refine Eq.mpr e_addS ?_ | with_reducible refine Eq.mpr e_I0 ?_ | with_reducible refine Eq.mpr e_I ?_ | with_reducible refine Eq.mpr e_eqS ?_ | with_reducible refine Eq.mpr e_eqI ?_ | with_reducible refine Eq.mpr e_eqL ?_ | with_reducible refine Eq.mpr e_eq ?_ | with_reducible refine Eq.mpr e_ix ?_ | with_reducible refine Eq.mpr e_len ?_ | with_reducible refine Eq.mpr e_list ?_ | with_reducible refine Eq.mpr e_tuple ?_ | with_reducible refine Eq.mpr e_int1 ?_ | with_reducible refine Eq.mpr e_is ?_ | with_reducible refine Eq.mpr e_repr ?_ | with_reducible refine Eq.mpr e_un ?_ | with_reducible refine Eq.mpr e_neg ?_ | with_reducible refine Eq.mpr f_disp ?_ | with_reducible refine Eq.mpr e_pairs1 ?_ | with_reducible refine Eq.mpr e_pairs0 ?_ | with_reducible refine Eq.mpr e_part ?_ | with_reducible refine Eq.mpr e_nopart ?_ | with_reducible refine Eq.mpr e_sl ?_ | with_reducible refine Eq.mpr q_slL ?_ | with_reducible refine Eq.mpr q_slT ?_ | with_reducible refine Eq.mpr f_mut ?_ | with_reducible refine Eq.mpr e_append ?_ | with_reducible refine Eq.mpr f_call ?_ | with_reducible refine Eq.mpr f_callIo ?_ | with_reducible refine Eq.mpr e_mk0 ?_ | with_reducible refine Eq.mpr f_xf ?_ | with_reducible refine Eq.mpr e_test ?_ | with_reducible refine Eq.mpr e_and ?_ | with_reducible refine Eq.mpr e_or ?_ | with_reducible refine Eq.mpr e_not ?_ | with_reducible refine Eq.mpr e_if ?_ | with_reducible refine Eq.mpr e_andV ?_ | with_reducible refine Eq.mpr e_orV ?_ | with_reducible refine Eq.mpr e_notV ?_ | with_reducible refine Eq.mpr e_nameC ?_ | with_reducible refine Eq.mpr e_unp ?_ | with_reducible refine Eq.mpr e_gcons ?_ | with_reducible refine Eq.mpr e_gnil ?_ | with_reducible refine Eq.mpr e_iseq ?_ | with_reducible refine Eq.mpr e_irng1 ?_ | with_reducible refine Eq.mpr f_ienum ?_ | with_reducible refine Eq.mpr e_lc ?_ | with_reducible refine Eq.mpr e_yes ?_ | with_reducible refine Eq.mpr e_bt ?_ | with_reducible refine Eq.mpr e_bf ?_ | with_reducible refine Eq.mpr e_nt ?_ | with_reducible refine Eq.mpr e_nf ?_ | with_reducible refine Eq.mpr q_rvI ?_ | with_reducible refine Eq.mpr q_rvO ?_ | with_reducible refine Eq.mpr e_ret ?_ | with_reducible refine Eq.mpr e_drop ?_ | with_reducible refine Eq.mpr e_next ?_ | with_reducible refine Eq.mpr e_ifS ?_ | with_reducible refine Eq.mpr e_for ?_ | with_reducible refine Eq.mpr e_brk ?_ | with_reducible refine Eq.mpr e_cnt ?_ | ((with_reducible apply i_and); case l => first | rfl | (simp only [List.length_cons, List.length_nil, List.length_append, sizeLine_eq, Nat.reduceAdd]; done) | (simp only [List.length_cons, List.length_nil, List.length_append, sizeLine_eq, Nat.reduceAdd]; first | decide | omega)) | (with_reducible intro _)))
    refine i_on ht (i_on rfl ⟨ho, i_on (T.is2 x hxk) ?_⟩)
    (repeat (first | with_reducible refine Eq.mpr e_seq ?_ | with_reducible refine Eq.mpr e_ifb ?_ | with_reducible refine Eq.mpr e_ex ?_ | with_reducible refine Eq.mpr e_asg ?_ | with_reducible refine Eq.mpr e_c ?_ | with_reducible refine Eq.mpr e_var ?_ | ((with_reducible apply i_on); case h => ((try simp only [frzs, q_see_im, q_see_ow, e_seeal, q_frz_im, q_frz_ow, e_frzal, e_rd1, e_rd2, e_rd3, e_ow, e_se1, e_se2, e_fz1, e_fz2, e_dct, e_lstP, e_intP, e_int0, e_blP, e_excP, e_onO, e_putIm, e_putOw, looks, keyD, DL.pairD, py, pys, Option.map_some, q_seqL, q_seqR, q_seqT, q_walkL, q_walkR, q_walkT, q_walkS, q_lenL, q_lenT, q_itL, q_itT, tyD, clsD, List.getElem?_cons_zero, List.getElem?_cons_succ, List.set_cons_zero, List.set_cons_succ]); rfl)) | ((with_reducible apply i_onP); case h => ((try simp only [frzs, q_see_im, q_see_ow, e_seeal, q_frz_im, q_frz_ow, e_frzal, e_rd1, e_rd2, e_rd3, e_ow, e_se1, e_se2, e_fz1, e_fz2, e_dct, e_lstP, e_intP, e_int0, e_blP, e_excP, e_onO, e_putIm, e_putOw, looks, keyD, DL.pairD, py, pys, Option.map_some, q_seqL, q_seqR, q_seqT, q_walkL, q_walkR, q_walkT, q_walkS, q_lenL, q_lenT, q_itL, q_itT, tyD, clsD, List.getElem?_cons_zero, List.getElem?_cons_succ, List.set_cons_zero, List.set_cons_succ]); rfl)) | with_reducible refine Eq.mpr e_2 ?_ | with_reducible refine Eq.mpr e_cons ?_ | with_reducible refine Eq.mpr e_nil ?_ | with_reducible refine Eq.mpr f_tup ?_ | with_reducible refine Eq.mpr f_lst ?_ | with_reducible refine Eq.mpr f_mkX ?_ | with_reducible refine Eq.mpr e_cb ?_ | with_reducible refine Eq.mpr e_get ?_ | with_reducible refine Eq.mpr f_put ?_ | with_reducible refine Eq.mpr e_name ?_ | with_reducible refine Eq.mpr e_addL ?_ | with_reducible refine Eq.mpr e_addI ?_ | with_reducible refine Eq.mpr e_addT ?_ | with_reducible refine Eq.mpr e_addS ?_ | with_reducible refine Eq.mpr e_I0 ?_ | with_reducible refine Eq.mpr e_I ?_ | with_reducible refine Eq.mpr e_eqS ?_ | with_reducible refine Eq.mpr e_eqI ?_ | with_reducible refine Eq.mpr e_eqL ?_ | with_reducible refine Eq.mpr e_eq ?_ | with_reducible refine Eq.mpr e_ix ?_ | with_reducible refine Eq.mpr e_len ?_ | with_reducible refine Eq.mpr e_list ?_ | with_reducible refine Eq.mpr e_tuple ?_ | with_reducible refine Eq.mpr e_int1 ?_ | with_reducible refine Eq.mpr e_is ?_ | with_reducible refine Eq.mpr e_repr ?_ | with_reducible refine Eq.mpr e_un ?_ | with_reducible refine Eq.mpr e_neg ?_ | with_reducible refine Eq.mpr f_disp ?_ | with_reducible refine Eq.mpr e_pairs1 ?_ | with_reducible refine Eq.mpr e_pairs0 ?_ | with_reducible refine Eq.mpr e_part ?_ | with_reducible refine Eq.mpr e_nopart ?_ | with_reducible refine Eq.mpr e_sl ?_ | with_reducible refine Eq.mpr q_slL ?_ | with_reducible refine Eq.mpr q_slT ?_ | with_reducible refine Eq.mpr f_mut ?_ | with_reducible refine Eq.mpr e_append ?_ | with_reducible refine Eq.mpr f_call ?_ | with_reducible refine Eq.mpr f_callIo ?_ | with_reducible refine Eq.mpr e_mk0 ?_ | with_reducible refine Eq.mpr f_xf ?_ | with_reducible refine Eq.mpr e_test ?_ | with_reducible refine Eq.mpr e_and ?_ | with_reducible refine Eq.mpr e_or ?_ | with_reducible refine Eq.mpr e_not ?_ | with_reducible refine Eq.mpr e_if ?_ | with_reducible refine Eq.mpr e_andV ?_ | with_reducible refine Eq.mpr e_orV ?_ | with_reducible refine Eq.mpr e_notV ?_ | with_reducible refine Eq.mpr e_nameC ?_ | with_reducible refine Eq.mpr e_unp ?_ | with_reducible refine Eq.mpr e_gcons ?_ | with_reducible refine Eq.mpr e_gnil ?_ | with_reducible refine Eq.mpr e_iseq ?_ | with_reducible refine Eq.mpr e_irng1 ?_ | with_reducible refine Eq.mpr f_ienum ?_ | with_reducible refine Eq.mpr e_lc ?_ | with_reducible refine Eq.mpr e_yes ?_ | with_reducible refine Eq.mpr e_bt ?_ | with_reducible refine Eq.mpr e_bf ?_ | with_reducible refine Eq.mpr e_nt ?_ | with_reducible refine Eq.mpr e_nf ?_ | with_reducible refine Eq.mpr q_rvI ?_ | with_reducible refine Eq.mpr q_rvO ?_ | with_reducible refine Eq.mpr e_ret ?_ | with_reducible refine Eq.mpr e_drop ?_ | with_reducible refine Eq.mpr e_next ?_ | with_reducible refine Eq.mpr e_ifS ?_ | with_reducible refine Eq.mpr e_for ?_ | with_reducible refine Eq.mpr e_brk ?_ | with_reducible refine Eq.mpr e_cnt ?_ | ((with_reducible apply i_and); case l => first | rfl | (simp only [List.length_cons, List.length_nil, List.length_append, sizeLine_eq, Nat.reduceAdd]; done) | (simp only [List.length_cons, List.length_nil, List.length_append, sizeLine_eq, Nat.reduceAdd]; first | decide | omega)) | (with_reducible intro _)))
    refine i_on ht (i_on rfl ⟨ho, i_on (T.is3 x hxk) ?_⟩)
    (repeat (first | with_reducible refine Eq.mpr e_seq ?_ | with_reducible refine Eq.mpr e_ifb ?_ | with_reducible refine Eq.mpr e_ex ?_ | with_reducible refine Eq.mpr e_asg ?_ | with_reducible refine Eq.mpr e_c ?_ | with_reducible refine Eq.mpr e_var ?_ | ((with_reducible apply i_on); case h => ((try simp only [frzs, q_see_im, q_see_ow, e_seeal, q_frz_im, q_frz_ow, e_frzal, e_rd1, e_rd2, e_rd3, e_ow, e_se1, e_se2, e_fz1, e_fz2, e_dct, e_lstP, e_intP, e_int0, e_blP, e_excP, e_onO, e_putIm, e_putOw, looks, keyD, DL.pairD, py, pys, Option.map_some, q_seqL, q_seqR, q_seqT, q_walkL, q_walkR, q_walkT, q_walkS, q_lenL, q_lenT, q_itL, q_itT, tyD, clsD, List.getElem?_cons_zero, List.getElem?_cons_succ, List.set_cons_zero, List.set_cons_succ]); rfl)) | ((with_reducible apply i_onP); case h => ((try simp only [frzs, q_see_im, q_see_ow, e_seeal, q_frz_im, q_frz_ow, e_frzal, e_rd1, e_rd2, e_rd3, e_ow, e_se1, e_se2, e_fz1, e_fz2, e_dct, e_lstP, e_intP, e_int0, e_blP, e_excP, e_onO, e_putIm, e_putOw, looks, keyD, DL.pairD, py, pys, Option.map_some, q_seqL, q_seqR, q_seqT, q_walkL, q_walkR, q_walkT, q_walkS, q_lenL, q_lenT, q_itL, q_itT, tyD, clsD, List.getElem?_cons_zero, List.getElem?_cons_succ, List.set_cons_zero, List.set_cons_succ]); rfl)) | with_reducible refine Eq.mpr e_2 ?_ | with_reducible refine Eq.mpr e_cons ?_ | with_reducible refine Eq.mpr e_nil ?_ | with_reducible refine Eq.mpr f_tup ?_ | with_reducible refine Eq.mpr f_lst ?_ | with_reducible refine Eq.mpr f_mkX ?_ | with_reducible refine Eq.mpr e_cb ?_ | with_reducible refine Eq.mpr e_get ?_ | with_reducible refine Eq.mpr f_put ?_ | with_reducible refine Eq.mpr e_name ?_ | with_reducible refine Eq.mpr e_addL ?_ | with_reducible refine Eq.mpr e_addI ?_ | with_reducible refine Eq.mpr e_addT ?_ | with_reducible refine Eq.mpr e_addS ?_ | with_reducible refine Eq.mpr e_I0 ?_ | with_reducible refine Eq.mpr e_I ?_ | with_reducible refine Eq.mpr e_eqS ?_ | with_reducible refine Eq.mpr e_eqI ?_ | with_reducible refine Eq.mpr e_eqL ?_ | with_reducible refine Eq.mpr e_eq ?_ | with_reducible refine Eq.mpr e_ix ?_ | with_reducible refine Eq.mpr e_len ?_ | with_reducible refine Eq.mpr e_list ?_ | with_reducible refine Eq.mpr e_tuple ?_ | with_reducible refine Eq.mpr e_int1 ?_ | with_reducible refine Eq.mpr e_is ?_ | with_reducible refine Eq.mpr e_repr ?_ | with_reducible refine Eq.mpr e_un ?_ | with_reducible refine Eq.mpr e_neg ?_ | with_reducible refine Eq.mpr f_disp ?_ | with_reducible refine Eq.mpr e_pairs1 ?_ | with_reducible refine Eq.mpr e_pairs0 ?_ | with_reducible refine Eq.mpr e_part ?_ | with_reducible refine Eq.mpr e_nopart ?_ | with_reducible refine Eq.mpr e_sl ?_ | with_reducible refine Eq.mpr q_slL ?_ | with_reducible refine Eq.mpr q_slT ?_ | with_reducible refine Eq.mpr f_mut ?_ | with_reducible refine Eq.mpr e_append ?_ | with_reducible refine Eq.mpr f_call ?_ | with_reducible refine Eq.mpr f_callIo ?_ | with_reducible refine Eq.mpr e_mk0 ?_ | with_reducible refine Eq.mpr f_xf ?_ | with_reducible refine Eq.mpr e_test ?_ | with_reducible refine Eq.mpr e_and ?_ | with_reducible refine Eq.mpr e_or ?_ | with_reducible refine Eq.mpr e_not ?_ | with_reducible refine Eq.mpr e_if ?_ | with_reducible refine Eq.mpr e_andV ?_ | with_reducible refine Eq.mpr e_orV ?_ | with_reducible refine Eq.mpr e_notV ?_ | with_reducible refine Eq.mpr e_nameC ?_ | with_reducible refine Eq.mpr e_unp ?_ | with_reducible refine Eq.mpr e_gcons ?_ | with_reducible refine Eq.mpr e_gnil ?_ | with_reducible refine Eq.mpr e_iseq ?_ | with_reducible refine Eq.mpr e_irng1 ?_ | with_reducible refine Eq.mpr f_ienum ?_ | with_reducible refine Eq.mpr e_lc ?_ | with_reducible refine Eq.mpr e_yes ?_ | with_reducible refine Eq.mpr e_bt ?_ | with_reducible refine Eq.mpr e_bf ?_ | with_reducible refine Eq.mpr e_nt ?_ | with_reducible refine Eq.mpr e_nf ?_ | with_reducible refine Eq.mpr q_rvI ?_ | with_reducible refine Eq.mpr q_rvO ?_ | with_reducible refine Eq.mpr e_ret ?_ | with_reducible refine Eq.mpr e_drop ?_ | with_reducible refine Eq.mpr e_next ?_ | with_reducible refine Eq.mpr e_ifS ?_ | with_reducible refine Eq.mpr e_for ?_ | with_reducible refine Eq.mpr e_brk ?_ | with_reducible refine Eq.mpr e_cnt ?_ | ((with_reducible apply i_and); case l => first | rfl | (simp only [List.length_cons, List.length_nil, List.length_append, sizeLine_eq, Nat.reduceAdd]; done) | (simp only [List.length_cons, List.length_nil, List.length_append, sizeLine_eq, Nat.reduceAdd]; first | decide | omega)) | (with_reducible intro _)))
    refine fields_ok _ hn4 hf hcut ?_
    rw [cut_take (by simp; omega), List.length_map]
    obtain ⟨qq, y1, y2, y3, y4, y5⟩ := repr_of (n := 100) (ds := List.take fn.length [a, b, c, a, b, c]) (fun d hd => sh_vals d (by
      have := List.mem_of_mem_take hd
      simp only [List.mem_cons, List.mem_nil_iff, or_false] at this
      rcases this with rfl | rfl | rfl | rfl | rfl | rfl <;> assumption)) (by rw [List.length_take]; simp; omega)
    (repeat (first | with_reducible refine Eq.mpr e_seq ?_ | with_reducible refine Eq.mpr e_ifb ?_ | with_reducible refine Eq.mpr e_ex ?_ | with_reducible refine Eq.mpr e_asg ?_ | with_reducible refine Eq.mpr e_c ?_ | with_reducible refine Eq.mpr e_var ?_ | ((with_reducible apply i_on); case h => ((try simp only [frzs, q_see_im, q_see_ow, e_seeal, q_frz_im, q_frz_ow, e_frzal, e_rd1, e_rd2, e_rd3, e_ow, e_se1, e_se2, e_fz1, e_fz2, e_dct, e_lstP, e_intP, e_int0, e_blP, e_excP, e_onO, e_putIm, e_putOw, looks, keyD, DL.pairD, py, pys, Option.map_some, q_seqL, q_seqR, q_seqT, q_walkL, q_walkR, q_walkT, q_walkS, q_lenL, q_lenT, q_itL, q_itT, tyD, clsD, List.getElem?_cons_zero, List.getElem?_cons_succ, List.set_cons_zero, List.set_cons_succ]); rfl)) | ((with_reducible apply i_onP); case h => ((try simp only [frzs, q_see_im, q_see_ow, e_seeal, q_frz_im, q_frz_ow, e_frzal, e_rd1, e_rd2, e_rd3, e_ow, e_se1, e_se2, e_fz1, e_fz2, e_dct, e_lstP, e_intP, e_int0, e_blP, e_excP, e_onO, e_putIm, e_putOw, looks, keyD, DL.pairD, py, pys, Option.map_some, q_seqL, q_seqR, q_seqT, q_walkL, q_walkR, q_walkT, q_walkS, q_lenL, q_lenT, q_itL, q_itT, tyD, clsD, List.getElem?_cons_zero, List.getElem?_cons_succ, List.set_cons_zero, List.set_cons_succ]); rfl)) | with_reducible refine Eq.mpr e_2 ?_ | with_reducible refine Eq.mpr e_cons ?_ | with_reducible refine Eq.mpr e_nil ?_ | with_reducible refine Eq.mpr f_tup ?_ | with_reducible refine Eq.mpr f_lst ?_ | with_reducible refine Eq.mpr f_mkX ?_ | with_reducible refine Eq.mpr e_cb ?_ | with_reducible refine Eq.mpr e_get ?_ | with_reducible refine Eq.mpr f_put ?_ | with_reducible refine Eq.mpr e_name ?_ | with_reducible refine Eq.mpr e_addL ?_ | with_reducible refine Eq.mpr e_addI ?_ | with_reducible refine Eq.mpr e_addT ?_ | with_reducible refine Eq.mpr e_addS ?_ | with_reducible refine Eq.mpr e_I0 ?_ | with_reducible refine Eq.mpr e_I ?_ | with_reducible refine Eq.mpr e_eqS ?_ | with_reducible refine Eq.mpr e_eqI ?_ | with_reducible refine Eq.mpr e_eqL ?_ | with_reducible refine Eq.mpr e_eq ?_ | with_reducible refine Eq.mpr e_ix ?_ | with_reducible refine Eq.mpr e_len ?_ | with_reducible refine Eq.mpr e_list ?_ | with_reducible refine Eq.mpr e_tuple ?_ | with_reducible refine Eq.mpr e_int1 ?_ | with_reducible refine Eq.mpr e_is ?_ | with_reducible refine Eq.mpr e_repr ?_ | with_reducible refine Eq.mpr e_un ?_ | with_reducible refine Eq.mpr e_neg ?_ | with_reducible refine Eq.mpr f_disp ?_ | with_reducible refine Eq.mpr e_pairs1 ?_ | with_reducible refine Eq.mpr e_pairs0 ?_ | with_reducible refine Eq.mpr e_part ?_ | with_reducible refine Eq.mpr e_nopart ?_ | with_reducible refine Eq.mpr e_sl ?_ | with_reducible refine Eq.mpr q_slL ?_ | with_reducible refine Eq.mpr q_slT ?_ | with_reducible refine Eq.mpr f_mut ?_ | with_reducible refine Eq.mpr e_append ?_ | with_reducible refine Eq.mpr f_call ?_ | with_reducible refine Eq.mpr f_callIo ?_ | with_reducible refine Eq.mpr e_mk0 ?_ | with_reducible refine Eq.mpr f_xf ?_ | with_reducible refine Eq.mpr e_test ?_ | with_reducible refine Eq.mpr e_and ?_ | with_reducible refine Eq.mpr e_or ?_ | with_reducible refine Eq.mpr e_not ?_ | with_reducible refine Eq.mpr e_if ?_ | with_reducible refine Eq.mpr e_andV ?_ | with_reducible refine Eq.mpr e_orV ?_ | with_reducible refine Eq.mpr e_notV ?_ | with_reducible refine Eq.mpr e_nameC ?_ | with_reducible refine Eq.mpr e_unp ?_ | with_reducible refine Eq.mpr e_gcons ?_ | with_reducible refine Eq.mpr e_gnil ?_ | with_reducible refine Eq.mpr e_iseq ?_ | with_reducible refine Eq.mpr e_irng1 ?_ | with_reducible refine Eq.mpr f_ienum ?_ | with_reducible refine Eq.mpr e_lc ?_ | with_reducible refine Eq.mpr e_yes ?_ | with_reducible refine Eq.mpr e_bt ?_ | with_reducible refine Eq.mpr e_bf ?_ | with_reducible refine Eq.mpr e_nt ?_ | with_reducible refine Eq.mpr e_nf ?_ | with_reducible refine Eq.mpr q_rvI ?_ | with_reducible refine Eq.mpr q_rvO ?_ | with_reducible refine Eq.mpr e_ret ?_ | with_reducible refine Eq.mpr e_drop ?_ | with_reducible refine Eq.mpr e_next ?_ | with_reducible refine Eq.mpr e_ifS ?_ | with_reducible refine Eq.mpr e_for ?_ | with_reducible refine Eq.mpr e_brk ?_ | with_reducible refine Eq.mpr e_cnt ?_ | ((with_reducible apply i_and); case l => first | rfl | (simp only [List.length_cons, List.length_nil, List.length_append, sizeLine_eq, Nat.reduceAdd]; done) | (simp only [List.length_cons, List.length_nil, List.length_append, sizeLine_eq, Nat.reduceAdd]; first | decide | omega)) | (with_reducible intro _)))
    refine ⟨by simp [seqD], i_on y1 ⟨y2, y3, y4, y5, ?_⟩⟩
    (repeat (first | with_reducible refine Eq.mpr e_seq ?_ | with_reducible refine Eq.mpr e_ifb ?_ | with_reducible refine Eq.mpr e_ex ?_ | with_reducible refine Eq.mpr e_asg ?_ | with_reducible refine Eq.mpr e_c ?_ | with_reducible refine Eq.mpr e_var ?_ | ((with_reducible apply i_on); case h => ((try simp only [frzs, q_see_im, q_see_ow, e_seeal, q_frz_im, q_frz_ow, e_frzal, e_rd1, e_rd2, e_rd3, e_ow, e_se1, e_se2, e_fz1, e_fz2, e_dct, e_lstP, e_intP, e_int0, e_blP, e_excP, e_onO, e_putIm, e_putOw, looks, keyD, DL.pairD, py, pys, Option.map_some, q_seqL, q_seqR, q_seqT, q_walkL, q_walkR, q_walkT, q_walkS, q_lenL, q_lenT, q_itL, q_itT, tyD, clsD, List.getElem?_cons_zero, List.getElem?_cons_succ, List.set_cons_zero, List.set_cons_succ]); rfl)) | ((with_reducible apply i_onP); case h => ((try simp only [frzs, q_see_im, q_see_ow, e_seeal, q_frz_im, q_frz_ow, e_frzal, e_rd1, e_rd2, e_rd3, e_ow, e_se1, e_se2, e_fz1, e_fz2, e_dct, e_lstP, e_intP, e_int0, e_blP, e_excP, e_onO, e_putIm, e_putOw, looks, keyD, DL.pairD, py, pys, Option.map_some, q_seqL, q_seqR, q_seqT, q_walkL, q_walkR, q_walkT, q_walkS, q_lenL, q_lenT, q_itL, q_itT, tyD, clsD, List.getElem?_cons_zero, List.getElem?_cons_succ, List.set_cons_zero, List.set_cons_succ]); rfl)) | with_reducible refine Eq.mpr e_2 ?_ | with_reducible refine Eq.mpr e_cons ?_ | with_reducible refine Eq.mpr e_nil ?_ | with_reducible refine Eq.mpr f_tup ?_ | with_reducible refine Eq.mpr f_lst ?_ | with_reducible refine Eq.mpr f_mkX ?_ | with_reducible refine Eq.mpr e_cb ?_ | with_reducible refine Eq.mpr e_get ?_ | with_reducible refine Eq.mpr f_put ?_ | with_reducible refine Eq.mpr e_name ?_ | with_reducible refine Eq.mpr e_addL ?_ | with_reducible refine Eq.mpr e_addI ?_ | with_reducible refine Eq.mpr e_addT ?_ | with_reducible refine Eq.mpr e_addS ?_ | with_reducible refine Eq.mpr e_I0 ?_ | with_reducible refine Eq.mpr e_I ?_ | with_reducible refine Eq.mpr e_eqS ?_ | with_reducible refine Eq.mpr e_eqI ?_ | with_reducible refine Eq.mpr e_eqL ?_ | with_reducible refine Eq.mpr e_eq ?_ | with_reducible refine Eq.mpr e_ix ?_ | with_reducible refine Eq.mpr e_len ?_ | with_reducible refine Eq.mpr e_list ?_ | with_reducible refine Eq.mpr e_tuple ?_ | with_reducible refine Eq.mpr e_int1 ?_ | with_reducible refine Eq.mpr e_is ?_ | with_reducible refine Eq.mpr e_repr ?_ | with_reducible refine Eq.mpr e_un ?_ | with_reducible refine Eq.mpr e_neg ?_ | with_reducible refine Eq.mpr f_disp ?_ | with_reducible refine Eq.mpr e_pairs1 ?_ | with_reducible refine Eq.mpr e_pairs0 ?_ | with_reducible refine Eq.mpr e_part ?_ | with_reducible refine Eq.mpr e_nopart ?_ | with_reducible refine Eq.mpr e_sl ?_ | with_reducible refine Eq.mpr q_slL ?_ | with_reducible refine Eq.mpr q_slT ?_ | with_reducible refine Eq.mpr f_mut ?_ | with_reducible refine Eq.mpr e_append ?_ | with_reducible refine Eq.mpr f_call ?_ | with_reducible refine Eq.mpr f_callIo ?_ | with_reducible refine Eq.mpr e_mk0 ?_ | with_reducible refine Eq.mpr f_xf ?_ | with_reducible refine Eq.mpr e_test ?_ | with_reducible refine Eq.mpr e_and ?_ | with_reducible refine Eq.mpr e_or ?_ | with_reducible refine Eq.mpr e_not ?_ | with_reducible refine Eq.mpr e_if ?_ | with_reducible refine Eq.mpr e_andV ?_ | with_reducible refine Eq.mpr e_orV ?_ | with_reducible refine Eq.mpr e_notV ?_ | with_reducible refine Eq.mpr e_nameC ?_ | with_reducible refine Eq.mpr e_unp ?_ | with_reducible refine Eq.mpr e_gcons ?_ | with_reducible refine Eq.mpr e_gnil ?_ | with_reducible refine Eq.mpr e_iseq ?_ | with_reducible refine Eq.mpr e_irng1 ?_ | with_reducible refine Eq.mpr f_ienum ?_ | with_reducible refine Eq.mpr e_lc ?_ | with_reducible refine Eq.mpr e_yes ?_ | with_reducible refine Eq.mpr e_bt ?_ | with_reducible refine Eq.mpr e_bf ?_ | with_reducible refine Eq.mpr e_nt ?_ | with_reducible refine Eq.mpr e_nf ?_ | with_reducible refine Eq.mpr q_rvI ?_ | with_reducible refine Eq.mpr q_rvO ?_ | with_reducible refine Eq.mpr e_ret ?_ | with_reducible refine Eq.mpr e_drop ?_ | with_reducible refine Eq.mpr e_next ?_ | with_reducible refine Eq.mpr e_ifS ?_ | with_reducible refine Eq.mpr e_for ?_ | with_reducible refine Eq.mpr e_brk ?_ | with_reducible refine Eq.mpr e_cnt ?_ | ((with_reducible apply i_and); case l => first | rfl | (simp only [List.length_cons, List.length_nil, List.length_append, sizeLine_eq, Nat.reduceAdd]; done) | (simp only [List.length_cons, List.length_nil, List.length_append, sizeLine_eq, Nat.reduceAdd]; first | decide | omega)) | (with_reducible intro _)))
    refine ⟨by simp [seqD], i_on (show py (D.lst (List.take fn.length ([a, b, c] ++ [a, b, c]))) = some qq from y1) ⟨y2, y3, y4, y5, ?_⟩⟩
    (repeat (first | with_reducible refine Eq.mpr e_seq ?_ | with_reducible refine Eq.mpr e_ifb ?_ | with_reducible refine Eq.mpr e_ex ?_ | with_reducible refine Eq.mpr e_asg ?_ | with_reducible refine Eq.mpr e_c ?_ | with_reducible refine Eq.mpr e_var ?_ | ((with_reducible apply i_on); case h => ((try simp only [frzs, q_see_im, q_see_ow, e_seeal, q_frz_im, q_frz_ow, e_frzal, e_rd1, e_rd2, e_rd3, e_ow, e_se1, e_se2, e_fz1, e_fz2, e_dct, e_lstP, e_intP, e_int0, e_blP, e_excP, e_onO, e_putIm, e_putOw, looks, keyD, DL.pairD, py, pys, Option.map_some, q_seqL, q_seqR, q_seqT, q_walkL, q_walkR, q_walkT, q_walkS, q_lenL, q_lenT, q_itL, q_itT, tyD, clsD, List.getElem?_cons_zero, List.getElem?_cons_succ, List.set_cons_zero, List.set_cons_succ]); rfl)) | ((with_reducible apply i_onP); case h => ((try simp only [frzs, q_see_im, q_see_ow, e_seeal, q_frz_im, q_frz_ow, e_frzal, e_rd1, e_rd2, e_rd3, e_ow, e_se1, e_se2, e_fz1, e_fz2, e_dct, e_lstP, e_intP, e_int0, e_blP, e_excP, e_onO, e_putIm, e_putOw, looks, keyD, DL.pairD, py, pys, Option.map_some, q_seqL, q_seqR, q_seqT, q_walkL, q_walkR, q_walkT, q_walkS, q_lenL, q_lenT, q_itL, q_itT, tyD, clsD, List.getElem?_cons_zero, List.getElem?_cons_succ, List.set_cons_zero, List.set_cons_succ]); rfl)) | with_reducible refine Eq.mpr e_2 ?_ | with_reducible refine Eq.mpr e_cons ?_ | with_reducible refine Eq.mpr e_nil ?_ | with_reducible refine Eq.mpr f_tup ?_ | with_reducible refine Eq.mpr f_lst ?_ | with_reducible refine Eq.mpr f_mkX ?_ | with_reducible refine Eq.mpr e_cb ?_ | with_reducible refine Eq.mpr e_get ?_ | with_reducible refine Eq.mpr f_put ?_ | with_reducible refine Eq.mpr e_name ?_ | with_reducible refine Eq.mpr e_addL ?_ | with_reducible refine Eq.mpr e_addI ?_ | with_reducible refine Eq.mpr e_addT ?_ | with_reducible refine Eq.mpr e_addS ?_ | with_reducible refine Eq.mpr e_I0 ?_ | with_reducible refine Eq.mpr e_I ?_ | with_reducible refine Eq.mpr e_eqS ?_ | with_reducible refine Eq.mpr e_eqI ?_ | with_reducible refine Eq.mpr e_eqL ?_ | with_reducible refine Eq.mpr e_eq ?_ | with_reducible refine Eq.mpr e_ix ?_ | with_reducible refine Eq.mpr e_len ?_ | with_reducible refine Eq.mpr e_list ?_ | with_reducible refine Eq.mpr e_tuple ?_ | with_reducible refine Eq.mpr e_int1 ?_ | with_reducible refine Eq.mpr e_is ?_ | with_reducible refine Eq.mpr e_repr ?_ | with_reducible refine Eq.mpr e_un ?_ | with_reducible refine Eq.mpr e_neg ?_ | with_reducible refine Eq.mpr f_disp ?_ | with_reducible refine Eq.mpr e_pairs1 ?_ | with_reducible refine Eq.mpr e_pairs0 ?_ | with_reducible refine Eq.mpr e_part ?_ | with_reducible refine Eq.mpr e_nopart ?_ | with_reducible refine Eq.mpr e_sl ?_ | with_reducible refine Eq.mpr q_slL ?_ | with_reducible refine Eq.mpr q_slT ?_ | with_reducible refine Eq.mpr f_mut ?_ | with_reducible refine Eq.mpr e_append ?_ | with_reducible refine Eq.mpr f_call ?_ | with_reducible refine Eq.mpr f_callIo ?_ | with_reducible refine Eq.mpr e_mk0 ?_ | with_reducible refine Eq.mpr f_xf ?_ | with_reducible refine Eq.mpr e_test ?_ | with_reducible refine Eq.mpr e_and ?_ | with_reducible refine Eq.mpr e_or ?_ | with_reducible refine Eq.mpr e_not ?_ | with_reducible refine Eq.mpr e_if ?_ | with_reducible refine Eq.mpr e_andV ?_ | with_reducible refine Eq.mpr e_orV ?_ | with_reducible refine Eq.mpr e_notV ?_ | with_reducible refine Eq.mpr e_nameC ?_ | with_reducible refine Eq.mpr e_unp ?_ | with_reducible refine Eq.mpr e_gcons ?_ | with_reducible refine Eq.mpr e_gnil ?_ | with_reducible refine Eq.mpr e_iseq ?_ | with_reducible refine Eq.mpr e_irng1 ?_ | with_reducible refine Eq.mpr f_ienum ?_ | with_reducible refine Eq.mpr e_lc ?_ | with_reducible refine Eq.mpr e_yes ?_ | with_reducible refine Eq.mpr e_bt ?_ | with_reducible refine Eq.mpr e_bf ?_ | with_reducible refine Eq.mpr e_nt ?_ | with_reducible refine Eq.mpr e_nf ?_ | with_reducible refine Eq.mpr q_rvI ?_ | with_reducible refine Eq.mpr q_rvO ?_ | with_reducible refine Eq.mpr e_ret ?_ | with_reducible refine Eq.mpr e_drop ?_ | with_reducible refine Eq.mpr e_next ?_ | with_reducible refine Eq.mpr e_ifS ?_ | with_reducible refine Eq.mpr e_for ?_ | with_reducible refine Eq.mpr e_brk ?_ | with_reducible refine Eq.mpr e_cnt ?_ | ((with_reducible apply i_and); case l => first | rfl | (simp only [List.length_cons, List.length_nil, List.length_append, sizeLine_eq, Nat.reduceAdd]; done) | (simp only [List.length_cons, List.length_nil, List.length_append, sizeLine_eq, Nat.reduceAdd]; first | decide | omega)) | (with_reducible intro _)))
    refine onB_split (fun h => absurd h (by simp)) fun _ => ?_
    (repeat (first | with_reducible refine Eq.mpr e_seq ?_ | with_reducible refine Eq.mpr e_ifb ?_ | with_reducible refine Eq.mpr e_ex ?_ | with_reducible refine Eq.mpr e_asg ?_ | with_reducible refine Eq.mpr e_c ?_ | with_reducible refine Eq.mpr e_var ?_ | ((with_reducible apply i_on); case h => ((try simp only [frzs, q_see_im, q_see_ow, e_seeal, q_frz_im, q_frz_ow, e_frzal, e_rd1, e_rd2, e_rd3, e_ow, e_se1, e_se2, e_fz1, e_fz2, e_dct, e_lstP, e_intP, e_int0, e_blP, e_excP, e_onO, e_putIm, e_putOw, looks, keyD, DL.pairD, py, pys, Option.map_some, q_seqL, q_seqR, q_seqT, q_walkL, q_walkR, q_walkT, q_walkS, q_lenL, q_lenT, q_itL, q_itT, tyD, clsD, List.getElem?_cons_zero, List.getElem?_cons_succ, List.set_cons_zero, List.set_cons_succ]); rfl)) | ((with_reducible apply i_onP); case h => ((try simp only [frzs, q_see_im, q_see_ow, e_seeal, q_frz_im, q_frz_ow, e_frzal, e_rd1, e_rd2, e_rd3, e_ow, e_se1, e_se2, e_fz1, e_fz2, e_dct, e_lstP, e_intP, e_int0, e_blP, e_excP, e_onO, e_putIm, e_putOw, looks, keyD, DL.pairD, py, pys, Option.map_some, q_seqL, q_seqR, q_seqT, q_walkL, q_walkR, q_walkT, q_walkS, q_lenL, q_lenT, q_itL, q_itT, tyD, clsD, List.getElem?_cons_zero, List.getElem?_cons_succ, List.set_cons_zero, List.set_cons_succ]); rfl)) | with_reducible refine Eq.mpr e_2 ?_ | with_reducible refine Eq.mpr e_cons ?_ | with_reducible refine Eq.mpr e_nil ?_ | with_reducible refine Eq.mpr f_tup ?_ | with_reducible refine Eq.mpr f_lst ?_ | with_reducible refine Eq.mpr f_mkX ?_ | with_reducible refine Eq.mpr e_cb ?_ | with_reducible refine Eq.mpr e_get ?_ | with_reducible refine Eq.mpr f_put ?_ | with_reducible refine Eq.mpr e_name ?_ | with_reducible refine Eq.mpr e_addL ?_ | with_reducible refine Eq.mpr e_addI ?_ | with_reducible refine Eq.mpr e_addT ?_ | with_reducible refine Eq.mpr e_addS ?_ | with_reducible refine Eq.mpr e_I0 ?_ | with_reducible refine Eq.mpr e_I ?_ | with_reducible refine Eq.mpr e_eqS ?_ | with_reducible refine Eq.mpr e_eqI ?_ | with_reducible refine Eq.mpr e_eqL ?_ | with_reducible refine Eq.mpr e_eq ?_ | with_reducible refine Eq.mpr e_ix ?_ | with_reducible refine Eq.mpr e_len ?_ | with_reducible refine Eq.mpr e_list ?_ | with_reducible refine Eq.mpr e_tuple ?_ | with_reducible refine Eq.mpr e_int1 ?_ | with_reducible refine Eq.mpr e_is ?_ | with_reducible refine Eq.mpr e_repr ?_ | with_reducible refine Eq.mpr e_un ?_ | with_reducible refine Eq.mpr e_neg ?_ | with_reducible refine Eq.mpr f_disp ?_ | with_reducible refine Eq.mpr e_pairs1 ?_ | with_reducible refine Eq.mpr e_pairs0 ?_ | with_reducible refine Eq.mpr e_part ?_ | with_reducible refine Eq.mpr e_nopart ?_ | with_reducible refine Eq.mpr e_sl ?_ | with_reducible refine Eq.mpr q_slL ?_ | with_reducible refine Eq.mpr q_slT ?_ | with_reducible refine Eq.mpr f_mut ?_ | with_reducible refine Eq.mpr e_append ?_ | with_reducible refine Eq.mpr f_call ?_ | with_reducible refine Eq.mpr f_callIo ?_ | with_reducible refine Eq.mpr e_mk0 ?_ | with_reducible refine Eq.mpr f_xf ?_ | with_reducible refine Eq.mpr e_test ?_ | with_reducible refine Eq.mpr e_and ?_ | with_reducible refine Eq.mpr e_or ?_ | with_reducible refine Eq.mpr e_not ?_ | with_reducible refine Eq.mpr e_if ?_ | with_reducible refine Eq.mpr e_andV ?_ | with_reducible refine Eq.mpr e_orV ?_ | with_reducible refine Eq.mpr e_notV ?_ | with_reducible refine Eq.mpr e_nameC ?_ | with_reducible refine Eq.mpr e_unp ?_ | with_reducible refine Eq.mpr e_gcons ?_ | with_reducible refine Eq.mpr e_gnil ?_ | with_reducible refine Eq.mpr e_iseq ?_ | with_reducible refine Eq.mpr e_irng1 ?_ | with_reducible refine Eq.mpr f_ienum ?_ | with_reducible refine Eq.mpr e_lc ?_ | with_reducible refine Eq.mpr e_yes ?_ | with_reducible refine Eq.mpr e_bt ?_ | with_reducible refine Eq.mpr e_bf ?_ | with_reducible refine Eq.mpr e_nt ?_ | with_reducible refine Eq.mpr e_nf ?_ | with_reducible refine Eq.mpr q_rvI ?_ | with_reducible refine Eq.mpr q_rvO ?_ | with_reducible refine Eq.mpr e_ret ?_ | with_reducible refine Eq.mpr e_drop ?_ | with_reducible refine Eq.mpr e_next ?_ | with_reducible refine Eq.mpr e_ifS ?_ | with_reducible refine Eq.mpr e_for ?_ | with_reducible refine Eq.mpr e_brk ?_ | with_reducible refine Eq.mpr e_cnt ?_ | ((with_reducible apply i_and); case l => first | rfl | (simp only [List.length_cons, List.length_nil, List.length_append, sizeLine_eq, Nat.reduceAdd]; done) | (simp only [List.length_cons, List.length_nil, List.length_append, sizeLine_eq, Nat.reduceAdd]; first | decide | omega)) | (with_reducible intro _)))
    refine ⟨one, x, rfl, rfl, hxk, ht, ho, ?_⟩
    show rvK _ _
    (repeat (first | with_reducible refine Eq.mpr e_seq ?_ | with_reducible refine Eq.mpr e_ifb ?_ | with_reducible refine Eq.mpr e_ex ?_ | with_reducible refine Eq.mpr e_asg ?_ | with_reducible refine Eq.mpr e_c ?_ | with_reducible refine Eq.mpr e_var ?_ | ((with_reducible apply i_on); case h => ((try simp only [frzs, q_see_im, q_see_ow, e_seeal, q_frz_im, q_frz_ow, e_frzal, e_rd1, e_rd2, e_rd3, e_ow, e_se1, e_se2, e_fz1, e_fz2, e_dct, e_lstP, e_intP, e_int0, e_blP, e_excP, e_onO, e_putIm, e_putOw, looks, keyD, DL.pairD, py, pys, Option.map_some, q_seqL, q_seqR, q_seqT, q_walkL, q_walkR, q_walkT, q_walkS, q_lenL, q_lenT, q_itL, q_itT, tyD, clsD, List.getElem?_cons_zero, List.getElem?_cons_succ, List.set_cons_zero, List.set_cons_succ]); rfl)) | ((with_reducible apply i_onP); case h => ((try simp only [frzs, q_see_im, q_see_ow, e_seeal, q_frz_im, q_frz_ow, e_frzal, e_rd1, e_rd2, e_rd3, e_ow, e_se1, e_se2, e_fz1, e_fz2, e_dct, e_lstP, e_intP, e_int0, e_blP, e_excP, e_onO, e_putIm, e_putOw, looks, keyD, DL.pairD, py, pys, Option.map_some, q_seqL, q_seqR, q_seqT, q_walkL, q_walkR, q_walkT, q_walkS, q_lenL, q_lenT, q_itL, q_itT, tyD, clsD, List.getElem?_cons_zero, List.getElem?_cons_succ, List.set_cons_zero, List.set_cons_succ]); rfl)) | with_reducible refine Eq.mpr e_2 ?_ | with_reducible refine Eq.mpr e_cons ?_ | with_reducible refine Eq.mpr e_nil ?_ | with_reducible refine Eq.mpr f_tup ?_ | with_reducible refine Eq.mpr f_lst ?_ | with_reducible refine Eq.mpr f_mkX ?_ | with_reducible refine Eq.mpr e_cb ?_ | with_reducible refine Eq.mpr e_get ?_ | with_reducible refine Eq.mpr f_put ?_ | with_reducible refine Eq.mpr e_name ?_ | with_reducible refine Eq.mpr e_addL ?_ | with_reducible refine Eq.mpr e_addI ?_ | with_reducible refine Eq.mpr e_addT ?_ | with_reducible refine Eq.mpr e_addS ?_ | with_reducible refine Eq.mpr e_I0 ?_ | with_reducible refine Eq.mpr e_I ?_ | with_reducible refine Eq.mpr e_eqS ?_ | with_reducible refine Eq.mpr e_eqI ?_ | with_reducible refine Eq.mpr e_eqL ?_ | with_reducible refine Eq.mpr e_eq ?_ | with_reducible refine Eq.mpr e_ix ?_ | with_reducible refine Eq.mpr e_len ?_ | with_reducible refine Eq.mpr e_list ?_ | with_reducible refine Eq.mpr e_tuple ?_ | with_reducible refine Eq.mpr e_int1 ?_ | with_reducible refine Eq.mpr e_is ?_ | with_reducible refine Eq.mpr e_repr ?_ | with_reducible refine Eq.mpr e_un ?_ | with_reducible refine Eq.mpr e_neg ?_ | with_reducible refine Eq.mpr f_disp ?_ | with_reducible refine Eq.mpr e_pairs1 ?_ | with_reducible refine Eq.mpr e_pairs0 ?_ | with_reducible refine Eq.mpr e_part ?_ | with_reducible refine Eq.mpr e_nopart ?_ | with_reducible refine Eq.mpr e_sl ?_ | with_reducible refine Eq.mpr q_slL ?_ | with_reducible refine Eq.mpr q_slT ?_ | with_reducible refine Eq.mpr f_mut ?_ | with_reducible refine Eq.mpr e_append ?_ | with_reducible refine Eq.mpr f_call ?_ | with_reducible refine Eq.mpr f_callIo ?_ | with_reducible refine Eq.mpr e_mk0 ?_ | with_reducible refine Eq.mpr f_xf ?_ | with_reducible refine Eq.mpr e_test ?_ | with_reducible refine Eq.mpr e_and ?_ | with_reducible refine Eq.mpr e_or ?_ | with_reducible refine Eq.mpr e_not ?_ | with_reducible refine Eq.mpr e_if ?_ | with_reducible refine Eq.mpr e_andV ?_ | with_reducible refine Eq.mpr e_orV ?_ | with_reducible refine Eq.mpr e_notV ?_ | with_reducible refine Eq.mpr e_nameC ?_ | with_reducible refine Eq.mpr e_unp ?_ | with_reducible refine Eq.mpr e_gcons ?_ | with_reducible refine Eq.mpr e_gnil ?_ | with_reducible refine Eq.mpr e_iseq ?_ | with_reducible refine Eq.mpr e_irng1 ?_ | with_reducible refine Eq.mpr f_ienum ?_ | with_reducible refine Eq.mpr e_lc ?_ | with_reducible refine Eq.mpr e_yes ?_ | with_reducible refine Eq.mpr e_bt ?_ | with_reducible refine Eq.mpr e_bf ?_ | with_reducible refine Eq.mpr e_nt ?_ | with_reducible refine Eq.mpr e_nf ?_ | with_reducible refine Eq.mpr q_rvI ?_ | with_reducible refine Eq.mpr q_rvO ?_ | with_reducible refine Eq.mpr e_ret ?_ | with_reducible refine Eq.mpr e_drop ?_ | with_reducible refine Eq.mpr e_next ?_ | with_reducible refine Eq.mpr e_ifS ?_ | with_reducible refine Eq.mpr e_for ?_ | with_reducible refine Eq.mpr e_brk ?_ | with_reducible refine Eq.mpr e_cnt ?_ | ((with_reducible apply i_and); case l => first | rfl | (simp only [List.length_cons, List.length_nil, List.length_append, sizeLine_eq, Nat.reduceAdd]; done) | (simp only [List.length_cons, List.length_nil, List.length_append, sizeLine_eq, Nat.reduceAdd]; first | decide | omega)) | (with_reducible intro _)))
    refine ⟨by decide, by decide, rfl, ?_⟩
    refine lc_map (items := rangeD 0 14) (fun d => match d with
      | .int j => D.bl (decide (j = (i : Int)))
      | d => d) _ trivial (by decide) (fun d hd acc L2 ha2 hL3 => ?_) ?_
    · obtain ⟨j, _, rfl⟩ := List.mem_map.mp hd
      (repeat (first | with_reducible refine Eq.mpr e_seq ?_ | with_reducible refine Eq.mpr e_ifb ?_ | with_reducible refine Eq.mpr e_ex ?_ | with_reducible refine Eq.mpr e_asg ?_ | with_reducible refine Eq.mpr e_c ?_ | with_reducible refine Eq.mpr e_var ?_ | ((with_reducible apply i_on); case h => ((try simp only [frzs, q_see_im, q_see_ow, e_seeal, q_frz_im, q_frz_ow, e_frzal, e_rd1, e_rd2, e_rd3, e_ow, e_se1, e_se2, e_fz1, e_fz2, e_dct, e_lstP, e_intP, e_int0, e_blP, e_excP, e_onO, e_putIm, e_putOw, looks, keyD, DL.pairD, py, pys, Option.map_some, q_seqL, q_seqR, q_seqT, q_walkL, q_walkR, q_walkT, q_walkS, q_lenL, q_lenT, q_itL, q_itT, tyD, clsD, List.getElem?_cons_zero, List.getElem?_cons_succ, List.set_cons_zero, List.set_cons_succ]); rfl)) | ((with_reducible apply i_onP); case h => ((try simp only [frzs, q_see_im, q_see_ow, e_seeal, q_frz_im, q_frz_ow, e_frzal, e_rd1, e_rd2, e_rd3, e_ow, e_se1, e_se2, e_fz1, e_fz2, e_dct, e_lstP, e_intP, e_int0, e_blP, e_excP, e_onO, e_putIm, e_putOw, looks, keyD, DL.pairD, py, pys, Option.map_some, q_seqL, q_seqR, q_seqT, q_walkL, q_walkR, q_walkT, q_walkS, q_lenL, q_lenT, q_itL, q_itT, tyD, clsD, List.getElem?_cons_zero, List.getElem?_cons_succ, List.set_cons_zero, List.set_cons_succ]); rfl)) | with_reducible refine Eq.mpr e_2 ?_ | with_reducible refine Eq.mpr e_cons ?_ | with_reducible refine Eq.mpr e_nil ?_ | with_reducible refine Eq.mpr f_tup ?_ | with_reducible refine Eq.mpr f_lst ?_ | with_reducible refine Eq.mpr f_mkX ?_ | with_reducible refine Eq.mpr e_cb ?_ | with_reducible refine Eq.mpr e_get ?_ | with_reducible refine Eq.mpr f_put ?_ | with_reducible refine Eq.mpr e_name ?_ | with_reducible refine Eq.mpr e_addL ?_ | with_reducible refine Eq.mpr e_addI ?_ | with_reducible refine Eq.mpr e_addT ?_ | with_reducible refine Eq.mpr e_addS ?_ | with_reducible refine Eq.mpr e_I0 ?_ | with_reducible refine Eq.mpr e_I ?_ | with_reducible refine Eq.mpr e_eqS ?_ | with_reducible refine Eq.mpr e_eqI ?_ | with_reducible refine Eq.mpr e_eqL ?_ | with_reducible refine Eq.mpr e_eq ?_ | with_reducible refine Eq.mpr e_ix ?_ | with_reducible refine Eq.mpr e_len ?_ | with_reducible refine Eq.mpr e_list ?_ | with_reducible refine Eq.mpr e_tuple ?_ | with_reducible refine Eq.mpr e_int1 ?_ | with_reducible refine Eq.mpr e_is ?_ | with_reducible refine Eq.mpr e_repr ?_ | with_reducible refine Eq.mpr e_un ?_ | with_reducible refine Eq.mpr e_neg ?_ | with_reducible refine Eq.mpr f_disp ?_ | with_reducible refine Eq.mpr e_pairs1 ?_ | with_reducible refine Eq.mpr e_pairs0 ?_ | with_reducible refine Eq.mpr e_part ?_ | with_reducible refine Eq.mpr e_nopart ?_ | with_reducible refine Eq.mpr e_sl ?_ | with_reducible refine Eq.mpr q_slL ?_ | with_reducible refine Eq.mpr q_slT ?_ | with_reducible refine Eq.mpr f_mut ?_ | with_reducible refine Eq.mpr e_append ?_ | with_reducible refine Eq.mpr f_call ?_ | with_reducible refine Eq.mpr f_callIo ?_ | with_reducible refine Eq.mpr e_mk0 ?_ | with_reducible refine Eq.mpr f_xf ?_ | with_reducible refine Eq.mpr e_test ?_ | with_reducible refine Eq.mpr e_and ?_ | with_reducible refine Eq.mpr e_or ?_ | with_reducible refine Eq.mpr e_not ?_ | with_reducible refine Eq.mpr e_if ?_ | with_reducible refine Eq.mpr e_andV ?_ | with_reducible refine Eq.mpr e_orV ?_ | with_reducible refine Eq.mpr e_notV ?_ | with_reducible refine Eq.mpr e_nameC ?_ | with_reducible refine Eq.mpr e_unp ?_ | with_reducible refine Eq.mpr e_gcons ?_ | with_reducible refine Eq.mpr e_gnil ?_ | with_reducible refine Eq.mpr e_iseq ?_ | with_reducible refine Eq.mpr e_irng1 ?_ | with_reducible refine Eq.mpr f_ienum ?_ | with_reducible refine Eq.mpr e_lc ?_ | with_reducible refine Eq.mpr e_yes ?_ | with_reducible refine Eq.mpr e_bt ?_ | with_reducible refine Eq.mpr e_bf ?_ | with_reducible refine Eq.mpr e_nt ?_ | with_reducible refine Eq.mpr e_nf ?_ | with_reducible refine Eq.mpr q_rvI ?_ | with_reducible refine Eq.mpr q_rvO ?_ | with_reducible refine Eq.mpr e_ret ?_ | with_reducible refine Eq.mpr e_drop ?_ | with_reducible refine Eq.mpr e_next ?_ | with_reducible refine Eq.mpr e_ifS ?_ | with_reducible refine Eq.mpr e_for ?_ | with_reducible refine Eq.mpr e_brk ?_ | with_reducible refine Eq.mpr e_cnt ?_ | ((with_reducible apply i_and); case l => first | rfl | (simp only [List.length_cons, List.length_nil, List.length_append, sizeLine_eq, Nat.reduceAdd]; done) | (simp only [List.length_cons, List.length_nil, List.length_append, sizeLine_eq, Nat.reduceAdd]; first | decide | omega)) | (with_reducible intro _)))
      exact ⟨ha2, rfl, hL3⟩
    · refine ⟨rfl, fun p => ?_⟩
      rw [← kinds_at i hi x hx]
      (repeat (first | with_reducible refine Eq.mpr e_seq ?_ | with_reducible refine Eq.mpr e_ifb ?_ | with_reducible refine Eq.mpr e_ex ?_ | with_reducible refine Eq.mpr e_asg ?_ | with_reducible refine Eq.mpr e_c ?_ | with_reducible refine Eq.mpr e_var ?_ | ((with_reducible apply i_on); case h => ((try simp only [frzs, q_see_im, q_see_ow, e_seeal, q_frz_im, q_frz_ow, e_frzal, e_rd1, e_rd2, e_rd3, e_ow, e_se1, e_se2, e_fz1, e_fz2, e_dct, e_lstP, e_intP, e_int0, e_blP, e_excP, e_onO, e_putIm, e_putOw, looks, keyD, DL.pairD, py, pys, Option.map_some, q_seqL, q_seqR, q_seqT, q_walkL, q_walkR, q_walkT, q_walkS, q_lenL, q_lenT, q_itL, q_itT, tyD, clsD, List.getElem?_cons_zero, List.getElem?_cons_succ, List.set_cons_zero, List.set_cons_succ]); rfl)) | ((with_reducible apply i_onP); case h => ((try simp only [frzs, q_see_im, q_see_ow, e_seeal, q_frz_im, q_frz_ow, e_frzal, e_rd1, e_rd2, e_rd3, e_ow, e_se1, e_se2, e_fz1, e_fz2, e_dct, e_lstP, e_intP, e_int0, e_blP, e_excP, e_onO, e_putIm, e_putOw, looks, keyD, DL.pairD, py, pys, Option.map_some, q_seqL, q_seqR, q_seqT, q_walkL, q_walkR, q_walkT, q_walkS, q_lenL, q_lenT, q_itL, q_itT, tyD, clsD, List.getElem?_cons_zero, List.getElem?_cons_succ, List.set_cons_zero, List.set_cons_succ]); rfl)) | with_reducible refine Eq.mpr e_2 ?_ | with_reducible refine Eq.mpr e_cons ?_ | with_reducible refine Eq.mpr e_nil ?_ | with_reducible refine Eq.mpr f_tup ?_ | with_reducible refine Eq.mpr f_lst ?_ | with_reducible refine Eq.mpr f_mkX ?_ | with_reducible refine Eq.mpr e_cb ?_ | with_reducible refine Eq.mpr e_get ?_ | with_reducible refine Eq.mpr f_put ?_ | with_reducible refine Eq.mpr e_name ?_ | with_reducible refine Eq.mpr e_addL ?_ | with_reducible refine Eq.mpr e_addI ?_ | with_reducible refine Eq.mpr e_addT ?_ | with_reducible refine Eq.mpr e_addS ?_ | with_reducible refine Eq.mpr e_I0 ?_ | with_reducible refine Eq.mpr e_I ?_ | with_reducible refine Eq.mpr e_eqS ?_ | with_reducible refine Eq.mpr e_eqI ?_ | with_reducible refine Eq.mpr e_eqL ?_ | with_reducible refine Eq.mpr e_eq ?_ | with_reducible refine Eq.mpr e_ix ?_ | with_reducible refine Eq.mpr e_len ?_ | with_reducible refine Eq.mpr e_list ?_ | with_reducible refine Eq.mpr e_tuple ?_ | with_reducible refine Eq.mpr e_int1 ?_ | with_reducible refine Eq.mpr e_is ?_ | with_reducible refine Eq.mpr e_repr ?_ | with_reducible refine Eq.mpr e_un ?_ | with_reducible refine Eq.mpr e_neg ?_ | with_reducible refine Eq.mpr f_disp ?_ | with_reducible refine Eq.mpr e_pairs1 ?_ | with_reducible refine Eq.mpr e_pairs0 ?_ | with_reducible refine Eq.mpr e_part ?_ | with_reducible refine Eq.mpr e_nopart ?_ | with_reducible refine Eq.mpr e_sl ?_ | with_reducible refine Eq.mpr q_slL ?_ | with_reducible refine Eq.mpr q_slT ?_ | with_reducible refine Eq.mpr f_mut ?_ | with_reducible refine Eq.mpr e_append ?_ | with_reducible refine Eq.mpr f_call ?_ | with_reducible refine Eq.mpr f_callIo ?_ | with_reducible refine Eq.mpr e_mk0 ?_ | with_reducible refine Eq.mpr f_xf ?_ | with_reducible refine Eq.mpr e_test ?_ | with_reducible refine Eq.mpr e_and ?_ | with_reducible refine Eq.mpr e_or ?_ | with_reducible refine Eq.mpr e_not ?_ | with_reducible refine Eq.mpr e_if ?_ | with_reducible refine Eq.mpr e_andV ?_ | with_reducible refine Eq.mpr e_orV ?_ | with_reducible refine Eq.mpr e_notV ?_ | with_reducible refine Eq.mpr e_nameC ?_ | with_reducible refine Eq.mpr e_unp ?_ | with_reducible refine Eq.mpr e_gcons ?_ | with_reducible refine Eq.mpr e_gnil ?_ | with_reducible refine Eq.mpr e_iseq ?_ | with_reducible refine Eq.mpr e_irng1 ?_ | with_reducible refine Eq.mpr f_ienum ?_ | with_reducible refine Eq.mpr e_lc ?_ | with_reducible refine Eq.mpr e_yes ?_ | with_reducible refine Eq.mpr e_bt ?_ | with_reducible refine Eq.mpr e_bf ?_ | with_reducible refine Eq.mpr e_nt ?_ | with_reducible refine Eq.mpr e_nf ?_ | with_reducible refine Eq.mpr q_rvI ?_ | with_reducible refine Eq.mpr q_rvO ?_ | with_reducible refine Eq.mpr e_ret ?_ | with_reducible refine Eq.mpr e_drop ?_ | with_reducible refine Eq.mpr e_next ?_ | with_reducible refine Eq.mpr e_ifS ?_ | with_reducible refine Eq.mpr e_for ?_ | with_reducible refine Eq.mpr e_brk ?_ | with_reducible refine Eq.mpr e_cnt ?_ | ((with_reducible apply i_and); case l => first | rfl | (simp only [List.length_cons, List.length_nil, List.length_append, sizeLine_eq, Nat.reduceAdd]; done) | (simp only [List.length_cons, List.length_nil, List.length_append, sizeLine_eq, Nat.reduceAdd]; first | decide | omega)) | (with_reducible intro _)))
      refine onB_split (fun h => absurd h (by simp [PyData.eqv, PyData.eqvAll])) fun _ => ?_
      (repeat (first | with_reducible refine Eq.mpr e_seq ?_ | with_reducible refine Eq.mpr e_ifb ?_ | with_reducible refine Eq.mpr e_ex ?_ | with_reducible refine Eq.mpr e_asg ?_ | with_reducible refine Eq.mpr e_c ?_ | with_reducible refine Eq.mpr e_var ?_ | ((with_reducible apply i_on); case h => ((try simp only [frzs, q_see_im, q_see_ow, e_seeal, q_frz_im, q_frz_ow, e_frzal, e_rd1, e_rd2, e_rd3, e_ow, e_se1, e_se2, e_fz1, e_fz2, e_dct, e_lstP, e_intP, e_int0, e_blP, e_excP, e_onO, e_putIm, e_putOw, looks, keyD, DL.pairD, py, pys, Option.map_some, q_seqL, q_seqR, q_seqT, q_walkL, q_walkR, q_walkT, q_walkS, q_lenL, q_lenT, q_itL, q_itT, tyD, clsD, List.getElem?_cons_zero, List.getElem?_cons_succ, List.set_cons_zero, List.set_cons_succ]); rfl)) | ((with_reducible apply i_onP); case h => ((try simp only [frzs, q_see_im, q_see_ow, e_seeal, q_frz_im, q_frz_ow, e_frzal, e_rd1, e_rd2, e_rd3, e_ow, e_se1, e_se2, e_fz1, e_fz2, e_dct, e_lstP, e_intP, e_int0, e_blP, e_excP, e_onO, e_putIm, e_putOw, looks, keyD, DL.pairD, py, pys, Option.map_some, q_seqL, q_seqR, q_seqT, q_walkL, q_walkR, q_walkT, q_walkS, q_lenL, q_lenT, q_itL, q_itT, tyD, clsD, List.getElem?_cons_zero, List.getElem?_cons_succ, List.set_cons_zero, List.set_cons_succ]); rfl)) | with_reducible refine Eq.mpr e_2 ?_ | with_reducible refine Eq.mpr e_cons ?_ | with_reducible refine Eq.mpr e_nil ?_ | with_reducible refine Eq.mpr f_tup ?_ | with_reducible refine Eq.mpr f_lst ?_ | with_reducible refine Eq.mpr f_mkX ?_ | with_reducible refine Eq.mpr e_cb ?_ | with_reducible refine Eq.mpr e_get ?_ | with_reducible refine Eq.mpr f_put ?_ | with_reducible refine Eq.mpr e_name ?_ | with_reducible refine Eq.mpr e_addL ?_ | with_reducible refine Eq.mpr e_addI ?_ | with_reducible refine Eq.mpr e_addT ?_ | with_reducible refine Eq.mpr e_addS ?_ | with_reducible refine Eq.mpr e_I0 ?_ | with_reducible refine Eq.mpr e_I ?_ | with_reducible refine Eq.mpr e_eqS ?_ | with_reducible refine Eq.mpr e_eqI ?_ | with_reducible refine Eq.mpr e_eqL ?_ | with_reducible refine Eq.mpr e_eq ?_ | with_reducible refine Eq.mpr e_ix ?_ | with_reducible refine Eq.mpr e_len ?_ | with_reducible refine Eq.mpr e_list ?_ | with_reducible refine Eq.mpr e_tuple ?_ | with_reducible refine Eq.mpr e_int1 ?_ | with_reducible refine Eq.mpr e_is ?_ | with_reducible refine Eq.mpr e_repr ?_ | with_reducible refine Eq.mpr e_un ?_ | with_reducible refine Eq.mpr e_neg ?_ | with_reducible refine Eq.mpr f_disp ?_ | with_reducible refine Eq.mpr e_pairs1 ?_ | with_reducible refine Eq.mpr e_pairs0 ?_ | with_reducible refine Eq.mpr e_part ?_ | with_reducible refine Eq.mpr e_nopart ?_ | with_reducible refine Eq.mpr e_sl ?_ | with_reducible refine Eq.mpr q_slL ?_ | with_reducible refine Eq.mpr q_slT ?_ | with_reducible refine Eq.mpr f_mut ?_ | with_reducible refine Eq.mpr e_append ?_ | with_reducible refine Eq.mpr f_call ?_ | with_reducible refine Eq.mpr f_callIo ?_ | with_reducible refine Eq.mpr e_mk0 ?_ | with_reducible refine Eq.mpr f_xf ?_ | with_reducible refine Eq.mpr e_test ?_ | with_reducible refine Eq.mpr e_and ?_ | with_reducible refine Eq.mpr e_or ?_ | with_reducible refine Eq.mpr e_not ?_ | with_reducible refine Eq.mpr e_if ?_ | with_reducible refine Eq.mpr e_andV ?_ | with_reducible refine Eq.mpr e_orV ?_ | with_reducible refine Eq.mpr e_notV ?_ | with_reducible refine Eq.mpr e_nameC ?_ | with_reducible refine Eq.mpr e_unp ?_ | with_reducible refine Eq.mpr e_gcons ?_ | with_reducible refine Eq.mpr e_gnil ?_ | with_reducible refine Eq.mpr e_iseq ?_ | with_reducible refine Eq.mpr e_irng1 ?_ | with_reducible refine Eq.mpr f_ienum ?_ | with_reducible refine Eq.mpr e_lc ?_ | with_reducible refine Eq.mpr e_yes ?_ | with_reducible refine Eq.mpr e_bt ?_ | with_reducible refine Eq.mpr e_bf ?_ | with_reducible refine Eq.mpr e_nt ?_ | with_reducible refine Eq.mpr e_nf ?_ | with_reducible refine Eq.mpr q_rvI ?_ | with_reducible refine Eq.mpr q_rvO ?_ | with_reducible refine Eq.mpr e_ret ?_ | with_reducible refine Eq.mpr e_drop ?_ | with_reducible refine Eq.mpr e_next ?_ | with_reducible refine Eq.mpr e_ifS ?_ | with_reducible refine Eq.mpr e_for ?_ | with_reducible refine Eq.mpr e_brk ?_ | with_reducible refine Eq.mpr e_cnt ?_ | ((with_reducible apply i_and); case l => first | rfl | (simp only [List.length_cons, List.length_nil, List.length_append, sizeLine_eq, Nat.reduceAdd]; done) | (simp only [List.length_cons, List.length_nil, List.length_append, sizeLine_eq, Nat.reduceAdd]; first | decide | omega)) | (with_reducible intro _)))
      exact hL2 _ _ _ _ _ _ _
end K1
/-! K10 -/
set_option Elab.async false
set_option maxRecDepth 100000
set_option maxHeartbeats 4000000
set_option linter.all false
namespace DL
open PySem PySem.Spec PyProof.Rows L2 Evl
theorem cx_no {P : Program} {w : World} {H : Hp} {s : Shared} {e : Value} {s' : Shared} (h : L2.CX P w [] H s (fun _ _ _ => False) e s') : False := by
  obtain ⟨_, _, _, _, _, _, _, _, _, _, _, _, z⟩ := h
  exact z
theorem lawG_call {P : Program} {w : World} {K : PySem.W.Frag} {mg mbl : Str → Option Value} {k : Nat} {fa a : Addr} {fd : FuncData} {x : Str} {sp : Sp} {sx : Shared} {vs : List Value} {ns : List Int}
    (kxin : K.In sx.heap) (hglob : sx.heap.Ns mainGlobals mg) (hbl : sx.heap.Ns builtinsNs mbl) (hboot : ∀ x : Str, x ≠ "__name__" → mbl x = bootBuiltins x) (hnolim : sx.heap.NoLimit) (hgens : sx.gens = #[])
    (hobja : sx.heap.get? a = some { cls := .type "list", data := .seq vs.toArray }) (hintsA : IntsAre vs ns) (hlenA : ns.length ≤ sizeLine) (hroomA : Room k callerA)
    (FF : ∀ base : Heap, K.In base → base.Ns mainGlobals mg → FnG P w K mg base k fa fd [x] sp) (hbindA : ∀ (s : Shared) (u : Value), BindsTo s fd ⟨[u], []⟩ [(x, u)])
    (hspA : ∀ H : Hp, Only H → SqL K H a (ns.map V.int) → sp [.ref a] H (fun v _ => v = .bl true) fun _ _ _ => False)
     :
    codeAny (model P w) callerA (.call (.ref fa) ⟨[.ref a], []⟩) (fun r s' => r = .ok (.ret (.bool true)) ∧ OldK sx.heap s'.heap ∧ s'.os = sx.os ∧ AllBare s'.gens) sx := by
  have rvals := vals_ints hintsA
  have lenvals := hintsA.length
  -- from an abstract heap in which nothing but the script may be tracked
  have coreA : ∀ H : Hp, Only H → SqL K H a (ns.map V.int) → HOk P w H sx.heap → (∀ b, H b ≠ none → b = a) → (H a ≠ none → K.lookup a = none) →
      codeAny (model P w) callerA (.call (.ref fa) ⟨[.ref a], []⟩) (fun r s' => r = .ok (.ret (.bool true)) ∧ OldK sx.heap s'.heap ∧ s'.os = sx.os ∧ AllBare s'.gens) sx := by
    intro H honly hseq hokA honeA hkA
    have baseOf : ∀ {b : Addr} {o : Obj}, sx.heap.get? b = some o → H b = none → (hidT sx.heap H).get? b = some o := fun e n => hidT_get e n
    have noDict : ∀ {b : Addr} {o : Obj} {ents : Array DictEntry} {epos : Nat}, sx.heap.get? b = some o → o.data = .dict ents epos → H b = none := fun {b o ents epos} e d => by
      cases q : H b with
      | none => rfl
      | some u =>
        have eq' : b = a := honeA b (by rw [q]; simp)
        subst eq'
        rw [hobja] at e; cases e
        have dq' : Data.seq vs.toArray _ = Data.dict ents epos := d
        cases dq'
    have nsKeep : ∀ {b : Addr} {m : Str → Option Value}, sx.heap.Ns b m → (hidT sx.heap H).Ns b m := fun {b m} ⟨o, ents, epos, e, d, r⟩ => ⟨o, ents, epos, baseOf e (noDict e d), d, r⟩
    have hKbase : K.In (hidT sx.heap H) := fun b o e => baseOf (kxin b o e) (by
      cases q : H b with
      | none => rfl
      | some u =>
        have eq' : b = a := honeA b (by rw [q]; simp)
        subst eq'
        rw [hkA (by rw [q]; simp)] at e; cases e)
    have hMod : Mod K mg (hidT sx.heap H) := ⟨hKbase, nsKeep hglob, ⟨mbl, nsKeep hbl, hboot⟩, let ⟨mc, h1, h2⟩ := hnolim; ⟨mc, nsKeep h1, h2⟩⟩
    have env00 : Env0 P w K mg (hidT sx.heap H) callerA [] sx H := ⟨rfl, hMod, fun b o e => of_hidT e, Nat.le_of_eq (hidT_size _ _), trivial, fun b hbl => absurd (show b ∈ ([] : List Addr) from hbl) (by simp), hokA, .of_eq hgens⟩
    refine codeAny_mono ((FF _ hKbase (nsKeep hglob)).run callerA [] sx H ⟨[.ref a], []⟩ [.ref a] [.ref a] _ _ hroomA rfl env00 (hbindA sx (.ref a)) (.cons rfl .nil) (hspA H honly hseq)) fun r s' h => ?_
    cases r with
    | error e => exact (cx_no h).elim
    | ok fl =>
      cases fl with
      | next => exact False.elim h
      | brk => exact False.elim h
      | cont => exact False.elim h
      | ret u =>
        obtain ⟨v, H', osq, bareq, unch, hok', r', q⟩ := h
        have q' : v = .bl true := q
        subst q'
        obtain rfl : u = Value.bool true := r'
        refine ⟨rfl, OldK.of_keep fun b o e => ?_, osq, bareq⟩
        cases q : H b with
        | none => exact unch.keep b o e q (by intro zz; exact absurd (show b ∈ ([] : List Addr) from zz) (by simp)) (by simp)
        | some u =>
          rcases honly b with zz | ⟨obx, xs, zz⟩
          · rw [q] at zz; cases zz
          · have z2 := unch.frzs b obx _ zz
            obtain ⟨e1, _⟩ := hokA b _ zz
            obtain ⟨e2, _⟩ := hok' b _ z2
            rw [e] at e1; cases e1
            exact e2
  cases hk : K.lookup a with
  | some o =>
    -- the script is one of the module's own objects
    have e := kxin a o hk
    rw [hobja] at e
    cases e
    refine coreA (fun _ => none) (fun _ => .inl rfl) (.inr ⟨_, vs.toArray, _, hk, rfl, rfl, rfl, by rw [List.size_toArray, lenvals]; exact hlenA, by simpa using rvals⟩) (fun b u zz => by have z' : (none : Option HO) = some u := zz; cases z') (fun b zz => absurd rfl zz) fun zz => absurd rfl zz
  | none =>
    refine coreA (fun b => if b = a then some (.frz { cls := .type "list", data := .seq vs.toArray } (.lst (ns.map V.int))) else none) (fun b => ?_) (.inl (.inr ⟨{ cls := .type "list", data := .seq vs.toArray }, if_pos rfl⟩)) (fun b u zz => ?_) (fun b zz => ?_) fun _ => hk
    · by_cases hbl : b = a
      · exact .inr ⟨_, _, if_pos hbl⟩
      · exact .inl (if_neg hbl)
    · by_cases hbl : b = a
      · have z' := (if_pos hbl).symm.trans zz
        cases z'
        subst hbl
        exact ⟨hobja, by rw [List.length_map]; exact hlenA, vs, _, rvals, hobja⟩
      · have z' := (if_neg hbl).symm.trans zz
        cases z'
    · by_cases hbl : b = a
      · exact hbl
      · exact absurd (if_neg hbl) zz
theorem walk_ofG {l : PySem.W.OpenLaw} {n k : Nat} {q : Program} {loose : List Str} {XP : (Str → Option Value) → Heap → Prop} {YP : World → Heap → Prop} {d : DefRec} {K : Params → PySem.W.Frag} {sp : World → Sp} {x : Str}
    (most : l.most = some n) (most2 : n ≤ sizeLine) (nodef : d.params.defaults = []) (room : Room k callerA)
    (inK : ∀ (w : World) (h : Heap), YP w h → (K w.params).In h)
    (def_ : ∀ (w : World) (mg : Str → Option Value) (fa : Addr) (h : Heap), (K w.params).In h → h.Ns mainGlobals mg → mg d.name = some (.ref fa) →
      ∃ fd : FuncData, (∀ (s : Shared) (u : Value), BindsTo s fd ⟨[u], []⟩ [(x, u)]) ∧
        ∀ base : Heap, (K w.params).In base → base.Ns mainGlobals mg → FnG l.prog w (K w.params) mg base k fa fd [x] (sp w))
    (spec : ∀ (w : World) (H : Hp) (a : Addr) (ns : List Int), ns.length ≤ n → (∀ z ∈ ns, Builtin.Int.intBits z ≤ 1048576) → Only H → SqL (K w.params) H a (ns.map V.int) → sp w [.ref a] H (fun v _ => v = .bl true) fun _ _ _ => False) :
    PySem.W.WalkO q loose XP YP l.row.toRowW d [] (fun f vs => PySem.call f vs) := by
  refine Att.attach_callB most nodef fun w s0 s1 mg mbl fa o pm cd dc a vs ns G Y ho hd hcd named obj intl len bits nog => ?_
  obtain ⟨fd, bound, FF⟩ := def_ w mg fa _ (inK w _ Y) G.T.g named
  exact lawG_call (inK w _ Y) G.T.g G.T.b G.T.builtins G.T.nolimit nog obj intl (Nat.le_trans len most2) room FF bound fun H hO hS => spec w H a ns len bits hO hS
end DL
/-! K11 -/
set_option Elab.async false
set_option maxRecDepth 100000
set_option maxHeartbeats 8000000
set_option linter.all false
namespace DL
open PySem PySem.Spec PyProof.Rows L2 Evl
theorem xcl_mk {K : PySem.W.Frag} {C N : Addr} {nm q : Str} {bs bm : List Value} {sn : List Str} {sub : List Value} {ab : Bool} {col : Option Bool} {dd : Option Addr} {m0 m1 m2 m3 m5 : Option Value} {names : List Str}
    (xL : K.lookup C = some (excClassObj nm q C N bs bm true sn sub ab col dd m0 m1 m2 m3 m5 "ValueError.__new__")) (rv : PySem.HandSPX.refsVE bm = true) (sa : PySem.W.findIn K (.ref C) "__setattr__" = some (some (.builtin "object.__setattr__")))
    (ex : PySem.W.subIn K (.ref C) (.type "BaseException") = some true) (ty : PySem.W.typeIn K (.ref C) = some (.type "type")) (kp : PySem.W.keepIn K (.ref C) = true) (ga : PySem.W.findIn K (.ref C) "__getattribute__" = some (some (.builtin "BaseException.__getattribute__")))
    (gg : PySem.W.findIn K (.ref C) "__getattr__" = some none) (hd : PySem.W.hasDictIn K C = true) (ca : PySem.W.findIn K (.ref C) "__class__" = some (some (.builtin "object.__class__"))) (mo : PySem.W.mroIn K C (.type "object") = some true)
    (no : ∀ f ∈ names, PySem.W.findIn K (.ref C) f = some none) : XCl K C names :=
  ⟨⟨⟨nm, q, N, bs, bm, sn, sub, ab, col, dd, m0, m1, m2, m3, m5, xL, rv⟩, sa, ex, ty, kp⟩, ga, gg, hd, ca, mo, no⟩
theorem fng_ok {P : Program} {w : World} {K : PySem.W.Frag} {mg : Str → Option Value} {base : Heap} {x qual : Str} {st : PySem.Stmt} {f : Addr} {fd : FuncData} {N ps : List Str} {k : Nat} {s : TF} {db : DX → TDs} (G : L2.Fun K x qual st f fd) (S : FnScope N ps (defScope st)) (hb : Binds K fd ps []) (hm : mg x = some (.ref f))
    (len : ∀ o ds k kx, s o ds k kx → ds.length + (match o with
      | some _ => 1
      | none => 0) = ps.length)
    (pure : ∀ o ds k kx, s o ds k kx → bodyF N.length db o ds k kx)
    (text : ∀ (cdv : Value) (A : Around) (outer : List PySem.Env) (s : Shared) (H : Hp) (E : XK) (B : BG) (wd : DX), Room k (A.deeper (envOfC qual (defScope st) s.heap.objs.size f cdv)) → (A.deeper (envOfC qual (defScope st) s.heap.objs.size f cdv)).guards = some [] →
      ∃ t, CSs (cxOf (L2.CX P w) P w K mg base N qual (defScope st) f cdv A outer s H E) K B ⟨fun cls d _ H => E cls d H, wd⟩ (defBody st) t (db wd)) : FnG P w K mg base (k + 1) f fd ps (SpD K s) := by
  refine Fun.okG G S (fun vs H Q E h => ?_) fun cdv A outer sh H vs Q E hr hgd h => ?_
  · obtain ⟨F, io, ds, kk, kx, s0, ha, hs, _⟩ := h
    have hl := len _ _ _ _ hs
    cases io with
    | none =>
      have ha' : Dvs K F ds vs := ha
      rw [← ha'.length]
      exact hl
    | some p =>
      obtain ⟨_, _, r, rfl, hd⟩ := ha
      rw [List.length_cons, ← Dvs.length hd]
      exact hl
  · have h2 : SpD K (bodyF N.length db) vs H Q E := by
      obtain ⟨F, io, ds, kk, kx, s0, ha, hs, hq⟩ := h
      exact ⟨F, io, ds, kk, kx, s0, ha, pure _ _ _ _ hs, hq⟩
    obtain ⟨B, wd, hb2⟩ := body_ok h2
    obtain ⟨t, c⟩ := text cdv A outer sh H E B wd hr hgd
    exact ⟨t, c.p, hb2 t c.s⟩
end DL
namespace K1
open PySem PySem.Spec PyProof.Rows L2 Evl DL
variable {P : Program} {w : World} {K : PySem.W.Frag} {mg : Str → Option Value} {base : Heap} {ad : Str → Addr}
theorem si_BadText : FnScope ("self" :: ["line", "word"]) ("self" :: ["line", "word"]) (defScope (inClass (top 2) 0)) := ⟨rfl, rfl, rfl, by decide +kernel, rfl, by decide +kernel, by decide +kernel⟩
theorem in_BadText {C f : Addr} {fd : FuncData} (F : L2.Fun K "__init__" "BadText.__init__" (inClass (top 2) 0) f fd) (xc : XCl K C ["line", "word"]) : FnOk P w K mg base CX0 1 f fd ("self" :: ["line", "word"]) (spInit C ["line", "word"]) := by
  refine F.ok si_BadText (fun vs H Q E h => ?_) fun cdv A outer s H vs Q E hr h => ⟨tInit K ["line", "word"] 1, ?_, init_pure xc (by simp) (by decide) h⟩
  · obtain ⟨a, ys, rfl, hl, _⟩ := h
    rw [List.length_cons, hl]
    rfl
  · exact (pss_cons (ps_ost (pv 0) (pv 1)) (pss_cons (ps_ost (pv 0) (pv 2)) pss_nil))
theorem si_Misread : FnScope ("self" :: ["line", "column"]) ("self" :: ["line", "column"]) (defScope (inClass (top 3) 0)) := ⟨rfl, rfl, rfl, by decide +kernel, rfl, by decide +kernel, by decide +kernel⟩
theorem in_Misread {C f : Addr} {fd : FuncData} (F : L2.Fun K "__init__" "Misread.__init__" (inClass (top 3) 0) f fd) (xc : XCl K C ["line", "column"]) : FnOk P w K mg base CX0 1 f fd ("self" :: ["line", "column"]) (spInit C ["line", "column"]) := by
  refine F.ok si_Misread (fun vs H Q E h => ?_) fun cdv A outer s H vs Q E hr h => ⟨tInit K ["line", "column"] 1, ?_, init_pure xc (by simp) (by decide) h⟩
  · obtain ⟨a, ys, rfl, hl, _⟩ := h
    rw [List.length_cons, hl]
    rfl
  · exact (pss_cons (ps_ost (pv 0) (pv 1)) (pss_cons (ps_ost (pv 0) (pv 2)) pss_nil))
theorem si_Misplaced : FnScope ("self" :: ["line", "column", "why", "name"]) ("self" :: ["line", "column", "why", "name"]) (defScope (inClass (top 4) 0)) := ⟨rfl, rfl, rfl, by decide +kernel, rfl, by decide +kernel, by decide +kernel⟩
theorem in_Misplaced {C f : Addr} {fd : FuncData} (F : L2.Fun K "__init__" "Misplaced.__init__" (inClass (top 4) 0) f fd) (xc : XCl K C ["line", "column", "why", "name"]) : FnOk P w K mg base CX0 1 f fd ("self" :: ["line", "column", "why", "name"]) (spInit C ["line", "column", "why", "name"]) := by
  refine F.ok si_Misplaced (fun vs H Q E h => ?_) fun cdv A outer s H vs Q E hr h => ⟨tInit K ["line", "column", "why", "name"] 1, ?_, init_pure xc (by simp) (by decide) h⟩
  · obtain ⟨a, ys, rfl, hl, _⟩ := h
    rw [List.length_cons, hl]
    rfl
  · exact (pss_cons (ps_ost (pv 0) (pv 1)) (pss_cons (ps_ost (pv 0) (pv 2)) (pss_cons (ps_ost (pv 0) (pv 3)) (pss_cons (ps_ost (pv 0) (pv 4)) pss_nil))))
theorem si_BadName : FnScope ("self" :: ["name"]) ("self" :: ["name"]) (defScope (inClass (top 5) 0)) := ⟨rfl, rfl, rfl, by decide +kernel, rfl, by decide +kernel, by decide +kernel⟩
theorem in_BadName {C f : Addr} {fd : FuncData} (F : L2.Fun K "__init__" "BadName.__init__" (inClass (top 5) 0) f fd) (xc : XCl K C ["name"]) : FnOk P w K mg base CX0 1 f fd ("self" :: ["name"]) (spInit C ["name"]) := by
  refine F.ok si_BadName (fun vs H Q E h => ?_) fun cdv A outer s H vs Q E hr h => ⟨tInit K ["name"] 1, ?_, init_pure xc (by simp) (by decide) h⟩
  · obtain ⟨a, ys, rfl, hl, _⟩ := h
    rw [List.length_cons, hl]
    rfl
  · exact (pss_cons (ps_ost (pv 0) (pv 1)) pss_nil)
theorem si_BadNumber : FnScope ("self" :: ["what", "number"]) ("self" :: ["what", "number"]) (defScope (inClass (top 6) 0)) := ⟨rfl, rfl, rfl, by decide +kernel, rfl, by decide +kernel, by decide +kernel⟩
theorem in_BadNumber {C f : Addr} {fd : FuncData} (F : L2.Fun K "__init__" "BadNumber.__init__" (inClass (top 6) 0) f fd) (xc : XCl K C ["what", "number"]) : FnOk P w K mg base CX0 1 f fd ("self" :: ["what", "number"]) (spInit C ["what", "number"]) := by
  refine F.ok si_BadNumber (fun vs H Q E h => ?_) fun cdv A outer s H vs Q E hr h => ⟨tInit K ["what", "number"] 1, ?_, init_pure xc (by simp) (by decide) h⟩
  · obtain ⟨a, ys, rfl, hl, _⟩ := h
    rw [List.length_cons, hl]
    rfl
  · exact (pss_cons (ps_ost (pv 0) (pv 1)) (pss_cons (ps_ost (pv 0) (pv 2)) pss_nil))
theorem si_BadRow : FnScope ("self" :: ["what", "row"]) ("self" :: ["what", "row"]) (defScope (inClass (top 7) 0)) := ⟨rfl, rfl, rfl, by decide +kernel, rfl, by decide +kernel, by decide +kernel⟩
theorem in_BadRow {C f : Addr} {fd : FuncData} (F : L2.Fun K "__init__" "BadRow.__init__" (inClass (top 7) 0) f fd) (xc : XCl K C ["what", "row"]) : FnOk P w K mg base CX0 1 f fd ("self" :: ["what", "row"]) (spInit C ["what", "row"]) := by
  refine F.ok si_BadRow (fun vs H Q E h => ?_) fun cdv A outer s H vs Q E hr h => ⟨tInit K ["what", "row"] 1, ?_, init_pure xc (by simp) (by decide) h⟩
  · obtain ⟨a, ys, rfl, hl, _⟩ := h
    rw [List.length_cons, hl]
    rfl
  · exact (pss_cons (ps_ost (pv 0) (pv 1)) (pss_cons (ps_ost (pv 0) (pv 2)) pss_nil))
theorem si_NoName : FnScope ("self" :: ["name"]) ("self" :: ["name"]) (defScope (inClass (top 8) 0)) := ⟨rfl, rfl, rfl, by decide +kernel, rfl, by decide +kernel, by decide +kernel⟩
theorem in_NoName {C f : Addr} {fd : FuncData} (F : L2.Fun K "__init__" "NoName.__init__" (inClass (top 8) 0) f fd) (xc : XCl K C ["name"]) : FnOk P w K mg base CX0 1 f fd ("self" :: ["name"]) (spInit C ["name"]) := by
  refine F.ok si_NoName (fun vs H Q E h => ?_) fun cdv A outer s H vs Q E hr h => ⟨tInit K ["name"] 1, ?_, init_pure xc (by simp) (by decide) h⟩
  · obtain ⟨a, ys, rfl, hl, _⟩ := h
    rw [List.length_cons, hl]
    rfl
  · exact (pss_cons (ps_ost (pv 0) (pv 1)) pss_nil)
theorem si_TakenName : FnScope ("self" :: ["name"]) ("self" :: ["name"]) (defScope (inClass (top 9) 0)) := ⟨rfl, rfl, rfl, by decide +kernel, rfl, by decide +kernel, by decide +kernel⟩
theorem in_TakenName {C f : Addr} {fd : FuncData} (F : L2.Fun K "__init__" "TakenName.__init__" (inClass (top 9) 0) f fd) (xc : XCl K C ["name"]) : FnOk P w K mg base CX0 1 f fd ("self" :: ["name"]) (spInit C ["name"]) := by
  refine F.ok si_TakenName (fun vs H Q E h => ?_) fun cdv A outer s H vs Q E hr h => ⟨tInit K ["name"] 1, ?_, init_pure xc (by simp) (by decide) h⟩
  · obtain ⟨a, ys, rfl, hl, _⟩ := h
    rw [List.length_cons, hl]
    rfl
  · exact (pss_cons (ps_ost (pv 0) (pv 1)) pss_nil)
theorem si_Unlike : FnScope ("self" :: ["what"]) ("self" :: ["what"]) (defScope (inClass (top 10) 0)) := ⟨rfl, rfl, rfl, by decide +kernel, rfl, by decide +kernel, by decide +kernel⟩
theorem in_Unlike {C f : Addr} {fd : FuncData} (F : L2.Fun K "__init__" "Unlike.__init__" (inClass (top 10) 0) f fd) (xc : XCl K C ["what"]) : FnOk P w K mg base CX0 1 f fd ("self" :: ["what"]) (spInit C ["what"]) := by
  refine F.ok si_Unlike (fun vs H Q E h => ?_) fun cdv A outer s H vs Q E hr h => ⟨tInit K ["what"] 1, ?_, init_pure xc (by simp) (by decide) h⟩
  · obtain ⟨a, ys, rfl, hl, _⟩ := h
    rw [List.length_cons, hl]
    rfl
  · exact (pss_cons (ps_ost (pv 0) (pv 1)) pss_nil)
theorem si_NotThere : FnScope ("self" :: ["what"]) ("self" :: ["what"]) (defScope (inClass (top 11) 0)) := ⟨rfl, rfl, rfl, by decide +kernel, rfl, by decide +kernel, by decide +kernel⟩
theorem in_NotThere {C f : Addr} {fd : FuncData} (F : L2.Fun K "__init__" "NotThere.__init__" (inClass (top 11) 0) f fd) (xc : XCl K C ["what"]) : FnOk P w K mg base CX0 1 f fd ("self" :: ["what"]) (spInit C ["what"]) := by
  refine F.ok si_NotThere (fun vs H Q E h => ?_) fun cdv A outer s H vs Q E hr h => ⟨tInit K ["what"] 1, ?_, init_pure xc (by simp) (by decide) h⟩
  · obtain ⟨a, ys, rfl, hl, _⟩ := h
    rw [List.length_cons, hl]
    rfl
  · exact (pss_cons (ps_ost (pv 0) (pv 1)) pss_nil)
theorem si_TooMany : FnScope ("self" :: ["what", "many", "limit"]) ("self" :: ["what", "many", "limit"]) (defScope (inClass (top 12) 0)) := ⟨rfl, rfl, rfl, by decide +kernel, rfl, by decide +kernel, by decide +kernel⟩
theorem in_TooMany {C f : Addr} {fd : FuncData} (F : L2.Fun K "__init__" "TooMany.__init__" (inClass (top 12) 0) f fd) (xc : XCl K C ["what", "many", "limit"]) : FnOk P w K mg base CX0 1 f fd ("self" :: ["what", "many", "limit"]) (spInit C ["what", "many", "limit"]) := by
  refine F.ok si_TooMany (fun vs H Q E h => ?_) fun cdv A outer s H vs Q E hr h => ⟨tInit K ["what", "many", "limit"] 1, ?_, init_pure xc (by simp) (by decide) h⟩
  · obtain ⟨a, ys, rfl, hl, _⟩ := h
    rw [List.length_cons, hl]
    rfl
  · exact (pss_cons (ps_ost (pv 0) (pv 1)) (pss_cons (ps_ost (pv 0) (pv 2)) (pss_cons (ps_ost (pv 0) (pv 3)) pss_nil)))
theorem si_NotKept : FnScope ("self" :: ["promise", "witness"]) ("self" :: ["promise", "witness"]) (defScope (inClass (top 13) 0)) := ⟨rfl, rfl, rfl, by decide +kernel, rfl, by decide +kernel, by decide +kernel⟩
theorem in_NotKept {C f : Addr} {fd : FuncData} (F : L2.Fun K "__init__" "NotKept.__init__" (inClass (top 13) 0) f fd) (xc : XCl K C ["promise", "witness"]) : FnOk P w K mg base CX0 1 f fd ("self" :: ["promise", "witness"]) (spInit C ["promise", "witness"]) := by
  refine F.ok si_NotKept (fun vs H Q E h => ?_) fun cdv A outer s H vs Q E hr h => ⟨tInit K ["promise", "witness"] 1, ?_, init_pure xc (by simp) (by decide) h⟩
  · obtain ⟨a, ys, rfl, hl, _⟩ := h
    rw [List.length_cons, hl]
    rfl
  · exact (pss_cons (ps_ost (pv 0) (pv 1)) (pss_cons (ps_ost (pv 0) (pv 2)) pss_nil))
def adOf (l : List (Str × Addr)) (x : Str) : Addr := (l.lookup x).getD 0
theorem all_mk {h : Heap} {fa c0 c1 c2 c3 c4 c5 c6 c7 c8 c9 c10 c11 c12 c13 c14 i1 i2 i3 i4 i5 i6 i7 i8 i9 i10 i11 i12 f0 f1 f2 f3 f4 f5 f6 f7 : Addr}
    {nm1 qn1 : Str} {N1 : Addr} {bs1 bm1 sub1 : List Value} {sn1 : List Str} {ab1 : Bool} {col1 : Option Bool} {dd1 : Option Addr} {u1 v1 x1 y1 z1 : Option Value}
    {oci1 kVi1 dci1 pmi1 cdi1 cti1 : Value} {odi1 ani1 : Option Addr} {sli1 : Array (Option Value)}
    {nm2 qn2 : Str} {N2 : Addr} {bs2 bm2 sub2 : List Value} {sn2 : List Str} {ab2 : Bool} {col2 : Option Bool} {dd2 : Option Addr} {u2 v2 x2 y2 z2 : Option Value}
    {oci2 kVi2 dci2 pmi2 cdi2 cti2 : Value} {odi2 ani2 : Option Addr} {sli2 : Array (Option Value)}
    {nm3 qn3 : Str} {N3 : Addr} {bs3 bm3 sub3 : List Value} {sn3 : List Str} {ab3 : Bool} {col3 : Option Bool} {dd3 : Option Addr} {u3 v3 x3 y3 z3 : Option Value}
    {oci3 kVi3 dci3 pmi3 cdi3 cti3 : Value} {odi3 ani3 : Option Addr} {sli3 : Array (Option Value)}
    {nm4 qn4 : Str} {N4 : Addr} {bs4 bm4 sub4 : List Value} {sn4 : List Str} {ab4 : Bool} {col4 : Option Bool} {dd4 : Option Addr} {u4 v4 x4 y4 z4 : Option Value}
    {oci4 kVi4 dci4 pmi4 cdi4 cti4 : Value} {odi4 ani4 : Option Addr} {sli4 : Array (Option Value)}
    {nm5 qn5 : Str} {N5 : Addr} {bs5 bm5 sub5 : List Value} {sn5 : List Str} {ab5 : Bool} {col5 : Option Bool} {dd5 : Option Addr} {u5 v5 x5 y5 z5 : Option Value}
    {oci5 kVi5 dci5 pmi5 cdi5 cti5 : Value} {odi5 ani5 : Option Addr} {sli5 : Array (Option Value)}
    {nm6 qn6 : Str} {N6 : Addr} {bs6 bm6 sub6 : List Value} {sn6 : List Str} {ab6 : Bool} {col6 : Option Bool} {dd6 : Option Addr} {u6 v6 x6 y6 z6 : Option Value}
    {oci6 kVi6 dci6 pmi6 cdi6 cti6 : Value} {odi6 ani6 : Option Addr} {sli6 : Array (Option Value)}
    {nm7 qn7 : Str} {N7 : Addr} {bs7 bm7 sub7 : List Value} {sn7 : List Str} {ab7 : Bool} {col7 : Option Bool} {dd7 : Option Addr} {u7 v7 x7 y7 z7 : Option Value}
    {oci7 kVi7 dci7 pmi7 cdi7 cti7 : Value} {odi7 ani7 : Option Addr} {sli7 : Array (Option Value)}
    {nm8 qn8 : Str} {N8 : Addr} {bs8 bm8 sub8 : List Value} {sn8 : List Str} {ab8 : Bool} {col8 : Option Bool} {dd8 : Option Addr} {u8 v8 x8 y8 z8 : Option Value}
    {oci8 kVi8 dci8 pmi8 cdi8 cti8 : Value} {odi8 ani8 : Option Addr} {sli8 : Array (Option Value)}
    {nm9 qn9 : Str} {N9 : Addr} {bs9 bm9 sub9 : List Value} {sn9 : List Str} {ab9 : Bool} {col9 : Option Bool} {dd9 : Option Addr} {u9 v9 x9 y9 z9 : Option Value}
    {oci9 kVi9 dci9 pmi9 cdi9 cti9 : Value} {odi9 ani9 : Option Addr} {sli9 : Array (Option Value)}
    {nm10 qn10 : Str} {N10 : Addr} {bs10 bm10 sub10 : List Value} {sn10 : List Str} {ab10 : Bool} {col10 : Option Bool} {dd10 : Option Addr} {u10 v10 x10 y10 z10 : Option Value}
    {oci10 kVi10 dci10 pmi10 cdi10 cti10 : Value} {odi10 ani10 : Option Addr} {sli10 : Array (Option Value)}
    {nm11 qn11 : Str} {N11 : Addr} {bs11 bm11 sub11 : List Value} {sn11 : List Str} {ab11 : Bool} {col11 : Option Bool} {dd11 : Option Addr} {u11 v11 x11 y11 z11 : Option Value}
    {oci11 kVi11 dci11 pmi11 cdi11 cti11 : Value} {odi11 ani11 : Option Addr} {sli11 : Array (Option Value)}
    {nm12 qn12 : Str} {N12 : Addr} {bs12 bm12 sub12 : List Value} {sn12 : List Str} {ab12 : Bool} {col12 : Option Bool} {dd12 : Option Addr} {u12 v12 x12 y12 z12 : Option Value}
    {oci12 kVi12 dci12 pmi12 cdi12 cti12 : Value} {odi12 ani12 : Option Addr} {sli12 : Array (Option Value)}
    {nm13 qn13 : Str} {N13 : Addr} {bs13 bm13 sub13 : List Value} {sn13 : List Str} {ab13 : Bool} {col13 : Option Bool} {dd13 : Option Addr} {u13 v13 x13 y13 z13 : Option Value}
    {nm14 qn14 : Str} {N14 : Addr} {bs14 bm14 sub14 : List Value} {sn14 : List Str} {ab14 : Bool} {col14 : Option Bool} {dd14 : Option Addr} {u14 v14 x14 y14 z14 : Option Value}
    {ocf0 kVf0 dcf0 pmf0 cdf0 ctf0 : Value} {odf0 anf0 : Option Addr} {slf0 : Array (Option Value)}
    {ocf1 kVf1 dcf1 pmf1 cdf1 ctf1 : Value} {odf1 anf1 : Option Addr} {slf1 : Array (Option Value)}
    {ocf2 kVf2 dcf2 pmf2 cdf2 ctf2 : Value} {odf2 anf2 : Option Addr} {slf2 : Array (Option Value)}
    {ocf3 kVf3 dcf3 pmf3 cdf3 ctf3 : Value} {odf3 anf3 : Option Addr} {slf3 : Array (Option Value)}
    {ocf4 kVf4 dcf4 pmf4 cdf4 ctf4 : Value} {odf4 anf4 : Option Addr} {slf4 : Array (Option Value)}
    {ocf5 kVf5 dcf5 pmf5 cdf5 ctf5 : Value} {odf5 anf5 : Option Addr} {slf5 : Array (Option Value)}
    {ocf6 kVf6 dcf6 pmf6 cdf6 ctf6 : Value} {odf6 anf6 : Option Addr} {slf6 : Array (Option Value)}
    {ocf7 kVf7 dcf7 pmf7 cdf7 ctf7 : Value} {odf7 anf7 : Option Addr} {slf7 : Array (Option Value)}
    (X : K.In h) (G : h.Ns mainGlobals mg) (hfa : mg "law" = some (.ref fa))
    (aC0 : PySem.W.nsIn K mainGlobals "DepositError" = some (some (.ref c0)))
    (aC1 : PySem.W.nsIn K mainGlobals "BadText" = some (some (.ref c1)))
    (aC2 : PySem.W.nsIn K mainGlobals "Misread" = some (some (.ref c2)))
    (aC3 : PySem.W.nsIn K mainGlobals "Misplaced" = some (some (.ref c3)))
    (aC4 : PySem.W.nsIn K mainGlobals "BadName" = some (some (.ref c4)))
    (aC5 : PySem.W.nsIn K mainGlobals "BadNumber" = some (some (.ref c5)))
    (aC6 : PySem.W.nsIn K mainGlobals "BadRow" = some (some (.ref c6)))
    (aC7 : PySem.W.nsIn K mainGlobals "NoName" = some (some (.ref c7)))
    (aC8 : PySem.W.nsIn K mainGlobals "TakenName" = some (some (.ref c8)))
    (aC9 : PySem.W.nsIn K mainGlobals "Unlike" = some (some (.ref c9)))
    (aC10 : PySem.W.nsIn K mainGlobals "NotThere" = some (some (.ref c10)))
    (aC11 : PySem.W.nsIn K mainGlobals "TooMany" = some (some (.ref c11)))
    (aC12 : PySem.W.nsIn K mainGlobals "NotKept" = some (some (.ref c12)))
    (aC13 : PySem.W.nsIn K mainGlobals "NothingToUndo" = some (some (.ref c13)))
    (aC14 : PySem.W.nsIn K mainGlobals "NothingToRedo" = some (some (.ref c14)))
    (xL1 : K.lookup c1 = some (excClassObj nm1 qn1 c1 N1 bs1 bm1 true sn1 sub1 ab1 col1 dd1 u1 v1 x1 y1 z1 "ValueError.__new__"))
    (rv1 : PySem.HandSPX.refsVE bm1 = true)
    (sa1 : PySem.W.findIn K (.ref c1) "__setattr__" = some (some (.builtin "object.__setattr__")))
    (ex1 : PySem.W.subIn K (.ref c1) (.type "BaseException") = some true)
    (ty1 : PySem.W.typeIn K (.ref c1) = some (.type "type"))
    (kp1 : PySem.W.keepIn K (.ref c1) = true)
    (ga1 : PySem.W.findIn K (.ref c1) "__getattribute__" = some (some (.builtin "BaseException.__getattribute__")))
    (gg1 : PySem.W.findIn K (.ref c1) "__getattr__" = some none)
    (hd1 : PySem.W.hasDictIn K c1 = true)
    (ca1 : PySem.W.findIn K (.ref c1) "__class__" = some (some (.builtin "object.__class__")))
    (mo1 : PySem.W.mroIn K c1 (.type "object") = some true)
    (no1line : PySem.W.findIn K (.ref c1) "line" = some none)
    (no1word : PySem.W.findIn K (.ref c1) "word" = some none)
    (ai1 : PySem.W.findIn K (.ref c1) "__init__" = some (some (.ref i1)))
    (ti1 : PySem.W.typeIn K (.ref i1) = some (.type "function"))
    (li1 : K.lookup i1 = some ⟨oci1, odi1, .func (PySem.W.fnOf "__init__" "BadText.__init__" (defArgs (inClass (top 2) 0)) (defBody (inClass (top 2) 0)) (defScope (inClass (top 2) 0)) .none kVi1 dci1 pmi1 ani1 cdi1 cti1), sli1⟩)
    (di1 : PySem.W.codeIn K cdi1 "BadText.__init__" = true)
    (ki1 : PySem.W.keepIn K (.ref i1) = true)
    (xL2 : K.lookup c2 = some (excClassObj nm2 qn2 c2 N2 bs2 bm2 true sn2 sub2 ab2 col2 dd2 u2 v2 x2 y2 z2 "ValueError.__new__"))
    (rv2 : PySem.HandSPX.refsVE bm2 = true)
    (sa2 : PySem.W.findIn K (.ref c2) "__setattr__" = some (some (.builtin "object.__setattr__")))
    (ex2 : PySem.W.subIn K (.ref c2) (.type "BaseException") = some true)
    (ty2 : PySem.W.typeIn K (.ref c2) = some (.type "type"))
    (kp2 : PySem.W.keepIn K (.ref c2) = true)
    (ga2 : PySem.W.findIn K (.ref c2) "__getattribute__" = some (some (.builtin "BaseException.__getattribute__")))
    (gg2 : PySem.W.findIn K (.ref c2) "__getattr__" = some none)
    (hd2 : PySem.W.hasDictIn K c2 = true)
    (ca2 : PySem.W.findIn K (.ref c2) "__class__" = some (some (.builtin "object.__class__")))
    (mo2 : PySem.W.mroIn K c2 (.type "object") = some true)
    (no2line : PySem.W.findIn K (.ref c2) "line" = some none)
    (no2column : PySem.W.findIn K (.ref c2) "column" = some none)
    (ai2 : PySem.W.findIn K (.ref c2) "__init__" = some (some (.ref i2)))
    (ti2 : PySem.W.typeIn K (.ref i2) = some (.type "function"))
    (li2 : K.lookup i2 = some ⟨oci2, odi2, .func (PySem.W.fnOf "__init__" "Misread.__init__" (defArgs (inClass (top 3) 0)) (defBody (inClass (top 3) 0)) (defScope (inClass (top 3) 0)) .none kVi2 dci2 pmi2 ani2 cdi2 cti2), sli2⟩)
    (di2 : PySem.W.codeIn K cdi2 "Misread.__init__" = true)
    (ki2 : PySem.W.keepIn K (.ref i2) = true)
    (xL3 : K.lookup c3 = some (excClassObj nm3 qn3 c3 N3 bs3 bm3 true sn3 sub3 ab3 col3 dd3 u3 v3 x3 y3 z3 "ValueError.__new__"))
    (rv3 : PySem.HandSPX.refsVE bm3 = true)
    (sa3 : PySem.W.findIn K (.ref c3) "__setattr__" = some (some (.builtin "object.__setattr__")))
    (ex3 : PySem.W.subIn K (.ref c3) (.type "BaseException") = some true)
    (ty3 : PySem.W.typeIn K (.ref c3) = some (.type "type"))
    (kp3 : PySem.W.keepIn K (.ref c3) = true)
    (ga3 : PySem.W.findIn K (.ref c3) "__getattribute__" = some (some (.builtin "BaseException.__getattribute__")))
    (gg3 : PySem.W.findIn K (.ref c3) "__getattr__" = some none)
    (hd3 : PySem.W.hasDictIn K c3 = true)
    (ca3 : PySem.W.findIn K (.ref c3) "__class__" = some (some (.builtin "object.__class__")))
    (mo3 : PySem.W.mroIn K c3 (.type "object") = some true)
    (no3line : PySem.W.findIn K (.ref c3) "line" = some none)
    (no3column : PySem.W.findIn K (.ref c3) "column" = some none)
    (no3why : PySem.W.findIn K (.ref c3) "why" = some none)
    (no3name : PySem.W.findIn K (.ref c3) "name" = some none)
    (ai3 : PySem.W.findIn K (.ref c3) "__init__" = some (some (.ref i3)))
    (ti3 : PySem.W.typeIn K (.ref i3) = some (.type "function"))
    (li3 : K.lookup i3 = some ⟨oci3, odi3, .func (PySem.W.fnOf "__init__" "Misplaced.__init__" (defArgs (inClass (top 4) 0)) (defBody (inClass (top 4) 0)) (defScope (inClass (top 4) 0)) .none kVi3 dci3 pmi3 ani3 cdi3 cti3), sli3⟩)
    (di3 : PySem.W.codeIn K cdi3 "Misplaced.__init__" = true)
    (ki3 : PySem.W.keepIn K (.ref i3) = true)
    (xL4 : K.lookup c4 = some (excClassObj nm4 qn4 c4 N4 bs4 bm4 true sn4 sub4 ab4 col4 dd4 u4 v4 x4 y4 z4 "ValueError.__new__"))
    (rv4 : PySem.HandSPX.refsVE bm4 = true)
    (sa4 : PySem.W.findIn K (.ref c4) "__setattr__" = some (some (.builtin "object.__setattr__")))
    (ex4 : PySem.W.subIn K (.ref c4) (.type "BaseException") = some true)
    (ty4 : PySem.W.typeIn K (.ref c4) = some (.type "type"))
    (kp4 : PySem.W.keepIn K (.ref c4) = true)
    (ga4 : PySem.W.findIn K (.ref c4) "__getattribute__" = some (some (.builtin "BaseException.__getattribute__")))
    (gg4 : PySem.W.findIn K (.ref c4) "__getattr__" = some none)
    (hd4 : PySem.W.hasDictIn K c4 = true)
    (ca4 : PySem.W.findIn K (.ref c4) "__class__" = some (some (.builtin "object.__class__")))
    (mo4 : PySem.W.mroIn K c4 (.type "object") = some true)
    (no4name : PySem.W.findIn K (.ref c4) "name" = some none)
    (ai4 : PySem.W.findIn K (.ref c4) "__init__" = some (some (.ref i4)))
    (ti4 : PySem.W.typeIn K (.ref i4) = some (.type "function"))
    (li4 : K.lookup i4 = some ⟨oci4, odi4, .func (PySem.W.fnOf "__init__" "BadName.__init__" (defArgs (inClass (top 5) 0)) (defBody (inClass (top 5) 0)) (defScope (inClass (top 5) 0)) .none kVi4 dci4 pmi4 ani4 cdi4 cti4), sli4⟩)
    (di4 : PySem.W.codeIn K cdi4 "BadName.__init__" = true)
    (ki4 : PySem.W.keepIn K (.ref i4) = true)
    (xL5 : K.lookup c5 = some (excClassObj nm5 qn5 c5 N5 bs5 bm5 true sn5 sub5 ab5 col5 dd5 u5 v5 x5 y5 z5 "ValueError.__new__"))
    (rv5 : PySem.HandSPX.refsVE bm5 = true)
    (sa5 : PySem.W.findIn K (.ref c5) "__setattr__" = some (some (.builtin "object.__setattr__")))
    (ex5 : PySem.W.subIn K (.ref c5) (.type "BaseException") = some true)
    (ty5 : PySem.W.typeIn K (.ref c5) = some (.type "type"))
    (kp5 : PySem.W.keepIn K (.ref c5) = true)
    (ga5 : PySem.W.findIn K (.ref c5) "__getattribute__" = some (some (.builtin "BaseException.__getattribute__")))
    (gg5 : PySem.W.findIn K (.ref c5) "__getattr__" = some none)
    (hd5 : PySem.W.hasDictIn K c5 = true)
    (ca5 : PySem.W.findIn K (.ref c5) "__class__" = some (some (.builtin "object.__class__")))
    (mo5 : PySem.W.mroIn K c5 (.type "object") = some true)
    (no5what : PySem.W.findIn K (.ref c5) "what" = some none)
    (no5number : PySem.W.findIn K (.ref c5) "number" = some none)
    (ai5 : PySem.W.findIn K (.ref c5) "__init__" = some (some (.ref i5)))
    (ti5 : PySem.W.typeIn K (.ref i5) = some (.type "function"))
    (li5 : K.lookup i5 = some ⟨oci5, odi5, .func (PySem.W.fnOf "__init__" "BadNumber.__init__" (defArgs (inClass (top 6) 0)) (defBody (inClass (top 6) 0)) (defScope (inClass (top 6) 0)) .none kVi5 dci5 pmi5 ani5 cdi5 cti5), sli5⟩)
    (di5 : PySem.W.codeIn K cdi5 "BadNumber.__init__" = true)
    (ki5 : PySem.W.keepIn K (.ref i5) = true)
    (xL6 : K.lookup c6 = some (excClassObj nm6 qn6 c6 N6 bs6 bm6 true sn6 sub6 ab6 col6 dd6 u6 v6 x6 y6 z6 "ValueError.__new__"))
    (rv6 : PySem.HandSPX.refsVE bm6 = true)
    (sa6 : PySem.W.findIn K (.ref c6) "__setattr__" = some (some (.builtin "object.__setattr__")))
    (ex6 : PySem.W.subIn K (.ref c6) (.type "BaseException") = some true)
    (ty6 : PySem.W.typeIn K (.ref c6) = some (.type "type"))
    (kp6 : PySem.W.keepIn K (.ref c6) = true)
    (ga6 : PySem.W.findIn K (.ref c6) "__getattribute__" = some (some (.builtin "BaseException.__getattribute__")))
    (gg6 : PySem.W.findIn K (.ref c6) "__getattr__" = some none)
    (hd6 : PySem.W.hasDictIn K c6 = true)
    (ca6 : PySem.W.findIn K (.ref c6) "__class__" = some (some (.builtin "object.__class__")))
    (mo6 : PySem.W.mroIn K c6 (.type "object") = some true)
    (no6what : PySem.W.findIn K (.ref c6) "what" = some none)
    (no6row : PySem.W.findIn K (.ref c6) "row" = some none)
    (ai6 : PySem.W.findIn K (.ref c6) "__init__" = some (some (.ref i6)))
    (ti6 : PySem.W.typeIn K (.ref i6) = some (.type "function"))
    (li6 : K.lookup i6 = some ⟨oci6, odi6, .func (PySem.W.fnOf "__init__" "BadRow.__init__" (defArgs (inClass (top 7) 0)) (defBody (inClass (top 7) 0)) (defScope (inClass (top 7) 0)) .none kVi6 dci6 pmi6 ani6 cdi6 cti6), sli6⟩)
    (di6 : PySem.W.codeIn K cdi6 "BadRow.__init__" = true)
    (ki6 : PySem.W.keepIn K (.ref i6) = true)
    (xL7 : K.lookup c7 = some (excClassObj nm7 qn7 c7 N7 bs7 bm7 true sn7 sub7 ab7 col7 dd7 u7 v7 x7 y7 z7 "ValueError.__new__"))
    (rv7 : PySem.HandSPX.refsVE bm7 = true)
    (sa7 : PySem.W.findIn K (.ref c7) "__setattr__" = some (some (.builtin "object.__setattr__")))
    (ex7 : PySem.W.subIn K (.ref c7) (.type "BaseException") = some true)
    (ty7 : PySem.W.typeIn K (.ref c7) = some (.type "type"))
    (kp7 : PySem.W.keepIn K (.ref c7) = true)
    (ga7 : PySem.W.findIn K (.ref c7) "__getattribute__" = some (some (.builtin "BaseException.__getattribute__")))
    (gg7 : PySem.W.findIn K (.ref c7) "__getattr__" = some none)
    (hd7 : PySem.W.hasDictIn K c7 = true)
    (ca7 : PySem.W.findIn K (.ref c7) "__class__" = some (some (.builtin "object.__class__")))
    (mo7 : PySem.W.mroIn K c7 (.type "object") = some true)
    (no7name : PySem.W.findIn K (.ref c7) "name" = some none)
    (ai7 : PySem.W.findIn K (.ref c7) "__init__" = some (some (.ref i7)))
    (ti7 : PySem.W.typeIn K (.ref i7) = some (.type "function"))
    (li7 : K.lookup i7 = some ⟨oci7, odi7, .func (PySem.W.fnOf "__init__" "NoName.__init__" (defArgs (inClass (top 8) 0)) (defBody (inClass (top 8) 0)) (defScope (inClass (top 8) 0)) .none kVi7 dci7 pmi7 ani7 cdi7 cti7), sli7⟩)
    (di7 : PySem.W.codeIn K cdi7 "NoName.__init__" = true)
    (ki7 : PySem.W.keepIn K (.ref i7) = true)
    (xL8 : K.lookup c8 = some (excClassObj nm8 qn8 c8 N8 bs8 bm8 true sn8 sub8 ab8 col8 dd8 u8 v8 x8 y8 z8 "ValueError.__new__"))
    (rv8 : PySem.HandSPX.refsVE bm8 = true)
    (sa8 : PySem.W.findIn K (.ref c8) "__setattr__" = some (some (.builtin "object.__setattr__")))
    (ex8 : PySem.W.subIn K (.ref c8) (.type "BaseException") = some true)
    (ty8 : PySem.W.typeIn K (.ref c8) = some (.type "type"))
    (kp8 : PySem.W.keepIn K (.ref c8) = true)
    (ga8 : PySem.W.findIn K (.ref c8) "__getattribute__" = some (some (.builtin "BaseException.__getattribute__")))
    (gg8 : PySem.W.findIn K (.ref c8) "__getattr__" = some none)
    (hd8 : PySem.W.hasDictIn K c8 = true)
    (ca8 : PySem.W.findIn K (.ref c8) "__class__" = some (some (.builtin "object.__class__")))
    (mo8 : PySem.W.mroIn K c8 (.type "object") = some true)
    (no8name : PySem.W.findIn K (.ref c8) "name" = some none)
    (ai8 : PySem.W.findIn K (.ref c8) "__init__" = some (some (.ref i8)))
    (ti8 : PySem.W.typeIn K (.ref i8) = some (.type "function"))
    (li8 : K.lookup i8 = some ⟨oci8, odi8, .func (PySem.W.fnOf "__init__" "TakenName.__init__" (defArgs (inClass (top 9) 0)) (defBody (inClass (top 9) 0)) (defScope (inClass (top 9) 0)) .none kVi8 dci8 pmi8 ani8 cdi8 cti8), sli8⟩)
    (di8 : PySem.W.codeIn K cdi8 "TakenName.__init__" = true)
    (ki8 : PySem.W.keepIn K (.ref i8) = true)
    (xL9 : K.lookup c9 = some (excClassObj nm9 qn9 c9 N9 bs9 bm9 true sn9 sub9 ab9 col9 dd9 u9 v9 x9 y9 z9 "ValueError.__new__"))
    (rv9 : PySem.HandSPX.refsVE bm9 = true)
    (sa9 : PySem.W.findIn K (.ref c9) "__setattr__" = some (some (.builtin "object.__setattr__")))
    (ex9 : PySem.W.subIn K (.ref c9) (.type "BaseException") = some true)
    (ty9 : PySem.W.typeIn K (.ref c9) = some (.type "type"))
    (kp9 : PySem.W.keepIn K (.ref c9) = true)
    (ga9 : PySem.W.findIn K (.ref c9) "__getattribute__" = some (some (.builtin "BaseException.__getattribute__")))
    (gg9 : PySem.W.findIn K (.ref c9) "__getattr__" = some none)
    (hd9 : PySem.W.hasDictIn K c9 = true)
    (ca9 : PySem.W.findIn K (.ref c9) "__class__" = some (some (.builtin "object.__class__")))
    (mo9 : PySem.W.mroIn K c9 (.type "object") = some true)
    (no9what : PySem.W.findIn K (.ref c9) "what" = some none)
    (ai9 : PySem.W.findIn K (.ref c9) "__init__" = some (some (.ref i9)))
    (ti9 : PySem.W.typeIn K (.ref i9) = some (.type "function"))
    (li9 : K.lookup i9 = some ⟨oci9, odi9, .func (PySem.W.fnOf "__init__" "Unlike.__init__" (defArgs (inClass (top 10) 0)) (defBody (inClass (top 10) 0)) (defScope (inClass (top 10) 0)) .none kVi9 dci9 pmi9 ani9 cdi9 cti9), sli9⟩)
    (di9 : PySem.W.codeIn K cdi9 "Unlike.__init__" = true)
    (ki9 : PySem.W.keepIn K (.ref i9) = true)
    (xL10 : K.lookup c10 = some (excClassObj nm10 qn10 c10 N10 bs10 bm10 true sn10 sub10 ab10 col10 dd10 u10 v10 x10 y10 z10 "ValueError.__new__"))
    (rv10 : PySem.HandSPX.refsVE bm10 = true)
    (sa10 : PySem.W.findIn K (.ref c10) "__setattr__" = some (some (.builtin "object.__setattr__")))
    (ex10 : PySem.W.subIn K (.ref c10) (.type "BaseException") = some true)
    (ty10 : PySem.W.typeIn K (.ref c10) = some (.type "type"))
    (kp10 : PySem.W.keepIn K (.ref c10) = true)
    (ga10 : PySem.W.findIn K (.ref c10) "__getattribute__" = some (some (.builtin "BaseException.__getattribute__")))
    (gg10 : PySem.W.findIn K (.ref c10) "__getattr__" = some none)
    (hd10 : PySem.W.hasDictIn K c10 = true)
    (ca10 : PySem.W.findIn K (.ref c10) "__class__" = some (some (.builtin "object.__class__")))
    (mo10 : PySem.W.mroIn K c10 (.type "object") = some true)
    (no10what : PySem.W.findIn K (.ref c10) "what" = some none)
    (ai10 : PySem.W.findIn K (.ref c10) "__init__" = some (some (.ref i10)))
    (ti10 : PySem.W.typeIn K (.ref i10) = some (.type "function"))
    (li10 : K.lookup i10 = some ⟨oci10, odi10, .func (PySem.W.fnOf "__init__" "NotThere.__init__" (defArgs (inClass (top 11) 0)) (defBody (inClass (top 11) 0)) (defScope (inClass (top 11) 0)) .none kVi10 dci10 pmi10 ani10 cdi10 cti10), sli10⟩)
    (di10 : PySem.W.codeIn K cdi10 "NotThere.__init__" = true)
    (ki10 : PySem.W.keepIn K (.ref i10) = true)
    (xL11 : K.lookup c11 = some (excClassObj nm11 qn11 c11 N11 bs11 bm11 true sn11 sub11 ab11 col11 dd11 u11 v11 x11 y11 z11 "ValueError.__new__"))
    (rv11 : PySem.HandSPX.refsVE bm11 = true)
    (sa11 : PySem.W.findIn K (.ref c11) "__setattr__" = some (some (.builtin "object.__setattr__")))
    (ex11 : PySem.W.subIn K (.ref c11) (.type "BaseException") = some true)
    (ty11 : PySem.W.typeIn K (.ref c11) = some (.type "type"))
    (kp11 : PySem.W.keepIn K (.ref c11) = true)
    (ga11 : PySem.W.findIn K (.ref c11) "__getattribute__" = some (some (.builtin "BaseException.__getattribute__")))
    (gg11 : PySem.W.findIn K (.ref c11) "__getattr__" = some none)
    (hd11 : PySem.W.hasDictIn K c11 = true)
    (ca11 : PySem.W.findIn K (.ref c11) "__class__" = some (some (.builtin "object.__class__")))
    (mo11 : PySem.W.mroIn K c11 (.type "object") = some true)
    (no11what : PySem.W.findIn K (.ref c11) "what" = some none)
    (no11many : PySem.W.findIn K (.ref c11) "many" = some none)
    (no11limit : PySem.W.findIn K (.ref c11) "limit" = some none)
    (ai11 : PySem.W.findIn K (.ref c11) "__init__" = some (some (.ref i11)))
    (ti11 : PySem.W.typeIn K (.ref i11) = some (.type "function"))
    (li11 : K.lookup i11 = some ⟨oci11, odi11, .func (PySem.W.fnOf "__init__" "TooMany.__init__" (defArgs (inClass (top 12) 0)) (defBody (inClass (top 12) 0)) (defScope (inClass (top 12) 0)) .none kVi11 dci11 pmi11 ani11 cdi11 cti11), sli11⟩)
    (di11 : PySem.W.codeIn K cdi11 "TooMany.__init__" = true)
    (ki11 : PySem.W.keepIn K (.ref i11) = true)
    (xL12 : K.lookup c12 = some (excClassObj nm12 qn12 c12 N12 bs12 bm12 true sn12 sub12 ab12 col12 dd12 u12 v12 x12 y12 z12 "ValueError.__new__"))
    (rv12 : PySem.HandSPX.refsVE bm12 = true)
    (sa12 : PySem.W.findIn K (.ref c12) "__setattr__" = some (some (.builtin "object.__setattr__")))
    (ex12 : PySem.W.subIn K (.ref c12) (.type "BaseException") = some true)
    (ty12 : PySem.W.typeIn K (.ref c12) = some (.type "type"))
    (kp12 : PySem.W.keepIn K (.ref c12) = true)
    (ga12 : PySem.W.findIn K (.ref c12) "__getattribute__" = some (some (.builtin "BaseException.__getattribute__")))
    (gg12 : PySem.W.findIn K (.ref c12) "__getattr__" = some none)
    (hd12 : PySem.W.hasDictIn K c12 = true)
    (ca12 : PySem.W.findIn K (.ref c12) "__class__" = some (some (.builtin "object.__class__")))
    (mo12 : PySem.W.mroIn K c12 (.type "object") = some true)
    (no12promise : PySem.W.findIn K (.ref c12) "promise" = some none)
    (no12witness : PySem.W.findIn K (.ref c12) "witness" = some none)
    (ai12 : PySem.W.findIn K (.ref c12) "__init__" = some (some (.ref i12)))
    (ti12 : PySem.W.typeIn K (.ref i12) = some (.type "function"))
    (li12 : K.lookup i12 = some ⟨oci12, odi12, .func (PySem.W.fnOf "__init__" "NotKept.__init__" (defArgs (inClass (top 13) 0)) (defBody (inClass (top 13) 0)) (defScope (inClass (top 13) 0)) .none kVi12 dci12 pmi12 ani12 cdi12 cti12), sli12⟩)
    (di12 : PySem.W.codeIn K cdi12 "NotKept.__init__" = true)
    (ki12 : PySem.W.keepIn K (.ref i12) = true)
    (xL13 : K.lookup c13 = some (excClassObj nm13 qn13 c13 N13 bs13 bm13 true sn13 sub13 ab13 col13 dd13 u13 v13 x13 y13 z13 "ValueError.__new__"))
    (rv13 : PySem.HandSPX.refsVE bm13 = true)
    (sa13 : PySem.W.findIn K (.ref c13) "__setattr__" = some (some (.builtin "object.__setattr__")))
    (ex13 : PySem.W.subIn K (.ref c13) (.type "BaseException") = some true)
    (ty13 : PySem.W.typeIn K (.ref c13) = some (.type "type"))
    (kp13 : PySem.W.keepIn K (.ref c13) = true)
    (ga13 : PySem.W.findIn K (.ref c13) "__getattribute__" = some (some (.builtin "BaseException.__getattribute__")))
    (gg13 : PySem.W.findIn K (.ref c13) "__getattr__" = some none)
    (hd13 : PySem.W.hasDictIn K c13 = true)
    (ca13 : PySem.W.findIn K (.ref c13) "__class__" = some (some (.builtin "object.__class__")))
    (mo13 : PySem.W.mroIn K c13 (.type "object") = some true)
    (e013 : PySem.W.excIn K c13 [.type "ValueError", .type "Exception", .type "BaseException", .type "object"] "ValueError.__new__" = true)
    (xL14 : K.lookup c14 = some (excClassObj nm14 qn14 c14 N14 bs14 bm14 true sn14 sub14 ab14 col14 dd14 u14 v14 x14 y14 z14 "ValueError.__new__"))
    (rv14 : PySem.HandSPX.refsVE bm14 = true)
    (sa14 : PySem.W.findIn K (.ref c14) "__setattr__" = some (some (.builtin "object.__setattr__")))
    (ex14 : PySem.W.subIn K (.ref c14) (.type "BaseException") = some true)
    (ty14 : PySem.W.typeIn K (.ref c14) = some (.type "type"))
    (kp14 : PySem.W.keepIn K (.ref c14) = true)
    (ga14 : PySem.W.findIn K (.ref c14) "__getattribute__" = some (some (.builtin "BaseException.__getattribute__")))
    (gg14 : PySem.W.findIn K (.ref c14) "__getattr__" = some none)
    (hd14 : PySem.W.hasDictIn K c14 = true)
    (ca14 : PySem.W.findIn K (.ref c14) "__class__" = some (some (.builtin "object.__class__")))
    (mo14 : PySem.W.mroIn K c14 (.type "object") = some true)
    (e014 : PySem.W.excIn K c14 [.type "ValueError", .type "Exception", .type "BaseException", .type "object"] "ValueError.__new__" = true)
    (s1_1 : PySem.W.kitOne K (.ref c1) (.ref c1) = some true)
    (s1_4 : PySem.W.kitOne K (.ref c1) (.ref c4) = some false)
    (s1_5 : PySem.W.kitOne K (.ref c1) (.ref c5) = some false)
    (s1_6 : PySem.W.kitOne K (.ref c1) (.ref c6) = some false)
    (s1_7 : PySem.W.kitOne K (.ref c1) (.ref c7) = some false)
    (s1_8 : PySem.W.kitOne K (.ref c1) (.ref c8) = some false)
    (s1_9 : PySem.W.kitOne K (.ref c1) (.ref c9) = some false)
    (s1_10 : PySem.W.kitOne K (.ref c1) (.ref c10) = some false)
    (s1_11 : PySem.W.kitOne K (.ref c1) (.ref c11) = some false)
    (s1_2 : PySem.W.kitOne K (.ref c1) (.ref c2) = some false)
    (s1_3 : PySem.W.kitOne K (.ref c1) (.ref c3) = some false)
    (s1_12 : PySem.W.kitOne K (.ref c1) (.ref c12) = some false)
    (s1_13 : PySem.W.kitOne K (.ref c1) (.ref c13) = some false)
    (s1_14 : PySem.W.kitOne K (.ref c1) (.ref c14) = some false)
    (d1 : PySem.W.kitOne K (.ref c1) (.ref c0) = some true)
    (w1 : PySem.W.kitOne K (.ref c1) (.type "ValueError") = some true)
    (s4_1 : PySem.W.kitOne K (.ref c4) (.ref c1) = some false)
    (s4_4 : PySem.W.kitOne K (.ref c4) (.ref c4) = some true)
    (s4_5 : PySem.W.kitOne K (.ref c4) (.ref c5) = some false)
    (s4_6 : PySem.W.kitOne K (.ref c4) (.ref c6) = some false)
    (s4_7 : PySem.W.kitOne K (.ref c4) (.ref c7) = some false)
    (s4_8 : PySem.W.kitOne K (.ref c4) (.ref c8) = some false)
    (s4_9 : PySem.W.kitOne K (.ref c4) (.ref c9) = some false)
    (s4_10 : PySem.W.kitOne K (.ref c4) (.ref c10) = some false)
    (s4_11 : PySem.W.kitOne K (.ref c4) (.ref c11) = some false)
    (s4_2 : PySem.W.kitOne K (.ref c4) (.ref c2) = some false)
    (s4_3 : PySem.W.kitOne K (.ref c4) (.ref c3) = some false)
    (s4_12 : PySem.W.kitOne K (.ref c4) (.ref c12) = some false)
    (s4_13 : PySem.W.kitOne K (.ref c4) (.ref c13) = some false)
    (s4_14 : PySem.W.kitOne K (.ref c4) (.ref c14) = some false)
    (d4 : PySem.W.kitOne K (.ref c4) (.ref c0) = some true)
    (w4 : PySem.W.kitOne K (.ref c4) (.type "ValueError") = some true)
    (s5_1 : PySem.W.kitOne K (.ref c5) (.ref c1) = some false)
    (s5_4 : PySem.W.kitOne K (.ref c5) (.ref c4) = some false)
    (s5_5 : PySem.W.kitOne K (.ref c5) (.ref c5) = some true)
    (s5_6 : PySem.W.kitOne K (.ref c5) (.ref c6) = some false)
    (s5_7 : PySem.W.kitOne K (.ref c5) (.ref c7) = some false)
    (s5_8 : PySem.W.kitOne K (.ref c5) (.ref c8) = some false)
    (s5_9 : PySem.W.kitOne K (.ref c5) (.ref c9) = some false)
    (s5_10 : PySem.W.kitOne K (.ref c5) (.ref c10) = some false)
    (s5_11 : PySem.W.kitOne K (.ref c5) (.ref c11) = some false)
    (s5_2 : PySem.W.kitOne K (.ref c5) (.ref c2) = some false)
    (s5_3 : PySem.W.kitOne K (.ref c5) (.ref c3) = some false)
    (s5_12 : PySem.W.kitOne K (.ref c5) (.ref c12) = some false)
    (s5_13 : PySem.W.kitOne K (.ref c5) (.ref c13) = some false)
    (s5_14 : PySem.W.kitOne K (.ref c5) (.ref c14) = some false)
    (d5 : PySem.W.kitOne K (.ref c5) (.ref c0) = some true)
    (w5 : PySem.W.kitOne K (.ref c5) (.type "ValueError") = some true)
    (s6_1 : PySem.W.kitOne K (.ref c6) (.ref c1) = some false)
    (s6_4 : PySem.W.kitOne K (.ref c6) (.ref c4) = some false)
    (s6_5 : PySem.W.kitOne K (.ref c6) (.ref c5) = some false)
    (s6_6 : PySem.W.kitOne K (.ref c6) (.ref c6) = some true)
    (s6_7 : PySem.W.kitOne K (.ref c6) (.ref c7) = some false)
    (s6_8 : PySem.W.kitOne K (.ref c6) (.ref c8) = some false)
    (s6_9 : PySem.W.kitOne K (.ref c6) (.ref c9) = some false)
    (s6_10 : PySem.W.kitOne K (.ref c6) (.ref c10) = some false)
    (s6_11 : PySem.W.kitOne K (.ref c6) (.ref c11) = some false)
    (s6_2 : PySem.W.kitOne K (.ref c6) (.ref c2) = some false)
    (s6_3 : PySem.W.kitOne K (.ref c6) (.ref c3) = some false)
    (s6_12 : PySem.W.kitOne K (.ref c6) (.ref c12) = some false)
    (s6_13 : PySem.W.kitOne K (.ref c6) (.ref c13) = some false)
    (s6_14 : PySem.W.kitOne K (.ref c6) (.ref c14) = some false)
    (d6 : PySem.W.kitOne K (.ref c6) (.ref c0) = some true)
    (w6 : PySem.W.kitOne K (.ref c6) (.type "ValueError") = some true)
    (s7_1 : PySem.W.kitOne K (.ref c7) (.ref c1) = some false)
    (s7_4 : PySem.W.kitOne K (.ref c7) (.ref c4) = some false)
    (s7_5 : PySem.W.kitOne K (.ref c7) (.ref c5) = some false)
    (s7_6 : PySem.W.kitOne K (.ref c7) (.ref c6) = some false)
    (s7_7 : PySem.W.kitOne K (.ref c7) (.ref c7) = some true)
    (s7_8 : PySem.W.kitOne K (.ref c7) (.ref c8) = some false)
    (s7_9 : PySem.W.kitOne K (.ref c7) (.ref c9) = some false)
    (s7_10 : PySem.W.kitOne K (.ref c7) (.ref c10) = some false)
    (s7_11 : PySem.W.kitOne K (.ref c7) (.ref c11) = some false)
    (s7_2 : PySem.W.kitOne K (.ref c7) (.ref c2) = some false)
    (s7_3 : PySem.W.kitOne K (.ref c7) (.ref c3) = some false)
    (s7_12 : PySem.W.kitOne K (.ref c7) (.ref c12) = some false)
    (s7_13 : PySem.W.kitOne K (.ref c7) (.ref c13) = some false)
    (s7_14 : PySem.W.kitOne K (.ref c7) (.ref c14) = some false)
    (d7 : PySem.W.kitOne K (.ref c7) (.ref c0) = some true)
    (w7 : PySem.W.kitOne K (.ref c7) (.type "ValueError") = some true)
    (s8_1 : PySem.W.kitOne K (.ref c8) (.ref c1) = some false)
    (s8_4 : PySem.W.kitOne K (.ref c8) (.ref c4) = some false)
    (s8_5 : PySem.W.kitOne K (.ref c8) (.ref c5) = some false)
    (s8_6 : PySem.W.kitOne K (.ref c8) (.ref c6) = some false)
    (s8_7 : PySem.W.kitOne K (.ref c8) (.ref c7) = some false)
    (s8_8 : PySem.W.kitOne K (.ref c8) (.ref c8) = some true)
    (s8_9 : PySem.W.kitOne K (.ref c8) (.ref c9) = some false)
    (s8_10 : PySem.W.kitOne K (.ref c8) (.ref c10) = some false)
    (s8_11 : PySem.W.kitOne K (.ref c8) (.ref c11) = some false)
    (s8_2 : PySem.W.kitOne K (.ref c8) (.ref c2) = some false)
    (s8_3 : PySem.W.kitOne K (.ref c8) (.ref c3) = some false)
    (s8_12 : PySem.W.kitOne K (.ref c8) (.ref c12) = some false)
    (s8_13 : PySem.W.kitOne K (.ref c8) (.ref c13) = some false)
    (s8_14 : PySem.W.kitOne K (.ref c8) (.ref c14) = some false)
    (d8 : PySem.W.kitOne K (.ref c8) (.ref c0) = some true)
    (w8 : PySem.W.kitOne K (.ref c8) (.type "ValueError") = some true)
    (s9_1 : PySem.W.kitOne K (.ref c9) (.ref c1) = some false)
    (s9_4 : PySem.W.kitOne K (.ref c9) (.ref c4) = some false)
    (s9_5 : PySem.W.kitOne K (.ref c9) (.ref c5) = some false)
    (s9_6 : PySem.W.kitOne K (.ref c9) (.ref c6) = some false)
    (s9_7 : PySem.W.kitOne K (.ref c9) (.ref c7) = some false)
    (s9_8 : PySem.W.kitOne K (.ref c9) (.ref c8) = some false)
    (s9_9 : PySem.W.kitOne K (.ref c9) (.ref c9) = some true)
    (s9_10 : PySem.W.kitOne K (.ref c9) (.ref c10) = some false)
    (s9_11 : PySem.W.kitOne K (.ref c9) (.ref c11) = some false)
    (s9_2 : PySem.W.kitOne K (.ref c9) (.ref c2) = some false)
    (s9_3 : PySem.W.kitOne K (.ref c9) (.ref c3) = some false)
    (s9_12 : PySem.W.kitOne K (.ref c9) (.ref c12) = some false)
    (s9_13 : PySem.W.kitOne K (.ref c9) (.ref c13) = some false)
    (s9_14 : PySem.W.kitOne K (.ref c9) (.ref c14) = some false)
    (d9 : PySem.W.kitOne K (.ref c9) (.ref c0) = some true)
    (w9 : PySem.W.kitOne K (.ref c9) (.type "ValueError") = some true)
    (s10_1 : PySem.W.kitOne K (.ref c10) (.ref c1) = some false)
    (s10_4 : PySem.W.kitOne K (.ref c10) (.ref c4) = some false)
    (s10_5 : PySem.W.kitOne K (.ref c10) (.ref c5) = some false)
    (s10_6 : PySem.W.kitOne K (.ref c10) (.ref c6) = some false)
    (s10_7 : PySem.W.kitOne K (.ref c10) (.ref c7) = some false)
    (s10_8 : PySem.W.kitOne K (.ref c10) (.ref c8) = some false)
    (s10_9 : PySem.W.kitOne K (.ref c10) (.ref c9) = some false)
    (s10_10 : PySem.W.kitOne K (.ref c10) (.ref c10) = some true)
    (s10_11 : PySem.W.kitOne K (.ref c10) (.ref c11) = some false)
    (s10_2 : PySem.W.kitOne K (.ref c10) (.ref c2) = some false)
    (s10_3 : PySem.W.kitOne K (.ref c10) (.ref c3) = some false)
    (s10_12 : PySem.W.kitOne K (.ref c10) (.ref c12) = some false)
    (s10_13 : PySem.W.kitOne K (.ref c10) (.ref c13) = some false)
    (s10_14 : PySem.W.kitOne K (.ref c10) (.ref c14) = some false)
    (d10 : PySem.W.kitOne K (.ref c10) (.ref c0) = some true)
    (w10 : PySem.W.kitOne K (.ref c10) (.type "ValueError") = some true)
    (s11_1 : PySem.W.kitOne K (.ref c11) (.ref c1) = some false)
    (s11_4 : PySem.W.kitOne K (.ref c11) (.ref c4) = some false)
    (s11_5 : PySem.W.kitOne K (.ref c11) (.ref c5) = some false)
    (s11_6 : PySem.W.kitOne K (.ref c11) (.ref c6) = some false)
    (s11_7 : PySem.W.kitOne K (.ref c11) (.ref c7) = some false)
    (s11_8 : PySem.W.kitOne K (.ref c11) (.ref c8) = some false)
    (s11_9 : PySem.W.kitOne K (.ref c11) (.ref c9) = some false)
    (s11_10 : PySem.W.kitOne K (.ref c11) (.ref c10) = some false)
    (s11_11 : PySem.W.kitOne K (.ref c11) (.ref c11) = some true)
    (s11_2 : PySem.W.kitOne K (.ref c11) (.ref c2) = some false)
    (s11_3 : PySem.W.kitOne K (.ref c11) (.ref c3) = some false)
    (s11_12 : PySem.W.kitOne K (.ref c11) (.ref c12) = some false)
    (s11_13 : PySem.W.kitOne K (.ref c11) (.ref c13) = some false)
    (s11_14 : PySem.W.kitOne K (.ref c11) (.ref c14) = some false)
    (d11 : PySem.W.kitOne K (.ref c11) (.ref c0) = some true)
    (w11 : PySem.W.kitOne K (.ref c11) (.type "ValueError") = some true)
    (s2_1 : PySem.W.kitOne K (.ref c2) (.ref c1) = some false)
    (s2_4 : PySem.W.kitOne K (.ref c2) (.ref c4) = some false)
    (s2_5 : PySem.W.kitOne K (.ref c2) (.ref c5) = some false)
    (s2_6 : PySem.W.kitOne K (.ref c2) (.ref c6) = some false)
    (s2_7 : PySem.W.kitOne K (.ref c2) (.ref c7) = some false)
    (s2_8 : PySem.W.kitOne K (.ref c2) (.ref c8) = some false)
    (s2_9 : PySem.W.kitOne K (.ref c2) (.ref c9) = some false)
    (s2_10 : PySem.W.kitOne K (.ref c2) (.ref c10) = some false)
    (s2_11 : PySem.W.kitOne K (.ref c2) (.ref c11) = some false)
    (s2_2 : PySem.W.kitOne K (.ref c2) (.ref c2) = some true)
    (s2_3 : PySem.W.kitOne K (.ref c2) (.ref c3) = some false)
    (s2_12 : PySem.W.kitOne K (.ref c2) (.ref c12) = some false)
    (s2_13 : PySem.W.kitOne K (.ref c2) (.ref c13) = some false)
    (s2_14 : PySem.W.kitOne K (.ref c2) (.ref c14) = some false)
    (d2 : PySem.W.kitOne K (.ref c2) (.ref c0) = some true)
    (w2 : PySem.W.kitOne K (.ref c2) (.type "ValueError") = some true)
    (s3_1 : PySem.W.kitOne K (.ref c3) (.ref c1) = some false)
    (s3_4 : PySem.W.kitOne K (.ref c3) (.ref c4) = some false)
    (s3_5 : PySem.W.kitOne K (.ref c3) (.ref c5) = some false)
    (s3_6 : PySem.W.kitOne K (.ref c3) (.ref c6) = some false)
    (s3_7 : PySem.W.kitOne K (.ref c3) (.ref c7) = some false)
    (s3_8 : PySem.W.kitOne K (.ref c3) (.ref c8) = some false)
    (s3_9 : PySem.W.kitOne K (.ref c3) (.ref c9) = some false)
    (s3_10 : PySem.W.kitOne K (.ref c3) (.ref c10) = some false)
    (s3_11 : PySem.W.kitOne K (.ref c3) (.ref c11) = some false)
    (s3_2 : PySem.W.kitOne K (.ref c3) (.ref c2) = some false)
    (s3_3 : PySem.W.kitOne K (.ref c3) (.ref c3) = some true)
    (s3_12 : PySem.W.kitOne K (.ref c3) (.ref c12) = some false)
    (s3_13 : PySem.W.kitOne K (.ref c3) (.ref c13) = some false)
    (s3_14 : PySem.W.kitOne K (.ref c3) (.ref c14) = some false)
    (d3 : PySem.W.kitOne K (.ref c3) (.ref c0) = some true)
    (w3 : PySem.W.kitOne K (.ref c3) (.type "ValueError") = some true)
    (s12_1 : PySem.W.kitOne K (.ref c12) (.ref c1) = some false)
    (s12_4 : PySem.W.kitOne K (.ref c12) (.ref c4) = some false)
    (s12_5 : PySem.W.kitOne K (.ref c12) (.ref c5) = some false)
    (s12_6 : PySem.W.kitOne K (.ref c12) (.ref c6) = some false)
    (s12_7 : PySem.W.kitOne K (.ref c12) (.ref c7) = some false)
    (s12_8 : PySem.W.kitOne K (.ref c12) (.ref c8) = some false)
    (s12_9 : PySem.W.kitOne K (.ref c12) (.ref c9) = some false)
    (s12_10 : PySem.W.kitOne K (.ref c12) (.ref c10) = some false)
    (s12_11 : PySem.W.kitOne K (.ref c12) (.ref c11) = some false)
    (s12_2 : PySem.W.kitOne K (.ref c12) (.ref c2) = some false)
    (s12_3 : PySem.W.kitOne K (.ref c12) (.ref c3) = some false)
    (s12_12 : PySem.W.kitOne K (.ref c12) (.ref c12) = some true)
    (s12_13 : PySem.W.kitOne K (.ref c12) (.ref c13) = some false)
    (s12_14 : PySem.W.kitOne K (.ref c12) (.ref c14) = some false)
    (d12 : PySem.W.kitOne K (.ref c12) (.ref c0) = some true)
    (w12 : PySem.W.kitOne K (.ref c12) (.type "ValueError") = some true)
    (s13_1 : PySem.W.kitOne K (.ref c13) (.ref c1) = some false)
    (s13_4 : PySem.W.kitOne K (.ref c13) (.ref c4) = some false)
    (s13_5 : PySem.W.kitOne K (.ref c13) (.ref c5) = some false)
    (s13_6 : PySem.W.kitOne K (.ref c13) (.ref c6) = some false)
    (s13_7 : PySem.W.kitOne K (.ref c13) (.ref c7) = some false)
    (s13_8 : PySem.W.kitOne K (.ref c13) (.ref c8) = some false)
    (s13_9 : PySem.W.kitOne K (.ref c13) (.ref c9) = some false)
    (s13_10 : PySem.W.kitOne K (.ref c13) (.ref c10) = some false)
    (s13_11 : PySem.W.kitOne K (.ref c13) (.ref c11) = some false)
    (s13_2 : PySem.W.kitOne K (.ref c13) (.ref c2) = some false)
    (s13_3 : PySem.W.kitOne K (.ref c13) (.ref c3) = some false)
    (s13_12 : PySem.W.kitOne K (.ref c13) (.ref c12) = some false)
    (s13_13 : PySem.W.kitOne K (.ref c13) (.ref c13) = some true)
    (s13_14 : PySem.W.kitOne K (.ref c13) (.ref c14) = some false)
    (d13 : PySem.W.kitOne K (.ref c13) (.ref c0) = some true)
    (w13 : PySem.W.kitOne K (.ref c13) (.type "ValueError") = some true)
    (s14_1 : PySem.W.kitOne K (.ref c14) (.ref c1) = some false)
    (s14_4 : PySem.W.kitOne K (.ref c14) (.ref c4) = some false)
    (s14_5 : PySem.W.kitOne K (.ref c14) (.ref c5) = some false)
    (s14_6 : PySem.W.kitOne K (.ref c14) (.ref c6) = some false)
    (s14_7 : PySem.W.kitOne K (.ref c14) (.ref c7) = some false)
    (s14_8 : PySem.W.kitOne K (.ref c14) (.ref c8) = some false)
    (s14_9 : PySem.W.kitOne K (.ref c14) (.ref c9) = some false)
    (s14_10 : PySem.W.kitOne K (.ref c14) (.ref c10) = some false)
    (s14_11 : PySem.W.kitOne K (.ref c14) (.ref c11) = some false)
    (s14_2 : PySem.W.kitOne K (.ref c14) (.ref c2) = some false)
    (s14_3 : PySem.W.kitOne K (.ref c14) (.ref c3) = some false)
    (s14_12 : PySem.W.kitOne K (.ref c14) (.ref c12) = some false)
    (s14_13 : PySem.W.kitOne K (.ref c14) (.ref c13) = some false)
    (s14_14 : PySem.W.kitOne K (.ref c14) (.ref c14) = some true)
    (d14 : PySem.W.kitOne K (.ref c14) (.ref c0) = some true)
    (w14 : PySem.W.kitOne K (.ref c14) (.type "ValueError") = some true)
    (em : PySem.W.exmOne K (.ref c10) (.ref c0) = some true)
    (ch : PySem.W.specialIn K (.builtin "object.__class__") "__get__" = some (some (.builtin "getset_descriptor.__get__")))
    (ct : PySem.W.takesIn K (.builtin "object.__class__") = some true)
    (b_len : PySem.W.nsIn K mainGlobals "len" = some none)
    (b_list : PySem.W.nsIn K mainGlobals "list" = some none)
    (b_int : PySem.W.nsIn K mainGlobals "int" = some none)
    (b_range : PySem.W.nsIn K mainGlobals "range" = some none)
    (b_enumerate : PySem.W.nsIn K mainGlobals "enumerate" = some none)
    (b_isinstance : PySem.W.nsIn K mainGlobals "isinstance" = some none)
    (b_repr : PySem.W.nsIn K mainGlobals "repr" = some none)
    (b_ValueError : PySem.W.nsIn K mainGlobals "ValueError" = some none)
    (af0 : PySem.W.nsIn K mainGlobals "_law_pen" = some (some (.ref f0)))
    (lf0 : K.lookup f0 = some ⟨ocf0, odf0, .func (PySem.W.fnOf "_law_pen" "_law_pen" (defArgs st_law_pen) (defBody st_law_pen) (defScope st_law_pen) .none kVf0 dcf0 pmf0 anf0 cdf0 ctf0), slf0⟩)
    (df0 : PySem.W.codeIn K cdf0 "_law_pen" = true)
    (kf0 : PySem.W.keepIn K (.ref f0) = true)
    (af1 : PySem.W.nsIn K mainGlobals "_law_draw" = some (some (.ref f1)))
    (lf1 : K.lookup f1 = some ⟨ocf1, odf1, .func (PySem.W.fnOf "_law_draw" "_law_draw" (defArgs st_law_draw) (defBody st_law_draw) (defScope st_law_draw) .none kVf1 dcf1 pmf1 anf1 cdf1 ctf1), slf1⟩)
    (df1 : PySem.W.codeIn K cdf1 "_law_draw" = true)
    (kf1 : PySem.W.keepIn K (.ref f1) = true)
    (af2 : PySem.W.nsIn K mainGlobals "_law_pick" = some (some (.ref f2)))
    (lf2 : K.lookup f2 = some ⟨ocf2, odf2, .func (PySem.W.fnOf "_law_pick" "_law_pick" (defArgs st_law_pick) (defBody st_law_pick) (defScope st_law_pick) .none kVf2 dcf2 pmf2 anf2 cdf2 ctf2), slf2⟩)
    (df2 : PySem.W.codeIn K cdf2 "_law_pick" = true)
    (kf2 : PySem.W.keepIn K (.ref f2) = true)
    (af3 : PySem.W.nsIn K mainGlobals "_law_value" = some (some (.ref f3)))
    (lf3 : K.lookup f3 = some ⟨ocf3, odf3, .func (PySem.W.fnOf "_law_value" "_law_value" (defArgs st_law_value) (defBody st_law_value) (defScope st_law_value) .none kVf3 dcf3 pmf3 anf3 cdf3 ctf3), slf3⟩)
    (df3 : PySem.W.codeIn K cdf3 "_law_value" = true)
    (kf3 : PySem.W.keepIn K (.ref f3) = true)
    (af4 : PySem.W.nsIn K mainGlobals "_law_fields" = some (some (.ref f4)))
    (lf4 : K.lookup f4 = some ⟨ocf4, odf4, .func (PySem.W.fnOf "_law_fields" "_law_fields" (defArgs st_law_fields) (defBody st_law_fields) (defScope st_law_fields) .none kVf4 dcf4 pmf4 anf4 cdf4 ctf4), slf4⟩)
    (df4 : PySem.W.codeIn K cdf4 "_law_fields" = true)
    (kf4 : PySem.W.keepIn K (.ref f4) = true)
    (af5 : PySem.W.nsIn K mainGlobals "_law_made_errors" = some (some (.ref f5)))
    (lf5 : K.lookup f5 = some ⟨ocf5, odf5, .func (PySem.W.fnOf "_law_made_errors" "_law_made_errors" (defArgs st_law_made_errors) (defBody st_law_made_errors) (defScope st_law_made_errors) .none kVf5 dcf5 pmf5 anf5 cdf5 ctf5), slf5⟩)
    (df5 : PySem.W.codeIn K cdf5 "_law_made_errors" = true)
    (kf5 : PySem.W.keepIn K (.ref f5) = true)
    (af6 : PySem.W.nsIn K mainGlobals "_law_kinds" = some (some (.ref f6)))
    (lf6 : K.lookup f6 = some ⟨ocf6, odf6, .func (PySem.W.fnOf "_law_kinds" "_law_kinds" (defArgs st_law_kinds) (defBody st_law_kinds) (defScope st_law_kinds) .none kVf6 dcf6 pmf6 anf6 cdf6 ctf6), slf6⟩)
    (df6 : PySem.W.codeIn K cdf6 "_law_kinds" = true)
    (kf6 : PySem.W.keepIn K (.ref f6) = true)
    (af7 : PySem.W.nsIn K mainGlobals "law" = some (some (.ref f7)))
    (lf7 : K.lookup f7 = some ⟨ocf7, odf7, .func (PySem.W.fnOf "law" "law" (defArgs stlaw) (defBody stlaw) (defScope stlaw) .none kVf7 dcf7 pmf7 anf7 cdf7 ctf7), slf7⟩)
    (df7 : PySem.W.codeIn K cdf7 "law" = true)
    (kf7 : PySem.W.keepIn K (.ref f7) = true) :
    ∃ fd : FuncData, (∀ (s : Shared) (u : Value), BindsTo s fd ⟨[u], []⟩ [("script", u)]) ∧ ∀ base : Heap, K.In base → base.Ns mainGlobals mg → FnG P w K mg base 6 fa fd ["script"] (SpD K slaw) := by
  have e := hfa.symm.trans (PySem.W.mg_of X G af7)
  cases e
  let ad : Str → Addr := adOf [("DepositError", c0), ("BadText", c1), ("Misread", c2), ("Misplaced", c3), ("BadName", c4), ("BadNumber", c5), ("BadRow", c6), ("NoName", c7), ("TakenName", c8), ("Unlike", c9), ("NotThere", c10), ("TooMany", c11), ("NotKept", c12), ("NothingToUndo", c13), ("NothingToRedo", c14)]
  have ad0 : ad "DepositError" = c0 := rfl
  have ad1 : ad "BadText" = c1 := rfl
  have ad2 : ad "Misread" = c2 := rfl
  have ad3 : ad "Misplaced" = c3 := rfl
  have ad4 : ad "BadName" = c4 := rfl
  have ad5 : ad "BadNumber" = c5 := rfl
  have ad6 : ad "BadRow" = c6 := rfl
  have ad7 : ad "NoName" = c7 := rfl
  have ad8 : ad "TakenName" = c8 := rfl
  have ad9 : ad "Unlike" = c9 := rfl
  have ad10 : ad "NotThere" = c10 := rfl
  have ad11 : ad "TooMany" = c11 := rfl
  have ad12 : ad "NotKept" = c12 := rfl
  have ad13 : ad "NothingToUndo" = c13 := rfl
  have ad14 : ad "NothingToRedo" = c14 := rfl
  have X1 : XCl K c1 ["line", "word"] := xcl_mk xL1 rv1 sa1 ex1 ty1 kp1 ga1 gg1 hd1 ca1 mo1 (fun f hf => by
      simp only [List.mem_cons, List.mem_nil_iff, or_false] at hf
      rcases hf with rfl | rfl
      · exact no1line
      · exact no1word)
  have X2 : XCl K c2 ["line", "column"] := xcl_mk xL2 rv2 sa2 ex2 ty2 kp2 ga2 gg2 hd2 ca2 mo2 (fun f hf => by
      simp only [List.mem_cons, List.mem_nil_iff, or_false] at hf
      rcases hf with rfl | rfl
      · exact no2line
      · exact no2column)
  have X3 : XCl K c3 ["line", "column", "why", "name"] := xcl_mk xL3 rv3 sa3 ex3 ty3 kp3 ga3 gg3 hd3 ca3 mo3 (fun f hf => by
      simp only [List.mem_cons, List.mem_nil_iff, or_false] at hf
      rcases hf with rfl | rfl | rfl | rfl
      · exact no3line
      · exact no3column
      · exact no3why
      · exact no3name)
  have X4 : XCl K c4 ["name"] := xcl_mk xL4 rv4 sa4 ex4 ty4 kp4 ga4 gg4 hd4 ca4 mo4 (fun f hf => by simp only [List.mem_cons, List.mem_nil_iff, or_false] at hf; rcases hf with rfl; exact no4name)
  have X5 : XCl K c5 ["what", "number"] := xcl_mk xL5 rv5 sa5 ex5 ty5 kp5 ga5 gg5 hd5 ca5 mo5 (fun f hf => by
      simp only [List.mem_cons, List.mem_nil_iff, or_false] at hf
      rcases hf with rfl | rfl
      · exact no5what
      · exact no5number)
  have X6 : XCl K c6 ["what", "row"] := xcl_mk xL6 rv6 sa6 ex6 ty6 kp6 ga6 gg6 hd6 ca6 mo6 (fun f hf => by
      simp only [List.mem_cons, List.mem_nil_iff, or_false] at hf
      rcases hf with rfl | rfl
      · exact no6what
      · exact no6row)
  have X7 : XCl K c7 ["name"] := xcl_mk xL7 rv7 sa7 ex7 ty7 kp7 ga7 gg7 hd7 ca7 mo7 (fun f hf => by simp only [List.mem_cons, List.mem_nil_iff, or_false] at hf; rcases hf with rfl; exact no7name)
  have X8 : XCl K c8 ["name"] := xcl_mk xL8 rv8 sa8 ex8 ty8 kp8 ga8 gg8 hd8 ca8 mo8 (fun f hf => by simp only [List.mem_cons, List.mem_nil_iff, or_false] at hf; rcases hf with rfl; exact no8name)
  have X9 : XCl K c9 ["what"] := xcl_mk xL9 rv9 sa9 ex9 ty9 kp9 ga9 gg9 hd9 ca9 mo9 (fun f hf => by simp only [List.mem_cons, List.mem_nil_iff, or_false] at hf; rcases hf with rfl; exact no9what)
  have X10 : XCl K c10 ["what"] := xcl_mk xL10 rv10 sa10 ex10 ty10 kp10 ga10 gg10 hd10 ca10 mo10 (fun f hf => by simp only [List.mem_cons, List.mem_nil_iff, or_false] at hf; rcases hf with rfl; exact no10what)
  have X11 : XCl K c11 ["what", "many", "limit"] := xcl_mk xL11 rv11 sa11 ex11 ty11 kp11 ga11 gg11 hd11 ca11 mo11 (fun f hf => by
      simp only [List.mem_cons, List.mem_nil_iff, or_false] at hf
      rcases hf with rfl | rfl | rfl
      · exact no11what
      · exact no11many
      · exact no11limit)
  have X12 : XCl K c12 ["promise", "witness"] := xcl_mk xL12 rv12 sa12 ex12 ty12 kp12 ga12 gg12 hd12 ca12 mo12 (fun f hf => by
      simp only [List.mem_cons, List.mem_nil_iff, or_false] at hf
      rcases hf with rfl | rfl
      · exact no12promise
      · exact no12witness)
  have X13 : XCl K c13 ([] : List Str) := xcl_mk xL13 rv13 sa13 ex13 ty13 kp13 ga13 gg13 hd13 ca13 mo13 (fun f hf => nomatch hf)
  have X14 : XCl K c14 ([] : List Str) := xcl_mk xL14 rv14 sa14 ex14 ty14 kp14 ga14 gg14 hd14 ca14 mo14 (fun f hf => nomatch hf)
  have xall : ∀ x : Str, x ∈ fldT.map (·.1) → XCl K (ad x) (flds x) := by
    intro x hx
    simp only [fldT, List.map_cons, List.map_nil, List.mem_cons, List.mem_nil_iff, or_false] at hx
    rcases hx with rfl | rfl | rfl | rfl | rfl | rfl | rfl | rfl | rfl | rfl | rfl | rfl | rfl | rfl
    · exact X1
    · exact X2
    · exact X3
    · exact X4
    · exact X5
    · exact X6
    · exact X7
    · exact X8
    · exact X9
    · exact X10
    · exact X11
    · exact X12
    · exact X13
    · exact X14
  have kn : Knows K (T_cs ad) := by
    refine ⟨⟨ch, ct⟩, fun p hp => ?_⟩
    simp only [T_cs, fldT, List.map_cons, List.map_nil, List.mem_cons, List.mem_nil_iff, or_false] at hp
    rcases hp with rfl | rfl | rfl | rfl | rfl | rfl | rfl | rfl | rfl | rfl | rfl | rfl | rfl | rfl
    · exact X1
    · exact X2
    · exact X3
    · exact X4
    · exact X5
    · exact X6
    · exact X7
    · exact X8
    · exact X9
    · exact X10
    · exact X11
    · exact X12
    · exact X13
    · exact X14
  have T : ∀ base : Heap, Txt P w K mg base ad := fun base => {
    cls := by
      intro x hx
      simp only [clsN, List.mem_cons, List.mem_nil_iff, or_false] at hx
      rcases hx with rfl | rfl | rfl | rfl | rfl | rfl | rfl | rfl | rfl | rfl | rfl | rfl | rfl | rfl | rfl
      · exact PySem.W.mg_of X G aC0
      · exact PySem.W.mg_of X G aC1
      · exact PySem.W.mg_of X G aC2
      · exact PySem.W.mg_of X G aC3
      · exact PySem.W.mg_of X G aC4
      · exact PySem.W.mg_of X G aC5
      · exact PySem.W.mg_of X G aC6
      · exact PySem.W.mg_of X G aC7
      · exact PySem.W.mg_of X G aC8
      · exact PySem.W.mg_of X G aC9
      · exact PySem.W.mg_of X G aC10
      · exact PySem.W.mg_of X G aC11
      · exact PySem.W.mg_of X G aC12
      · exact PySem.W.mg_of X G aC13
      · exact PySem.W.mg_of X G aC14
    bn := by
      intro x hx
      simp only [List.mem_cons, List.mem_nil_iff, or_false] at hx
      rcases hx with rfl | rfl | rfl | rfl | rfl | rfl | rfl | rfl
      · exact PySem.W.mg_none_of X G b_len
      · exact PySem.W.mg_none_of X G b_list
      · exact PySem.W.mg_none_of X G b_int
      · exact PySem.W.mg_none_of X G b_range
      · exact PySem.W.mg_none_of X G b_enumerate
      · exact PySem.W.mg_none_of X G b_isinstance
      · exact PySem.W.mg_none_of X G b_repr
      · exact PySem.W.mg_none_of X G b_ValueError
    kn := kn
    xc := xall
    io := by
      intro x hx
      simp only [fldT, List.take_succ_cons, List.take_zero, List.map_cons, List.map_nil, List.mem_cons, List.mem_nil_iff, or_false] at hx
      rcases hx with rfl | rfl | rfl | rfl | rfl | rfl | rfl | rfl | rfl | rfl | rfl | rfl
      · have Fi := fun_mk (st := inClass (top 2) 0) li1 di1 ki1
        exact ⟨i1, _, 1, ai1, ti1, Nat.le_refl _, in_BadText Fi X1, Fi.binds (ps := "self" :: ["line", "word"]) fun _ _ _ _ _ _ us hl => match us, hl with | [_, _, _], _ => rfl⟩
      · have Fi := fun_mk (st := inClass (top 3) 0) li2 di2 ki2
        exact ⟨i2, _, 1, ai2, ti2, Nat.le_refl _, in_Misread Fi X2, Fi.binds (ps := "self" :: ["line", "column"]) fun _ _ _ _ _ _ us hl => match us, hl with | [_, _, _], _ => rfl⟩
      · have Fi := fun_mk (st := inClass (top 4) 0) li3 di3 ki3
        exact ⟨i3, _, 1, ai3, ti3, Nat.le_refl _, in_Misplaced Fi X3, Fi.binds (ps := "self" :: ["line", "column", "why", "name"]) fun _ _ _ _ _ _ us hl => match us, hl with | [_, _, _, _, _], _ => rfl⟩
      · have Fi := fun_mk (st := inClass (top 5) 0) li4 di4 ki4
        exact ⟨i4, _, 1, ai4, ti4, Nat.le_refl _, in_BadName Fi X4, Fi.binds (ps := "self" :: ["name"]) fun _ _ _ _ _ _ us hl => match us, hl with | [_, _], _ => rfl⟩
      · have Fi := fun_mk (st := inClass (top 6) 0) li5 di5 ki5
        exact ⟨i5, _, 1, ai5, ti5, Nat.le_refl _, in_BadNumber Fi X5, Fi.binds (ps := "self" :: ["what", "number"]) fun _ _ _ _ _ _ us hl => match us, hl with | [_, _, _], _ => rfl⟩
      · have Fi := fun_mk (st := inClass (top 7) 0) li6 di6 ki6
        exact ⟨i6, _, 1, ai6, ti6, Nat.le_refl _, in_BadRow Fi X6, Fi.binds (ps := "self" :: ["what", "row"]) fun _ _ _ _ _ _ us hl => match us, hl with | [_, _, _], _ => rfl⟩
      · have Fi := fun_mk (st := inClass (top 8) 0) li7 di7 ki7
        exact ⟨i7, _, 1, ai7, ti7, Nat.le_refl _, in_NoName Fi X7, Fi.binds (ps := "self" :: ["name"]) fun _ _ _ _ _ _ us hl => match us, hl with | [_, _], _ => rfl⟩
      · have Fi := fun_mk (st := inClass (top 9) 0) li8 di8 ki8
        exact ⟨i8, _, 1, ai8, ti8, Nat.le_refl _, in_TakenName Fi X8, Fi.binds (ps := "self" :: ["name"]) fun _ _ _ _ _ _ us hl => match us, hl with | [_, _], _ => rfl⟩
      · have Fi := fun_mk (st := inClass (top 10) 0) li9 di9 ki9
        exact ⟨i9, _, 1, ai9, ti9, Nat.le_refl _, in_Unlike Fi X9, Fi.binds (ps := "self" :: ["what"]) fun _ _ _ _ _ _ us hl => match us, hl with | [_, _], _ => rfl⟩
      · have Fi := fun_mk (st := inClass (top 11) 0) li10 di10 ki10
        exact ⟨i10, _, 1, ai10, ti10, Nat.le_refl _, in_NotThere Fi X10, Fi.binds (ps := "self" :: ["what"]) fun _ _ _ _ _ _ us hl => match us, hl with | [_, _], _ => rfl⟩
      · have Fi := fun_mk (st := inClass (top 12) 0) li11 di11 ki11
        exact ⟨i11, _, 1, ai11, ti11, Nat.le_refl _, in_TooMany Fi X11, Fi.binds (ps := "self" :: ["what", "many", "limit"]) fun _ _ _ _ _ _ us hl => match us, hl with | [_, _, _, _], _ => rfl⟩
      · have Fi := fun_mk (st := inClass (top 13) 0) li12 di12 ki12
        exact ⟨i12, _, 1, ai12, ti12, Nat.le_refl _, in_NotKept Fi X12, Fi.binds (ps := "self" :: ["promise", "witness"]) fun _ _ _ _ _ _ us hl => match us, hl with | [_, _, _], _ => rfl⟩
    e0 := by
      intro x hx
      simp only [List.mem_cons, List.mem_nil_iff, or_false] at hx
      rcases hx with rfl | rfl
      · exact ⟨e013, kp13⟩
      · exact ⟨e014, kp14⟩
    is1 := by
      intro x hx y hy
      simp only [kindN, List.mem_cons, List.mem_nil_iff, or_false] at hx hy
      rcases hx with rfl | rfl | rfl | rfl | rfl | rfl | rfl | rfl | rfl | rfl | rfl | rfl | rfl | rfl
      · rcases hy with rfl | rfl | rfl | rfl | rfl | rfl | rfl | rfl | rfl | rfl | rfl | rfl | rfl | rfl
        · exact s1_1
        · exact s1_4
        · exact s1_5
        · exact s1_6
        · exact s1_7
        · exact s1_8
        · exact s1_9
        · exact s1_10
        · exact s1_11
        · exact s1_2
        · exact s1_3
        · exact s1_12
        · exact s1_13
        · exact s1_14
      · rcases hy with rfl | rfl | rfl | rfl | rfl | rfl | rfl | rfl | rfl | rfl | rfl | rfl | rfl | rfl
        · exact s4_1
        · exact s4_4
        · exact s4_5
        · exact s4_6
        · exact s4_7
        · exact s4_8
        · exact s4_9
        · exact s4_10
        · exact s4_11
        · exact s4_2
        · exact s4_3
        · exact s4_12
        · exact s4_13
        · exact s4_14
      · rcases hy with rfl | rfl | rfl | rfl | rfl | rfl | rfl | rfl | rfl | rfl | rfl | rfl | rfl | rfl
        · exact s5_1
        · exact s5_4
        · exact s5_5
        · exact s5_6
        · exact s5_7
        · exact s5_8
        · exact s5_9
        · exact s5_10
        · exact s5_11
        · exact s5_2
        · exact s5_3
        · exact s5_12
        · exact s5_13
        · exact s5_14
      · rcases hy with rfl | rfl | rfl | rfl | rfl | rfl | rfl | rfl | rfl | rfl | rfl | rfl | rfl | rfl
        · exact s6_1
        · exact s6_4
        · exact s6_5
        · exact s6_6
        · exact s6_7
        · exact s6_8
        · exact s6_9
        · exact s6_10
        · exact s6_11
        · exact s6_2
        · exact s6_3
        · exact s6_12
        · exact s6_13
        · exact s6_14
      · rcases hy with rfl | rfl | rfl | rfl | rfl | rfl | rfl | rfl | rfl | rfl | rfl | rfl | rfl | rfl
        · exact s7_1
        · exact s7_4
        · exact s7_5
        · exact s7_6
        · exact s7_7
        · exact s7_8
        · exact s7_9
        · exact s7_10
        · exact s7_11
        · exact s7_2
        · exact s7_3
        · exact s7_12
        · exact s7_13
        · exact s7_14
      · rcases hy with rfl | rfl | rfl | rfl | rfl | rfl | rfl | rfl | rfl | rfl | rfl | rfl | rfl | rfl
        · exact s8_1
        · exact s8_4
        · exact s8_5
        · exact s8_6
        · exact s8_7
        · exact s8_8
        · exact s8_9
        · exact s8_10
        · exact s8_11
        · exact s8_2
        · exact s8_3
        · exact s8_12
        · exact s8_13
        · exact s8_14
      · rcases hy with rfl | rfl | rfl | rfl | rfl | rfl | rfl | rfl | rfl | rfl | rfl | rfl | rfl | rfl
        · exact s9_1
        · exact s9_4
        · exact s9_5
        · exact s9_6
        · exact s9_7
        · exact s9_8
        · exact s9_9
        · exact s9_10
        · exact s9_11
        · exact s9_2
        · exact s9_3
        · exact s9_12
        · exact s9_13
        · exact s9_14
      · rcases hy with rfl | rfl | rfl | rfl | rfl | rfl | rfl | rfl | rfl | rfl | rfl | rfl | rfl | rfl
        · exact s10_1
        · exact s10_4
        · exact s10_5
        · exact s10_6
        · exact s10_7
        · exact s10_8
        · exact s10_9
        · exact s10_10
        · exact s10_11
        · exact s10_2
        · exact s10_3
        · exact s10_12
        · exact s10_13
        · exact s10_14
      · rcases hy with rfl | rfl | rfl | rfl | rfl | rfl | rfl | rfl | rfl | rfl | rfl | rfl | rfl | rfl
        · exact s11_1
        · exact s11_4
        · exact s11_5
        · exact s11_6
        · exact s11_7
        · exact s11_8
        · exact s11_9
        · exact s11_10
        · exact s11_11
        · exact s11_2
        · exact s11_3
        · exact s11_12
        · exact s11_13
        · exact s11_14
      · rcases hy with rfl | rfl | rfl | rfl | rfl | rfl | rfl | rfl | rfl | rfl | rfl | rfl | rfl | rfl
        · exact s2_1
        · exact s2_4
        · exact s2_5
        · exact s2_6
        · exact s2_7
        · exact s2_8
        · exact s2_9
        · exact s2_10
        · exact s2_11
        · exact s2_2
        · exact s2_3
        · exact s2_12
        · exact s2_13
        · exact s2_14
      · rcases hy with rfl | rfl | rfl | rfl | rfl | rfl | rfl | rfl | rfl | rfl | rfl | rfl | rfl | rfl
        · exact s3_1
        · exact s3_4
        · exact s3_5
        · exact s3_6
        · exact s3_7
        · exact s3_8
        · exact s3_9
        · exact s3_10
        · exact s3_11
        · exact s3_2
        · exact s3_3
        · exact s3_12
        · exact s3_13
        · exact s3_14
      · rcases hy with rfl | rfl | rfl | rfl | rfl | rfl | rfl | rfl | rfl | rfl | rfl | rfl | rfl | rfl
        · exact s12_1
        · exact s12_4
        · exact s12_5
        · exact s12_6
        · exact s12_7
        · exact s12_8
        · exact s12_9
        · exact s12_10
        · exact s12_11
        · exact s12_2
        · exact s12_3
        · exact s12_12
        · exact s12_13
        · exact s12_14
      · rcases hy with rfl | rfl | rfl | rfl | rfl | rfl | rfl | rfl | rfl | rfl | rfl | rfl | rfl | rfl
        · exact s13_1
        · exact s13_4
        · exact s13_5
        · exact s13_6
        · exact s13_7
        · exact s13_8
        · exact s13_9
        · exact s13_10
        · exact s13_11
        · exact s13_2
        · exact s13_3
        · exact s13_12
        · exact s13_13
        · exact s13_14
      · rcases hy with rfl | rfl | rfl | rfl | rfl | rfl | rfl | rfl | rfl | rfl | rfl | rfl | rfl | rfl
        · exact s14_1
        · exact s14_4
        · exact s14_5
        · exact s14_6
        · exact s14_7
        · exact s14_8
        · exact s14_9
        · exact s14_10
        · exact s14_11
        · exact s14_2
        · exact s14_3
        · exact s14_12
        · exact s14_13
        · exact s14_14
    is2 := by
      intro x hx
      simp only [kindN, List.mem_cons, List.mem_nil_iff, or_false] at hx
      rcases hx with rfl | rfl | rfl | rfl | rfl | rfl | rfl | rfl | rfl | rfl | rfl | rfl | rfl | rfl
      · exact d1
      · exact d4
      · exact d5
      · exact d6
      · exact d7
      · exact d8
      · exact d9
      · exact d10
      · exact d11
      · exact d2
      · exact d3
      · exact d12
      · exact d13
      · exact d14
    is3 := by
      intro x hx
      simp only [kindN, List.mem_cons, List.mem_nil_iff, or_false] at hx
      rcases hx with rfl | rfl | rfl | rfl | rfl | rfl | rfl | rfl | rfl | rfl | rfl | rfl | rfl | rfl
      · exact w1
      · exact w4
      · exact w5
      · exact w6
      · exact w7
      · exact w8
      · exact w9
      · exact w10
      · exact w11
      · exact w2
      · exact w3
      · exact w12
      · exact w13
      · exact w14 }
  have F0 := fun_mk (st := st_law_pen) lf0 df0 kf0
  have B0 := F0.binds (ps := P_law_pen) fun _ _ _ _ _ _ us hl => match us, hl with | [_], _ => rfl
  have F1 := fun_mk (st := st_law_draw) lf1 df1 kf1
  have B1 := F1.binds (ps := P_law_draw) fun _ _ _ _ _ _ us hl => match us, hl with | [_, _], _ => rfl
  have F2 := fun_mk (st := st_law_pick) lf2 df2 kf2
  have B2 := F2.binds (ps := P_law_pick) fun _ _ _ _ _ _ us hl => match us, hl with | [_, _], _ => rfl
  have F3 := fun_mk (st := st_law_value) lf3 df3 kf3
  have B3 := F3.binds (ps := P_law_value) fun _ _ _ _ _ _ us hl => match us, hl with | [_], _ => rfl
  have F4 := fun_mk (st := st_law_fields) lf4 df4 kf4
  have B4 := F4.binds (ps := P_law_fields) fun _ _ _ _ _ _ us hl => match us, hl with | [_, _], _ => rfl
  have F5 := fun_mk (st := st_law_made_errors) lf5 df5 kf5
  have B5 := F5.binds (ps := P_law_made_errors) fun _ _ _ _ _ _ us hl => match us, hl with | [_, _, _], _ => rfl
  have F6 := fun_mk (st := st_law_kinds) lf6 df6 kf6
  have B6 := F6.binds (ps := P_law_kinds) fun _ _ _ _ _ _ us hl => match us, hl with | [_], _ => rfl
  have F7 := fun_mk (st := stlaw) lf7 df7 kf7
  have B7 := F7.binds (ps := Plaw) fun _ _ _ _ _ _ us hl => match us, hl with | [_], _ => rfl
  refine ⟨PySem.W.fnOf "law" "law" (defArgs stlaw) (defBody stlaw) (defScope stlaw) .none kVf7 dcf7 pmf7 anf7 cdf7 ctf7, fun s u => .of_eq rfl, fun base _ _ => ?_⟩
  have T := T base
  have G0 : FD P w K mg base 3 "_law_pen" P_law_pen s_law_pen := fd_ok F0 S_law_pen B0 (PySem.W.mg_of X G af0) (by rintro o ds k kx ⟨_, rfl, rfl, _⟩; rfl) pure_pen (c_law_pen T)
  have G1 : FD P w K mg base 3 "_law_draw" P_law_draw s_law_draw := fd_ok F1 S_law_draw B1 (PySem.W.mg_of X G af1) (by rintro o ds k kx ⟨_, _, _, rfl, rfl, _⟩; rfl) pure_draw (c_law_draw T)
  have G2 : FD P w K mg base 4 "_law_pick" P_law_pick s_law_pick := fd_ok F2 S_law_pick B2 (PySem.W.mg_of X G af2) (by rintro o ds k kx ⟨_, _, _, rfl, rfl, _⟩; rfl) pure_pick (c_law_pick T G1)
  have G3 : FD P w K mg base 5 "_law_value" P_law_value s_law_value := fd_ok F3 S_law_value B3 (PySem.W.mg_of X G af3) (by rintro o ds k kx ⟨_, _, rfl, rfl, _⟩; rfl) pure_value (c_law_value T G2)
  have G4 : FD P w K mg base 3 "_law_fields" P_law_fields (s_law_fields ad) := fd_ok F4 S_law_fields B4 (PySem.W.mg_of X G af4) (by rintro o ds k kx ⟨_, _, rfl, rfl, _⟩; rfl) pure_fields (c_law_fields T)
  have G5 : FD P w K mg base 3 "_law_made_errors" P_law_made_errors (s_law_made_errors ad) := fd_ok F5 S_law_made_errors B5 (PySem.W.mg_of X G af5) (by rintro o ds k kx ⟨_, _, _, rfl, rfl, _⟩; rfl) pure_made (c_law_made_errors T)
  have G6 : FD P w K mg base 3 "_law_kinds" P_law_kinds (s_law_kinds ad) := fd_ok F6 S_law_kinds B6 (PySem.W.mg_of X G af6) (by rintro o ds k kx ⟨_, _, rfl, rfl, _⟩; rfl) (pure_kinds T) (c_law_kinds T)
  exact fng_ok F7 Slaw B7 (PySem.W.mg_of X G af7) (by rintro o ds k kx ⟨_, rfl, rfl, _⟩; rfl) (pure_law T) (claw T em G0 G3 G5 G6 G4)
end K1
/-! K11s -/
set_option Elab.async false
namespace K1
open PySem PySem.Spec PyProof.Rows L2 Evl DL
theorem law_spec {K : PySem.W.Frag} {H : Hp} {a : Addr} {ns : List Int} (hl : ns.length ≤ 63) (hS : SqL K H a (ns.map V.int)) : SpD K slaw [.ref a] H (fun v _ => v = .bl true) (fun _ _ _ => False) := by
  refine ⟨H, none, [.rol (ns.map .int)], fun r _ => r = .im (.bl true), fun _ _ _ => False, fun _ _ h => h, ?_, ⟨ns, rfl, rfl, by omega, rfl⟩, ?_, fun _ _ _ h => h.elim⟩
  · simp only [ArgsOk, Dvs, Dv]
    exact ⟨_, _, rfl, ⟨a, _, rfl, hS, dvs_ints.2 rfl⟩, rfl⟩
  · rintro r o rfl F1 H1 v _ _ h
    simpa only [RvOk, Dv] using h
end K1

namespace DL
open PySem PySem.Spec PyProof.Rows L2 Evl
theorem walk_ofGK {l : PySem.W.OpenLaw} {n k : Nat} {q : Program} {loose : List Str} {XP : (Str → Option Value) → Heap → Prop} {YP : World → Heap → Prop} {d : DefRec} {K : Params → PySem.W.Frag} (sp : PySem.W.Frag → Sp) {x : Str}
    (most : l.most = some n) (most2 : n ≤ sizeLine) (nodef : d.params.defaults = []) (room : Room k callerA)
    (inK : ∀ (w : World) (h : Heap), YP w h → (K w.params).In h)
    (def_ : ∀ (w : World) (mg : Str → Option Value) (fa : Addr) (h : Heap), (K w.params).In h → h.Ns mainGlobals mg → mg d.name = some (.ref fa) →
      ∃ fd : FuncData, (∀ (s : Shared) (u : Value), BindsTo s fd ⟨[u], []⟩ [(x, u)]) ∧
        ∀ base : Heap, (K w.params).In base → base.Ns mainGlobals mg → FnG l.prog w (K w.params) mg base k fa fd [x] (sp (K w.params)))
    (spec : ∀ (w : World) (H : Hp) (a : Addr) (ns : List Int), ns.length ≤ n → (∀ z ∈ ns, Builtin.Int.intBits z ≤ 1048576) → Only H → SqL (K w.params) H a (ns.map V.int) → sp (K w.params) [.ref a] H (fun v _ => v = .bl true) fun _ _ _ => False) :
    PySem.W.WalkO q loose XP YP l.row.toRowW d [] (fun f vs => PySem.call f vs) :=
  walk_ofG (sp := fun w => sp (K w.params)) most most2 nodef room inK def_ spec
end DL
/-! K12 -/
open PySem PySem.W PyProof.Rows
set_option maxRecDepth 100000 in
set_option maxHeartbeats 0 in
theorem PySem.Challenge.cw_holdsenough_k01_errors_holds : PySem.Challenge.rw_holdsenough_k01_errors.Holds := by
  w_on; o_law; k_head; (case hw => w_witness2)
  k_fill
  refine DL.walk_ofGK (l := PySem.Challenge.rw_holdsenough_k01_errors) (n := 63) (k := 6) (x := "script") (fun K => DL.SpD K K1.slaw) rfl (by decide) rfl ⟨rfl, by decide, by decide⟩ (fun w h Y => PySem.W.kIn_of Y) ?F ?S
  case S =>
    intro w H a ns hl _ _ hS
    exact K1.law_spec hl hS
  case F =>
    intro w mg fa h Y G hmg
    refine' K1.all_mk Y G hmg ?aC0 ?aC1 ?aC2 ?aC3 ?aC4 ?aC5 ?aC6 ?aC7 ?aC8 ?aC9 ?aC10 ?aC11 ?aC12 ?aC13 ?aC14 ?xL1 ?rv1 ?sa1 ?ex1 ?ty1 ?kp1 ?ga1 ?gg1 ?hd1 ?ca1 ?mo1 ?no1line ?no1word ?ai1 ?ti1 ?li1 ?di1 ?ki1 ?xL2 ?rv2 ?sa2 ?ex2 ?ty2 ?kp2 ?ga2 ?gg2 ?hd2 ?ca2 ?mo2 ?no2line ?no2column ?ai2 ?ti2 ?li2 ?di2 ?ki2 ?xL3 ?rv3 ?sa3 ?ex3 ?ty3 ?kp3 ?ga3 ?gg3 ?hd3 ?ca3 ?mo3 ?no3line ?no3column ?no3why ?no3name ?ai3 ?ti3 ?li3 ?di3 ?ki3 ?xL4 ?rv4 ?sa4 ?ex4 ?ty4 ?kp4 ?ga4 ?gg4 ?hd4 ?ca4 ?mo4 ?no4name ?ai4 ?ti4 ?li4 ?di4 ?ki4 ?xL5 ?rv5 ?sa5 ?ex5 ?ty5 ?kp5 ?ga5 ?gg5 ?hd5 ?ca5 ?mo5 ?no5what ?no5number ?ai5 ?ti5 ?li5 ?di5 ?ki5 ?xL6 ?rv6 ?sa6 ?ex6 ?ty6 ?kp6 ?ga6 ?gg6 ?hd6 ?ca6 ?mo6 ?no6what ?no6row ?ai6 ?ti6 ?li6 ?di6 ?ki6 ?xL7 ?rv7 ?sa7 ?ex7 ?ty7 ?kp7 ?ga7 ?gg7 ?hd7 ?ca7 ?mo7 ?no7name ?ai7 ?ti7 ?li7 ?di7 ?ki7 ?xL8 ?rv8 ?sa8 ?ex8 ?ty8 ?kp8 ?ga8 ?gg8 ?hd8 ?ca8 ?mo8 ?no8name ?ai8 ?ti8 ?li8 ?di8 ?ki8 ?xL9 ?rv9 ?sa9 ?ex9 ?ty9 ?kp9 ?ga9 ?gg9 ?hd9 ?ca9 ?mo9 ?no9what ?ai9 ?ti9 ?li9 ?di9 ?ki9 ?xL10 ?rv10 ?sa10 ?ex10 ?ty10 ?kp10 ?ga10 ?gg10 ?hd10 ?ca10 ?mo10 ?no10what ?ai10 ?ti10 ?li10 ?di10 ?ki10 ?xL11 ?rv11 ?sa11 ?ex11 ?ty11 ?kp11 ?ga11 ?gg11 ?hd11 ?ca11 ?mo11 ?no11what ?no11many ?no11limit ?ai11 ?ti11 ?li11 ?di11 ?ki11 ?xL12 ?rv12 ?sa12 ?ex12 ?ty12 ?kp12 ?ga12 ?gg12 ?hd12 ?ca12 ?mo12 ?no12promise ?no12witness ?ai12 ?ti12 ?li12 ?di12 ?ki12 ?xL13 ?rv13 ?sa13 ?ex13 ?ty13 ?kp13 ?ga13 ?gg13 ?hd13 ?ca13 ?mo13 ?e013 ?xL14 ?rv14 ?sa14 ?ex14 ?ty14 ?kp14 ?ga14 ?gg14 ?hd14 ?ca14 ?mo14 ?e014 ?s1_1 ?s1_4 ?s1_5 ?s1_6 ?s1_7 ?s1_8 ?s1_9 ?s1_10 ?s1_11 ?s1_2 ?s1_3 ?s1_12 ?s1_13 ?s1_14 ?d1 ?w1 ?s4_1 ?s4_4 ?s4_5 ?s4_6 ?s4_7 ?s4_8 ?s4_9 ?s4_10 ?s4_11 ?s4_2 ?s4_3 ?s4_12 ?s4_13 ?s4_14 ?d4 ?w4 ?s5_1 ?s5_4 ?s5_5 ?s5_6 ?s5_7 ?s5_8 ?s5_9 ?s5_10 ?s5_11 ?s5_2 ?s5_3 ?s5_12 ?s5_13 ?s5_14 ?d5 ?w5 ?s6_1 ?s6_4 ?s6_5 ?s6_6 ?s6_7 ?s6_8 ?s6_9 ?s6_10 ?s6_11 ?s6_2 ?s6_3 ?s6_12 ?s6_13 ?s6_14 ?d6 ?w6 ?s7_1 ?s7_4 ?s7_5 ?s7_6 ?s7_7 ?s7_8 ?s7_9 ?s7_10 ?s7_11 ?s7_2 ?s7_3 ?s7_12 ?s7_13 ?s7_14 ?d7 ?w7 ?s8_1 ?s8_4 ?s8_5 ?s8_6 ?s8_7 ?s8_8 ?s8_9 ?s8_10 ?s8_11 ?s8_2 ?s8_3 ?s8_12 ?s8_13 ?s8_14 ?d8 ?w8 ?s9_1 ?s9_4 ?s9_5 ?s9_6 ?s9_7 ?s9_8 ?s9_9 ?s9_10 ?s9_11 ?s9_2 ?s9_3 ?s9_12 ?s9_13 ?s9_14 ?d9 ?w9 ?s10_1 ?s10_4 ?s10_5 ?s10_6 ?s10_7 ?s10_8 ?s10_9 ?s10_10 ?s10_11 ?s10_2 ?s10_3 ?s10_12 ?s10_13 ?s10_14 ?d10 ?w10 ?s11_1 ?s11_4 ?s11_5 ?s11_6 ?s11_7 ?s11_8 ?s11_9 ?s11_10 ?s11_11 ?s11_2 ?s11_3 ?s11_12 ?s11_13 ?s11_14 ?d11 ?w11 ?s2_1 ?s2_4 ?s2_5 ?s2_6 ?s2_7 ?s2_8 ?s2_9 ?s2_10 ?s2_11 ?s2_2 ?s2_3 ?s2_12 ?s2_13 ?s2_14 ?d2 ?w2 ?s3_1 ?s3_4 ?s3_5 ?s3_6 ?s3_7 ?s3_8 ?s3_9 ?s3_10 ?s3_11 ?s3_2 ?s3_3 ?s3_12 ?s3_13 ?s3_14 ?d3 ?w3 ?s12_1 ?s12_4 ?s12_5 ?s12_6 ?s12_7 ?s12_8 ?s12_9 ?s12_10 ?s12_11 ?s12_2 ?s12_3 ?s12_12 ?s12_13 ?s12_14 ?d12 ?w12 ?s13_1 ?s13_4 ?s13_5 ?s13_6 ?s13_7 ?s13_8 ?s13_9 ?s13_10 ?s13_11 ?s13_2 ?s13_3 ?s13_12 ?s13_13 ?s13_14 ?d13 ?w13 ?s14_1 ?s14_4 ?s14_5 ?s14_6 ?s14_7 ?s14_8 ?s14_9 ?s14_10 ?s14_11 ?s14_2 ?s14_3 ?s14_12 ?s14_13 ?s14_14 ?d14 ?w14 ?em ?ch ?ct ?b_len ?b_list ?b_int ?b_range ?b_enumerate ?b_isinstance ?b_repr ?b_ValueError ?af0 ?lf0 ?df0 ?kf0 ?af1 ?lf1 ?df1 ?kf1 ?af2 ?lf2 ?df2 ?kf2 ?af3 ?lf3 ?df3 ?kf3 ?af4 ?lf4 ?df4 ?kf4 ?af5 ?lf5 ?df5 ?kf5 ?af6 ?lf6 ?df6 ?kf6 ?af7 ?lf7 ?df7 ?kf7
    (case aC0 => k_is)
    (case aC1 => k_is)
    (case aC2 => k_is)
    (case aC3 => k_is)
    (case aC4 => k_is)
    (case aC5 => k_is)
    (case aC6 => k_is)
    (case aC7 => k_is)
    (case aC8 => k_is)
    (case aC9 => k_is)
    (case aC10 => k_is)
    (case aC11 => k_is)
    (case aC12 => k_is)
    (case aC13 => k_is)
    (case aC14 => k_is)
    (case xL1 => k_is)
    (case rv1 => first | rfl | decide +kernel)
    (case sa1 => k_is)
    (case ex1 => k_is)
    (case ty1 => k_is)
    (case kp1 => k_is)
    (case ga1 => k_is)
    (case gg1 => k_is)
    (case hd1 => k_is)
    (case ca1 => k_is)
    (case mo1 => k_is)
    (case no1line => k_is)
    (case no1word => k_is)
    (case ai1 => k_is)
    (case ti1 => k_is)
    (case li1 => k_is)
    (case di1 => k_is)
    (case ki1 => k_is)
    (case xL2 => k_is)
    (case rv2 => first | rfl | decide +kernel)
    (case sa2 => k_is)
    (case ex2 => k_is)
    (case ty2 => k_is)
    (case kp2 => k_is)
    (case ga2 => k_is)
    (case gg2 => k_is)
    (case hd2 => k_is)
    (case ca2 => k_is)
    (case mo2 => k_is)
    (case no2line => k_is)
    (case no2column => k_is)
    (case ai2 => k_is)
    (case ti2 => k_is)
    (case li2 => k_is)
    (case di2 => k_is)
    (case ki2 => k_is)
    (case xL3 => k_is)
    (case rv3 => first | rfl | decide +kernel)
    (case sa3 => k_is)
    (case ex3 => k_is)
    (case ty3 => k_is)
    (case kp3 => k_is)
    (case ga3 => k_is)
    (case gg3 => k_is)
    (case hd3 => k_is)
    (case ca3 => k_is)
    (case mo3 => k_is)
    (case no3line => k_is)
    (case no3column => k_is)
    (case no3why => k_is)
    (case no3name => k_is)
    (case ai3 => k_is)
    (case ti3 => k_is)
    (case li3 => k_is)
    (case di3 => k_is)
    (case ki3 => k_is)
    (case xL4 => k_is)
    (case rv4 => first | rfl | decide +kernel)
    (case sa4 => k_is)
    (case ex4 => k_is)
    (case ty4 => k_is)
    (case kp4 => k_is)
    (case ga4 => k_is)
    (case gg4 => k_is)
    (case hd4 => k_is)
    (case ca4 => k_is)
    (case mo4 => k_is)
    (case no4name => k_is)
    (case ai4 => k_is)
    (case ti4 => k_is)
    (case li4 => k_is)
    (case di4 => k_is)
    (case ki4 => k_is)
    (case xL5 => k_is)
    (case rv5 => first | rfl | decide +kernel)
    (case sa5 => k_is)
    (case ex5 => k_is)
    (case ty5 => k_is)
    (case kp5 => k_is)
    (case ga5 => k_is)
    (case gg5 => k_is)
    (case hd5 => k_is)
    (case ca5 => k_is)
    (case mo5 => k_is)
    (case no5what => k_is)
    (case no5number => k_is)
    (case ai5 => k_is)
    (case ti5 => k_is)
    (case li5 => k_is)
    (case di5 => k_is)
    (case ki5 => k_is)
    (case xL6 => k_is)
    (case rv6 => first | rfl | decide +kernel)
    (case sa6 => k_is)
    (case ex6 => k_is)
    (case ty6 => k_is)
    (case kp6 => k_is)
    (case ga6 => k_is)
    (case gg6 => k_is)
    (case hd6 => k_is)
    (case ca6 => k_is)
    (case mo6 => k_is)
    (case no6what => k_is)
    (case no6row => k_is)
    (case ai6 => k_is)
    (case ti6 => k_is)
    (case li6 => k_is)
    (case di6 => k_is)
    (case ki6 => k_is)
    (case xL7 => k_is)
    (case rv7 => first | rfl | decide +kernel)
    (case sa7 => k_is)
    (case ex7 => k_is)
    (case ty7 => k_is)
    (case kp7 => k_is)
    (case ga7 => k_is)
    (case gg7 => k_is)
    (case hd7 => k_is)
    (case ca7 => k_is)
    (case mo7 => k_is)
    (case no7name => k_is)
    (case ai7 => k_is)
    (case ti7 => k_is)
    (case li7 => k_is)
    (case di7 => k_is)
    (case ki7 => k_is)
    (case xL8 => k_is)
    (case rv8 => first | rfl | decide +kernel)
    (case sa8 => k_is)
    (case ex8 => k_is)
    (case ty8 => k_is)
    (case kp8 => k_is)
    (case ga8 => k_is)
    (case gg8 => k_is)
    (case hd8 => k_is)
    (case ca8 => k_is)
    (case mo8 => k_is)
    (case no8name => k_is)
    (case ai8 => k_is)
    (case ti8 => k_is)
    (case li8 => k_is)
    (case di8 => k_is)
    (case ki8 => k_is)
    (case xL9 => k_is)
    (case rv9 => first | rfl | decide +kernel)
    (case sa9 => k_is)
    (case ex9 => k_is)
    (case ty9 => k_is)
    (case kp9 => k_is)
    (case ga9 => k_is)
    (case gg9 => k_is)
    (case hd9 => k_is)
    (case ca9 => k_is)
    (case mo9 => k_is)
    (case no9what => k_is)
    (case ai9 => k_is)
    (case ti9 => k_is)
    (case li9 => k_is)
    (case di9 => k_is)
    (case ki9 => k_is)
    (case xL10 => k_is)
    (case rv10 => first | rfl | decide +kernel)
    (case sa10 => k_is)
    (case ex10 => k_is)
    (case ty10 => k_is)
    (case kp10 => k_is)
    (case ga10 => k_is)
    (case gg10 => k_is)
    (case hd10 => k_is)
    (case ca10 => k_is)
    (case mo10 => k_is)
    (case no10what => k_is)
    (case ai10 => k_is)
    (case ti10 => k_is)
    (case li10 => k_is)
    (case di10 => k_is)
    (case ki10 => k_is)
    (case xL11 => k_is)
    (case rv11 => first | rfl | decide +kernel)
    (case sa11 => k_is)
    (case ex11 => k_is)
    (case ty11 => k_is)
    (case kp11 => k_is)
    (case ga11 => k_is)
    (case gg11 => k_is)
    (case hd11 => k_is)
    (case ca11 => k_is)
    (case mo11 => k_is)
    (case no11what => k_is)
    (case no11many => k_is)
    (case no11limit => k_is)
    (case ai11 => k_is)
    (case ti11 => k_is)
    (case li11 => k_is)
    (case di11 => k_is)
    (case ki11 => k_is)
    (case xL12 => k_is)
    (case rv12 => first | rfl | decide +kernel)
    (case sa12 => k_is)
    (case ex12 => k_is)
    (case ty12 => k_is)
    (case kp12 => k_is)
    (case ga12 => k_is)
    (case gg12 => k_is)
    (case hd12 => k_is)
    (case ca12 => k_is)
    (case mo12 => k_is)
    (case no12promise => k_is)
    (case no12witness => k_is)
    (case ai12 => k_is)
    (case ti12 => k_is)
    (case li12 => k_is)
    (case di12 => k_is)
    (case ki12 => k_is)
    (case xL13 => k_is)
    (case rv13 => first | rfl | decide +kernel)
    (case sa13 => k_is)
    (case ex13 => k_is)
    (case ty13 => k_is)
    (case kp13 => k_is)
    (case ga13 => k_is)
    (case gg13 => k_is)
    (case hd13 => k_is)
    (case ca13 => k_is)
    (case mo13 => k_is)
    (case e013 => k_exc)
    (case xL14 => k_is)
    (case rv14 => first | rfl | decide +kernel)
    (case sa14 => k_is)
    (case ex14 => k_is)
    (case ty14 => k_is)
    (case kp14 => k_is)
    (case ga14 => k_is)
    (case gg14 => k_is)
    (case hd14 => k_is)
    (case ca14 => k_is)
    (case mo14 => k_is)
    (case e014 => k_exc)
    (case s1_1 => kit_is)
    (case s1_4 => kit_is)
    (case s1_5 => kit_is)
    (case s1_6 => kit_is)
    (case s1_7 => kit_is)
    (case s1_8 => kit_is)
    (case s1_9 => kit_is)
    (case s1_10 => kit_is)
    (case s1_11 => kit_is)
    (case s1_2 => kit_is)
    (case s1_3 => kit_is)
    (case s1_12 => kit_is)
    (case s1_13 => kit_is)
    (case s1_14 => kit_is)
    (case d1 => kit_is)
    (case w1 => kit_is)
    (case s4_1 => kit_is)
    (case s4_4 => kit_is)
    (case s4_5 => kit_is)
    (case s4_6 => kit_is)
    (case s4_7 => kit_is)
    (case s4_8 => kit_is)
    (case s4_9 => kit_is)
    (case s4_10 => kit_is)
    (case s4_11 => kit_is)
    (case s4_2 => kit_is)
    (case s4_3 => kit_is)
    (case s4_12 => kit_is)
    (case s4_13 => kit_is)
    (case s4_14 => kit_is)
    (case d4 => kit_is)
    (case w4 => kit_is)
    (case s5_1 => kit_is)
    (case s5_4 => kit_is)
    (case s5_5 => kit_is)
    (case s5_6 => kit_is)
    (case s5_7 => kit_is)
    (case s5_8 => kit_is)
    (case s5_9 => kit_is)
    (case s5_10 => kit_is)
    (case s5_11 => kit_is)
    (case s5_2 => kit_is)
    (case s5_3 => kit_is)
    (case s5_12 => kit_is)
    (case s5_13 => kit_is)
    (case s5_14 => kit_is)
    (case d5 => kit_is)
    (case w5 => kit_is)
    (case s6_1 => kit_is)
    (case s6_4 => kit_is)
    (case s6_5 => kit_is)
    (case s6_6 => kit_is)
    (case s6_7 => kit_is)
    (case s6_8 => kit_is)
    (case s6_9 => kit_is)
    (case s6_10 => kit_is)
    (case s6_11 => kit_is)
    (case s6_2 => kit_is)
    (case s6_3 => kit_is)
    (case s6_12 => kit_is)
    (case s6_13 => kit_is)
    (case s6_14 => kit_is)
    (case d6 => kit_is)
    (case w6 => kit_is)
    (case s7_1 => kit_is)
    (case s7_4 => kit_is)
    (case s7_5 => kit_is)
    (case s7_6 => kit_is)
    (case s7_7 => kit_is)
    (case s7_8 => kit_is)
    (case s7_9 => kit_is)
    (case s7_10 => kit_is)
    (case s7_11 => kit_is)
    (case s7_2 => kit_is)
    (case s7_3 => kit_is)
    (case s7_12 => kit_is)
    (case s7_13 => kit_is)
    (case s7_14 => kit_is)
    (case d7 => kit_is)
    (case w7 => kit_is)
    (case s8_1 => kit_is)
    (case s8_4 => kit_is)
    (case s8_5 => kit_is)
    (case s8_6 => kit_is)
    (case s8_7 => kit_is)
    (case s8_8 => kit_is)
    (case s8_9 => kit_is)
    (case s8_10 => kit_is)
    (case s8_11 => kit_is)
    (case s8_2 => kit_is)
    (case s8_3 => kit_is)
    (case s8_12 => kit_is)
    (case s8_13 => kit_is)
    (case s8_14 => kit_is)
    (case d8 => kit_is)
    (case w8 => kit_is)
    (case s9_1 => kit_is)
    (case s9_4 => kit_is)
    (case s9_5 => kit_is)
    (case s9_6 => kit_is)
    (case s9_7 => kit_is)
    (case s9_8 => kit_is)
    (case s9_9 => kit_is)
    (case s9_10 => kit_is)
    (case s9_11 => kit_is)
    (case s9_2 => kit_is)
    (case s9_3 => kit_is)
    (case s9_12 => kit_is)
    (case s9_13 => kit_is)
    (case s9_14 => kit_is)
    (case d9 => kit_is)
    (case w9 => kit_is)
    (case s10_1 => kit_is)
    (case s10_4 => kit_is)
    (case s10_5 => kit_is)
    (case s10_6 => kit_is)
    (case s10_7 => kit_is)
    (case s10_8 => kit_is)
    (case s10_9 => kit_is)
    (case s10_10 => kit_is)
    (case s10_11 => kit_is)
    (case s10_2 => kit_is)
    (case s10_3 => kit_is)
    (case s10_12 => kit_is)
    (case s10_13 => kit_is)
    (case s10_14 => kit_is)
    (case d10 => kit_is)
    (case w10 => kit_is)
    (case s11_1 => kit_is)
    (case s11_4 => kit_is)
    (case s11_5 => kit_is)
    (case s11_6 => kit_is)
    (case s11_7 => kit_is)
    (case s11_8 => kit_is)
    (case s11_9 => kit_is)
    (case s11_10 => kit_is)
    (case s11_11 => kit_is)
    (case s11_2 => kit_is)
    (case s11_3 => kit_is)
    (case s11_12 => kit_is)
    (case s11_13 => kit_is)
    (case s11_14 => kit_is)
    (case d11 => kit_is)
    (case w11 => kit_is)
    (case s2_1 => kit_is)
    (case s2_4 => kit_is)
    (case s2_5 => kit_is)
    (case s2_6 => kit_is)
    (case s2_7 => kit_is)
    (case s2_8 => kit_is)
    (case s2_9 => kit_is)
    (case s2_10 => kit_is)
    (case s2_11 => kit_is)
    (case s2_2 => kit_is)
    (case s2_3 => kit_is)
    (case s2_12 => kit_is)
    (case s2_13 => kit_is)
    (case s2_14 => kit_is)
    (case d2 => kit_is)
    (case w2 => kit_is)
    (case s3_1 => kit_is)
    (case s3_4 => kit_is)
    (case s3_5 => kit_is)
    (case s3_6 => kit_is)
    (case s3_7 => kit_is)
    (case s3_8 => kit_is)
    (case s3_9 => kit_is)
    (case s3_10 => kit_is)
    (case s3_11 => kit_is)
    (case s3_2 => kit_is)
    (case s3_3 => kit_is)
    (case s3_12 => kit_is)
    (case s3_13 => kit_is)
    (case s3_14 => kit_is)
    (case d3 => kit_is)
    (case w3 => kit_is)
    (case s12_1 => kit_is)
    (case s12_4 => kit_is)
    (case s12_5 => kit_is)
    (case s12_6 => kit_is)
    (case s12_7 => kit_is)
    (case s12_8 => kit_is)
    (case s12_9 => kit_is)
    (case s12_10 => kit_is)
    (case s12_11 => kit_is)
    (case s12_2 => kit_is)
    (case s12_3 => kit_is)
    (case s12_12 => kit_is)
    (case s12_13 => kit_is)
    (case s12_14 => kit_is)
    (case d12 => kit_is)
    (case w12 => kit_is)
    (case s13_1 => kit_is)
    (case s13_4 => kit_is)
    (case s13_5 => kit_is)
    (case s13_6 => kit_is)
    (case s13_7 => kit_is)
    (case s13_8 => kit_is)
    (case s13_9 => kit_is)
    (case s13_10 => kit_is)
    (case s13_11 => kit_is)
    (case s13_2 => kit_is)
    (case s13_3 => kit_is)
    (case s13_12 => kit_is)
    (case s13_13 => kit_is)
    (case s13_14 => kit_is)
    (case d13 => kit_is)
    (case w13 => kit_is)
    (case s14_1 => kit_is)
    (case s14_4 => kit_is)
    (case s14_5 => kit_is)
    (case s14_6 => kit_is)
    (case s14_7 => kit_is)
    (case s14_8 => kit_is)
    (case s14_9 => kit_is)
    (case s14_10 => kit_is)
    (case s14_11 => kit_is)
    (case s14_2 => kit_is)
    (case s14_3 => kit_is)
    (case s14_12 => kit_is)
    (case s14_13 => kit_is)
    (case s14_14 => kit_is)
    (case d14 => kit_is)
    (case w14 => kit_is)
    (case em => kts_exm)
    (case ch => k_is)
    (case ct => k_is)
    (case b_len => k_is)
    (case b_list => k_is)
    (case b_int => k_is)
    (case b_range => k_is)
    (case b_enumerate => k_is)
    (case b_isinstance => k_is)
    (case b_repr => k_is)
    (case b_ValueError => k_is)
    (case af0 => k_is)
    (case lf0 => k_is)
    (case df0 => k_is)
    (case kf0 => k_is)
    (case af1 => k_is)
    (case lf1 => k_is)
    (case df1 => k_is)
    (case kf1 => k_is)
    (case af2 => k_is)
    (case lf2 => k_is)
    (case df2 => k_is)
    (case kf2 => k_is)
    (case af3 => k_is)
    (case lf3 => k_is)
    (case df3 => k_is)
    (case kf3 => k_is)
    (case af4 => k_is)
    (case lf4 => k_is)
    (case df4 => k_is)
    (case kf4 => k_is)
    (case af5 => k_is)
    (case lf5 => k_is)
    (case df5 => k_is)
    (case kf5 => k_is)
    (case af6 => k_is)
    (case lf6 => k_is)
    (case df6 => k_is)
    (case kf6 => k_is)
    (case af7 => k_is)
    (case lf7 => k_is)
    (case df7 => k_is)
    (case kf7 => k_is)
