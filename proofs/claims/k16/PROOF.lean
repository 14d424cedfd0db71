import PyProof.Rows.All
import Wide.All
import OpenK.AllK
import Wide.FinOn
import HandS.ForMost
import HandS.ForExc
import HandS.Deep
import HandS.TupAny
import HandS.IsInst
import HandS.Conv
import HandS.Defaults
import HandS.Star
import HandS.Dict
import KE.SortData
import PyProof.SumAny
import PyProof.ReprRoads
import HandS.Ends
import HandS.HeadEnd
import KE.KeyNested
import HandS.TupSets
import PyProof.FactsAll.subtypes_4
import PyProof.Rows.RegStrFacts
import HandS.Words
import HandS.Head0
import HandS.Head1
import HandS.Head2
import HandS.HeadHook1
import HandS.HeadHook2
import PySem.Challenge.RW_elasticsheets_k16_marks_and_chains
set_option Elab.async false
set_option linter.all false
set_option maxRecDepth 100000
set_option maxHeartbeats 8000000
namespace Mx
open PySem L2

/-- a value: plain ones for ever, or the i-th thing that may change -/
inductive MV where
  | non | bl (b : Bool) | int (i : Int) | str (x : Str) | tup (xs : List MV) | lst (xs : List MV) | ed | ref (i : Nat) | ty (n : String) | adr (a : Addr) | scr (xs : List MV)
/-- a thing that may change -/
inductive MO where
  | lst (xs : List MV) | dic (kvs : List (Key × MV))
abbrev Hm := List (Option MO)
abbrev Fz := Addr → Prop
structure Wd where
  F : Fz
  φ : List Addr
  hm : Hm
/-- what may change -/
def Wd.L (w : Wd) : Fz := fun a => ∃ (i : Nat) (o : MO), w.φ[i]? = some a ∧ w.hm[i]? = some (some o)
/-- a tuple that stands for ever -/
def FT (K : PySem.W.Frag) (F : Fz) (H : Hp) (a : Addr) (vs : List V) : Prop :=
  (F a ∧ H a = some (.tup vs)) ∨ ∃ (o : Obj) (its : Array Value) (n : Nat), K.lookup a = some o ∧ o.cls = .type "tuple" ∧ o.data = .seq its n ∧ its.size ≤ sizeLine ∧ Vals vs its.toList
theorem FT.sq {K : PySem.W.Frag} {F : Fz} {H : Hp} {a : Addr} {vs : List V} (h : FT K F H a vs) : SqT K H a vs := by
  rcases h with ⟨_, h⟩ | h
  · exact .inl (.inl h)
  · exact .inr h
/-- a list that is only read -/
def FLs (K : PySem.W.Frag) (F : Fz) (H : Hp) (a : Addr) (vs : List V) : Prop :=
  (F a ∧ Rd H a (.lst vs)) ∨ ∃ (o : Obj) (its : Array Value) (n : Nat), K.lookup a = some o ∧ o.cls = .type "list" ∧ o.dict = none ∧ o.data = .seq its n ∧ its.size ≤ sizeLine ∧ Vals vs its.toList
theorem FLs.sq {K : PySem.W.Frag} {F : Fz} {H : Hp} {a : Addr} {vs : List V} (h : FLs K F H a vs) : SqL K H a vs := by
  rcases h with ⟨_, h⟩ | h
  · exact .inl h
  · exact .inr h
mutual
inductive VR (K : PySem.W.Frag) (F : Fz) (φ : List Addr) (H : Hp) : MV → V → Prop
  | non : VR K F φ H .non .non
  | bl (b : Bool) : VR K F φ H (.bl b) (.bl b)
  | int (i : Int) : VR K F φ H (.int i) (.int i)
  | str (x : Str) : VR K F φ H (.str x) (.str x)
  | ty (n : String) : VR K F φ H (.ty n) (.ty n)
  | adr (a : Addr) : VR K F φ H (.adr a) (.ref a)
  /-- a list that is only read (the script) -/
  | scr {a : Addr} {vs : List V} {xs : List MV} : FLs K F H a vs → VRs K F φ H xs vs → VR K F φ H (.scr xs) (.ref a)
  | tup {a : Addr} {vs : List V} {xs : List MV} : FT K F H a vs → VRs K F φ H xs vs → VR K F φ H (.tup xs) (.ref a)
  | lst {a : Addr} {vs : List V} {xs : List MV} : F a → H a = some (.lst vs) → VRs K F φ H xs vs → VR K F φ H (.lst xs) (.ref a)
  | ed {a : Addr} : F a → H a = some (.dK []) → VR K F φ H .ed (.ref a)
  | ref {i : Nat} {a : Addr} : φ[i]? = some a → VR K F φ H (.ref i) (.ref a)
inductive VRs (K : PySem.W.Frag) (F : Fz) (φ : List Addr) (H : Hp) : List MV → List V → Prop
  | nil : VRs K F φ H [] []
  | cons {x : MV} {v : V} {xs : List MV} {vs : List V} : VR K F φ H x v → VRs K F φ H xs vs → VRs K F φ H (x :: xs) (v :: vs)
end
/-- a dict's pairs -/
inductive DR (K : PySem.W.Frag) (F : Fz) (φ : List Addr) (H : Hp) : List (Key × MV) → List (Key × V) → Prop
  | nil : DR K F φ H [] []
  | cons {k : Key} {x : MV} {v : V} {xs : List (Key × MV)} {vs : List (Key × V)} : VR K F φ H x v → DR K F φ H xs vs → DR K F φ H ((k, x) :: xs) ((k, v) :: vs)
inductive OR (K : PySem.W.Frag) (F : Fz) (φ : List Addr) (H : Hp) (a : Addr) : MO → Prop
  | lst {xs : List MV} {vs : List V} : H a = some (.lst vs) → VRs K F φ H xs vs → OR K F φ H a (.lst xs)
  | dic {xs : List (Key × MV)} {vs : List (Key × V)} : H a = some (.dK vs) → DR K F φ H xs vs → OR K F φ H a (.dic xs)
structure Wk (K : PySem.W.Frag) (w : Wd) (H : Hp) : Prop where
  fz : ∀ a, w.F a → ¬ w.L a ∧ ∃ o, H a = some o
  ob : ∀ (i : Nat) (o : MO), w.hm[i]? = some (some o) → ∃ a, w.φ[i]? = some a ∧ OR K w.F w.φ H a o
  all : ∀ a, a ∈ w.φ → ∃ o, H a = some o
  nd : w.φ.Nodup
  len : w.hm.length = w.φ.length
structure Wx (w : Wd) (H : Hp) (w' : Wd) (H' : Hp) : Prop where
  keep : ∀ a o, H a = some o → ¬ w.L a → H' a = some o
  mono : ∀ a, w.F a → w'.F a
  new : ∀ a, w'.F a → w.F a ∨ w.L a ∨ H a = none
  lnew : ∀ a, w'.L a → w.L a ∨ H a = none
  there : ∀ a, H' a = none → H a = none
  pre : ∃ t, w'.φ = w.φ ++ t
  pfr : ∀ a, a ∈ w'.φ → a ∈ w.φ ∨ H a = none
theorem Wx.refl {w : Wd} {H : Hp} : Wx w H w H := ⟨fun _ _ h _ => h, fun _ h => h, fun _ h => .inl h, fun _ h => .inl h, fun _ h => h, ⟨[], by simp⟩, fun _ h => .inl h⟩
theorem Wx.trans {w w1 w2 : Wd} {H H1 H2 : Hp} (a : Wx w H w1 H1) (b : Wx w1 H1 w2 H2) : Wx w H w2 H2 := by
  refine ⟨fun x o h n => ?_, fun x h => b.mono x (a.mono x h), fun x h => ?_, fun x h => ?_, fun x h => a.there x (b.there x h), ?_, fun x h => ?_⟩
  · refine b.keep x o (a.keep x o h n) fun l => ?_
    rcases a.lnew x l with l | l
    · exact n l
    · rw [h] at l; cases l
  · rcases b.new x h with h | h | h
    · exact a.new x h
    · rcases a.lnew x h with h | h
      · exact .inr (.inl h)
      · exact .inr (.inr h)
    · exact .inr (.inr (a.there x h))
  · rcases b.lnew x h with h | h
    · exact a.lnew x h
    · exact .inr (a.there x h)
  · obtain ⟨t, e⟩ := a.pre
    obtain ⟨u, f⟩ := b.pre
    exact ⟨t ++ u, by rw [f, e, List.append_assoc]⟩
  · rcases b.pfr x h with h | h
    · exact a.pfr x h
    · exact .inr (a.there x h)
theorem pre_get {φ φ' t : List Addr} {i : Nat} {a : Addr} (e : φ' = φ ++ t) (h : φ[i]? = some a) : φ'[i]? = some a := by
  rw [e, List.getElem?_append_left (List.getElem?_eq_some_iff.mp h).1]; exact h
section
variable {K : PySem.W.Frag} {w w' : Wd} {F F' : Fz} {φ φ' : List Addr} {H H' : Hp}
/-- what is said of frozen things is kept where they are -/
theorem FT.go (hf : ∀ a, F a → F' a) (hk : ∀ a o, F a → H a = some o → H' a = some o) {a : Addr} {vs : List V} (h : FT K F H a vs) : FT K F' H' a vs := by
  rcases h with ⟨f, h⟩ | h
  · exact .inl ⟨hf a f, hk a _ f h⟩
  · exact .inr h
theorem FLs.go (hf : ∀ a, F a → F' a) (hk : ∀ a o, F a → H a = some o → H' a = some o) {a : Addr} {vs : List V} (h : FLs K F H a vs) : FLs K F' H' a vs := by
  rcases h with ⟨f, h⟩ | h
  · refine .inl ⟨hf a f, ?_⟩
    rcases h with h | ⟨o, h⟩
    · exact .inl (hk _ _ f h)
    · exact .inr ⟨o, hk _ _ f h⟩
  · exact .inr h
mutual
theorem VR.go (hf : ∀ a, F a → F' a) (hk : ∀ a o, F a → H a = some o → H' a = some o) (hp : ∀ (i : Nat) (a : Addr), φ[i]? = some a → φ'[i]? = some a) : ∀ {x : MV} {v : V}, VR K F φ H x v → VR K F' φ' H' x v
  | _, _, .non => .non
  | _, _, .bl b => .bl b
  | _, _, .int i => .int i
  | _, _, .str x => .str x
  | _, _, .ty x => .ty x
  | _, _, .adr x => .adr x
  | _, _, .scr h r => .scr (h.go hf hk) (VRs.go hf hk hp r)
  | _, _, .tup h r => .tup (h.go hf hk) (VRs.go hf hk hp r)
  | _, _, .lst f h r => .lst (hf _ f) (hk _ _ f h) (VRs.go hf hk hp r)
  | _, _, .ed f h => .ed (hf _ f) (hk _ _ f h)
  | _, _, .ref h => .ref (hp _ _ h)
theorem VRs.go (hf : ∀ a, F a → F' a) (hk : ∀ a o, F a → H a = some o → H' a = some o) (hp : ∀ (i : Nat) (a : Addr), φ[i]? = some a → φ'[i]? = some a) : ∀ {xs : List MV} {vs : List V}, VRs K F φ H xs vs → VRs K F' φ' H' xs vs
  | _, _, .nil => .nil
  | _, _, .cons h r => .cons (VR.go hf hk hp h) (VRs.go hf hk hp r)
end
theorem DR.go (hf : ∀ a, F a → F' a) (hk : ∀ a o, F a → H a = some o → H' a = some o) (hp : ∀ (i : Nat) (a : Addr), φ[i]? = some a → φ'[i]? = some a) : ∀ {xs : List (Key × MV)} {vs : List (Key × V)}, DR K F φ H xs vs → DR K F' φ' H' xs vs
  | _, _, .nil => .nil
  | _, _, .cons h r => .cons (VR.go hf hk hp h) (DR.go hf hk hp r)
theorem OR.go (hf : ∀ a, F a → F' a) (hk : ∀ a o, F a → H a = some o → H' a = some o) (hp : ∀ (i : Nat) (a : Addr), φ[i]? = some a → φ'[i]? = some a) {a : Addr} {o : MO} (ha : ∀ u, H a = some u → H' a = some u) (r : OR K F φ H a o) : OR K F' φ' H' a o := by
  cases r with
  | lst h r => exact .lst (ha _ h) (r.go hf hk hp)
  | dic h r => exact .dic (ha _ h) (r.go hf hk hp)
theorem Wx.fk (k : Wk K w H) (e : Wx w H w' H') : ∀ a o, w.F a → H a = some o → H' a = some o := fun a o f h => e.keep a o h (k.fz a f).1
theorem Wx.pg (e : Wx w H w' H') : ∀ (i : Nat) (a : Addr), w.φ[i]? = some a → w'.φ[i]? = some a := fun i a h => let ⟨_, q⟩ := e.pre; pre_get q h
theorem VR.ext (k : Wk K w H) (e : Wx w H w' H') {x : MV} {v : V} (r : VR K w.F w.φ H x v) : VR K w'.F w'.φ H' x v := r.go e.mono (e.fk k) e.pg
theorem VRs.ext (k : Wk K w H) (e : Wx w H w' H') {x : List MV} {v : List V} (r : VRs K w.F w.φ H x v) : VRs K w'.F w'.φ H' x v := r.go e.mono (e.fk k) e.pg
theorem FT.ext (k : Wk K w H) (e : Wx w H w' H') {a : Addr} {vs : List V} (r : FT K w.F H a vs) : FT K w'.F H' a vs := r.go e.mono (e.fk k)
theorem VRs.length : ∀ {xs : List MV} {vs : List V}, VRs K F φ H xs vs → xs.length = vs.length
  | _, _, .nil => rfl
  | _, _, .cons _ r => by rw [List.length_cons, List.length_cons, VRs.length r]
theorem VRs.append : ∀ {xs ys : List MV} {vs ws : List V}, VRs K F φ H xs vs → VRs K F φ H ys ws → VRs K F φ H (xs ++ ys) (vs ++ ws)
  | _, _, _, _, .nil, s => s
  | _, _, _, _, .cons r t, s => .cons r (VRs.append t s)
theorem VRs.get : ∀ {xs : List MV} {vs : List V} {i : Nat} {x : MV}, VRs K F φ H xs vs → xs[i]? = some x → ∃ v, vs[i]? = some v ∧ VR K F φ H x v
  | _, _, _, _, .nil, e => by simp at e
  | _, _, 0, _, .cons r _, e => by simp at e; subst e; exact ⟨_, rfl, r⟩
  | _, _, i + 1, x, .cons _ t, e => by
    obtain ⟨u, h1, h2⟩ := VRs.get (i := i) (x := x) t (by simpa using e)
    exact ⟨u, by simpa using h1, h2⟩
theorem VRs.getV : ∀ {xs : List MV} {vs : List V} {i : Nat} {v : V}, VRs K F φ H xs vs → vs[i]? = some v → ∃ x, xs[i]? = some x ∧ VR K F φ H x v
  | _, _, _, _, .nil, e => by simp at e
  | _, _, 0, _, .cons r _, e => by simp at e; subst e; exact ⟨_, rfl, r⟩
  | _, _, i + 1, x, .cons _ t, e => by
    obtain ⟨u, h1, h2⟩ := VRs.getV (i := i) (v := x) t (by simpa using e)
    exact ⟨u, by simpa using h1, h2⟩
theorem VRs.snoc {xs : List MV} {vs : List V} {x : MV} {v : V} (h : VRs K F φ H xs vs) (r : VR K F φ H x v) : VRs K F φ H (xs ++ [x]) (vs ++ [v]) := h.append (.cons r .nil)
def Wd.add (w : Wd) (p : Addr) : Wd := { w with F := fun a => w.F a ∨ a = p }
def Wd.new (w : Wd) (p : Addr) (o : MO) : Wd := { w with φ := w.φ ++ [p], hm := w.hm ++ [some o] }
def Wd.put (w : Wd) (i : Nat) (o : MO) : Wd := { w with hm := w.hm.set i (some o) }
def Wd.frz (w : Wd) (i : Nat) (p : Addr) : Wd := { w with F := fun a => w.F a ∨ a = p, hm := w.hm.set i none }
theorem Wk.notL (k : Wk K w H) {p : Addr} (hp : H p = none) : ¬ w.L p := fun ⟨i, o, h, _⟩ => by
  obtain ⟨u, e⟩ := k.all p (List.mem_of_getElem? h)
  rw [hp] at e; cases e
theorem Wk.notφ (k : Wk K w H) {p : Addr} (hp : H p = none) : p ∉ w.φ := fun z => by
  obtain ⟨u, e⟩ := k.all p z
  rw [hp] at e; cases e
theorem Wk.notF (k : Wk K w H) {p : Addr} (hp : H p = none) : ¬ w.F p := fun z => by
  obtain ⟨_, u, e⟩ := k.fz p z
  rw [hp] at e; cases e
/-- a new object is laid and frozen -/
theorem Wk.addO {p : Addr} {o : HO} (k : Wk K w H) (hp : H p = none) : Wx w H (w.add p) (upd H p o) ∧ Wk K (w.add p) (upd H p o) := by
  have hk : ∀ a u, H a = some u → upd H p o a = some u := fun a u e => by rw [upd_ne (ne_of_none e hp)]; exact e
  refine ⟨⟨fun a u e _ => hk a u e, fun a h => .inl h, fun a h => ?_, fun a h => .inl h, fun a h => ?_, ⟨[], by simp [Wd.add]⟩, fun _ h => .inl h⟩, ⟨fun a h => ?_, fun i u h => ?_, fun a h => ?_, k.nd, k.len⟩⟩
  · rcases h with h | rfl
    · exact .inl h
    · exact .inr (.inr hp)
  · by_cases e : a = p
    · subst e; exact hp
    · rw [upd_ne e] at h; exact h
  · rcases h with h | rfl
    · obtain ⟨n, u, e⟩ := k.fz a h
      exact ⟨n, u, hk a u e⟩
    · exact ⟨k.notL hp, _, upd_same⟩
  · obtain ⟨a, e, r⟩ := k.ob i u h
    exact ⟨a, e, r.go (fun _ h => .inl h) (fun a u _ e => hk a u e) (fun _ _ h => h) fun u e => hk a u e⟩
  · obtain ⟨u, e⟩ := k.all a h
    exact ⟨u, hk a u e⟩
/-- a new object is laid, of no account -/
theorem Wk.lay {p : Addr} {o : HO} (k : Wk K w H) (hp : H p = none) : Wx w H w (upd H p o) ∧ Wk K w (upd H p o) := by
  have hk : ∀ a u, H a = some u → upd H p o a = some u := fun a u e => by rw [upd_ne (ne_of_none e hp)]; exact e
  refine ⟨⟨fun a u e _ => hk a u e, fun a h => h, fun a h => .inl h, fun a h => .inl h, fun a h => ?_, ⟨[], by simp⟩, fun _ h => .inl h⟩, ⟨fun a h => ?_, fun i u h => ?_, fun a h => ?_, k.nd, k.len⟩⟩
  · by_cases e : a = p
    · subst e; exact hp
    · rw [upd_ne e] at h; exact h
  · obtain ⟨n, u, e⟩ := k.fz a h
    exact ⟨n, u, hk a u e⟩
  · obtain ⟨a, e, r⟩ := k.ob i u h
    exact ⟨a, e, r.go (fun _ h => h) (fun a u _ e => hk a u e) (fun _ _ h => h) fun u e => hk a u e⟩
  · obtain ⟨u, e⟩ := k.all a h
    exact ⟨u, hk a u e⟩
theorem VR.newTup {p : Addr} {vs : List V} {xs : List MV} (k : Wk K w H) (hp : H p = none) (r : VRs K w.F w.φ H xs vs) : VR K (w.add p).F (w.add p).φ (upd H p (.tup vs)) (.tup xs) (.ref p) :=
  .tup (.inl ⟨.inr rfl, upd_same⟩) (r.ext k (k.addO hp).1)
theorem VR.newLst {p : Addr} {vs : List V} {xs : List MV} (k : Wk K w H) (hp : H p = none) (r : VRs K w.F w.φ H xs vs) : VR K (w.add p).F (w.add p).φ (upd H p (.lst vs)) (.lst xs) (.ref p) :=
  .lst (.inr rfl) upd_same (r.ext k (k.addO hp).1)
/-- a new object that may change -/
theorem Wk.newO {p : Addr} {o : HO} {mo : MO} (k : Wk K w H) (hp : H p = none) (ho : OR K w.F (w.φ ++ [p]) (upd H p o) p mo) : Wx w H (w.new p mo) (upd H p o) ∧ Wk K (w.new p mo) (upd H p o) := by
  have hk : ∀ a u, H a = some u → upd H p o a = some u := fun a u e => by rw [upd_ne (ne_of_none e hp)]; exact e
  have hpg : ∀ (i : Nat) (a : Addr), w.φ[i]? = some a → (w.φ ++ [p])[i]? = some a := fun i a h => pre_get rfl h
  have hL : ∀ a, (w.new p mo).L a → w.L a ∨ a = p := fun a ⟨i, u, h1, h2⟩ => by
    change (w.φ ++ [p])[i]? = some a at h1
    change (w.hm ++ [some mo])[i]? = some (some u) at h2
    rcases Nat.lt_or_ge i w.φ.length with hi | hi
    · rw [List.getElem?_append_left hi] at h1
      rw [List.getElem?_append_left (by rw [k.len]; exact hi)] at h2
      exact .inl ⟨i, u, h1, h2⟩
    · rw [List.getElem?_append_right hi] at h1
      have : i - w.φ.length = 0 := by
        rcases Nat.lt_or_ge 0 (i - w.φ.length) with z | z
        · rw [List.getElem?_eq_none (by simp; omega)] at h1; cases h1
        · omega
      rw [this] at h1
      right
      simpa using h1.symm
  refine ⟨⟨fun a u e _ => hk a u e, fun a h => h, fun a h => .inl h, fun a h => ?_, fun a h => ?_, ⟨[p], rfl⟩, fun a h => ?_⟩, ⟨fun a h => ?_, fun i u h => ?_, fun a h => ?_, ?_, ?_⟩⟩
  · rcases hL a h with h | rfl
    · exact .inl h
    · exact .inr hp
  · by_cases e : a = p
    · subst e; exact hp
    · rw [upd_ne e] at h; exact h
  · rcases List.mem_append.mp h with h | h
    · exact .inl h
    · obtain rfl : a = p := by simpa using h
      exact .inr hp
  · obtain ⟨n, u, e⟩ := k.fz a h
    refine ⟨fun l => ?_, u, hk a u e⟩
    rcases hL a l with l | rfl
    · exact n l
    · rw [hp] at e; cases e
  · change (w.hm ++ [some mo])[i]? = some (some u) at h
    rcases Nat.lt_or_ge i w.hm.length with hi | hi
    · rw [List.getElem?_append_left hi] at h
      obtain ⟨a, e, r⟩ := k.ob i u h
      exact ⟨a, hpg i a e, r.go (fun _ h => h) (fun a u _ e => hk a u e) hpg fun u e => hk a u e⟩
    · rw [List.getElem?_append_right hi] at h
      have : i - w.hm.length = 0 := by
        rcases Nat.lt_or_ge 0 (i - w.hm.length) with z | z
        · rw [List.getElem?_eq_none (by simp; omega)] at h; cases h
        · omega
      rw [this] at h
      have e : mo = u := by simpa using h
      subst e
      refine ⟨p, ?_, ho⟩
      have : i = w.φ.length := by rw [← k.len]; omega
      show (w.φ ++ [p])[i]? = some p
      rw [this]; simp
  · rcases List.mem_append.mp h with h | h
    · obtain ⟨u, e⟩ := k.all a h
      exact ⟨u, hk a u e⟩
    · obtain rfl : a = p := by simpa using h
      exact ⟨_, upd_same⟩
  · show (w.φ ++ [p]).Nodup
    rw [List.nodup_append]
    exact ⟨k.nd, by simp, fun x hx y hy => by
      obtain rfl : y = p := by simpa using hy
      exact fun z => k.notφ hp (z ▸ hx)⟩
  · show (w.hm ++ [some mo]).length = (w.φ ++ [p]).length
    simp [k.len]
theorem nd_ne {φ : List Addr} (nd : φ.Nodup) {i j : Nat} {a : Addr} (h1 : φ[i]? = some a) (h2 : φ[j]? = some a) : i = j := by
  obtain ⟨l1, e1⟩ := List.getElem?_eq_some_iff.mp h1
  obtain ⟨l2, e2⟩ := List.getElem?_eq_some_iff.mp h2
  exact (List.getElem_inj nd).mp (e1.trans e2.symm)
theorem Wd.live (w : Wd) {i : Nat} {a : Addr} {o : MO} (h1 : w.φ[i]? = some a) (h2 : w.hm[i]? = some (some o)) : w.L a := ⟨i, o, h1, h2⟩
/-- a thing is changed -/
theorem Wk.putO {i : Nat} {p : Addr} {o : HO} {mo mo' : MO} (k : Wk K w H) (hi : w.φ[i]? = some p) (hm : w.hm[i]? = some (some mo)) (ho : OR K w.F w.φ (upd H p o) p mo') : Wx w H (w.put i mo') (upd H p o) ∧ Wk K (w.put i mo') (upd H p o) := by
  have hlp : w.L p := w.live hi hm
  have hk : ∀ a u, a ≠ p → H a = some u → upd H p o a = some u := fun a u n e => by rw [upd_ne n]; exact e
  have hF : ∀ a, w.F a → a ≠ p := fun a f z => (k.fz a f).1 (z ▸ hlp)
  have hl : i < w.hm.length := (List.getElem?_eq_some_iff.mp hm).1
  have hL : ∀ a, (w.put i mo').L a → w.L a := fun a ⟨j, u, h1, h2⟩ => by
    change (w.hm.set i (some mo'))[j]? = some (some u) at h2
    by_cases e : i = j
    · subst e
      have : a = p := by have h1' : w.φ[i]? = some a := h1; rw [hi] at h1'; exact (Option.some.inj h1').symm
      subst this
      exact hlp
    · rw [List.getElem?_set_ne e] at h2
      exact ⟨j, u, h1, h2⟩
  refine ⟨⟨fun a u e n => hk a u (fun z => n (z ▸ hlp)) e, fun a h => h, fun a h => .inl h, fun a h => .inl (hL a h), fun a h => ?_, ⟨[], by simp [Wd.put]⟩, fun _ h => .inl h⟩, ⟨fun a h => ?_, fun j u h => ?_, fun a h => ?_, k.nd, ?_⟩⟩
  · by_cases e : a = p
    · subst e; rw [upd_same] at h; cases h
    · rw [upd_ne e] at h; exact h
  · obtain ⟨n, u, e⟩ := k.fz a h
    exact ⟨fun l => n (hL a l), u, hk a u (hF a h) e⟩
  · change (w.hm.set i (some mo'))[j]? = some (some u) at h
    by_cases e : i = j
    · subst e
      rw [List.getElem?_set_self hl] at h
      have e : mo' = u := by simpa using h
      subst e
      exact ⟨p, hi, ho⟩
    · rw [List.getElem?_set_ne e] at h
      obtain ⟨a, e1, r⟩ := k.ob j u h
      have hap : a ≠ p := fun z => e (nd_ne k.nd hi (z ▸ e1))
      exact ⟨a, e1, r.go (fun _ h => h) (fun a u f e => hk a u (hF a f) e) (fun _ _ h => h) fun u e => hk a u hap e⟩
  · by_cases e : a = p
    · exact ⟨o, by rw [e]; exact upd_same⟩
    · obtain ⟨u, q⟩ := k.all a h
      exact ⟨u, hk a u e q⟩
  · show (w.hm.set i (some mo')).length = w.φ.length
    rw [List.length_set]; exact k.len
/-- a thing is frozen: it changes no more -/
theorem Wk.frzO {i : Nat} {p : Addr} {mo : MO} (k : Wk K w H) (hi : w.φ[i]? = some p) (hm : w.hm[i]? = some (some mo)) : Wx w H (w.frz i p) H ∧ Wk K (w.frz i p) H := by
  have hlp : w.L p := w.live hi hm
  have hL : ∀ a, (w.frz i p).L a → w.L a ∧ a ≠ p := fun a ⟨j, u, h1, h2⟩ => by
    change (w.hm.set i none)[j]? = some (some u) at h2
    by_cases e : i = j
    · subst e
      rw [List.getElem?_set_self ((List.getElem?_eq_some_iff.mp hm).1)] at h2
      cases h2
    · rw [List.getElem?_set_ne e] at h2
      exact ⟨⟨j, u, h1, h2⟩, fun z => e (nd_ne k.nd hi (z ▸ h1))⟩
  refine ⟨⟨fun a u e _ => e, fun a h => .inl h, fun a h => ?_, fun a h => .inl (hL a h).1, fun a h => h, ⟨[], by simp [Wd.frz]⟩, fun _ h => .inl h⟩, ⟨fun a h => ?_, fun j u h => ?_, k.all, k.nd, ?_⟩⟩
  · rcases h with h | rfl
    · exact .inl h
    · exact .inr (.inl hlp)
  · rcases h with h | rfl
    · obtain ⟨n, u, e⟩ := k.fz a h
      exact ⟨fun l => n (hL a l).1, u, e⟩
    · exact ⟨fun l => (hL a l).2 rfl, k.all a (List.mem_of_getElem? hi)⟩
  · change (w.hm.set i none)[j]? = some (some u) at h
    by_cases e : i = j
    · subst e
      rw [List.getElem?_set_self ((List.getElem?_eq_some_iff.mp hm).1)] at h
      cases h
    · rw [List.getElem?_set_ne e] at h
      obtain ⟨a, e1, r⟩ := k.ob j u h
      exact ⟨a, e1, r.go (fun _ h => .inl h) (fun a u _ e => e) (fun _ _ h => h) fun u e => e⟩
  · show (w.hm.set i none).length = w.φ.length
    rw [List.length_set]; exact k.len
end
end Mx
namespace Mx
open PySem L2

/-- a result: a value, or an exception of a class, with its own attributes -/
inductive RS (α : Type) where
  | ok (a : α) (h : Hm)
  | ex (c : Value) (xs : List (Str × MV)) (h : Hm)
def rb {α β : Type} (r : Option (RS α)) (f : α → Hm → Option (RS β)) : Option (RS β) := match r with
  | some (.ok a h) => f a h
  | some (.ex c xs h) => some (.ex c xs h)
  | none => none
/-- named attributes -/
inductive AR (K : PySem.W.Frag) (F : Fz) (φ : List Addr) (H : Hp) : List (Str × MV) → List (Str × V) → Prop
  | nil : AR K F φ H [] []
  | cons {k : Str} {x : MV} {v : V} {xs : List (Str × MV)} {vs : List (Str × V)} : VR K F φ H x v → AR K F φ H xs vs → AR K F φ H ((k, x) :: xs) ((k, v) :: vs)
def XR (K : PySem.W.Frag) (F : Fz) (φ : List Addr) (H : Hp) (xs : List (Str × MV)) (d : Option Addr) : Prop := (d = none ∧ xs = []) ∨ ∃ dx fs, d = some dx ∧ H dx = some (.xd fs) ∧ AR K F φ H xs fs
/-- what follows of a result -/
def Aft {α : Type} (K : PySem.W.Frag) (w : Wd) (H : Hp) (P : α → Wd → Hp → Prop) (E : XK) : RS α → Prop
  | .ok a h => ∀ w' H', w'.hm = h → Wx w H w' H' → Wk K w' H' → P a w' H'
  | .ex c xs h => ∀ w' H' d, w'.hm = h → Wx w H w' H' → Wk K w' H' → XR K w'.F w'.φ H' xs d → E c d H'
section
variable {α β : Type} {K : PySem.W.Frag} {w w1 : Wd} {H H1 : Hp} {E : XK}
theorem Aft.ext {P : α → Wd → Hp → Prop} (x : Wx w H w1 H1) : ∀ {r : RS α}, Aft K w H P E r → Aft K w1 H1 P E r
  | .ok a h, g => fun w' H' e y k => g w' H' e (x.trans y) k
  | .ex c xs h, g => fun w' H' d e y k r => g w' H' d e (x.trans y) k r
theorem Aft.imp {P P' : α → Wd → Hp → Prop} (i : ∀ a w' H', Wx w H w' H' → Wk K w' H' → P a w' H' → P' a w' H') : ∀ {r : RS α}, Aft K w H P E r → Aft K w H P' E r
  | .ok a h, g => fun w' H' e y k => i a w' H' y k (g w' H' e y k)
  | .ex c xs h, g => g
theorem aft_bind {P : β → Wd → Hp → Prop} {r : Option (RS α)} {f : α → Hm → Option (RS β)} {q : RS β} (e : rb r f = some q) (g : Aft K w H P E q) :
    ∃ r', r = some r' ∧ Aft K w H (fun a w1 H1 => ∃ q', f a w1.hm = some q' ∧ Aft K w1 H1 P E q') E r' := by
  unfold rb at e
  split at e
  · rename_i a h
    exact ⟨_, rfl, fun w' H' eh x k => ⟨q, by rw [eh]; exact e, g.ext x⟩⟩
  · rename_i c xs h
    cases e
    exact ⟨_, rfl, g⟩
  · cases e
/-- a value, nothing else done -/
theorem Aft.here {P : α → Wd → Hp → Prop} {a : α} (g : Aft K w H P E (.ok a w.hm)) (k : Wk K w H) : P a w H := g w H rfl Wx.refl k
end
abbrev Sl := List (Option MV)
def SR (K : PySem.W.Frag) (w : Wd) (H : Hp) (ms : Sl) (σ : St) : Prop := ms.length = σ.length ∧ ∀ (i : Nat) (d : MV), ms[i]? = some (some d) → ∃ v, σ[i]? = some (some v) ∧ VR K w.F w.φ H d v
section
variable {K : PySem.W.Frag} {w w' : Wd} {H H' : Hp} {ms : Sl} {σ : St}
theorem SR.ext (k : Wk K w H) (e : Wx w H w' H') (h : SR K w H ms σ) : SR K w' H' ms σ :=
  ⟨h.1, fun i d q => let ⟨v, a, b⟩ := h.2 i d q; ⟨v, a, b.ext k e⟩⟩
theorem SR.set {i : Nat} {d : MV} {v : V} (h : SR K w H ms σ) (r : VR K w.F w.φ H d v) : SR K w H (ms.set i (some d)) (σ.set i (some v)) := by
  refine ⟨by rw [List.length_set, List.length_set]; exact h.1, fun j e q => ?_⟩
  by_cases hj : i = j
  · subst hj
    have hl : i < ms.length := by
      rcases Nat.lt_or_ge i ms.length with z | z
      · exact z
      · rw [List.getElem?_eq_none (by rw [List.length_set]; exact z)] at q; cases q
    rw [List.getElem?_set_self hl] at q
    cases q
    exact ⟨v, by rw [List.getElem?_set_self (by rw [← h.1]; exact hl)], r⟩
  · rw [List.getElem?_set_ne hj] at q
    obtain ⟨u, a, b⟩ := h.2 j e q
    exact ⟨u, by rw [List.getElem?_set_ne hj]; exact a, b⟩
def wipeM (ms : Sl) : List Nat → Sl
  | [] => ms
  | v :: vs => (wipeM ms vs).set v none
theorem SR.wipe (h : SR K w H ms σ) : ∀ vs : List Nat, SR K w H (wipeM ms vs) (L2.wipe σ vs)
  | [] => h
  | v :: vs => by
    have ih := SR.wipe h vs
    unfold wipeM L2.wipe
    refine ⟨by rw [List.length_set, List.length_set]; exact ih.1, fun j e q => ?_⟩
    by_cases hj : v = j
    · subst hj
      rcases Nat.lt_or_ge v (wipeM ms vs).length with z | z
      · rw [List.getElem?_set_self z] at q; cases q
      · rw [List.getElem?_eq_none (by rw [List.length_set]; exact z)] at q; cases q
    · rw [List.getElem?_set_ne hj] at q
      obtain ⟨u, a, b⟩ := ih.2 j e q
      exact ⟨u, by rw [List.getElem?_set_ne hj]; exact a, b⟩
end
abbrev ME := Sl → Hm → Option (RS MV)
abbrev MA := Sl → Hm → Option (RS (List MV))
/-- a value follows -/
def Vf (K : PySem.W.Frag) (Q : VK) : MV → Wd → Hp → Prop := fun d w H => ∀ v, VR K w.F w.φ H d v → Q v H
def Tf (Q : Bool → Hp → Prop) : MV → Wd → Hp → Prop := fun d _ H => ∃ b, d = .bl b ∧ Q b H
def Af (K : PySem.W.Frag) (Q : List V → Hp → Prop) : List MV → Wd → Hp → Prop := fun ds w H => ∀ vs, VRs K w.F w.φ H ds vs → Q vs H
def TEp (K : PySem.W.Frag) (W : WX) (m : ME) : TE := fun σ H Q => ∃ w ms r, Wk K w H ∧ SR K w H ms σ ∧ m ms w.hm = some r ∧ Aft K w H (Vf K Q) (WE W σ) r
def TTp (K : PySem.W.Frag) (W : WX) (m : ME) : TT := fun σ H Q => ∃ w ms r, Wk K w H ∧ SR K w H ms σ ∧ m ms w.hm = some r ∧ Aft K w H (Tf Q) (WE W σ) r
def TAp (K : PySem.W.Frag) (W : WX) (m : MA) : TA := fun σ H Q => ∃ w ms r, Wk K w H ∧ SR K w H ms σ ∧ m ms w.hm = some r ∧ Aft K w H (Af K Q) (WE W σ) r
abbrev SE (X : Cx) (W : WX) (e : Expr) (m : ME) : Prop := PE X e (TEp X.K W m)
abbrev ST (X : Cx) (W : WX) (e : Expr) (m : ME) : Prop := PT X e (TTp X.K W m)
abbrev SW (X : Cx) (W : WX) (e : Expr) (m : ME) : Prop := PW X e (TTp X.K W m)
abbrev SA (X : Cx) (W : WX) (es : List Expr) (m : MA) : Prop := PA X es (TAp X.K W m)
theorem pe_mono {X : Cx} {e : Expr} {t t' : TE} (h : PE X e t) (k : ∀ σ H Q, t' σ H Q → t σ H Q) : PE X e t' := ⟨fun pins s σ H Q I q => h.run pins s σ H Q I (k σ H Q q)⟩
theorem pt_mono {X : Cx} {e : Expr} {t t' : TT} (h : PT X e t) (k : ∀ σ H Q, t' σ H Q → t σ H Q) : PT X e t' := ⟨fun pins s σ H Q I q => h.run pins s σ H Q I (k σ H Q q)⟩
theorem pw_mono {X : Cx} {e : Expr} {t t' : TT} (h : PW X e t) (k : ∀ σ H Q, t' σ H Q → t σ H Q) : PW X e t' := ⟨fun wh pins s σ H Q I q => h.run wh pins s σ H Q I (k σ H Q q)⟩
theorem pa_mono {X : Cx} {es : List Expr} {t t' : TA} (h : PA X es t) (k : ∀ σ H Q, t' σ H Q → t σ H Q) : PA X es t' := ⟨fun pos pins s σ H Q I q => h.run pos pins s σ H Q I (k σ H Q q)⟩

section
variable {X : Cx} {W : WX} {pos : Pos}
def mVar (i : Nat) : ME := fun ms h => match ms[i]? with
  | some (some d) => some (.ok d h)
  | _ => none
theorem se_var {e : Expr} {i : Nat} (h : PE X e (tVar i)) : SE X W e (mVar i) := pe_mono h fun σ H Q ⟨w, ms, r, k, sr, e, g⟩ => by
  unfold mVar at e
  split at e
  · rename_i d q
    cases e
    obtain ⟨v, a, b⟩ := sr.2 i d q
    exact ⟨v, a, g.here k v b⟩
  · cases e
def mC (d : MV) : ME := fun _ h => some (.ok d h)
theorem se_c {e : Expr} {v : V} {d : MV} (h : PE X e (tC v)) (r : ∀ F φ H, VR X.K F φ H d v) : SE X W e (mC d) := pe_mono h fun σ H Q ⟨w, ms, q, k, _, e, g⟩ => by
  cases e
  exact g.here k v (r _ _ H)
theorem se_int {i : Int} {j} : SE X W (.Constant (.int i) j pos) (mC (.int i)) := se_c pe_int fun _ _ _ => .int i
theorem se_bl {b : Bool} {j} : SE X W (.Constant (.bool b) j pos) (mC (.bl b)) := se_c pe_bl fun _ _ _ => .bl b
theorem se_non {j} : SE X W (.Constant .none j pos) (mC .non) := se_c pe_non fun _ _ _ => .non
theorem se_str {x : Str} {j} : SE X W (.Constant (.str x) j pos) (mC (.str x)) := se_c pe_str fun _ _ _ => .str x

abbrev F2 := Hm → MV → MV → Option MV
def mBin (f : F2) (a b : ME) : ME := fun ms h => rb (a ms h) fun x h1 => rb (b ms h1) fun y h2 => (f h2 x y).map fun d => .ok d h2
/-- an operation on values is sound: the things that may change are as they were -/
def Op2 (K : PySem.W.Frag) (f : F2) (r : R2) : Prop := ∀ (w : Wd) (H : Hp) (a b d : MV) (x y : V) (Q : VK), Wk K w H → VR K w.F w.φ H a x → VR K w.F w.φ H b y → f w.hm a b = some d →
  (∀ w' H' v, w'.hm = w.hm → Wx w H w' H' → Wk K w' H' → VR K w'.F w'.φ H' d v → Q v H') → r x y H Q
theorem op2_mono {a b : ME} {f : F2} {r : R2} (o : Op2 X.K f r) : ∀ σ H Q, TEp X.K W (mBin f a b) σ H Q → tOp r (TEp X.K W a) (TEp X.K W b) σ H Q := fun σ H Q ⟨w, ms, q, k, sr, e, g⟩ => by
  obtain ⟨r1, e1, g1⟩ := aft_bind e g
  refine ⟨w, ms, r1, k, sr, e1, g1.imp fun x w1 H1 x1 k1 ⟨q1, e2, g2⟩ v rv => ?_⟩
  obtain ⟨r2, e3, g3⟩ := aft_bind e2 g2
  refine ⟨w1, ms, r2, k1, sr.ext k x1, e3, g3.imp fun y w2 H2 x2 k2 ⟨q2, e4, g4⟩ u ru => ?_⟩
  cases e5 : f w2.hm x y with
  | none => rw [e5] at e4; cases e4
  | some d =>
    rw [e5] at e4
    cases e4
    exact o w2 H2 x y d v u Q k2 (rv.ext k1 x2) ru e5 fun w' H' v' eh x' k' r' => g4 w' H' eh x' k' v' r'
theorem se_bin {a b : Expr} {ma mb : ME} {op : Operator} {f : F2} {r : R2} (ho : OpR X (binaryOp op) r) (o : Op2 X.K f r) (ha : SE X W a ma) (hb : SE X W b mb) : SE X W (.BinOp a op b pos) (mBin f ma mb) :=
  pe_mono (pe_op ho ha hb) (op2_mono o)
theorem se_cmp {a b : Expr} {ma mb : ME} {op : CmpOp} {f : F2} {r : R2} (ho : OpR X (compareOp op) r) (o : Op2 X.K f r) (ha : SE X W a ma) (hb : SE X W b mb) (hm : behindInMarks op b = false) : SE X W (.Compare a [op] [b] pos) (mBin f ma mb) :=
  pe_mono (pe_cmpR ho ha hb hm) (op2_mono o)
theorem se_ix {a b : Expr} {ma mb : ME} {f : F2} {r : R2} (ho : IxR X r) (o : Op2 X.K f r) (ha : SE X W a ma) (hb : SE X W b mb) (hs : PlainIx b) : SE X W (.Subscript a b pos) (mBin f ma mb) :=
  pe_mono (pe_ix ho ha hb hs) (op2_mono o)
/-- a test of a value that is a bool -/
def mB (m : ME) : ME := fun ms h => rb (m ms h) fun d h1 => match d with
  | .bl b => some (.ok (.bl b) h1)
  | _ => none
theorem mB_of {K : PySem.W.Frag} {w : Wd} {H : Hp} {m : ME} {ms : Sl} {h : Hm} {r : RS MV} {E : XK} {Q : Bool → Hp → Prop} (e : mB m ms h = some r) (g : Aft K w H (Tf Q) E r) : ∃ r', m ms h = some r' ∧ Aft K w H (fun d _ H' => ∃ b, d = .bl b ∧ Q b H') E r' := by
  obtain ⟨r1, e1, g1⟩ := aft_bind e g
  refine ⟨r1, e1, g1.imp fun d w' H' x k ⟨q, e2, g2⟩ => ?_⟩
  split at e2
  · cases e2; exact g2.here k
  · cases e2
theorem st_val {e : Expr} {m : ME} (h : SE X W e m) (he : ∀ whole, isTrue e X.env whole = (do let v ← whole; standAt e.pos; holding [v] (truthy v)) := by intro _; rfl) : ST X W e (mB m) := pt_mono (pt_val h he) fun σ H Q ⟨w, ms, r, k, sr, e, g⟩ => by
  obtain ⟨r1, e1, g1⟩ := mB_of e g
  exact ⟨w, ms, r1, k, sr, e1, g1.imp fun d w' H' x k' ⟨b, eb, q⟩ v rv => by subst eb; cases rv; exact ⟨b, rfl, q⟩⟩
theorem st_cmp {a b : Expr} {ma mb : ME} {op : CmpOp} {f : F2} {r : R2} (ho : OpR X (compareOp op) r) (o : Op2 X.K f r) (ha : SE X W a ma) (hb : SE X W b mb) (hm : behindInMarks op b = false) : ST X W (.Compare a [op] [b] pos) (mB (mBin f ma mb)) :=
  pt_mono (pt_cmpR ho ha hb hm) fun σ H Q ⟨w, ms, r, k, sr, e, g⟩ => by
    obtain ⟨r1, e1, g1⟩ := mB_of e g
    exact op2_mono o σ H _ ⟨w, ms, r1, k, sr, e1, g1.imp fun d w' H' x k' ⟨b, eb, q⟩ v rv => by subst eb; cases rv; exact ⟨b, rfl, q⟩⟩
def mNot (a : ME) : ME := fun ms h => rb (a ms h) fun d h1 => match d with
  | .bl b => some (.ok (.bl (!b)) h1)
  | _ => none
theorem st_not {a : Expr} {ma : ME} (ha : ST X W a ma) : ST X W (.UnaryOp .Not a pos) (mNot ma) := pt_mono (pt_not ha) fun σ H Q ⟨w, ms, r, k, sr, e, g⟩ => by
  obtain ⟨r1, e1, g1⟩ := aft_bind e g
  refine ⟨w, ms, r1, k, sr, e1, g1.imp fun d w' H' x k' ⟨q, e2, g2⟩ => ?_⟩
  split at e2
  · cases e2
    obtain ⟨b, eb, q⟩ := g2.here k'
    cases eb
    exact ⟨_, rfl, q⟩
  · cases e2
theorem se_not {a : Expr} {ma : ME} (ha : SE X W a ma) : SE X W (.UnaryOp .Not a pos) (mNot ma) := pe_mono (pe_not ha) fun σ H Q ⟨w, ms, r, k, sr, e, g⟩ => by
  obtain ⟨r1, e1, g1⟩ := aft_bind e g
  refine ⟨w, ms, r1, k, sr, e1, g1.imp fun d w' H' x k' ⟨q, e2, g2⟩ v rv => ?_⟩
  split at e2
  · cases e2
    cases rv
    exact ⟨_, rfl, g2.here k' _ (.bl _)⟩
  · cases e2
def mAnd (a b : ME) : ME := fun ms h => rb (a ms h) fun d h1 => match d with
  | .bl true => b ms h1
  | .bl false => some (.ok (.bl false) h1)
  | _ => none
def mOr (a b : ME) : ME := fun ms h => rb (a ms h) fun d h1 => match d with
  | .bl true => some (.ok (.bl true) h1)
  | .bl false => b ms h1
  | _ => none
theorem se_one {op} {a : Expr} {ma : ME} (ha : SE X W a ma) : SE X W (.BoolOp op [a] pos) ma := pe_one ha
theorem se_and {a b : Expr} {rest : List Expr} {ma mb : ME} (ha : SE X W a ma) (hb : SE X W (.BoolOp .And (b :: rest) pos) mb) : SE X W (.BoolOp .And (a :: b :: rest) pos) (mAnd ma mb) := pe_mono (pe_and ha hb) fun σ H Q ⟨w, ms, r, k, sr, e, g⟩ => by
  obtain ⟨r1, e1, g1⟩ := aft_bind e g
  refine ⟨w, ms, r1, k, sr, e1, g1.imp fun d w' H' x k' ⟨q, e2, g2⟩ v rv => ?_⟩
  split at e2
  · cases rv
    exact ⟨_, rfl, by rw [if_pos rfl]; exact ⟨w', ms, q, k', sr.ext k x, e2, g2⟩⟩
  · cases rv
    cases e2
    exact ⟨_, rfl, by rw [if_neg (by decide)]; exact g2.here k' _ (.bl _)⟩
  · cases e2
theorem se_or {a b : Expr} {rest : List Expr} {ma mb : ME} (ha : SE X W a ma) (hb : SE X W (.BoolOp .Or (b :: rest) pos) mb) : SE X W (.BoolOp .Or (a :: b :: rest) pos) (mOr ma mb) := pe_mono (pe_or ha hb) fun σ H Q ⟨w, ms, r, k, sr, e, g⟩ => by
  obtain ⟨r1, e1, g1⟩ := aft_bind e g
  refine ⟨w, ms, r1, k, sr, e1, g1.imp fun d w' H' x k' ⟨q, e2, g2⟩ v rv => ?_⟩
  split at e2
  · cases rv
    cases e2
    exact ⟨_, rfl, by rw [if_pos rfl]; exact g2.here k' _ (.bl _)⟩
  · cases rv
    exact ⟨_, rfl, by rw [if_neg (by decide)]; exact ⟨w', ms, q, k', sr.ext k x, e2, g2⟩⟩
  · cases e2
theorem sw_one {op} (hop : op = BoolOp.And ∨ op = BoolOp.Or) {a : Expr} {ma : ME} (ha : ST X W a ma) : SW X W (.BoolOp op [a] pos) ma := by
  rcases hop with rfl | rfl
  · exact pw_and1 ha
  · exact pw_or1 ha
theorem sw_and {a b : Expr} {rest : List Expr} {ma mb : ME} (ha : ST X W a ma) (hb : SW X W (.BoolOp .And (b :: rest) pos) mb) : SW X W (.BoolOp .And (a :: b :: rest) pos) (mAnd ma mb) := pw_mono (pw_and ha hb) fun σ H Q ⟨w, ms, r, k, sr, e, g⟩ => by
  obtain ⟨r1, e1, g1⟩ := aft_bind e g
  refine ⟨w, ms, r1, k, sr, e1, g1.imp fun d w' H' x k' ⟨q, e2, g2⟩ => ?_⟩
  split at e2
  · exact ⟨_, rfl, iteT ⟨w', ms, q, k', sr.ext k x, e2, g2⟩⟩
  · cases e2
    obtain ⟨b, eb, q⟩ := g2.here k'
    cases eb
    exact ⟨_, rfl, iteF q⟩
  · cases e2
theorem sw_or {a b : Expr} {rest : List Expr} {ma mb : ME} (ha : ST X W a ma) (hb : SW X W (.BoolOp .Or (b :: rest) pos) mb) : SW X W (.BoolOp .Or (a :: b :: rest) pos) (mOr ma mb) := pw_mono (pw_or ha hb) fun σ H Q ⟨w, ms, r, k, sr, e, g⟩ => by
  obtain ⟨r1, e1, g1⟩ := aft_bind e g
  refine ⟨w, ms, r1, k, sr, e1, g1.imp fun d w' H' x k' ⟨q, e2, g2⟩ => ?_⟩
  split at e2
  · cases e2
    obtain ⟨b, eb, q⟩ := g2.here k'
    cases eb
    exact ⟨_, rfl, iteT q⟩
  · exact ⟨_, rfl, iteF ⟨w', ms, q, k', sr.ext k x, e2, g2⟩⟩
  · cases e2
def mIf (c a b : ME) : ME := fun ms h => rb (c ms h) fun d h1 => match d with
  | .bl true => a ms h1
  | .bl false => b ms h1
  | _ => none
theorem se_if {c a b : Expr} {mc ma mb : ME} (hc : ST X W c mc) (ha : SE X W a ma) (hb : SE X W b mb) : SE X W (.IfExp c a b pos) (mIf mc ma mb) := pe_mono (pe_ifExp hc ha hb) fun σ H Q ⟨w, ms, r, k, sr, e, g⟩ => by
  obtain ⟨r1, e1, g1⟩ := aft_bind e g
  refine ⟨w, ms, r1, k, sr, e1, g1.imp fun d w' H' x k' ⟨q, e2, g2⟩ => ?_⟩
  split at e2
  · exact ⟨_, rfl, iteT ⟨w', ms, q, k', sr.ext k x, e2, g2⟩⟩
  · exact ⟨_, rfl, iteF ⟨w', ms, q, k', sr.ext k x, e2, g2⟩⟩
  · cases e2
def mNil : MA := fun _ h => some (.ok [] h)
def mCons (a : ME) (r : MA) : MA := fun ms h => rb (a ms h) fun x h1 => rb (r ms h1) fun xs h2 => some (.ok (x :: xs) h2)
theorem sa_nil : SA X W [] mNil := pa_mono pa_nil fun σ H Q ⟨w, ms, r, k, _, e, g⟩ => by
  cases e
  exact g.here k [] .nil
theorem sa_cons {e : Expr} {es : List Expr} {m : ME} {r : MA} (ha : SE X W e m) (hr : SA X W es r) (hs : starEach (e :: es) X.env = (false, eval e X.env) :: starEach es X.env := by rfl) : SA X W (e :: es) (mCons m r) := pa_mono (pa_cons ha hr hs) fun σ H Q ⟨w, ms, q, k, sr, e, g⟩ => by
  obtain ⟨r1, e1, g1⟩ := aft_bind e g
  refine ⟨w, ms, r1, k, sr, e1, g1.imp fun x w1 H1 x1 k1 ⟨q1, e2, g2⟩ v rv => ?_⟩
  obtain ⟨r2, e3, g3⟩ := aft_bind e2 g2
  refine ⟨w1, ms, r2, k1, sr.ext k x1, e3, g3.imp fun xs w2 H2 x2 k2 ⟨q2, e4, g4⟩ vs rs => ?_⟩
  cases e4
  exact g4.here k2 (v :: vs) (.cons (rv.ext k1 x2) rs)
def tupR (xs : List MV) (h : Hm) : Option (RS MV) := if xs.length ≤ 16777216 then some (.ok (.tup xs) h) else none
def lstR (xs : List MV) (h : Hm) : Option (RS MV) := if xs.length ≤ 16777216 then some (.ok (.lst xs) h) else none
def newR (xs : List MV) (h : Hm) : Option (RS MV) := if xs.length ≤ 16777216 then some (.ok (.ref h.length) (h ++ [some (.lst xs)])) else none
def mTup (r : MA) : ME := fun ms h => rb (r ms h) tupR
def mLst (r : MA) : ME := fun ms h => rb (r ms h) lstR
/-- a list that may change -/
def mNew (r : MA) : ME := fun ms h => rb (r ms h) newR
section
variable {K : PySem.W.Frag} {w : Wd} {H : Hp} {E : XK} {Q : VK} {r : RS MV} {xs : List MV} {vs : List V}
theorem tup_fin (e : tupR xs w.hm = some r) (g : Aft K w H (Vf K Q) E r) (k : Wk K w H) (rs : VRs K w.F w.φ H xs vs) : vs.length ≤ sizeLine ∧ ∀ p, H p = none → Q (.ref p) (upd H p (.tup vs)) := by
  unfold tupR at e
  split at e
  · rename_i hl
    cases e
    exact ⟨by rw [← rs.length, sizeLine_eq]; exact hl, fun p hp => g (w.add p) _ rfl (k.addO hp).1 (k.addO hp).2 _ (VR.newTup k hp rs)⟩
  · cases e
theorem lst_fin (e : lstR xs w.hm = some r) (g : Aft K w H (Vf K Q) E r) (k : Wk K w H) (rs : VRs K w.F w.φ H xs vs) : vs.length ≤ sizeLine ∧ ∀ p, H p = none → Q (.ref p) (upd H p (.lst vs)) := by
  unfold lstR at e
  split at e
  · rename_i hl
    cases e
    exact ⟨by rw [← rs.length, sizeLine_eq]; exact hl, fun p hp => g (w.add p) _ rfl (k.addO hp).1 (k.addO hp).2 _ (VR.newLst k hp rs)⟩
  · cases e
theorem new_ref (k : Wk K w H) {p : Addr} {mo : MO} : VR K (w.new p mo).F (w.new p mo).φ H (.ref w.hm.length) (.ref p) := .ref (by show (w.φ ++ [p])[w.hm.length]? = some p; rw [k.len]; simp)
theorem new_fin (e : newR xs w.hm = some r) (g : Aft K w H (Vf K Q) E r) (k : Wk K w H) (rs : VRs K w.F w.φ H xs vs) : vs.length ≤ sizeLine ∧ ∀ p, H p = none → Q (.ref p) (upd H p (.lst vs)) := by
  unfold newR at e
  split at e
  · rename_i hl
    cases e
    refine ⟨by rw [← rs.length, sizeLine_eq]; exact hl, fun p hp => ?_⟩
    have hk : ∀ a u, w.F a → H a = some u → upd H p (.lst vs) a = some u := fun a u _ e => by rw [upd_ne (ne_of_none e hp)]; exact e
    have ho : OR K w.F (w.φ ++ [p]) (upd H p (.lst vs)) p (.lst xs) := .lst upd_same (rs.go (fun _ h => h) hk fun i a h => pre_get rfl h)
    exact g (w.new p (.lst xs)) _ rfl (k.newO hp ho).1 (k.newO hp ho).2 _ (.ref (by show (w.φ ++ [p])[w.hm.length]? = some p; rw [k.len]; simp))
  · cases e
end
theorem se_tup {es : List Expr} {x1} {r : MA} (h : SA X W es r) : SE X W (.Tuple es x1 pos) (mTup r) := pe_mono (pe_tup h) fun σ H Q ⟨w, ms, q, k, sr, e, g⟩ => by
  obtain ⟨r1, e1, g1⟩ := aft_bind e g
  exact ⟨w, ms, r1, k, sr, e1, g1.imp fun xs w1 H1 x1 k1 ⟨q1, e2, g2⟩ vs rs => tup_fin e2 g2 k1 rs⟩
theorem se_lst {es : List Expr} {r : MA} (h : SA X W es r) : SE X W (.List es pos) (mLst r) := pe_mono (pe_lst h) fun σ H Q ⟨w, ms, q, k, sr, e, g⟩ => by
  obtain ⟨r1, e1, g1⟩ := aft_bind e g
  exact ⟨w, ms, r1, k, sr, e1, g1.imp fun xs w1 H1 x1 k1 ⟨q1, e2, g2⟩ vs rs => lst_fin e2 g2 k1 rs⟩
theorem se_new {es : List Expr} {r : MA} (h : SA X W es r) : SE X W (.List es pos) (mNew r) := pe_mono (pe_lst h) fun σ H Q ⟨w, ms, q, k, sr, e, g⟩ => by
  obtain ⟨r1, e1, g1⟩ := aft_bind e g
  exact ⟨w, ms, r1, k, sr, e1, g1.imp fun xs w1 H1 x1 k1 ⟨q1, e2, g2⟩ vs rs => new_fin e2 g2 k1 rs⟩
/-- a list that has been built is frozen -/
def mFrz (m : ME) : ME := fun ms h => rb (m ms h) fun d h1 => match d with
  | .ref i => match h1[i]? with
    | some (some (.lst xs)) => some (.ok (.lst xs) (h1.set i none))
    | _ => none
  | _ => none
theorem se_frz {e : Expr} {m : ME} (h : SE X W e m) : SE X W e (mFrz m) := pe_mono h fun σ H Q ⟨w, ms, q, k, sr, e, g⟩ => by
  obtain ⟨r1, e1, g1⟩ := aft_bind e g
  refine ⟨w, ms, r1, k, sr, e1, g1.imp fun d w1 H1 x1 k1 ⟨q1, e2, g2⟩ v rv => ?_⟩
  cases d with
  | ref i =>
    dsimp only at e2
    split at e2
    · rename_i xs hi
      cases e2
      obtain ⟨a, ea, ob⟩ := k1.ob i _ hi
      cases rv with
      | ref h =>
        rw [ea] at h
        cases h
        cases ob with
        | lst ha rs =>
          obtain ⟨xf, kf⟩ := k1.frzO ea hi
          exact g2 (w1.frz i a) H1 rfl xf kf _ (.lst (.inr rfl) ha (rs.ext k1 xf))
    · cases e2
  | _ => cases e2
abbrev FL := Hm → List MV → Option MV
/-- built-ins that change nothing -/
def mCall (f : FL) (r : MA) : ME := fun ms h => rb (r ms h) fun xs h1 => (f h1 xs).map fun d => .ok d h1
def Cl (K : PySem.W.Frag) (f : FL) (r : List V → Hp → VK → Prop) : Prop := ∀ (w : Wd) (H : Hp) (ds : List MV) (d : MV) (vs : List V) (Q : VK), Wk K w H → VRs K w.F w.φ H ds vs → f w.hm ds = some d →
  (∀ w' H' v, w'.hm = w.hm → Wx w H w' H' → Wk K w' H' → VR K w'.F w'.φ H' d v → Q v H') → r vs H Q
theorem cl_mono {f : FL} {r : List V → Hp → VK → Prop} {m : MA} (o : Cl X.K f r) : ∀ σ H Q, TEp X.K W (mCall f m) σ H Q → tCB r (TAp X.K W m) σ H Q := fun σ H Q ⟨w, ms, q, k, sr, e, g⟩ => by
  obtain ⟨r1, e1, g1⟩ := aft_bind e g
  refine ⟨w, ms, r1, k, sr, e1, g1.imp fun xs w1 H1 x1 k1 ⟨q1, e2, g2⟩ vs rs => ?_⟩
  cases e5 : f w1.hm xs with
  | none => rw [e5] at e2; cases e2
  | some d =>
    rw [e5] at e2
    cases e2
    exact o w1 H1 xs d vs Q k1 rs e5 fun w' H' v eh x' k' r' => g2 w' H' eh x' k' v r'
/-- what a def does: its arguments, the things that may change -/
abbrev FD := List MV → Hm → Option (RS MV)
def spP (K : PySem.W.Frag) (n : Nat) (f : FD) : Sp := fun vs H Q E => vs.length = n ∧ ∃ w ds r, Wk K w H ∧ VRs K w.F w.φ H ds vs ∧ f ds w.hm = some r ∧ Aft K w H (Vf K Q) E r
def mCallD (f : FD) (r : MA) : ME := fun ms h => rb (r ms h) f
theorem call_mono {f : FD} {n : Nat} {dvs : List V} {dds : List MV} {m : MA} (hn : ∀ ms h xs h1, m ms h = some (.ok xs h1) → xs.length + dds.length = n) (hd : ∀ F φ H, VRs X.K F φ H dds dvs) : ∀ σ H Q, TEp X.K W (mCallD (fun xs => f (xs ++ dds)) m) σ H Q →
    (TAp X.K W m) σ H (fun vs H1 => spP X.K n f (vs ++ dvs) H1 Q (WE W σ)) := fun σ H Q ⟨w, ms, q, k, sr, e, g⟩ => by
  unfold mCallD rb at e
  cases er : m ms w.hm with
  | none => rw [er] at e; cases e
  | some r1 =>
    rw [er] at e
    cases r1 with
    | ex c xs h => cases e; exact ⟨w, ms, _, k, sr, er, g⟩
    | ok xs h =>
      refine ⟨w, ms, _, k, sr, er, fun w1 H1 eh x1 k1 vs rs => ⟨?_, w1, xs ++ dds, q, k1, rs.append (hd _ _ _), by rw [eh]; exact e, g.ext x1⟩⟩
      rw [List.length_append, ← rs.length, ← (hd w1.F w1.φ H1).length]
      exact hn _ _ _ _ er
end
end Mx
namespace Mx
open PySem L2

section
variable {K : PySem.W.Frag} {w w' : Wd} {H H' : Hp} {p : Addr} {o : HO}
/-- a write at an address of no account -/
theorem Wk.updO (k : Wk K w H) (n : ¬ w.F p) (l : ¬ w.L p) : Wk K w (upd H p o) := by
  have hF : ∀ a, w.F a → a ≠ p := fun a f z => n (z ▸ f)
  refine ⟨fun a h => ?_, fun i u h => ?_, fun a h => ?_, k.nd, k.len⟩
  · obtain ⟨m, u, e⟩ := k.fz a h
    exact ⟨m, u, by rw [upd_ne (hF a h)]; exact e⟩
  · obtain ⟨a, e, r⟩ := k.ob i u h
    have ha : a ≠ p := fun z => l ⟨i, u, z ▸ e, h⟩
    exact ⟨a, e, r.go (fun _ h => h) (fun b u f e => by rw [upd_ne (hF b f)]; exact e) (fun _ _ h => h) fun u e => by rw [upd_ne ha]; exact e⟩
  · by_cases e : a = p
    · exact ⟨o, by rw [e]; exact upd_same⟩
    · obtain ⟨u, q⟩ := k.all a h
      exact ⟨u, by rw [upd_ne e]; exact q⟩
theorem Wx.updO {w0 : Wd} {H0 : Hp} (x : Wx w0 H0 w H) (h0 : H0 p = none) : Wx w0 H0 w (upd H p o) :=
  ⟨fun a u q n => by rw [upd_ne (ne_of_none q h0)]; exact x.keep a u q n, x.mono, x.new, x.lnew, fun a q => by
    by_cases e : a = p
    · subst e; exact h0
    · rw [upd_ne e] at q; exact x.there a q, x.pre, x.pfr⟩
theorem VR.updO (n : ¬ w.F p) {x : MV} {v : V} (r : VR K w.F w.φ H x v) : VR K w.F w.φ (upd H p o) x v := r.go (fun _ h => h) (fun a u f e => by have hz : a ≠ p := fun z => n (z ▸ f); rw [upd_ne hz]; exact e) fun _ _ h => h
theorem VRs.updO (n : ¬ w.F p) {x : List MV} {v : List V} (r : VRs K w.F w.φ H x v) : VRs K w.F w.φ (upd H p o) x v := r.go (fun _ h => h) (fun a u f e => by have hz : a ≠ p := fun z => n (z ▸ f); rw [upd_ne hz]; exact e) fun _ _ h => h
theorem Wx.nF (x : Wx w H w' H') (n : ¬ w.F p) (l : ¬ w.L p) (h : H p = some o) : ¬ w'.F p := fun z => by
  rcases x.new p z with q | q | q
  · exact n q
  · exact l q
  · rw [h] at q; cases q
theorem Wx.nL (x : Wx w H w' H') (l : ¬ w.L p) (h : H p = some o) : ¬ w'.L p := fun z => by
  rcases x.lnew p z with q | q
  · exact l q
  · rw [h] at q; cases q
/-- an object of one's own, new since H0, is frozen -/
theorem Wk.addN {w0 : Wd} {H0 : Hp} (x : Wx w0 H0 w H) (k : Wk K w H) (h0 : H0 p = none) (l : ¬ w.L p) (h : H p = some o) : Wx w0 H0 (w.add p) H ∧ Wk K (w.add p) H := by
  refine ⟨⟨x.keep, fun a f => .inl (x.mono a f), fun a f => ?_, x.lnew, x.there, x.pre, x.pfr⟩, ⟨fun a f => ?_, fun i u q => ?_, k.all, k.nd, k.len⟩⟩
  · rcases f with f | rfl
    · exact x.new a f
    · exact .inr (.inr h0)
  · rcases f with f | rfl
    · exact k.fz a f
    · exact ⟨l, o, h⟩
  · obtain ⟨a, e, r⟩ := k.ob i u q
    exact ⟨a, e, r.go (fun _ h => .inl h) (fun _ _ _ e => e) (fun _ _ h => h) fun u e => e⟩
theorem VRs.addN {x : List MV} {v : List V} (r : VRs K w.F w.φ H x v) : VRs K (w.add p).F (w.add p).φ H x v := r.go (fun _ h => .inl h) (fun _ _ _ e => e) (fun _ _ h => h)
end
theorem size_line : (16777216 : Nat) = sizeLine := by rw [sizeLine_eq]

/-- frozen things, and the places of those that may change, are as they were -/
structure Wy (w : Wd) (H : Hp) (w' : Wd) (H' : Hp) : Prop where
  mono : ∀ a, w.F a → w'.F a
  keep : ∀ a o, w.F a → H a = some o → H' a = some o
  pg : ∀ (i : Nat) (a : Addr), w.φ[i]? = some a → w'.φ[i]? = some a
theorem Wx.wy {K : PySem.W.Frag} {w w' : Wd} {H H' : Hp} (k : Wk K w H) (x : Wx w H w' H') : Wy w H w' H' := ⟨x.mono, x.fk k, x.pg⟩
theorem Wy.trans {w w1 w2 : Wd} {H H1 H2 : Hp} (a : Wy w H w1 H1) (b : Wy w1 H1 w2 H2) : Wy w H w2 H2 := ⟨fun x h => b.mono x (a.mono x h), fun x o f h => b.keep x o (a.mono x f) (a.keep x o f h), fun i x h => b.pg i x (a.pg i x h)⟩
theorem Wy.refl {w : Wd} {H : Hp} : Wy w H w H := ⟨fun _ h => h, fun _ _ _ h => h, fun _ _ h => h⟩
theorem Wy.upd {w w' : Wd} {H H' : Hp} {p : Addr} {o : HO} (a : Wy w H w' H') (n : ¬ w.F p) : Wy w H w' (upd H' p o) := ⟨a.mono, fun x u f h => by have hz : x ≠ p := fun z => n (z ▸ f); rw [upd_ne hz]; exact a.keep x u f h, a.pg⟩
theorem FLs.wy {K : PySem.W.Frag} {w w' : Wd} {H H' : Hp} (e : Wy w H w' H') {a : Addr} {vs : List V} (h : FLs K w.F H a vs) : FLs K w'.F H' a vs := h.go e.mono e.keep
theorem VR.wy {K : PySem.W.Frag} {w w' : Wd} {H H' : Hp} (e : Wy w H w' H') {x : MV} {v : V} (r : VR K w.F w.φ H x v) : VR K w'.F w'.φ H' x v := r.go e.mono e.keep e.pg
theorem FT.wy {K : PySem.W.Frag} {w w' : Wd} {H H' : Hp} (e : Wy w H w' H') {a : Addr} {vs : List V} (r : FT K w.F H a vs) : FT K w'.F H' a vs := r.go e.mono e.keep
/-- the iterator yields just these -/
def Itm (K : PySem.W.Frag) (w : Wd) (H : Hp) (J : It) (xs : List MV) : Prop := ∀ (w' : Wd) (H' : Hp), Wy w H w' H' → Wk K w' H' → ∀ i : Nat,
  (xs.length ≤ i → J.stop i H') ∧ ∀ d, xs[i]? = some d → J.go i H' ∧ ∀ v H2, J.yld i H' v H2 → ∃ w2, w2.hm = w'.hm ∧ Wx w' H' w2 H2 ∧ Wk K w2 H2 ∧ VR K w2.F w2.φ H2 d v
def If (K : PySem.W.Frag) (R : It → Hp → Prop) : List MV → Wd → Hp → Prop := fun xs w H => ∀ J, Itm K w H J xs → R J H
def TIp (K : PySem.W.Frag) (W : WX) (m : MA) : TI := fun σ H R => ∃ w ms r, Wk K w H ∧ SR K w H ms σ ∧ m ms w.hm = some r ∧ Aft K w H (If K R) (WE W σ) r
abbrev SI (X : Cx) (W : WX) (tg iter : Expr) (m : MA) : Prop := PI X tg iter (TIp X.K W m)
theorem pi_mono {X : Cx} {tg iter : Expr} {t t' : TI} (h : PI X tg iter t) (k : ∀ σ H R, t' σ H R → t σ H R) : PI X tg iter t' := ⟨fun pins s σ H R I q => h.run pins s σ H R I (k σ H R q)⟩
/-- a list or a tuple -/
def iSeq (K : PySem.W.Frag) (tl : TE) : TI := fun σ H R => tl σ H fun x H1 => ∃ a, x = .ref a ∧ (((∃ xs, SqL K H1 a xs) ∧ R (Itl K a) H1) ∨ ((∃ xs, SqT K H1 a xs) ∧ R (Itt K a) H1))
section
variable {X : Cx} {W : WX} {pos : Pos}
theorem pi_seq {tg l : Expr} {tl : TE} (hl : PE X l tl) : PI X tg l (iSeq X.K tl) := by
  refine ⟨fun pins s σ H R I h => ?_⟩
  refine thn (hl.run pins s σ H _ I h) fun v s1 ⟨x, H1, I1, r1, q1⟩ => ?_
  obtain ⟨a, e, q⟩ := q1
  subst e
  cases r1
  rcases q with ⟨⟨xs, hq⟩, q⟩ | ⟨⟨xs, hq⟩, q⟩
  · obtain ⟨its, rv, p, hz⟩ := I1.list hq
    refine wpAny_pyIter_list p.isList ?_
    refine ⟨s1.heap.objs.size, [s1.heap.objs.size], _, _, H1, rfl, I1.kept (t' := s1.toks) fun b o e => Heap.get?_push_of_some _ e, turn_list a _, ⟨_, Heap.get?_push_size _ rfl, rfl, rfl⟩, fun b hb => ?_, q⟩
    obtain rfl : b = s1.heap.objs.size := by simpa using hb
    exact I1.fpOk (Nat.le_refl _) (I1.hok.fresh (Nat.le_refl _))
  · obtain ⟨its, rv, p, hz⟩ := I1.tuple hq
    refine wpAny_pyIter_tuple (show s1.heap.IsTuple a its.toArray from p) ?_
    refine ⟨s1.heap.objs.size, [s1.heap.objs.size], _, _, H1, rfl, I1.kept (t' := s1.toks) fun b o e => Heap.get?_push_of_some _ e, turn_tuple a _, ⟨_, Heap.get?_push_size _ rfl, rfl, rfl⟩, fun b hb => ?_, q⟩
    obtain rfl : b = s1.heap.objs.size := by simpa using hb
    exact I1.fpOk (Nat.le_refl _) (I1.hok.fresh (Nat.le_refl _))
theorem itm_l {a : Addr} {vs : List V} {xs : List MV} {w : Wd} {H : Hp} (k : Wk X.K w H) (h : FLs X.K w.F H a vs) (r : VRs X.K w.F w.φ H xs vs) : Itm X.K w H (Itl X.K a) xs := fun w' H' e k' i => by
  have h' : SqL X.K H' a vs := (h.wy e).sq
  refine ⟨fun z => ⟨vs, h', by rw [← r.length]; exact z⟩, fun d q => ?_⟩
  obtain ⟨v, q1, q2⟩ := r.get q
  refine ⟨⟨vs, v, h', q1⟩, fun u H2 y => ?_⟩
  obtain ⟨rfl, y⟩ := y
  have := y vs h'
  rw [q1] at this
  cases this
  exact ⟨w', rfl, Wx.refl, k', q2.wy e⟩
theorem itm_t {a : Addr} {vs : List V} {xs : List MV} {w : Wd} {H : Hp} (k : Wk X.K w H) (h : FT X.K w.F H a vs) (r : VRs X.K w.F w.φ H xs vs) : Itm X.K w H (Itt X.K a) xs := fun w' H' e k' i => by
  have h' : SqT X.K H' a vs := (h.wy e).sq
  refine ⟨fun z => ⟨vs, h', by rw [← r.length]; exact z⟩, fun d q => ?_⟩
  obtain ⟨v, q1, q2⟩ := r.get q
  refine ⟨⟨vs, v, h', q1⟩, fun u H2 y => ?_⟩
  obtain ⟨rfl, y⟩ := y
  have := y vs h'
  rw [q1] at this
  cases this
  exact ⟨w', rfl, Wx.refl, k', q2.wy e⟩
def itemsOf (d : MV) (h : Hm) : Option (RS (List MV)) := match d with
  | .lst xs => some (.ok xs h)
  | .tup xs => some (.ok xs h)
  | .scr xs => some (.ok xs h)
  | _ => none
def mItems (m : ME) : MA := fun ms h => rb (m ms h) itemsOf
theorem si_seq {tg l : Expr} {m : ME} (h : SE X W l m) : SI X W tg l (mItems m) := pi_mono (pi_seq h) fun σ H R ⟨w, ms, q, k, sr, e, g⟩ => by
  obtain ⟨r1, e1, g1⟩ := aft_bind e g
  refine ⟨w, ms, r1, k, sr, e1, g1.imp fun d w1 H1 x1 k1 ⟨q1, e2, g2⟩ v rv => ?_⟩
  cases rv with
  | lst f h r => cases e2; exact ⟨_, rfl, .inl ⟨⟨_, SqL.of h⟩, g2.here k1 _ (itm_l k1 (.inl ⟨f, .inl h⟩) r)⟩⟩
  | scr h r => cases e2; exact ⟨_, rfl, .inl ⟨⟨_, h.sq⟩, g2.here k1 _ (itm_l k1 h r)⟩⟩
  | tup h r => cases e2; exact ⟨_, rfl, .inr ⟨⟨_, h.sq⟩, g2.here k1 _ (itm_t k1 h r)⟩⟩
  | _ => cases e2
def rangeM (i : Int) : Nat → List MV
  | 0 => []
  | n + 1 => .int i :: rangeM (i + 1) n
theorem rangeM_length : ∀ (n : Nat) (i : Int), (rangeM i n).length = n
  | 0, _ => rfl
  | n + 1, i => by unfold rangeM; rw [List.length_cons, rangeM_length n]
theorem rangeM_get : ∀ (n : Nat) (i : Int) (j : Nat) (d : MV), (rangeM i n)[j]? = some d → d = .int (i + j)
  | 0, _, _, _, h => by cases h
  | n + 1, i, 0, d, h => by unfold rangeM at h; simp at h; rw [← h]; simp
  | n + 1, i, j + 1, d, h => by
    unfold rangeM at h
    have := rangeM_get n (i + 1) j d (by simpa using h)
    rw [this]
    have e : i + 1 + (j : Int) = i + ((j + 1 : Nat) : Int) := by omega
    rw [e]
theorem itm_r {w : Wd} {H : Hp} (i : Int) (n : Nat) : Itm X.K w H (Itr i n) (rangeM i n) := fun w' H' e k' j => by
  refine ⟨fun z => by rw [rangeM_length] at z; exact z, fun d q => ?_⟩
  have q2 := rangeM_get n i j d q
  have q3 : j < n := by
    have := (List.getElem?_eq_some_iff.mp q).1
    rw [rangeM_length] at this; exact this
  refine ⟨q3, fun u H2 y => ?_⟩
  obtain ⟨rfl, rfl⟩ := y
  subst q2
  exact ⟨w', rfl, Wx.refl, k', .int _⟩
def rangeA (n : Nat) (ds : List MV) (h : Hm) : Option (RS (List MV)) := match ds with
  | [.int j] => if n = 1 ∧ -(2 ^ 62) ≤ j ∧ j < 2 ^ 62 then some (.ok (rangeM 0 j.toNat) h) else none
  | [.int i, .int j] => if n = 2 ∧ -(2 ^ 62) ≤ i ∧ i < 2 ^ 62 ∧ -(2 ^ 62) ≤ j ∧ j < 2 ^ 62 then some (.ok (rangeM i (j - i).toNat) h) else none
  | _ => none
def mRange (n : Nat) (m : MA) : MA := fun ms h => rb (m ms h) (rangeA n)
theorem si_range1 {tg a : Expr} {m : MA} {p : Pos} (hg : Gl X "range") (hm : X.mg "range" = none) (ha : SA X W [a] m) (hs : starEach [a] X.env = [(false, eval a X.env)] := by rfl) : SI X W tg (.Call (.Name "range" p) [a] [] pos) (mRange 1 m) := pi_mono (pi_range1 hg hm ha hs) fun σ H R ⟨w, ms, q, k, sr, e, g⟩ => by
  obtain ⟨r1, e1, g1⟩ := aft_bind e g
  refine ⟨w, ms, r1, k, sr, e1, g1.imp fun ds w1 H1 x1 k1 ⟨q1, e2, g2⟩ vs rs => ?_⟩
  unfold rangeA at e2
  split at e2
  · split at e2
    · rename_i j _ hj
      cases e2
      cases rs with
      | cons r rr =>
        cases rr
        cases r
        exact ⟨j, rfl, hj.2.1, hj.2.2, g2.here k1 _ (itm_r 0 j.toNat)⟩
    · cases e2
  · split at e2
    · rename_i hj; exact absurd hj.1 (by decide)
    · cases e2
  · cases e2
theorem si_range2 {tg a b : Expr} {m : MA} {p : Pos} (hg : Gl X "range") (hm : X.mg "range" = none) (ha : SA X W [a, b] m) (hs : starEach [a, b] X.env = [(false, eval a X.env), (false, eval b X.env)] := by rfl) (hs2 : starEach [b] X.env = [(false, eval b X.env)] := by rfl) :
    SI X W tg (.Call (.Name "range" p) [a, b] [] pos) (mRange 2 m) := pi_mono (pi_range2 hg hm ha hs hs2) fun σ H R ⟨w, ms, q, k, sr, e, g⟩ => by
  obtain ⟨r1, e1, g1⟩ := aft_bind e g
  refine ⟨w, ms, r1, k, sr, e1, g1.imp fun ds w1 H1 x1 k1 ⟨q1, e2, g2⟩ vs rs => ?_⟩
  unfold rangeA at e2
  split at e2
  · split at e2
    · rename_i hj; exact absurd hj.1 (by decide)
    · cases e2
  · split at e2
    · rename_i i j _ hj
      cases e2
      cases rs with
      | cons r rr =>
        cases rr with
        | cons r' rr =>
          cases rr
          cases r
          cases r'
          exact ⟨i, j, rfl, hj.2, g2.here k1 _ (itm_r i _)⟩
    · cases e2
  · cases e2
end

def setAll (ms : Sl) : List Nat → List MV → Option Sl
  | [], [] => some ms
  | i :: is, x :: xs => setAll (ms.set i (some x)) is xs
  | _, _ => none
abbrev TM := MV → Sl → Option Sl
def tgN (i : Nat) : TM := fun d ms => some (ms.set i (some d))
def tgT (is : List Nat) : TM := fun d ms => match d with
  | .tup xs => if xs.length = is.length then setAll ms is xs else none
  | _ => none
/-- a target's reading is sound; is: the slots that it stores -/
def TgOk (K : PySem.W.Frag) (g : TG) (is : List Nat) (tm : TM) : Prop := ∀ (w : Wd) (H : Hp) (ms ms' : Sl) (σ : St) (d : MV) (v : V) (Q : St → Hp → Prop), SR K w H ms σ → VR K w.F w.φ H d v → tm d ms = some ms' →
  (∀ σ', SR K w H ms' σ' → (∀ j : Nat, j ∉ is → σ'[j]? = σ[j]?) → σ'.length = σ.length → Q σ' H) → g v σ H Q
theorem tgok_name {K : PySem.W.Frag} (i : Nat) : TgOk K (gName i) [i] (tgN i) := fun w H ms ms' σ d v Q sr r e g => by
  cases e
  exact g _ (sr.set r) (fun j hj => List.getElem?_set_ne (fun z => hj (by simp [z]))) (List.length_set)
def gNames : List Nat → TGs
  | [] => gNil
  | i :: is => gCons (gName i) (gNames is)
theorem gNames_ok {K : PySem.W.Frag} : ∀ (is : List Nat) (w : Wd) (H : Hp) (ms ms' : Sl) (σ : St) (ds : List MV) (vs : List V) (Q : St → Hp → Prop), SR K w H ms σ → VRs K w.F w.φ H ds vs → setAll ms is ds = some ms' →
    (∀ σ', SR K w H ms' σ' → (∀ j : Nat, j ∉ is → σ'[j]? = σ[j]?) → σ'.length = σ.length → Q σ' H) → gNames is vs σ H Q
  | [], w, H, ms, ms', σ, ds, vs, Q, sr, r, e, g => by
    cases r with
    | nil => cases e; exact ⟨rfl, g σ sr (fun _ _ => rfl) rfl⟩
    | cons => cases e
  | i :: is, w, H, ms, ms', σ, ds, vs, Q, sr, r, e, g => by
    cases r with
    | nil => cases e
    | cons r rr =>
      refine ⟨_, _, rfl, gNames_ok is w H _ ms' _ _ _ Q (sr.set r) rr e fun σ' sr' h hl => g σ' sr' (fun j hj => ?_) (by rw [hl, List.length_set])⟩
      rw [h j (fun z => hj (List.mem_cons_of_mem _ z))]
      exact List.getElem?_set_ne (fun z => hj (by simp [z]))
theorem tgok_tup {K : PySem.W.Frag} (is : List Nat) : TgOk K (gTup K is.length (gNames is)) is (tgT is) := fun w H ms ms' σ d v Q sr r e g => by
  unfold tgT at e
  split at e
  · split at e
    · rename_i xs hl
      cases r with
      | tup h r => exact ⟨_, _, rfl, h.sq, by rw [← r.length]; exact hl, gNames_ok is w H ms ms' σ xs _ Q sr r e g⟩
    · cases e
  · cases e
theorem wipe_get (σ : St) (j : Nat) : ∀ vs : List Nat, (L2.wipe σ vs)[j]? = if j ∈ vs ∧ j < σ.length then some none else σ[j]?
  | [] => by simp [L2.wipe]
  | v :: vs => by
    unfold L2.wipe
    by_cases h : v = j
    · subst h
      by_cases hl : v < σ.length
      · rw [List.getElem?_set_self (by rw [wipe_length]; exact hl), if_pos ⟨by simp, hl⟩]
      · rw [List.getElem?_eq_none (by rw [List.length_set, wipe_length]; omega), if_neg (fun z => hl z.2), List.getElem?_eq_none (by omega)]
    · rw [List.getElem?_set_ne h, wipe_get σ j vs]
      by_cases hm : j ∈ vs
      · simp [hm]
      · have : ¬ j = v := fun z => h z.symm
        simp [hm, this]
theorem wipe_eq {σ σ' : St} {vs is : List Nat} (hs : ∀ i ∈ is, i ∈ vs) (h : ∀ j : Nat, j ∉ is → σ'[j]? = σ[j]?) (hl : σ'.length = σ.length) : L2.wipe σ' vs = L2.wipe σ vs := by
  apply List.ext_getElem?
  intro j
  rw [wipe_get, wipe_get, hl]
  by_cases hm : j ∈ vs
  · by_cases hj : j < σ.length
    · rw [if_pos ⟨hm, hj⟩, if_pos ⟨hm, hj⟩]
    · rw [if_neg (fun z => hj z.2), if_neg (fun z => hj z.2), List.getElem?_eq_none (by omega), List.getElem?_eq_none (by omega)]
  · rw [if_neg (fun z => hm z.1), if_neg (fun z => hm z.1)]
    exact h j fun z => hm (hs j z)
theorem wipe_idem {σ : St} {vs : List Nat} : L2.wipe (L2.wipe σ vs) vs = L2.wipe σ vs := by
  apply List.ext_getElem?
  intro j
  rw [wipe_get, wipe_get, wipe_length]
  by_cases h : j ∈ vs ∧ j < σ.length
  · simp only [if_pos h]
  · simp only [if_neg h]

def compGo (tm : TM) (test elt : ME) (ms : Sl) : List MV → Hm → Option (RS (List MV))
  | [], h => some (.ok [] h)
  | x :: xs, h => match tm x ms with
    | none => none
    | some ms1 => rb (test ms1 h) fun d h1 => match d with
      | .bl true => rb (elt ms1 h1) fun y h2 => rb (compGo tm test elt ms xs h2) fun ys h3 => some (.ok (y :: ys) h3)
      | .bl false => compGo tm test elt ms xs h1
      | _ => none
/-- no exception leaves a comprehension here (the hand layer's block lets none out) -/
abbrev W0 : WX := fun _ _ _ _ => False
def lcEnd (r : Option (RS (List MV))) : Option (RS MV) := match r with
  | some (.ok ys h) => some (.ok (.lst ys) h)
  | _ => none
def mComp (it : MA) (tm : TM) (test elt : ME) (own : List Nat) : ME := fun ms h => rb (it ms h) fun xs h1 => if xs.length ≤ 16777215 then lcEnd (compGo tm test elt (wipeM ms own) xs h1) else none
/-- what is wanted of an exception does not ask for the slots -/
def Blind (W : WX) : Prop := ∀ c d σ σ' H, W c d σ H → W c d σ' H
section
variable {X : Cx} {W : WX} {pos : Pos}
theorem lc_read {g : TG} {is vs : List Nat} {tm : TM} {im : MA} {test me : ME} (tg : TgOk X.K g is tm) (his : ∀ i ∈ is, i ∈ vs) :
    ∀ σ H Q, TEp X.K W (mComp im tm test me vs) σ H Q → tLc (TIp X.K W im) g (TTp X.K W0 test) (TEp X.K W0 me) vs σ H Q := fun σ H Q ⟨w, ms, q, k, sr, e, gv⟩ => by
  obtain ⟨r1, e1, g1⟩ := aft_bind e gv
  refine ⟨w, ms, r1, k, sr, e1, g1.imp fun xs w0 H0 x0 k0 ⟨q0, e2, g2⟩ J it D hD => ?_⟩
  split at e2
  · rename_i hlen
    have sr0 := sr.ext k x0
    have nF0 : ¬ w0.F D := k0.notF hD
    have nL0 : ¬ w0.L D := k0.notL hD
    let P : Nat → Hp → Prop := fun i H => ∃ w' acc ws rest, Wx w0 H0 w' H ∧ Wk X.K w' H ∧ ¬ w'.F D ∧ ¬ w'.L D ∧ H D = some (.lst ws) ∧ VRs X.K w'.F w'.φ H acc ws ∧ compGo tm test me (wipeM ms vs) (xs.drop i) w'.hm = some rest ∧
      lcEnd (match rest with | .ok ys h => some (.ok (acc ++ ys) h) | .ex c a h => some (.ex c a h)) = some q0 ∧ acc.length ≤ i
    cases ec : compGo tm test me (wipeM ms vs) xs w0.hm with
    | none => rw [ec] at e2; cases e2
    | some rest0 =>
    rw [ec] at e2
    refine ⟨fun i m H => m = xs.length - i ∧ i ≤ xs.length ∧ P i H, ⟨_, rfl, Nat.zero_le _, w0, [], [], rest0, (k0.lay hD).1, (k0.lay hD).2, nF0, nL0, upd_same, .nil, by simpa using ec, by cases rest0 <;> exact e2, Nat.le_refl _⟩, ?_⟩
    rintro i m H1 ⟨rfl, hi, w1, acc, ws, rest, x1, k1, n1, l1, h1, r1, c1, y1, z1⟩
    by_cases hlt : i < xs.length
    · right
      have hdrop : xs.drop i = xs[i] :: xs.drop (i + 1) := List.drop_eq_getElem_cons hlt
      rw [hdrop] at c1
      obtain ⟨go, yl⟩ := (it w1 H1 (x1.wy k0) k1 i).2 (xs[i]) (by simp [hlt])
      refine ⟨go, P (i + 1), fun H' p => ⟨xs.length - (i + 1), by omega, rfl, hlt, p⟩, fun x H2 y => ?_⟩
      obtain ⟨w2, hm2, x2, k2, r2⟩ := yl x H2 y
      rw [← hm2] at c1
      have h2 := x2.keep D _ h1 l1
      have n2 : ¬ w2.F D := x2.nF n1 l1 h1
      have l2 : ¬ w2.L D := x2.nL l1 h1
      unfold compGo at c1
      split at c1
      · cases c1
      · rename_i ms1 et
        have s2 : SR X.K w2 H2 (wipeM ms vs) (L2.wipe σ vs) := ((sr0.ext k0 x1).ext k1 x2).wipe vs
        refine tg w2 H2 _ ms1 _ _ x _ s2 r2 et fun σ2 s3 hj hl => ⟨?_, ?_⟩
        · rw [wipe_eq his hj hl, wipe_idem]
        · have exq : ∀ c a h, rest = .ex c a h → False := fun c a h er => by
            rw [er] at y1
            cases y1
          have x02 := x1.trans x2
          cases e3 : test ms1 w2.hm with
          | none => rw [e3] at c1; cases c1
          | some rt =>
            rw [e3] at c1
            cases rt with
            | ex c a h => cases c1; exact (exq c a h rfl).elim
            | ok d ht =>
              refine ⟨w2, ms1, _, k2, s3, e3, fun w3 H3 eh x3 k3 => ?_⟩
              dsimp only [rb] at c1
              have x03 := x02.trans x3
              have h3 := x3.keep D _ h2 l2
              have n3 : ¬ w3.F D := x3.nF n2 l2 h2
              have l3 : ¬ w3.L D := x3.nL l2 h2
              subst eh
              split at c1
              · refine ⟨_, rfl, iteT ?_⟩
                cases e4 : me ms1 w3.hm with
                | none => rw [e4] at c1; cases c1
                | some re =>
                  rw [e4] at c1
                  cases re with
                  | ex c a h => cases c1; exact (exq c a h rfl).elim
                  | ok yv he =>
                    refine ⟨w3, ms1, _, k3, s3.ext k2 x3, e4, fun w4 H4 eh x4 k4 v rv => ?_⟩
                    subst eh
                    have x04 := x03.trans x4
                    have h4 := x4.keep D _ h3 l3
                    have n4 : ¬ w4.F D := x4.nF n3 l3 h3
                    have l4 : ¬ w4.L D := x4.nL l3 h3
                    have hw : acc.length = ws.length := r1.length
                    have x14 := (x2.trans x3).trans x4
                    change rb (compGo tm test me (wipeM ms vs) (xs.drop (i + 1)) w4.hm) (fun ys h3 => some (.ok (yv :: ys) h3)) = some rest at c1
                    cases e5 : compGo tm test me (wipeM ms vs) (xs.drop (i + 1)) w4.hm with
                    | none => rw [e5] at c1; cases c1
                    | some r5 =>
                      rw [e5] at c1
                      refine ⟨ws, h4, by rw [← size_line, ← hw]; omega, w4, acc ++ [yv], ws ++ [v], r5, x04.updO hD, k4.updO n4 l4, n4, l4, upd_same, ((r1.ext k1 x14).snoc rv).updO n4, e5, ?_, by rw [List.length_append]; simp; exact z1⟩
                      cases r5 with
                      | ex c a h => cases c1; exact y1
                      | ok ys h => cases c1; show lcEnd (some (RS.ok (acc ++ [yv] ++ ys) h)) = some q0; rw [List.append_assoc]; exact y1
              · refine ⟨_, rfl, iteF ?_⟩
                exact ⟨w3, acc, ws, rest, x03, k3, n3, l3, h3, r1.ext k1 (x2.trans x3), c1, y1, Nat.le_succ_of_le z1⟩
              · cases c1
    · left
      have hi' : i = xs.length := by omega
      refine ⟨(it w1 H1 (x1.wy k0) k1 i).1 (by omega), ?_⟩
      rw [hi', List.drop_length] at c1
      cases c1
      dsimp only [lcEnd] at y1
      cases y1
      obtain ⟨xf, kf⟩ := Wk.addN x1 k1 hD l1 h1
      rw [List.append_nil] at g2
      exact g2 (w1.add D) H1 rfl xf kf _ (.lst (.inr rfl) h1 r1.addN)
  · cases e2
theorem se_comp {elt tg iter : Expr} {ifs : List Expr} {scope : Scope} {own : List (Str × Nat)} {g : TG} {is : List Nat} {tm : TM} {im : MA} {test me : ME} (hc : X.calm = true) (hN : X.N.Nodup) (hi : SI X W tg iter im) (ok : BlkOk X.N X.env.scope scope own)
    (tk : TgOk X.K g is tm) (his : ∀ i ∈ is, i ∈ own.map (·.2)) (hg : ∀ (s : Shared) (H : Hp) (C : Addr) (cl : List (Str × Addr)) (fp : List Addr), PG (X.blk s H scope (compEnvC scope cl C X.env) fp) tg g)
    (ht : ∀ (s : Shared) (H : Hp) (C : Addr) (cl : List (Str × Addr)) (fp : List Addr), PTs (X.blk s H scope (compEnvC scope cl C X.env) fp) ifs (TTp X.K W0 test))
    (he : ∀ (s : Shared) (H : Hp) (C : Addr) (cl : List (Str × Addr)) (fp : List Addr), PE (X.blk s H scope (compEnvC scope cl C X.env) fp) elt (TEp X.K W0 me)) (hs : ∀ x, foldedSetIterable iter X.env x = pure x := by intro _; rfl) :
    SE X W (.ListComp elt [⟨tg, iter, ifs, 0⟩] scope pos) (mComp im tm test me (own.map (·.2))) :=
  pe_mono (pe_lc hc hN hi ok hg ht he hs) (lc_read tk his)
def mTrue : ME := fun _ h => some (.ok (.bl true) h)
theorem pts_nilM : PTs X [] (TTp X.K W mTrue) := ⟨fun pins s σ H Q I ⟨w, ms, r, k, sr, e, g⟩ => by
  cases e
  obtain ⟨b, eb, q⟩ := g.here k
  cases eb
  exact pts_nil.run pins s σ H Q I q⟩
end
end Mx
namespace Mx
open PySem L2

inductive Fl where
  | nx (ms : Sl) (h : Hm) | rt (d : MV) (h : Hm) | bk (ms : Sl) (h : Hm) | ct (ms : Sl) (h : Hm) | ex (c : Value) (xs : List (Str × MV)) (ms : Sl) (h : Hm)
abbrev MS := Sl → Hm → Option Fl
def AfS (K : PySem.W.Frag) (w : Wd) (H : Hp) (W : WX) (D : Ends) : Fl → Prop
  | .nx ms h => ∀ σ w' H', w'.hm = h → Wx w H w' H' → Wk K w' H' → SR K w' H' ms σ → D.nx σ H'
  | .rt d h => ∀ v w' H', w'.hm = h → Wx w H w' H' → Wk K w' H' → VR K w'.F w'.φ H' d v → D.rt v H'
  | .bk ms h => ∀ σ w' H', w'.hm = h → Wx w H w' H' → Wk K w' H' → SR K w' H' ms σ → D.bk σ H'
  | .ct ms h => ∀ σ w' H', w'.hm = h → Wx w H w' H' → Wk K w' H' → SR K w' H' ms σ → D.ct σ H'
  | .ex c xs ms h => ∀ σ w' H' d, w'.hm = h → Wx w H w' H' → Wk K w' H' → SR K w' H' ms σ → XR K w'.F w'.φ H' xs d → W c d σ H'
section
variable {K : PySem.W.Frag} {w w1 : Wd} {H H1 : Hp} {W : WX} {D : Ends}
theorem AfS.ext (e : Wx w H w1 H1) : ∀ {fl : Fl}, AfS K w H W D fl → AfS K w1 H1 W D fl
  | .nx ms h, g => fun σ w' H' q x k r => g σ w' H' q (e.trans x) k r
  | .rt d h, g => fun σ w' H' q x k r => g σ w' H' q (e.trans x) k r
  | .bk ms h, g => fun σ w' H' q x k r => g σ w' H' q (e.trans x) k r
  | .ct ms h, g => fun σ w' H' q x k r => g σ w' H' q (e.trans x) k r
  | .ex c xs ms h, g => fun σ w' H' d q x k r => g σ w' H' d q (e.trans x) k r
/-- an expression within a statement -/
def sb {α : Type} (ms : Sl) (r : Option (RS α)) (f : α → Hm → Option Fl) : Option Fl := match r with
  | some (.ok a h) => f a h
  | some (.ex c xs h) => some (.ex c xs ms h)
  | none => none
theorem sb_bind {α : Type} {ms : Sl} {σ : St} {r : Option (RS α)} {f : α → Hm → Option Fl} {fl : Fl} (e : sb ms r f = some fl) (g : AfS K w H W D fl) (k : Wk K w H) (sr : SR K w H ms σ) :
    ∃ r', r = some r' ∧ Aft K w H (fun a w1 H1 => ∃ fl', f a w1.hm = some fl' ∧ AfS K w1 H1 W D fl') (WE W σ) r' := by
  unfold sb at e
  split at e
  · rename_i a h
    exact ⟨_, rfl, fun w' H' eh x k' => ⟨fl, by rw [eh]; exact e, g.ext x⟩⟩
  · rename_i c xs h
    cases e
    exact ⟨_, rfl, fun w' H' d eh x k' xr => g σ w' H' d eh x k' (sr.ext k x) xr⟩
  · cases e
end
def TSp (K : PySem.W.Frag) (W : WX) (m : MS) : TS := fun D σ H => ∃ w ms fl, Wk K w H ∧ SR K w H ms σ ∧ m ms w.hm = some fl ∧ AfS K w H W D fl
abbrev SS (X : Cx) (W : WX) (st : Stmt) (m : MS) : Prop := PS X st (TSp X.K W m)
abbrev SB (X : Cx) (W : WX) (sts : List Stmt) (m : MS) : Prop := PSs X sts (TSp X.K W m)
theorem ps_mono {X : Cx} {st : Stmt} {t t' : TS} (h : PS X st t) (k : ∀ D σ H, t' D σ H → t D σ H) : PS X st t' := ⟨fun pins s σ H D I q => h.run pins s σ H D I (k D σ H q)⟩
theorem pss_mono {X : Cx} {sts : List Stmt} {t t' : TS} (h : PSs X sts t) (k : ∀ D σ H, t' D σ H → t D σ H) : PSs X sts t' := ⟨fun pins s σ H D I q => h.run pins s σ H D I (k D σ H q)⟩
section
variable {X : Cx} {W : WX} {pos : Pos}
def mSkip : MS := fun ms h => some (.nx ms h)
def mSeq (a b : MS) : MS := fun ms h => match a ms h with
  | some (.nx ms1 h1) => b ms1 h1
  | r => r
theorem sb_nil : SB X W [] mSkip := pss_mono pss_nil fun D σ H ⟨w, ms, fl, k, sr, e, g⟩ => by
  cases e
  exact g σ w H rfl Wx.refl k sr
theorem sb_cons {st : Stmt} {rest : List Stmt} {a b : MS} (h1 : SS X W st a) (h2 : SB X W rest b) : SB X W (st :: rest) (mSeq a b) := pss_mono (pss_cons h1 h2) fun D σ H ⟨w, ms, fl, k, sr, e, g⟩ => by
  unfold mSeq at e
  split at e
  · rename_i ms1 h1 ea
    exact ⟨w, ms, .nx ms1 h1, k, sr, ea, fun σ1 w1 H1 eh x1 k1 s1 => ⟨w1, ms1, fl, k1, s1, by rw [eh]; exact e, g.ext x1⟩⟩
  · rename_i hn
    refine ⟨w, ms, fl, k, sr, e, ?_⟩
    cases fl with
    | nx m h => exact absurd e (hn m h)
    | rt d h => exact g
    | bk m h => exact g
    | ct m h => exact g
    | ex c xs m h => exact g
theorem sb_one {st : Stmt} {a : MS} (h1 : SS X W st a) : SB X W [st] a := pss_one h1
def mRet (e : ME) : MS := fun ms h => sb ms (e ms h) fun d h1 => some (.rt d h1)
theorem ss_ret {e : Expr} {m : ME} (h : SE X W e m) : SS X W (.Return (some e) pos) (mRet m) := ps_mono (ps_ret h) fun D σ H ⟨w, ms, fl, k, sr, e, g⟩ => by
  obtain ⟨r1, e1, g1⟩ := sb_bind e g k sr
  refine ⟨w, ms, r1, k, sr, e1, g1.imp fun d w1 H1 x1 k1 ⟨q1, e2, g2⟩ v rv => ?_⟩
  cases e2
  exact g2 v w1 H1 rfl Wx.refl k1 rv
def mSet (i : Nat) (e : ME) : MS := fun ms h => sb ms (e ms h) fun d h1 => some (.nx (ms.set i (some d)) h1)
theorem ss_asg {tg e : Expr} {te : TE} {i : Nat} {m : ME} (h : PS X (.Assign [tg] e pos) (tAsg te (gName i))) (he : ∀ σ H Q, TEp X.K W m σ H Q → te σ H Q) : SS X W (.Assign [tg] e pos) (mSet i m) := ps_mono h fun D σ H ⟨w, ms, fl, k, sr, e, g⟩ => by
  obtain ⟨r1, e1, g1⟩ := sb_bind e g k sr
  refine he σ H _ ⟨w, ms, r1, k, sr, e1, g1.imp fun d w1 H1 x1 k1 ⟨q1, e2, g2⟩ v rv => ?_⟩
  cases e2
  exact g2 _ w1 H1 rfl Wx.refl k1 ((sr.ext k x1).set rv)
/-- a, b = e, the right side being one value -/
def mSetT (tm : TM) (e : ME) : MS := fun ms h => sb ms (e ms h) fun d h1 => (tm d ms).map fun ms1 => .nx ms1 h1
theorem ss_asgT {tg e : Expr} {is : List Nat} {G : TG} {tm : TM} {m : ME} (tk : TgOk X.K G is tm) (h : PS X (.Assign [tg] e pos) (tAsg (TEp X.K W m) G)) : SS X W (.Assign [tg] e pos) (mSetT tm m) := ps_mono h fun D σ H ⟨w, ms, fl, k, sr, e, g⟩ => by
  obtain ⟨r1, e1, g1⟩ := sb_bind e g k sr
  refine ⟨w, ms, r1, k, sr, e1, g1.imp fun d w1 H1 x1 k1 ⟨q1, e2, g2⟩ v rv => ?_⟩
  cases et : tm d ms with
  | none => rw [et] at e2; cases e2
  | some ms1 =>
    rw [et] at e2
    cases e2
    exact tk w1 H1 ms ms1 σ d v _ (sr.ext k x1) rv et fun σ' s' _ _ => g2 σ' w1 H1 rfl Wx.refl k1 s'
/-- an expression for its own sake -/
def mDrop (e : ME) : MS := fun ms h => sb ms (e ms h) fun _ h1 => some (.nx ms h1)
theorem ss_expr {e : Expr} {m : ME} (h : SE X W e m) (hs : swapsWith e none pos.line X.env = pure false := by rfl) : SS X W (.Expr e pos) (mDrop m) := ps_mono (ps_expr h hs) fun D σ H ⟨w, ms, fl, k, sr, e, g⟩ => by
  obtain ⟨r1, e1, g1⟩ := sb_bind e g k sr
  refine ⟨w, ms, r1, k, sr, e1, g1.imp fun d w1 H1 x1 k1 ⟨q1, e2, g2⟩ v rv => ?_⟩
  cases e2
  exact g2 _ w1 H1 rfl Wx.refl k1 (sr.ext k x1)
def mIfS (c : ME) (a b : MS) : MS := fun ms h => sb ms (c ms h) fun d h1 => match d with
  | .bl true => a ms h1
  | .bl false => b ms h1
  | _ => none
theorem ss_if {c : Expr} {a b : List Stmt} {mc : ME} {ma mb : MS} (hc : ST X W c mc) (ha : SB X W a ma) (hb : SB X W b mb) : SS X W (.If c a b pos) (mIfS mc ma mb) := ps_mono (ps_if hc ha hb) fun D σ H ⟨w, ms, fl, k, sr, e, g⟩ => by
  obtain ⟨r1, e1, g1⟩ := sb_bind e g k sr
  refine ⟨w, ms, r1, k, sr, e1, g1.imp fun d w1 H1 x1 k1 ⟨q1, e2, g2⟩ => ?_⟩
  split at e2
  · exact ⟨_, rfl, iteT ⟨w1, ms, q1, k1, sr.ext k x1, e2, g2⟩⟩
  · exact ⟨_, rfl, iteF ⟨w1, ms, q1, k1, sr.ext k x1, e2, g2⟩⟩
  · cases e2
def mNever : MS := fun _ _ => none
theorem ss_never {st : Stmt} : SS X W st mNever := ps_mono ps_never fun D σ H ⟨w, ms, fl, k, sr, e, g⟩ => by cases e
theorem sb_never {sts : List Stmt} : SB X W sts mNever := pss_mono pss_never fun D σ H ⟨w, ms, fl, k, sr, e, g⟩ => by cases e
/-- a for over what is walked -/
def forGo (tm : TM) (body : MS) : List MV → Sl → Hm → Option Fl
  | [], ms, h => some (.nx ms h)
  | x :: xs, ms, h => match tm x ms with
    | none => none
    | some ms1 => match body ms1 h with
      | some (.nx ms2 h2) => forGo tm body xs ms2 h2
      | some (.ct ms2 h2) => forGo tm body xs ms2 h2
      | some (.bk ms2 h2) => some (.nx ms2 h2)
      | some (.rt d h2) => some (.rt d h2)
      | some (.ex c a ms2 h2) => some (.ex c a ms2 h2)
      | none => none
def mFor (it : MA) (tm : TM) (body : MS) : MS := fun ms h => sb ms (it ms h) fun xs h1 => forGo tm body xs ms h1
theorem ss_for {iter tg : Expr} {body : List Stmt} {g : TG} {is : List Nat} {tm : TM} {im : MA} {mb : MS} (hp : PassesOwn (model X.prog X.w) X.A X.env X.xe) (hc : X.calm = true) (hi : SI X W tg iter im) (tk : TgOk X.K g is tm) (hg : PG X tg g) (hb : SB X W body mb)
    (hs : ∀ x, foldedSetIterable iter X.env x = pure x := by intro _; rfl) : SS X W (.For tg iter body [] pos) (mFor im tm mb) := ps_mono (ps_for hp hc hi hg hb hs) fun D σ H ⟨w, ms, fl, k, sr, e, g'⟩ => by
  obtain ⟨r1, e1, g1⟩ := sb_bind e g' k sr
  refine ⟨w, ms, r1, k, sr, e1, g1.imp fun xs w0 H0 x0 k0 ⟨q0, e2, g2⟩ J it => ?_⟩
  let P : Nat → St → Hp → Prop := fun i σ H => ∃ w' ms', Wx w0 H0 w' H ∧ Wk X.K w' H ∧ SR X.K w' H ms' σ ∧ forGo tm mb (xs.drop i) ms' w'.hm = some q0
  refine ⟨fun i m σ H => m = xs.length - i ∧ i ≤ xs.length ∧ P i σ H, ⟨_, rfl, Nat.zero_le _, w0, ms, Wx.refl, k0, sr.ext k x0, by simpa using e2⟩, ?_⟩
  rintro i m σ1 H1 ⟨rfl, hi, w1, ms1, x1, k1, s1, c1⟩
  by_cases hlt : i < xs.length
  · right
    have hdrop : xs.drop i = xs[i] :: xs.drop (i + 1) := List.drop_eq_getElem_cons hlt
    rw [hdrop] at c1
    obtain ⟨go, yl⟩ := (it w1 H1 (x1.wy k0) k1 i).2 (xs[i]) (by simp [hlt])
    refine ⟨go, P (i + 1), fun σ' H' p => ⟨xs.length - (i + 1), by omega, rfl, hlt, p⟩, fun x H2 y => ?_⟩
    obtain ⟨w2, hm2, x2, k2, r2⟩ := yl x H2 y
    rw [← hm2] at c1
    unfold forGo at c1
    split at c1
    · cases c1
    · rename_i ms2 et
      refine tk w2 H2 _ ms2 _ _ x _ (s1.ext k1 x2) r2 et fun σ2 s3 _ _ => ?_
      have x12 := x1.trans x2
      split at c1
      · rename_i ms3 h3 eb
        exact ⟨w2, ms2, .nx ms3 h3, k2, s3, eb, fun σ' w3 H3 eh x3 k3 s4 => ⟨w3, ms3, x12.trans x3, k3, s4, by rw [eh]; exact c1⟩⟩
      · rename_i ms3 h3 eb
        exact ⟨w2, ms2, .ct ms3 h3, k2, s3, eb, fun σ' w3 H3 eh x3 k3 s4 => ⟨w3, ms3, x12.trans x3, k3, s4, by rw [eh]; exact c1⟩⟩
      · rename_i ms3 h3 eb
        cases c1
        exact ⟨w2, ms2, .bk ms3 h3, k2, s3, eb, fun σ' w3 H3 eh x3 k3 s4 => AfS.ext x12 g2 σ' w3 H3 eh x3 k3 s4⟩
      · rename_i d h3 eb
        cases c1
        exact ⟨w2, ms2, .rt d h3, k2, s3, eb, AfS.ext x12 g2⟩
      · rename_i c a ms3 h3 eb
        cases c1
        exact ⟨w2, ms2, .ex c a ms3 h3, k2, s3, eb, AfS.ext x12 g2⟩
      · cases c1
  · left
    have hi' : i = xs.length := by omega
    refine ⟨(it w1 H1 (x1.wy k0) k1 i).1 (by omega), ?_⟩
    rw [hi', List.drop_length] at c1
    cases c1
    exact AfS.ext x1 g2 σ1 w1 H1 rfl Wx.refl k1 s1
end

/-- what a body gives with p arguments, n names in all -/
def runM (n p : Nat) (m : MS) : FD := fun ds h => if ds.length = p then match m (ds.map some ++ List.replicate (n - p) none) h with
    | some (.rt d h1) => some (.ok d h1)
    | some (.nx _ h1) => some (.ok .non h1)
    | some (.ex c xs _ h1) => some (.ex c xs h1)
    | _ => none
  else none
theorem runM_len {n p : Nat} {m : MS} {ds : List MV} {h : Hm} {r : RS MV} (e : runM n p m ds h = some r) : ds.length = p := by
  unfold runM at e
  split at e
  · assumption
  · cases e
theorem SR.start {K : PySem.W.Frag} {w : Wd} {H : Hp} {ds : List MV} {vs : List V} {N : List Str} (r : VRs K w.F w.φ H ds vs) (n : Nat) (hn : n = N.length) (hl : ds.length ≤ N.length) : SR K w H (ds.map some ++ List.replicate (n - ds.length) none) (L2.start N vs) := by
  subst hn
  have e := r.length
  refine ⟨by simp [L2.start, e], fun i d q => ?_⟩
  by_cases h : i < ds.length
  · rw [List.getElem?_append_left (by rw [List.length_map]; exact h), List.getElem?_map] at q
    cases h2 : ds[i]? with
    | none => rw [h2] at q; cases q
    | some x =>
      rw [h2] at q
      cases q
      obtain ⟨v, a, b⟩ := r.get h2
      refine ⟨v, ?_, b⟩
      unfold L2.start
      rw [List.getElem?_append_left (by rw [List.length_map, ← e]; exact h), List.getElem?_map, a]
      rfl
  · rw [List.getElem?_append_right (by rw [List.length_map]; omega)] at q
    have := List.mem_of_getElem? q
    have := List.eq_of_mem_replicate this
    cases this
/-- the promise of a def with this meaning -/
def spF (K : PySem.W.Frag) (f : FD) : Sp := fun vs H Q E => ∃ w ds r, Wk K w H ∧ VRs K w.F w.φ H ds vs ∧ f ds w.hm = some r ∧ Aft K w H (Vf K Q) E r
/-- f takes p arguments -/
def Takes' (p : Nat) (f : FD) : Prop := ∀ ds h r, f ds h = some r → ds.length = p
theorem spF_len {K : PySem.W.Frag} {f : FD} {p : Nat} (t : Takes' p f) {vs : List V} {H : Hp} {Q : VK} {E : XK} (h : spF K f vs H Q E) : vs.length = p := by
  obtain ⟨w, ds, r, k, rs, e, g⟩ := h
  rw [← rs.length]; exact t _ _ _ e
theorem runM_takes {n p : Nat} {m : MS} : Takes' p (runM n p m) := fun _ _ _ e => runM_len e
/-- the wish of a def's body about exceptions -/
abbrev WO (E : XK) : WX := fun c d _ H => E c d H
theorem blind_WO {E : XK} : Blind (WO E) := fun _ _ _ _ _ h => h
theorem runM_ok {K : PySem.W.Frag} {N : List Str} {m : MS} {n p : Nat} {vs : List V} {H : Hp} {Q : VK} {E : XK} (hn : n = N.length) (hp : p ≤ n) (h : spF K (runM n p m) vs H Q E) : TSp K (WO E) m { nx := fun _ H' => Q .non H', rt := Q } (start N vs) H := by
  obtain ⟨w, ds, r, k, rs, e, g⟩ := h
  have hd : ds.length = p := runM_len e
  unfold runM at e
  rw [if_pos hd] at e
  have sr : SR K w H (ds.map some ++ List.replicate (n - ds.length) none) (start N vs) := SR.start rs n hn (by omega)
  rw [hd] at sr
  split at e
  · rename_i d h1 em
    cases e
    exact ⟨w, _, _, k, sr, em, fun v w' H' eh x k' rv => g w' H' eh x k' v rv⟩
  · rename_i ms' h1 em
    cases e
    exact ⟨w, _, _, k, sr, em, fun σ w' H' eh x k' _ => g w' H' eh x k' .non .non⟩
  · rename_i c xs ms' h1 em
    cases e
    exact ⟨w, _, _, k, sr, em, fun σ w' H' d eh x k' _ xr => g w' H' d eh x k' xr⟩
  · cases e
section
variable {P : Program} {w : World} {K : PySem.W.Frag} {mg : Str → Option Value} {base : Heap}
/-- a def of the text has the meaning of its body -/
theorem fn_ok {x qual : Str} {params : Arguments} {body : List Stmt} {scope : Scope} {dvs : List V} {kws : List (Str × V)} {f : Addr} {fd : FuncData} {N ps : List Str} {k n p : Nat} {m : MS} (F : FunD K x qual params body scope dvs kws f fd) (S : FnScope N ps scope) (hp : p = ps.length) (hn : n = N.length) (hpn : p ≤ n)
    (hbody : ∀ (cdv : Value) (A : Around) (outer : List Env) (s : Shared) (H : Hp) (E : XK), Room k (A.deeper (PyProof.Rows.envOfC qual scope s.heap.objs.size f cdv)) → Takes (cxOf (L2.CX P w) P w K mg base N qual scope f cdv A outer s H E) (WO E) →
      SB (cxOf (L2.CX P w) P w K mg base N qual scope f cdv A outer s H E) (WO E) body m) : FnOk P w K mg base (L2.CX P w) (k + 1) f fd ps (spF K (runM n p m)) :=
  F.ok S (fun vs H Q E h => by rw [← hp]; exact spF_len runM_takes h) fun cdv A outer s H vs Q E hr hsp =>
    ⟨_, hbody cdv A outer s H E hr (takes_of rfl rfl rfl rfl), runM_ok hn hpn hsp⟩
/-- another meaning that says less -/
theorem fn_less {f : Addr} {fd : FuncData} {ps : List Str} {k : Nat} {a b : FD} (F : FnOk P w K mg base (L2.CX P w) k f fd ps (spF K a)) (h : ∀ ds h r, b ds h = some r → a ds h = some r) : FnOk P w K mg base (L2.CX P w) k f fd ps (spF K b) :=
  F.imp fun vs H Q E ⟨w, ds, r, k, rs, e, g⟩ => ⟨w, ds, r, k, rs, h _ _ _ e, g⟩
end
section
variable {X : Cx} {W : WX} {pos : Pos}
theorem callD_mono {f : FD} {m : MA} : ∀ σ H Q, TEp X.K W (mCallD f m) σ H Q → tCallS (spF X.K f) (WE W) (TAp X.K W m) σ H Q := fun σ H Q ⟨w, ms, q, k, sr, e, g⟩ => by
  obtain ⟨r1, e1, g1⟩ := aft_bind e g
  exact ⟨w, ms, r1, k, sr, e1, g1.imp fun xs w1 H1 x1 k1 ⟨q1, e2, g2⟩ vs rs => ⟨w1, xs, q1, k1, rs, e2, g2⟩⟩
/-- f(a, ..), every parameter given -/
theorem se_call {k : Nat} {x : Str} {e : Expr} {es : List Expr} {f : Addr} {fd : FuncData} {ps : List Str} {fm : FD} {m : MA} {p : Pos} (F : FnOk X.prog X.w X.K X.mg X.base (L2.CX X.prog X.w) k f fd ps (spF X.K fm)) (hr : Room k X.A) (hg : Gl X x) (hm : X.mg x = some (.ref f)) (hk : PySem.W.keepIn X.K (.ref f) = true)
    (hb : Binds X.K fd ps []) (tk : Takes X W) (ha : SA X W (e :: es) m) (hdb : (x == ("__debug__" : Str)) = false := by decide) (he : starEach (e :: es) X.env = (false, eval e X.env) :: starEach es X.env := by rfl) (hpl : (backTo pos (starEach es X.env)).any (·.1) = false := by rfl) :
    SE X W (.Call (.Name x p) (e :: es) [] pos) (mCallD fm m) :=
  pe_mono (pe_callS F hr hg hm hk hb (fun σ => passAt tk σ) ha hdb he hpl) callD_mono
end
end Mx
namespace Mx
open PySem L2

mutual
def toPD : MV → PyData
  | .non => .none
  | .bl b => .bool b
  | .int i => .int i
  | .str x => .str x
  | .tup xs => .tuple (toPDs xs)
  | .lst xs => .list (toPDs xs)
  | .ed => .none
  | .ref _ => .none
  | .ty _ => .none
  | .adr _ => .none
  | .scr _ => .none
def toPDs : List MV → List PyData
  | [] => []
  | x :: xs => toPD x :: toPDs xs
end
/-- plain data, at most n deep -/
def okF : Nat → MV → Bool
  | 0, d => match d with
    | .non => true
    | .bl _ => true
    | .int _ => true
    | .str x => PyData.strOk x
    | _ => false
  | n + 1, d => match d with
    | .non => true
    | .bl _ => true
    | .int _ => true
    | .str x => PyData.strOk x
    | .tup xs => xs.all (okF n)
    | .lst xs => xs.all (okF n)
    | _ => false
def eqL (f : MV → MV → Bool) : List MV → List MV → Bool
  | [], [] => true
  | x :: xs, y :: ys => f x y && eqL f xs ys
  | _, _ => false
def eqM : Nat → MV → MV → Bool
  | n, .non, .non => true
  | n, .bl a, .bl b => a == b
  | n, .bl a, .int j => (if a then 1 else 0) == j
  | n, .int i, .bl b => i == (if b then 1 else 0)
  | n, .int i, .int j => i == j
  | n, .str x, .str y => x == y
  | n + 1, .lst xs, .lst ys => eqL (eqM n) xs ys
  | n + 1, .tup xs, .tup ys => eqL (eqM n) xs ys
  | _, _, _ => false
theorem toPDs_map : ∀ xs : List MV, toPDs xs = xs.map toPD
  | [] => by simp [toPDs]
  | x :: xs => by simp [toPDs, toPDs_map xs]
theorem depthAll_le {n : Nat} : ∀ ds : List PyData, (∀ d ∈ ds, d.depth ≤ n) → PyData.depthAll ds ≤ n
  | [], _ => by simp [PyData.depthAll]
  | d :: ds, h => by
    simp only [PyData.depthAll]
    exact Nat.max_le.mpr ⟨h d (by simp), depthAll_le ds fun e he => h e (by simp [he])⟩
theorem canLayAll0_of {ds : List PyData} (h : ∀ d ∈ ds, PyData.canLay0 d = true) : PyData.canLayAll0 ds = true := by
  induction ds with
  | nil => simp [PyData.canLayAll0]
  | cons d ds ih => simp only [PyData.canLayAll0, Bool.and_eq_true]; exact ⟨h d (by simp), ih fun e he => h e (by simp [he])⟩
theorem okF_pd : ∀ (n : Nat) (d : MV), okF n d = true → PyData.canLay0 (toPD d) = true ∧ (toPD d).depth ≤ n
  | 0, d, h => by
    cases d with
    | str x => have h' : PyData.strOk x = true := h; exact ⟨by simpa [toPD, PyData.canLay0] using h', by simp [toPD, PyData.depth]⟩
    | non => simp [toPD, PyData.canLay0, PyData.depth]
    | bl b => simp [toPD, PyData.canLay0, PyData.depth]
    | int i => simp [toPD, PyData.canLay0, PyData.depth]
    | _ => cases h
  | n + 1, d, h => by
    cases d with
    | str x => have h' : PyData.strOk x = true := h; exact ⟨by simpa [toPD, PyData.canLay0] using h', by simp [toPD, PyData.depth]⟩
    | non => simp [toPD, PyData.canLay0, PyData.depth]
    | bl b => simp [toPD, PyData.canLay0, PyData.depth]
    | int i => simp [toPD, PyData.canLay0, PyData.depth]
    | tup xs =>
      have h' : ∀ x ∈ xs, okF n x = true := List.all_eq_true.mp h
      simp only [toPD, PyData.canLay0, PyData.depth, toPDs_map]
      refine ⟨canLayAll0_of fun d hd => ?_, Nat.succ_le_succ (depthAll_le _ fun d hd => ?_)⟩
      · obtain ⟨x, hx, rfl⟩ := List.mem_map.mp hd
        exact (okF_pd n x (h' x hx)).1
      · obtain ⟨x, hx, rfl⟩ := List.mem_map.mp hd
        exact (okF_pd n x (h' x hx)).2
    | lst xs =>
      have h' : ∀ x ∈ xs, okF n x = true := List.all_eq_true.mp h
      simp only [toPD, PyData.canLay0, PyData.depth, toPDs_map]
      refine ⟨canLayAll0_of fun d hd => ?_, Nat.succ_le_succ (depthAll_le _ fun d hd => ?_)⟩
      · obtain ⟨x, hx, rfl⟩ := List.mem_map.mp hd
        exact (okF_pd n x (h' x hx)).1
      · obtain ⟨x, hx, rfl⟩ := List.mem_map.mp hd
        exact (okF_pd n x (h' x hx)).2
    | _ => cases h
theorem shaped_of {d : MV} (h : okF 64 d = true) : SeqAt.shaped (toPD d) = true := by
  obtain ⟨a, b⟩ := okF_pd 64 d h
  show (PyData.canLay0 (toPD d) && decide ((toPD d).depth ≤ 64)) = true
  rw [a, decide_eq_true b]; rfl
theorem eqL_eqv {n : Nat} (ih : ∀ a b, okF n a = true → okF n b = true → eqM n a b = PyData.eqv (toPD a) (toPD b)) : ∀ (xs ys : List MV), xs.all (okF n) = true → ys.all (okF n) = true → eqL (eqM n) xs ys = PyData.eqvAll (toPDs xs) (toPDs ys)
  | [], [], _, _ => by simp [eqL, toPDs, PyData.eqvAll]
  | [], _ :: _, _, _ => by simp [eqL, toPDs, PyData.eqvAll]
  | _ :: _, [], _, _ => by simp [eqL, toPDs, PyData.eqvAll]
  | x :: xs, y :: ys, h1, h2 => by
    simp only [List.all_cons, Bool.and_eq_true] at h1 h2
    simp only [eqL, toPDs, PyData.eqvAll]
    rw [ih x y h1.1 h2.1, eqL_eqv ih xs ys h1.2 h2.2]
theorem eqM_eqv : ∀ (n : Nat) (a b : MV), okF n a = true → okF n b = true → eqM n a b = PyData.eqv (toPD a) (toPD b)
  | 0, a, b, h1, h2 => by
    cases a <;> first
      | (cases h1; done)
      | (cases b <;> first
          | (cases h2; done)
          | simp [eqM, toPD, PyData.eqv])
  | n + 1, a, b, h1, h2 => by
    have ih := eqM_eqv n
    cases a <;> first
      | (cases h1; done)
      | (cases b <;> first
          | (cases h2; done)
          | (simp only [eqM, toPD, PyData.eqv]; done)
          | (simp only [eqM, toPD, PyData.eqv]; exact eqL_eqv ih _ _ h1 h2))
section
variable {K : PySem.W.Frag} {F : Fz} {φ : List Addr} {H : Hp}
mutual
theorem VR.dp : ∀ (n : Nat) (d : MV) (v : V), okF n d = true → VR K F φ H d v → Dp K H v (toPD d)
  | n, .non, _, _, r => by cases r; exact .non
  | n, .bl b, _, _, r => by cases r; exact .bl b
  | n, .int i, _, _, r => by cases r; exact .int i
  | n, .str x, _, _, r => by cases r; exact .str x
  | 0, .tup xs, _, h, r => by cases h
  | n + 1, .tup xs, _, h, r => by
    cases r with
    | tup f r => simp only [toPD]; exact .tup f.sq (VRs.dp n xs _ (List.all_eq_true.mp h) r)
  | 0, .lst xs, _, h, r => by cases h
  | n + 1, .lst xs, _, h, r => by
    cases r with
    | lst f h' r => simp only [toPD]; exact .lst (SqL.of h') (VRs.dp n xs _ (List.all_eq_true.mp h) r)
  | 0, .ed, _, h, _ => by cases h
  | 0, .ref _, _, h, _ => by cases h
  | 0, .ty _, _, h, _ => by cases h
  | 0, .adr _, _, h, _ => by cases h
  | 0, .scr _, _, h, _ => by cases h
  | _ + 1, .ed, _, h, _ => by cases h
  | _ + 1, .ref _, _, h, _ => by cases h
  | _ + 1, .ty _, _, h, _ => by cases h
  | _ + 1, .adr _, _, h, _ => by cases h
  | _ + 1, .scr _, _, h, _ => by cases h
theorem VRs.dp : ∀ (n : Nat) (xs : List MV) (vs : List V), (∀ x ∈ xs, okF n x = true) → VRs K F φ H xs vs → DpAll K H vs (toPDs xs)
  | n, [], _, _, r => by cases r; simp only [toPDs]; exact .nil
  | n, x :: xs, _, h, r => by
    cases r with
    | cons r rr => simp only [toPDs]; exact .cons (VR.dp n x _ (h x (by simp)) r) (VRs.dp n xs _ (fun y hy => h y (by simp [hy])) rr)
end
end
section
variable {X : Cx}
def eqOp : F2 := fun _ a b => if okF 64 a && okF 64 b then some (.bl (eqM 64 a b)) else none
def neOp : F2 := fun _ a b => if okF 64 a && okF 64 b then some (.bl (!eqM 64 a b)) else none
theorem op2_eq : Op2 X.K eqOp (rEqD X.K) := fun w H a b d x y Q k ra rb e g => by
  unfold eqOp at e
  split at e
  · rename_i h
    rw [Bool.and_eq_true] at h
    cases e
    exact ⟨_, _, ra.dp 64 a x h.1, rb.dp 64 b y h.2, shaped_of h.1, shaped_of h.2, by rw [← eqM_eqv 64 a b h.1 h.2]; exact g w H _ rfl Wx.refl k (.bl _)⟩
  · cases e
theorem op2_ne : Op2 X.K neOp (rNeD X.K) := fun w H a b d x y Q k ra rb e g => by
  unfold neOp at e
  split at e
  · rename_i h
    rw [Bool.and_eq_true] at h
    cases e
    exact ⟨_, _, ra.dp 64 a x h.1, rb.dp 64 b y h.2, shaped_of h.1, shaped_of h.2, by rw [← eqM_eqv 64 a b h.1 h.2]; exact g w H _ rfl Wx.refl k (.bl _)⟩
  · cases e
def inM (a : MV) : MV → Option Bool
  | .lst xs => if okF 64 a && okF 64 (.lst xs) then some (xs.any fun z => eqM 64 z a) else none
  | _ => none
def inOp : F2 := fun _ a b => (inM a b).map .bl
def ninOp : F2 := fun _ a b => (inM a b).map fun c => .bl (!c)
theorem okF_up : ∀ (n : Nat) (d : MV), okF n d = true → okF (n + 1) d = true
  | 0, d, h => by
    cases d <;> first | exact h | (cases h; done)
  | n + 1, d, h => by
    cases d with
    | tup xs =>
      have h' : ∀ x ∈ xs, okF n x = true := List.all_eq_true.mp h
      exact List.all_eq_true.mpr fun x hx => okF_up n x (h' x hx)
    | lst xs =>
      have h' : ∀ x ∈ xs, okF n x = true := List.all_eq_true.mp h
      exact List.all_eq_true.mpr fun x hx => okF_up n x (h' x hx)
    | _ => first | exact h | (cases h; done)
theorem any_eqv {a : MV} (ha : okF 64 a = true) : ∀ xs : List MV, (∀ x ∈ xs, okF 64 x = true) → (xs.any fun z => eqM 64 z a) = ((toPDs xs).any fun z => PyData.eqv z (toPD a))
  | [], _ => by simp [toPDs]
  | x :: xs, h => by
    simp only [toPDs, List.any_cons]
    rw [eqM_eqv 64 x a (h x (by simp)) ha, any_eqv ha xs fun y hy => h y (by simp [hy])]
theorem in_core {w : Wd} {H : Hp} {a b : MV} {x y : V} {c : Bool} (ra : VR X.K w.F w.φ H a x) (rb : VR X.K w.F w.φ H b y) (e : inM a b = some c) :
    ∃ d ds, Dp X.K H x d ∧ Dp X.K H y (.list ds) ∧ SeqAt.shaped d = true ∧ SeqAt.shaped (.list ds) = true ∧ (ds.any fun z => PyData.eqv z d) = c := by
  cases b with
  | lst xs =>
    change (if (okF 64 a && okF 64 (.lst xs)) = true then some (xs.any fun z => eqM 64 z a) else none) = some c at e
    split at e
    · rename_i h
      rw [Bool.and_eq_true] at h
      cases e
      have h2 : ∀ z ∈ xs, okF 63 z = true := List.all_eq_true.mp h.2
      have hp : toPD (.lst xs) = .list (toPDs xs) := by simp only [toPD]
      refine ⟨_, toPDs xs, ra.dp 64 a x h.1, by rw [← hp]; exact rb.dp 64 _ y h.2, shaped_of h.1, by rw [← hp]; exact shaped_of h.2, ?_⟩
      exact (any_eqv h.1 xs fun z hz => okF_up 63 z (h2 z hz)).symm
    · cases e
  | _ => cases e
theorem op2_in : Op2 X.K inOp (rInD X.K) := fun w H a b d x y Q k ra rb e g => by
  unfold inOp at e
  cases q : inM a b with
  | none => rw [q] at e; cases e
  | some c =>
    rw [q] at e
    cases e
    obtain ⟨d, ds, h1, h2, h3, h4, h5⟩ := in_core ra rb q
    exact ⟨d, ds, h1, h2, h3, h4, by rw [h5]; exact g w H _ rfl Wx.refl k (.bl _)⟩
theorem op2_nin : Op2 X.K ninOp (rNotInD X.K) := fun w H a b d x y Q k ra rb e g => by
  unfold ninOp at e
  cases q : inM a b with
  | none => rw [q] at e; cases e
  | some c =>
    rw [q] at e
    cases e
    obtain ⟨d, ds, h1, h2, h3, h4, h5⟩ := in_core ra rb q
    exact ⟨d, ds, h1, h2, h3, h4, by rw [h5]; exact g w H _ rfl Wx.refl k (.bl _)⟩
def rIsN : R2 := fun x y H Q => y = .non ∧ Q (.bl (decide (x = .non))) H
def rNotN : R2 := fun x y H Q => y = .non ∧ Q (.bl (!decide (x = .non))) H
def isN : MV → Bool
  | .non => true
  | _ => false
def isOp : F2 := fun _ a b => match b with
  | .non => some (.bl (isN a))
  | _ => none
def notOp : F2 := fun _ a b => match b with
  | .non => some (.bl (!isN a))
  | _ => none
theorem isN_eq {F : Fz} {φ : List Addr} {H : Hp} {a : MV} {x : V} (r : VR X.K F φ H a x) : decide (x = .non) = isN a := by
  cases r <;> simp [isN]
theorem op2_is : Op2 X.K isOp rIsN := fun w H a b d x y Q k ra rb e g => by
  cases b with
  | non => cases rb; cases e; exact ⟨rfl, by rw [isN_eq ra]; exact g w H _ rfl Wx.refl k (.bl _)⟩
  | _ => cases e
theorem op2_not : Op2 X.K notOp rNotN := fun w H a b d x y Q k ra rb e g => by
  cases b with
  | non => cases rb; cases e; exact ⟨rfl, by rw [isN_eq ra]; exact g w H _ rfl Wx.refl k (.bl _)⟩
  | _ => cases e
/-- ints in, a value out -/
def iOp (f : Int → Int → Option MV) : F2 := fun _ a b => match a, b with
  | .int i, .int j => f i j
  | _, _ => none
theorem op2_i {f : Int → Int → Option MV} {r : R2} (h : ∀ (i j : Int) (d : MV), f i j = some d → ∀ (H : Hp) (Q : VK), (∀ v, (∀ F φ H, VR X.K F φ H d v) → Q v H) → r (.int i) (.int j) H Q) : Op2 X.K (iOp f) r := fun w H a b d x y Q k ra rb e g => by
  unfold iOp at e
  split at e
  · cases ra
    cases rb
    exact h _ _ _ e H Q fun v hv => g w H v rfl Wx.refl k (hv _ _ _)
  · cases e
abbrev subF : Int → Int → Option MV := fun i j => some (.int (i - j))
abbrev ltF : Int → Int → Option MV := fun i j => some (.bl (decide (i < j)))
abbrev leF : Int → Int → Option MV := fun i j => some (.bl (decide (i ≤ j)))
abbrev gtF : Int → Int → Option MV := fun i j => some (.bl (decide (j < i)))
abbrev geF : Int → Int → Option MV := fun i j => some (.bl (decide (j ≤ i)))
abbrev mulF : Int → Int → Option MV := fun i j => if -(2 ^ 64) < j ∧ j < 2 ^ 64 ∨ -(2 ^ 64) < i ∧ i < 2 ^ 64 then some (.int (i * j)) else none
abbrev modF : Int → Int → Option MV := fun i j => if 0 < j then some (.int (i % j)) else none
abbrev divF : Int → Int → Option MV := fun i j => if 0 < j ∧ j < 1073741824 then some (.int (i / j)) else none
theorem op2_sub : Op2 X.K (iOp subF) (rI0 fun i j => .int (i - j)) := op2_i fun i j d e H Q g => by cases e; exact ⟨i, j, rfl, rfl, g _ fun _ _ _ => .int _⟩
theorem op2_lt : Op2 X.K (iOp ltF) (rI0 fun i j => .bl (decide (i < j))) := op2_i fun i j d e H Q g => by cases e; exact ⟨i, j, rfl, rfl, g _ fun _ _ _ => .bl _⟩
theorem op2_le : Op2 X.K (iOp leF) (rI0 fun i j => .bl (decide (i ≤ j))) := op2_i fun i j d e H Q g => by cases e; exact ⟨i, j, rfl, rfl, g _ fun _ _ _ => .bl _⟩
theorem op2_gt : Op2 X.K (iOp gtF) (rI0 fun i j => .bl (decide (j < i))) := op2_i fun i j d e H Q g => by cases e; exact ⟨i, j, rfl, rfl, g _ fun _ _ _ => .bl _⟩
theorem op2_ge : Op2 X.K (iOp geF) (rI0 fun i j => .bl (decide (j ≤ i))) := op2_i fun i j d e H Q g => by cases e; exact ⟨i, j, rfl, rfl, g _ fun _ _ _ => .bl _⟩
theorem op2_mul : Op2 X.K (iOp mulF) (rI CMul fun i j => .int (i * j)) := op2_i fun i j d e H Q g => by
  unfold mulF at e
  split at e
  · rename_i h
    cases e
    exact ⟨i, j, rfl, rfl, h.symm, g _ fun _ _ _ => .int _⟩
  · cases e
theorem op2_mod : Op2 X.K (iOp modF) (rI (fun _ j => 0 < j) fun i j => .int (i % j)) := op2_i fun i j d e H Q g => by
  unfold modF at e
  split at e
  · rename_i h
    cases e
    exact ⟨i, j, rfl, rfl, h, g _ fun _ _ _ => .int _⟩
  · cases e
theorem op2_div : Op2 X.K (iOp divF) (rI CDiv fun i j => .int (i / j)) := op2_i fun i j d e H Q g => by
  unfold divF at e
  split at e
  · rename_i h
    cases e
    exact ⟨i, j, rfl, rfl, h, g _ fun _ _ _ => .int _⟩
  · cases e
/-- + -/
def addOp : F2 := fun _ a b => match a, b with
  | .int i, .int j => some (.int (i + j))
  | .lst xs, .lst ys => if xs.length + ys.length ≤ 16777216 then some (.lst (xs ++ ys)) else none
  | .tup xs, .tup ys => if xs.length + ys.length ≤ 16777216 then some (.tup (xs ++ ys)) else none
  | .str x, .str y => if x.length + y.length ≤ 16777216 then some (.str (x ++ y)) else none
  | _, _ => none
def rAdd (K : PySem.W.Frag) : R2 := fun x y H Q => (rI0 fun i j => .int (i + j)) x y H Q ∨ rCat x y H Q ∨ rCatA K x y H Q ∨ (fun x y H Q => ∃ i j, x = .str i ∧ y = .str j ∧ i.length + j.length ≤ sizeLine ∧ Q (.str (i ++ j)) H) x y H Q
theorem op_addA : OpR X (binaryOp .Add) (rAdd X.K) := op_add.or (op_cat.or (op_catA.or op_add_str))
theorem op2_add : Op2 X.K addOp (rAdd X.K) := fun w H a b d x y Q k ra rb e g => by
  unfold addOp at e
  split at e
  · cases ra; cases rb; cases e
    exact .inl ⟨_, _, rfl, rfl, g w H _ rfl Wx.refl k (.int _)⟩
  · split at e
    · rename_i hl
      cases e
      cases ra with
      | lst fa ha ra =>
        cases rb with
        | lst fb hb rb =>
          refine .inr (.inl ⟨_, _, _, _, rfl, rfl, ha, hb, by rw [← ra.length, ← rb.length, sizeLine_eq]; exact hl, fun p hp => ?_⟩)
          exact g (w.add p) _ _ rfl (k.addO hp).1 (k.addO hp).2 (VR.newLst k hp (ra.append rb))
    · cases e
  · split at e
    · rename_i xs ys hl
      cases e
      cases ra with
      | tup fa ra =>
        cases rb with
        | tup fb rb =>
          refine .inr (.inr (.inl ⟨_, _, _, _, rfl, rfl, fa.sq, fb.sq, by rw [← ra.length, ← rb.length, sizeLine_eq]; exact hl, fun h0 => ?_, fun h0 h1 => ?_, fun h0 h1 p hp => ?_⟩))
          · subst h0
            have : xs = [] := List.length_eq_zero_iff.mp ra.length
            subst this
            exact g w H _ rfl Wx.refl k (.tup fb rb)
          · subst h1
            have : ys = [] := List.length_eq_zero_iff.mp rb.length
            subst this
            rw [List.append_nil] at g
            exact g w H _ rfl Wx.refl k (.tup fa ra)
          · exact g (w.add p) _ _ rfl (k.addO hp).1 (k.addO hp).2 (VR.newTup k hp (ra.append rb))
    · cases e
  · split at e
    · rename_i hl
      cases e
      cases ra
      cases rb
      exact .inr (.inr (.inr ⟨_, _, rfl, rfl, by rw [sizeLine_eq]; exact hl, g w H _ rfl Wx.refl k (.str _)⟩))
    · cases e
  · cases e
/-- an index -/
def ixOp : F2 := fun _ a b => match a, b with
  | .lst xs, .int i => atI xs i
  | .tup xs, .int i => atI xs i
  | .scr xs, .int i => atI xs i
  | _, _ => none
theorem VRs.atI {K : PySem.W.Frag} {F : Fz} {φ : List Addr} {H : Hp} {xs : List MV} {vs : List V} {i : Int} {d : MV} (r : VRs K F φ H xs vs) (e : L2.atI xs i = some d) : ∃ v, L2.atI vs i = some v ∧ VR K F φ H d v := by
  unfold L2.atI at e ⊢
  rw [← r.length]
  cases q : ixN xs.length i with
  | none => rw [q] at e; cases e
  | some j => rw [q] at e; exact r.get e
theorem op2_ix : Op2 X.K ixOp (rIx X.K) := fun w H a b d x y Q k ra rb e g => by
  unfold ixOp at e
  split at e
  · cases rb
    cases ra with
    | lst f h r =>
      obtain ⟨v, e1, e2⟩ := r.atI e
      exact .inl ⟨_, _, _, v, rfl, rfl, SqL.of h, e1, g w H _ rfl Wx.refl k e2⟩
  · cases rb
    cases ra with
    | tup f r =>
      obtain ⟨v, e1, e2⟩ := r.atI e
      exact .inr (.inl ⟨_, _, _, v, rfl, rfl, f.sq, e1, g w H _ rfl Wx.refl k e2⟩)
  · cases rb
    cases ra with
    | scr h r =>
      obtain ⟨v, e1, e2⟩ := r.atI e
      exact .inl ⟨_, _, _, v, rfl, rfl, h.sq, e1, g w H _ rfl Wx.refl k e2⟩
  · cases e
end
end Mx
namespace Mx
open PySem L2

structure PCh (X : Cx) (ops : List CmpOp) (es : List Expr) (t : V → TE) : Prop where
  run : ∀ (pos : Pos) (pins : List (Addr × Obj)) (s : Shared) (σ : St) (H : Hp) (x : V) (v : Value) (Q : VK), Inv X pins σ H s → RelV x v → t x σ H Q → wpAny (model X.prog X.w) X.A (compareChain pos v ops (evalEach es X.env)) (EP X pins σ Q) X.xe s
  test : ∀ (pos : Pos) (pins : List (Addr × Obj)) (s : Shared) (σ : St) (H : Hp) (x : V) (v : Value) (Q : Bool → Hp → Prop), Inv X pins σ H s → RelV x v → t x σ H (fun y H' => ∃ k, y = .bl k ∧ Q k H') →
    wpAny (model X.prog X.w) X.A (testChain pos v ops (evalEach es X.env)) (TP X pins σ Q) X.xe s
section
variable {X : Cx} {W : WX} {pos : Pos}
theorem pch_last {op : CmpOp} {r : R2} {b : Expr} {tb : TE} (ho : OpR X (compareOp op) r) (hb : PE X b tb) : PCh X [op] [b] (fun x σ H Q => tb σ H fun y H2 => r x y H2 Q) where
  run := fun pos pins s σ H x v Q I rx h => PyProof.Rows.chain_last (thn (hb.run pins s σ H _ I h) fun u s2 ⟨y, H2, I2, r2, q2⟩ => ho pins s2 σ H2 x y v u Q I2 rx r2 q2)
  test := fun pos pins s σ H x v Q I rx h => PyProof.Rows.test_last (thn (hb.run pins s σ H _ I h) fun u s2 ⟨y, H2, I2, r2, q2⟩ => thn (ho pins s2 σ H2 x y v u _ I2 rx r2 q2) fun c s3 ⟨z, H3, I3, r3, k, e, q3⟩ => by
    subst e
    cases r3
    exact wpAny_truthy_bool ⟨H3, I3, q3⟩)
theorem pch_link {op op' : CmpOp} {ops : List CmpOp} {r : R2} {b b' : Expr} {es : List Expr} {tb : TE} {t : V → TE} (ho : OpR X (compareOp op) r) (hb : PE X b tb) (ht : PCh X (op' :: ops) (b' :: es) t) :
    PCh X (op :: op' :: ops) (b :: b' :: es) (fun x σ H Q => tb σ H fun y H2 => r x y H2 fun z H3 => ∃ k, z = .bl k ∧ if k = true then t y σ H3 Q else Q (.bl false) H3) where
  run := fun pos pins s σ H x v Q I rx h => PyProof.Rows.chain_link (thn (hb.run pins s σ H _ I h) fun u s2 ⟨y, H2, I2, r2, q2⟩ => thn (ho pins s2 σ H2 x y v u _ I2 rx r2 q2) fun c s3 ⟨z, H3, I3, r3, k, e, q3⟩ => by
    subst e
    cases r3
    refine wpAny_truthy_bool ?_
    cases k with
    | false => exact PyProof.Rows.ite_ff ⟨.bl false, H3, I3, rfl, q3⟩
    | true => exact PyProof.Rows.ite_tt (ht.run pos pins s3 σ H3 y u Q I3 r2 q3))
  test := fun pos pins s σ H x v Q I rx h => PyProof.Rows.test_link (thn (hb.run pins s σ H _ I h) fun u s2 ⟨y, H2, I2, r2, q2⟩ => thn (ho pins s2 σ H2 x y v u _ I2 rx r2 q2) fun c s3 ⟨z, H3, I3, r3, k, e, q3⟩ => by
    subst e
    cases r3
    refine wpAny_truthy_bool ?_
    cases k with
    | false =>
      obtain ⟨k', e', q'⟩ := q3
      cases e'
      exact PyProof.Rows.ite_ff ⟨H3, I3, q'⟩
    | true => exact PyProof.Rows.ite_tt (ht.test pos pins s3 σ H3 y u Q I3 r2 q3))
def TCp (K : PySem.W.Frag) (W : WX) (t : MV → ME) : V → TE := fun x σ H Q => ∃ w ms d r, Wk K w H ∧ SR K w H ms σ ∧ VR K w.F w.φ H d x ∧ t d ms w.hm = some r ∧ Aft K w H (Vf K Q) (WE W σ) r
abbrev SCh (X : Cx) (W : WX) (ops : List CmpOp) (es : List Expr) (t : MV → ME) : Prop := PCh X ops es (TCp X.K W t)
theorem pch_mono {ops : List CmpOp} {es : List Expr} {t t' : V → TE} (h : PCh X ops es t) (k : ∀ x σ H Q, t' x σ H Q → t x σ H Q) : PCh X ops es t' :=
  ⟨fun pos pins s σ H x v Q I r q => h.run pos pins s σ H x v Q I r (k _ _ _ _ q), fun pos pins s σ H x v Q I r q => h.test pos pins s σ H x v Q I r (k _ _ _ _ q)⟩
def chLast (f : F2) (b : ME) : MV → ME := fun x ms h => rb (b ms h) fun y h1 => (f h1 x y).map fun d => .ok d h1
def chLink (f : F2) (b : ME) (t : MV → ME) : MV → ME := fun x ms h => rb (b ms h) fun y h1 => match f h1 x y with
  | some (.bl true) => t y ms h1
  | some (.bl false) => some (.ok (.bl false) h1)
  | _ => none
def mChain (a : ME) (t : MV → ME) : ME := fun ms h => rb (a ms h) fun x h1 => t x ms h1
theorem sch_last {op : CmpOp} {f : F2} {r : R2} {b : Expr} {mb : ME} (ho : OpR X (compareOp op) r) (o : Op2 X.K f r) (hb : SE X W b mb) : SCh X W [op] [b] (chLast f mb) := pch_mono (pch_last ho hb) fun x σ H Q ⟨w, ms, d, q, k, sr, rx, e, g⟩ => by
  obtain ⟨r1, e1, g1⟩ := aft_bind e g
  refine ⟨w, ms, r1, k, sr, e1, g1.imp fun y w1 H1 x1 k1 ⟨q1, e2, g2⟩ u ru => ?_⟩
  cases e5 : f w1.hm d y with
  | none => rw [e5] at e2; cases e2
  | some z =>
    rw [e5] at e2
    cases e2
    exact o w1 H1 d y z x u Q k1 (rx.ext k x1) ru e5 fun w' H' v' eh x' k' r' => g2 w' H' eh x' k' v' r'
theorem sch_link {op op' : CmpOp} {ops : List CmpOp} {f : F2} {r : R2} {b b' : Expr} {es : List Expr} {mb : ME} {t : MV → ME} (ho : OpR X (compareOp op) r) (o : Op2 X.K f r) (hb : SE X W b mb) (ht : SCh X W (op' :: ops) (b' :: es) t) :
    SCh X W (op :: op' :: ops) (b :: b' :: es) (chLink f mb t) := pch_mono (pch_link ho hb ht) fun x σ H Q ⟨w, ms, d, q, k, sr, rx, e, g⟩ => by
  obtain ⟨r1, e1, g1⟩ := aft_bind e g
  refine ⟨w, ms, r1, k, sr, e1, g1.imp fun y w1 H1 x1 k1 ⟨q1, e2, g2⟩ u ru => ?_⟩
  split at e2
  · rename_i e5
    refine o w1 H1 d y _ x u _ k1 (rx.ext k x1) ru e5 fun w' H' v' eh x' k' r' => ?_
    cases r'
    exact ⟨true, rfl, iteT ⟨w', ms, y, q1, k', (sr.ext k x1).ext k1 x', ru.ext k1 x', by rw [eh]; exact e2, g2.ext x'⟩⟩
  · rename_i e5
    refine o w1 H1 d y _ x u _ k1 (rx.ext k x1) ru e5 fun w' H' v' eh x' k' r' => ?_
    cases r'
    cases e2
    exact ⟨false, rfl, iteF (g2 w' H' eh x' k' _ (.bl _))⟩
  · cases e2
theorem se_chain {a r₁ r₂ : Expr} {op₁ op₂ : CmpOp} {ops : List CmpOp} {rs : List Expr} {ma : ME} {t : MV → ME} (ha : SE X W a ma) (ht : SCh X W (op₁ :: op₂ :: ops) (r₁ :: r₂ :: rs) t) (hm : lastMarks (op₁ :: op₂ :: ops) (r₁ :: r₂ :: rs) = false := by with_unfolding_all rfl) :
    SE X W (.Compare a (op₁ :: op₂ :: ops) (r₁ :: r₂ :: rs) pos) (mChain ma t) := by
  refine ⟨fun pins s σ H Q I ⟨w, ms, q, k, sr, e, g⟩ => ?_⟩
  obtain ⟨r1, e1, g1⟩ := aft_bind e g
  refine PyProof.Rows.Compare_chain (thn (ha.run pins s σ H (fun x H1 => TCp X.K W t x σ H1 Q) I ⟨w, ms, r1, k, sr, e1, g1.imp fun d w1 H1 x1 k1 ⟨q1, e2, g2⟩ v rv => ⟨w1, ms, d, q1, k1, sr.ext k x1, rv, e2, g2⟩⟩) fun v s1 ⟨x, H1, I1, r1, q1⟩ => ?_) hm
  exact ht.run _ pins s1 σ H1 x v Q I1 r1 q1
theorem st_chain {a r₁ r₂ : Expr} {op₁ op₂ : CmpOp} {ops : List CmpOp} {rs : List Expr} {ma : ME} {t : MV → ME} (ha : SE X W a ma) (ht : SCh X W (op₁ :: op₂ :: ops) (r₁ :: r₂ :: rs) t) (hm : lastMarks (op₁ :: op₂ :: ops) (r₁ :: r₂ :: rs) = false := by with_unfolding_all rfl) :
    ST X W (.Compare a (op₁ :: op₂ :: ops) (r₁ :: r₂ :: rs) pos) (mB (mChain ma t)) := by
  refine ⟨fun pins s σ H Q I ⟨w, ms, q, k, sr, e, g⟩ => ?_⟩
  obtain ⟨r0, e0, g0⟩ := mB_of e g
  obtain ⟨r1, e1, g1⟩ := aft_bind e0 g0
  refine PyProof.Rows.isTrue_chain (thn (ha.run pins s σ H (fun x H1 => TCp X.K W t x σ H1 (fun y H' => ∃ k, y = .bl k ∧ Q k H')) I ⟨w, ms, r1, k, sr, e1, g1.imp fun d w1 H1 x1 k1 ⟨q1, e2, g2⟩ v rv => ⟨w1, ms, d, q1, k1, sr.ext k x1, rv, e2,
    g2.imp fun d' w2 H2 x2 k2 ⟨b, eb, q⟩ v' rv' => by subst eb; cases rv'; exact ⟨b, rfl, q⟩⟩⟩) fun v s1 ⟨x, H1, I1, r1, q1⟩ => ?_) hm
  exact ht.test _ pins s1 σ H1 x v Q I1 r1 q1
theorem se_blt {x : Str} {id : String} {e : Expr} {es : List Expr} {f : FL} {r : List V → Hp → VK → Prop} {m : MA} {p : Pos} (hc : CallR X (.builtin id) r) (o : Cl X.K f r) (hg : Gl X x) (hm : X.mg x = none) (hv : bootBuiltins x = some (.builtin id)) (ha : SA X W (e :: es) m) (hn : x ≠ "__name__" := by decide) (hdb : (x == ("__debug__" : Str)) = false := by decide)
    (he : starEach (e :: es) X.env = (false, eval e X.env) :: starEach es X.env := by rfl) (hpl : (backTo pos (starEach es X.env)).any (·.1) = false := by rfl) : SE X W (.Call (.Name x p) (e :: es) [] pos) (mCall f m) :=
  pe_mono (pe_callB hc hg hm hv ha hn hdb he hpl) (cl_mono o)
theorem se_ty {x : Str} {T : String} {e : Expr} {es : List Expr} {f : FL} {r : List V → Hp → VK → Prop} {m : MA} {p : Pos} (hc : CallR X (.type T) r) (o : Cl X.K f r) (hg : Gl X x) (hm : X.mg x = none) (hv : bootBuiltins x = some (.type T)) (ha : SA X W (e :: es) m) (hn : x ≠ "__name__" := by decide) (hdb : (x == ("__debug__" : Str)) = false := by decide)
    (he : starEach (e :: es) X.env = (false, eval e X.env) :: starEach es X.env := by rfl) (hpl : (backTo pos (starEach es X.env)).any (·.1) = false := by rfl) : SE X W (.Call (.Name x p) (e :: es) [] pos) (mCall f m) :=
  pe_mono (pe_callTy hc hg hm hv ha hn hdb he hpl) (cl_mono o)
def lenF : FL := fun _ ds => match ds with
  | [.lst xs] => some (.int xs.length)
  | [.scr xs] => some (.int xs.length)
  | [.tup xs] => some (.int xs.length)
  | [.str x] => if x.length ≤ 16777216 then some (.int x.length) else none
  | _ => none
def rLen (K : PySem.W.Frag) : List V → Hp → VK → Prop := fun xs H Q => ∃ x n, xs = [x] ∧ LenV K x H n ∧ Q (.int n) H
theorem cl_len : Cl X.K lenF (rLen X.K) := fun w H ds d vs Q k rs e g => by
  unfold lenF at e
  split at e
  · cases rs with
    | cons r rr =>
      cases rr
      cases r with
      | lst f h r => cases e; exact ⟨_, _, rfl, .inl ⟨_, SqL.of h, r.length⟩, g w H _ rfl Wx.refl k (.int _)⟩
  · cases rs with
    | cons r rr =>
      cases rr
      cases r with
      | scr h r => cases e; exact ⟨_, _, rfl, .inl ⟨_, h.sq, r.length⟩, g w H _ rfl Wx.refl k (.int _)⟩
  · cases rs with
    | cons r rr =>
      cases rr
      cases r with
      | tup f r => cases e; exact ⟨_, _, rfl, .inr ⟨_, f.sq, r.length⟩, g w H _ rfl Wx.refl k (.int _)⟩
  · split at e
    · rename_i hl
      cases rs with
      | cons r rr =>
        cases rr
        cases r
        cases e
        exact ⟨_, _, rfl, ⟨by rw [sizeLine_eq]; exact hl, rfl⟩, g w H _ rfl Wx.refl k (.int _)⟩
    · cases e
  · cases e
def tupF : FL := fun _ ds => match ds with
  | [.lst xs] => some (.tup xs)
  | [.tup xs] => some (.tup xs)
  | _ => none
def rTupOf (K : PySem.W.Frag) : List V → Hp → VK → Prop := fun xs H Q => ∃ p ys, xs = [.ref p] ∧ ((SqL K H p ys ∧ ∀ l, H l = none → Q (.ref l) (upd H l (.tup ys))) ∨ (SqT K H p ys ∧ Q (.ref p) H))
theorem cl_tup : Cl X.K tupF (rTupOf X.K) := fun w H ds d vs Q k rs e g => by
  unfold tupF at e
  split at e
  · cases rs with
    | cons r rr =>
      cases rr
      cases r with
      | lst f h r => cases e; exact ⟨_, _, rfl, .inl ⟨SqL.of h, fun p hp => g (w.add p) _ _ rfl (k.addO hp).1 (k.addO hp).2 (VR.newTup k hp r)⟩⟩
  · cases rs with
    | cons r rr =>
      cases rr
      cases r with
      | tup f r => cases e; exact ⟨_, _, rfl, .inr ⟨f.sq, g w H _ rfl Wx.refl k (.tup f r)⟩⟩
  · cases e
def listF : FL := fun _ ds => match ds with
  | [.lst xs] => some (.lst xs)
  | [.tup xs] => some (.lst xs)
  | _ => none
def rListOf (K : PySem.W.Frag) : List V → Hp → VK → Prop := fun xs H Q => ∃ p ys, xs = [.ref p] ∧ (SqL K H p ys ∨ SqT K H p ys) ∧ ∀ l, H l = none → Q (.ref l) (upd H l (.lst ys))
theorem cl_list : Cl X.K listF (rListOf X.K) := fun w H ds d vs Q k rs e g => by
  unfold listF at e
  split at e
  · cases rs with
    | cons r rr =>
      cases rr
      cases r with
      | lst f h r => cases e; exact ⟨_, _, rfl, .inl (SqL.of h), fun p hp => g (w.add p) _ _ rfl (k.addO hp).1 (k.addO hp).2 (VR.newLst k hp r)⟩
  · cases rs with
    | cons r rr =>
      cases rr
      cases r with
      | tup f r => cases e; exact ⟨_, _, rfl, .inr f.sq, fun p hp => g (w.add p) _ _ rfl (k.addO hp).1 (k.addO hp).2 (VR.newLst k hp r)⟩
  · cases e
def intF : FL := fun _ ds => match ds with
  | [.int i] => some (.int i)
  | [.bl b] => some (.int (if b then 1 else 0))
  | _ => none
def rInt1 : List V → Hp → VK → Prop := fun xs H Q => (∃ i, xs = [.int i] ∧ Q (.int i) H) ∨ ∃ k, xs = [.bl k] ∧ Q (.int (if k then 1 else 0)) H
theorem cl_int : Cl X.K intF rInt1 := fun w H ds d vs Q k rs e g => by
  unfold intF at e
  split at e
  · cases rs with
    | cons r rr =>
      cases rr
      cases r
      cases e
      exact .inl ⟨_, rfl, g w H _ rfl Wx.refl k (.int _)⟩
  · cases rs with
    | cons r rr =>
      cases rr
      cases r
      cases e
      exact .inr ⟨_, rfl, g w H _ rfl Wx.refl k (.int _)⟩
  · cases e
def tyN : MV → Option String
  | .non => some "NoneType"
  | .bl _ => some "bool"
  | .int _ => some "int"
  | .str _ => some "str"
  | .tup _ => some "tuple"
  | .lst _ => some "list"
  | .ed => some "dict"
  | _ => none
theorem tyN_x {w : Wd} {H : Hp} {d : MV} {x : V} {n : String} (r : VR X.K w.F w.φ H d x) (e : tyN d = some n) : TyX X.K H x (.type n) := by
  cases r with
  | non => cases e; exact .base .non
  | bl b => cases e; exact .base (.bl b)
  | int i => cases e; exact .base (.int i)
  | str x => cases e; exact .base (.str x)
  | tup f r =>
    cases e
    rcases f with ⟨_, h⟩ | ⟨o, its, n, h, c, _⟩
    · exact .base (.tup h)
    · exact .kTuple h c
  | lst f h r => cases e; exact .base (.lst h)
  | ed f h => cases e; exact .base (.dK h)
  | ref h => cases e
  | ty n => cases e
  | adr a => cases e
  | scr h r => cases e
/-- T: a table of what isinstance says of the classes by name; it holds -/
def IsiT (K : PySem.W.Frag) (T : String → String → Option Bool) : Prop := ∀ a b c, T a b = some c → PySem.W.kitOne K (.type a) (.type b) = some c
def namesOf : List MV → Option (List String)
  | [] => some []
  | .ty n :: r => (namesOf r).map fun ns => n :: ns
  | _ :: _ => none
def isiAny (T : String → String → Option Bool) (a : String) : List String → Option Bool
  | [] => some false
  | b :: r => match T a b with
    | some true => some true
    | some false => isiAny T a r
    | none => none
def isiF (T : String → String → Option Bool) : FL := fun _ ds => match ds with
  | [d, .ty b] => (tyN d).bind fun a => (T a b).map .bl
  | [d, .tup cs] => (tyN d).bind fun a => (namesOf cs).bind fun ns => (isiAny T a ns).map .bl
  | _ => none
def rIsiA (K : PySem.W.Frag) : List V → Hp → VK → Prop := fun xs H Q => rIsi K xs H Q ∨ rIsiT K xs H Q ∨ rIsiK K xs H Q
theorem isi_any {T : String → String → Option Bool} (hT : IsiT X.K T) {a : String} {b : Bool} : ∀ {ns : List String}, isiAny T a ns = some b → PySem.W.kitAny X.K (.type a) (ns.map Value.type) = some b
  | [], e => e
  | n :: ns, e => by
    unfold isiAny at e
    show (match PySem.W.kitOne X.K (.type a) (.type n) with | some true => some true | some false => PySem.W.kitAny X.K (.type a) (ns.map Value.type) | none => none) = some b
    split at e
    · rename_i q; rw [hT _ _ _ q]; exact e
    · rename_i q; rw [hT _ _ _ q]; exact isi_any hT e
    · cases e
theorem names_cls {F : Fz} {φ : List Addr} {H : Hp} : ∀ {cs : List MV} {vs : List V} {ns : List String}, namesOf cs = some ns → VRs X.K F φ H cs vs → Paired ClsV vs (ns.map Value.type)
  | [], _, _, e, r => by cases r; cases e; exact .nil
  | .ty n :: cs, _, _, e, .cons (.ty _) rr => by
    unfold namesOf at e
    cases q : namesOf cs with
    | none => rw [q] at e; cases e
    | some ns => rw [q] at e; cases e; exact .cons (.ty n) (names_cls q rr)
  | .non :: _, _, _, e, _ => by cases e
  | .bl _ :: _, _, _, e, _ => by cases e
  | .int _ :: _, _, _, e, _ => by cases e
  | .str _ :: _, _, _, e, _ => by cases e
  | .tup _ :: _, _, _, e, _ => by cases e
  | .lst _ :: _, _, _, e, _ => by cases e
  | .ed :: _, _, _, e, _ => by cases e
  | .ref _ :: _, _, _, e, _ => by cases e
  | .adr _ :: _, _, _, e, _ => by cases e
  | .scr _ :: _, _, _, e, _ => by cases e
theorem call_isiA : CallR X (.builtin "isinstance") (rIsiA X.K) := call_isi.or (call_isiT.or call_isiK)
theorem cl_isi {T : String → String → Option Bool} (hT : IsiT X.K T) : Cl X.K (isiF T) (rIsiA X.K) := fun w H ds d vs Q k rs e g => by
  unfold isiF at e
  split at e
  · rename_i d0 b
    cases rs with
    | cons r1 rr =>
      cases rr with
      | cons r2 rr =>
        cases rr
        cases r2
        cases q : tyN d0 with
        | none => rw [q] at e; cases e
        | some a =>
          rw [q] at e
          change (T a b).map MV.bl = some d at e
          cases q2 : T a b with
          | none => rw [q2] at e; cases e
          | some c =>
            rw [q2] at e
            cases e
            exact .inl ⟨_, _, .type a, .type b, c, rfl, .ty b, tyN_x r1 q, hT _ _ _ q2, g w H _ rfl Wx.refl k (.bl _)⟩
  · rename_i d0 cs
    cases rs with
    | cons r1 rr =>
      cases rr with
      | cons r2 rr =>
        cases rr
        cases q : tyN d0 with
        | none => rw [q] at e; cases e
        | some a =>
          rw [q] at e
          change ((namesOf cs).bind fun ns => (isiAny T a ns).map MV.bl) = some d at e
          cases q1 : namesOf cs with
          | none => rw [q1] at e; cases e
          | some ns =>
            rw [q1] at e
            change (isiAny T a ns).map MV.bl = some d at e
            cases q2 : isiAny T a ns with
            | none => rw [q2] at e; cases e
            | some c =>
              rw [q2] at e
              cases e
              cases r2 with
              | tup f r =>
                have hc := names_cls q1 r
                rcases f with ⟨_, h⟩ | ⟨o, its, n, hl, hcl, hd, _, hv⟩
                · exact .inr (.inl ⟨_, _, _, .type a, _, c, rfl, h, hc, tyN_x r1 q, isi_any hT q2, g w H _ rfl Wx.refl k (.bl _)⟩)
                · have ei := ClsV.all hc hv
                  obtain ⟨oc, od, dt, sl⟩ := o
                  simp only at hcl hd
                  subst hcl hd
                  refine .inr (.inr ⟨_, _, od, its.toList, n, sl, .type a, c, rfl, by rw [hl], tyN_x r1 q, by rw [ei]; exact isi_any hT q2, g w H _ rfl Wx.refl k (.bl _)⟩)
  · cases e
end
end Mx
namespace Mx
open PySem L2

section
variable {X : Cx} {W : WX} {pos : Pos}
def lookL (i : Nat) : Option (Option MO) → Option (Nat × List MV)
  | some (some (.lst ys)) => some (i, ys)
  | _ => none
def liveL (h : Hm) : MV → Option (Nat × List MV)
  | .ref i => lookL i h[i]?
  | _ => none
theorem lookL_some {i j : Nat} {o : Option (Option MO)} {ys : List MV} (e : lookL i o = some (j, ys)) : j = i ∧ o = some (some (.lst ys)) := by
  unfold lookL at e
  split at e
  · cases e; exact ⟨rfl, rfl⟩
  · cases e
def mApp (o : ME) (r : MA) : ME := fun ms h => rb (o ms h) fun d h1 => match liveL h1 d with
  | none => none
  | some _ => rb (r ms h1) fun xs h2 => match liveL h2 d, xs with
    | some (i, ys), [x] => if ys.length < 16777216 then some (.ok .non (h2.set i (some (.lst (ys ++ [x]))))) else none
    | _, _ => none
theorem liveL_some {K : PySem.W.Frag} {w : Wd} {H : Hp} {d : MV} {v : V} {i : Nat} {ys : List MV} (k : Wk K w H) (rv : VR K w.F w.φ H d v) (e : liveL w.hm d = some (i, ys)) :
    ∃ a vs, v = .ref a ∧ w.φ[i]? = some a ∧ w.hm[i]? = some (some (.lst ys)) ∧ H a = some (.lst vs) ∧ VRs K w.F w.φ H ys vs := by
  cases d with
  | ref j =>
    obtain ⟨rfl, q⟩ := lookL_some (show lookL j w.hm[j]? = some (i, ys) from e)
    obtain ⟨a, ea, ob⟩ := k.ob i _ q
    cases rv with
    | ref h =>
      rw [ea] at h
      cases h
      cases ob with
      | lst ha rs => exact ⟨a, _, rfl, ea, q, ha, rs⟩
  | _ => cases e
theorem se_app {o e : Expr} {mo : ME} {ma : MA} {apos cpos : Pos} (ho : SE X W o mo) (ha : SA X W [e] ma) (hbase : attributeBase o "append" X.env (eval o X.env) = eval o X.env := by rfl)
    (hfew : ((backTo cpos (starEach [e] X.env)).all (fun x => !x.1) && (backToKw cpos (keywordEach [] X.env)).all (fun x => x.1.isSome)
      && decide ([e].length + ([] : List Keyword).length + (if ([] : List Keyword).isEmpty then 0 else 1) < 30)) = true := by rfl)
    (hline : (apos.endLine == cpos.line) = true := by rfl) (hs : starEach [e] X.env = [(false, eval e X.env)] := by rfl) (hplain : (backTo cpos (starEach [] X.env)).any (·.1) = false := by rfl) :
    SE X W (.Call (.Attribute o "append" apos) [e] [] cpos) (mApp mo ma) :=
  pe_mono (pe_bm PySem.F.plainAttrs_list PySem.F.slot_list_append PySem.F.type_list_append mt_append ho ha hbase hfew hline hs hplain) fun σ H Q ⟨w, ms, q, k, sr, e, g⟩ => by
    obtain ⟨r1, e1, g1⟩ := aft_bind e g
    refine ⟨w, ms, r1, k, sr, e1, g1.imp fun d w1 H1 x1 k1 ⟨q1, e2, g2⟩ v rv => ?_⟩
    split at e2
    · cases e2
    · rename_i p q3
      obtain ⟨i, ys⟩ := p
      obtain ⟨a, vs, rfl, h1, h2, h3, h4⟩ := liveL_some k1 rv q3
      refine ⟨.inl ⟨rfl, _, SqL.of h3⟩, ?_⟩
      obtain ⟨r2, e3, g3⟩ := aft_bind e2 g2
      refine ⟨w1, ms, r2, k1, sr.ext k x1, e3, g3.imp fun xs w2 H2 x2 k2 ⟨q2, e4, g4⟩ us rs => ?_⟩
      split at e4
      · rename_i i' ys' x q5 _
        split at e4
        · rename_i hl
          cases e4
          obtain ⟨a', vs', e5, h1', h2', h3', h4'⟩ := liveL_some k2 (rv.ext k1 x2) q5
          cases e5
          cases rs with
          | cons r rr =>
            cases rr
            refine ⟨a, vs', _, rfl, rfl, h3', by rw [← h4'.length, ← size_line]; exact hl, ?_⟩
            have nF : ¬ w2.F a := fun f => (k2.fz a f).1 (w2.live h1' h2')
            have ob : OR X.K w2.F w2.φ (upd H2 a (.lst (vs' ++ [_]))) a (.lst (ys' ++ [x])) := .lst upd_same ((h4'.snoc r).updO nF)
            exact g4 (w2.put i' (.lst (ys' ++ [x]))) _ rfl (k2.putO h1' h2' ob).1 (k2.putO h1' h2' ob).2 _ .non
        · cases e4
      · cases e4
def keyM : MV → Option Key
  | .int i => some (.inl i)
  | .str x => some (.inr x)
  | _ => none
def valM (kvs : List (Key × MV)) (k : Key) : Option MV := (kvs.find? fun kv => decide (kv.1 = k)).map (·.2)
def putM (kvs : List (Key × MV)) (k : Key) (v : MV) : List (Key × MV) :=
  if (kvs.any fun kv => decide (kv.1 = k)) = true then kvs.map (fun kv => if kv.1 = k then (kv.1, v) else kv) else kvs ++ [(k, v)]
theorem keyM_kV {K : PySem.W.Frag} {F : Fz} {φ : List Addr} {H : Hp} {d : MV} {y : V} {k : Key} (r : VR K F φ H d y) (e : keyM d = some k) : y = kV k := by
  cases r <;> first | (cases e; done) | (cases e; rfl)
section
variable {K : PySem.W.Frag} {F : Fz} {φ : List Addr} {H : Hp}
theorem DR.val (k : Key) : ∀ {xs : List (Key × MV)} {vs : List (Key × V)} {d : MV}, DR K F φ H xs vs → valM xs k = some d → ∃ v, valV vs k = some v ∧ VR K F φ H d v
  | _, _, _, .nil, e => by cases e
  | _, _, d, .cons (k := k0) r rr, e => by
    unfold valM at e
    by_cases h : k0 = k
    · subst h
      rw [List.find?_cons_of_pos (by simp)] at e
      cases e
      exact ⟨_, valV_pos rfl, r⟩
    · rw [List.find?_cons_of_neg (by simp [h])] at e
      obtain ⟨v, e1, e2⟩ := DR.val k rr e
      exact ⟨v, by rw [valV_neg h]; exact e1, e2⟩
theorem DR.any (k : Key) : ∀ {xs : List (Key × MV)} {vs : List (Key × V)}, DR K F φ H xs vs → (xs.any fun kv => decide (kv.1 = k)) = (vs.any fun kv => decide (kv.1 = k))
  | _, _, .nil => rfl
  | _, _, .cons r rr => by rw [List.any_cons, List.any_cons, DR.any k rr]
theorem DR.repl (k : Key) {d : MV} {v : V} (r0 : VR K F φ H d v) : ∀ {xs : List (Key × MV)} {vs : List (Key × V)}, DR K F φ H xs vs → DR K F φ H (xs.map fun kv => if kv.1 = k then (kv.1, d) else kv) (vs.map fun kv => if kv.1 = k then (kv.1, v) else kv)
  | _, _, .nil => .nil
  | _, _, .cons (k := k0) r rr => by
    rw [List.map_cons, List.map_cons]
    by_cases h : k0 = k
    · rw [if_pos h, if_pos h]; exact .cons r0 (DR.repl k r0 rr)
    · rw [if_neg h, if_neg h]; exact .cons r (DR.repl k r0 rr)
theorem DR.snoc {k : Key} {d : MV} {v : V} (r0 : VR K F φ H d v) : ∀ {xs : List (Key × MV)} {vs : List (Key × V)}, DR K F φ H xs vs → DR K F φ H (xs ++ [(k, d)]) (vs ++ [(k, v)])
  | _, _, .nil => .cons r0 .nil
  | _, _, .cons r rr => .cons r (DR.snoc r0 rr)
theorem DR.put {k : Key} {d : MV} {v : V} {xs : List (Key × MV)} {vs : List (Key × V)} (r : DR K F φ H xs vs) (r0 : VR K F φ H d v) : DR K F φ H (putM xs k d) (putK vs k v) := by
  unfold putM putK
  rw [DR.any k r]
  split
  · exact r.repl k r0
  · exact r.snoc r0
theorem DR.len : ∀ {xs : List (Key × MV)} {vs : List (Key × V)}, DR K F φ H xs vs → xs.length = vs.length
  | _, _, .nil => rfl
  | _, _, .cons r rr => by rw [List.length_cons, List.length_cons, DR.len rr]
theorem DR.upd {p : Addr} {o : HO} (n : ¬ F p) {xs : List (Key × MV)} {vs : List (Key × V)} (r : DR K F φ H xs vs) : DR K F φ (L2.upd H p o) xs vs :=
  r.go (fun _ h => h) (fun a u f e => by have hz : a ≠ p := fun z => n (z ▸ f); rw [upd_ne hz]; exact e) fun _ _ h => h
end
def lookD (i : Nat) : Option (Option MO) → Option (Nat × List (Key × MV))
  | some (some (.dic ys)) => some (i, ys)
  | _ => none
def liveD (h : Hm) : MV → Option (Nat × List (Key × MV))
  | .ref i => lookD i h[i]?
  | _ => none
theorem lookD_some {i j : Nat} {o : Option (Option MO)} {ys : List (Key × MV)} (e : lookD i o = some (j, ys)) : j = i ∧ o = some (some (.dic ys)) := by
  unfold lookD at e
  split at e
  · cases e; exact ⟨rfl, rfl⟩
  · cases e
theorem liveD_some {K : PySem.W.Frag} {w : Wd} {H : Hp} {d : MV} {v : V} {i : Nat} {ys : List (Key × MV)} (k : Wk K w H) (rv : VR K w.F w.φ H d v) (e : liveD w.hm d = some (i, ys)) :
    ∃ a vs, v = .ref a ∧ w.φ[i]? = some a ∧ w.hm[i]? = some (some (.dic ys)) ∧ H a = some (.dK vs) ∧ DR K w.F w.φ H ys vs := by
  cases d with
  | ref j =>
    obtain ⟨rfl, q⟩ := lookD_some (show lookD j w.hm[j]? = some (i, ys) from e)
    obtain ⟨a, ea, ob⟩ := k.ob i _ q
    cases rv with
    | ref h =>
      rw [ea] at h
      cases h
      cases ob with
      | dic ha rs => exact ⟨a, _, rfl, ea, q, ha, rs⟩
  | _ => cases e
/-- d[k] -/
def dgetOp : F2 := fun h a b => match liveD h a with
  | some (_, kvs) => (keyM b).bind fun k => valM kvs k
  | none => none
def rDGet : R2 := fun x y H Q => ∃ a v, x = .ref a ∧ DGet H a y (some v) ∧ Q v H
theorem op2_dget : Op2 X.K dgetOp rDGet := fun w H a b d x y Q k ra rb e g => by
  unfold dgetOp at e
  split at e
  · rename_i i kvs q
    obtain ⟨p, vs, rfl, h1, h2, h3, h4⟩ := liveD_some k ra q
    cases ek : keyM b with
    | none => rw [ek] at e; cases e
    | some kk =>
      rw [ek] at e
      obtain ⟨v, e1, e2⟩ := h4.val kk e
      rw [keyM_kV rb ek]
      exact ⟨p, v, rfl, by rw [← e1]; exact DGet.k h3, g w H _ rfl Wx.refl k e2⟩
  · cases e
theorem se_dget {a b : Expr} {ma mb : ME} (hu : X.A.units + 1 < cLine) (ha : SE X W a ma) (hb : SE X W b mb) (hs : NoSl b) : SE X W (.Subscript a b pos) (mBin dgetOp ma mb) :=
  pe_mono (pe_dget hu ha hb hs) (op2_mono op2_dget)
/-- d[k] = v -/
def mDPut (td ty tv : ME) : MS := fun ms h => sb ms (tv ms h) fun v h1 => sb ms (td ms h1) fun d h2 => sb ms (ty ms h2) fun y h3 => match liveD h3 d, keyM y with
  | some (i, kvs), some k => if kvs.length < 16777216 then some (.nx ms (h3.set i (some (.dic (putM kvs k v))))) else none
  | _, _ => none
theorem ss_dput {o i value : Expr} {pos' : Pos} {mo mi mv : ME} (hu : X.A.units + 1 < cLine) (ho : SE X W o mo) (hi : SE X W i mi) (hv : SE X W value mv) (hs : swapsWith value (some (.Subscript o i pos')) pos.line X.env = pure false := by rfl) :
    SS X W (.Assign [.Subscript o i pos'] value pos) (mDPut mo mi mv) := ps_mono (ps_dput hu ho hi hv hs) fun D σ H ⟨w, ms, fl, k, sr, e, g⟩ => by
  obtain ⟨r1, e1, g1⟩ := sb_bind e g k sr
  refine ⟨w, ms, r1, k, sr, e1, g1.imp fun v w1 H1 x1 k1 ⟨q1, e2, g2⟩ vv rv => ?_⟩
  have sr1 := sr.ext k x1
  obtain ⟨r2, e3, g3⟩ := sb_bind e2 g2 k1 sr1
  refine ⟨w1, ms, r2, k1, sr1, e3, g3.imp fun d w2 H2 x2 k2 ⟨q2, e4, g4⟩ dv rd => ?_⟩
  have sr2 := sr1.ext k1 x2
  obtain ⟨r3, e5, g5⟩ := sb_bind e4 g4 k2 sr2
  refine ⟨w2, ms, r3, k2, sr2, e5, g5.imp fun y w3 H3 x3 k3 ⟨q3, e6, g6⟩ yv ry => ?_⟩
  split at e6
  · rename_i i' kvs kk q5 q6
    split at e6
    · rename_i hl
      cases e6
      obtain ⟨a, vs, rfl, h1, h2, h3, h4⟩ := liveD_some k3 (rd.ext k2 x3) q5
      rw [keyM_kV ry q6]
      have nF : ¬ w3.F a := fun f => (k3.fz a f).1 (w3.live h1 h2)
      have rv3 := (rv.ext k1 x2).ext k2 x3
      have ob : OR X.K w3.F w3.φ (upd H3 a (.dK (putK vs kk vv))) a (.dic (putM kvs kk v)) := .dic upd_same ((h4.put rv3).upd nF)
      refine ⟨a, _, rfl, DPut.k h3 (by rw [← h4.len, ← size_line]; exact hl), ?_⟩
      exact g6 σ (w3.put i' (.dic (putM kvs kk v))) _ rfl (k3.putO h1 h2 ob).1 (k3.putO h1 h2 ob).2 ((sr2.ext k2 x3).ext k3 (k3.putO h1 h2 ob).1)
    · cases e6
  · cases e6
def mergeM (kvs more : List (Key × MV)) : List (Key × MV) := more.foldl (fun acc kv => putM acc kv.1 kv.2) kvs
theorem DR.merge {K : PySem.W.Frag} {F : Fz} {φ : List Addr} {H : Hp} {more : List (Key × MV)} {ms : List (Key × V)} (d : DR K F φ H more ms) : ∀ {kvs : List (Key × MV)} {vs : List (Key × V)}, DR K F φ H kvs vs → DR K F φ H (mergeM kvs more) (mergeK vs ms) := by
  induction d with
  | nil => exact fun r => r
  | cons r rr ih => exact fun r0 => ih (r0.put r)
/-- the pairs: written keys, values -/
def mPairs : List (Key × ME) → Sl → Hm → Option (RS (List (Key × MV)))
  | [], _, h => some (.ok [] h)
  | (k, m) :: r, ms, h => rb (m ms h) fun v h1 => rb (mPairs r ms h1) fun ps h2 => some (.ok ((k, v) :: ps) h2)
def mDict (ps : List (Key × ME)) : ME := fun ms h => rb (mPairs ps ms h) fun kvs h1 => if kvs.length ≤ 15 then some (.ok (.ref h1.length) (h1 ++ [some (.dic (mergeM [] kvs))])) else none
/-- the readings of the pairs -/
def prT (K : PySem.W.Frag) (W : WX) : List (Key × ME) → List (TE × TE)
  | [] => []
  | (k, m) :: r => (tC (kV k), TEp K W m) :: prT K W r
theorem pairs_run {K : PySem.W.Frag} : ∀ (ps : List (Key × ME)) (σ : St) (H : Hp) (w : Wd) (ms : Sl) (r : RS (List (Key × MV))) (Q : List (V × V) → Hp → Prop), Wk K w H → SR K w H ms σ → mPairs ps ms w.hm = some r →
    Aft K w H (fun kvs w' H' => ∀ vs, DR K w'.F w'.φ H' kvs vs → Q (vs.map fun kv => (kV kv.1, kv.2)) H') (WE W σ) r → tPairs (prT K W ps) σ H Q
  | [], σ, H, w, ms, r, Q, k, sr, e, g => by
    cases e
    exact g.here k [] .nil
  | (kk, m) :: ps, σ, H, w, ms, r, Q, k, sr, e, g => by
    obtain ⟨r1, e1, g1⟩ := aft_bind (f := fun v h1 => rb (mPairs ps ms h1) fun ps h2 => some (.ok ((kk, v) :: ps) h2)) e g
    refine ⟨w, ms, r1, k, sr, e1, g1.imp fun v w1 H1 x1 k1 ⟨q1, e2, g2⟩ vv rv => ?_⟩
    obtain ⟨r2, e3, g3⟩ := aft_bind e2 g2
    refine pairs_run ps σ H1 w1 ms r2 _ k1 (sr.ext k x1) e3 (g3.imp fun kvs w2 H2 x2 k2 ⟨q2, e4, g4⟩ vs rs => ?_)
    cases e4
    exact g4.here k2 ((kk, vv) :: vs) (.cons (rv.ext k1 x2) rs)
/-- an object of one's own, new since H0, may change from now on -/
theorem Wk.newN {K : PySem.W.Frag} {w0 w : Wd} {H0 H : Hp} {p : Addr} {o o0 : HO} {mo : MO} (x : Wx w0 H0 w H) (k : Wk K w H) (h0 : H0 p = none) (nf : ¬ w.F p) (np : p ∉ w.φ) (h : H p = some o0) (ho : OR K w.F (w.φ ++ [p]) (upd H p o) p mo) :
    Wx w0 H0 (w.new p mo) (upd H p o) ∧ Wk K (w.new p mo) (upd H p o) := by
  have hpg : ∀ (i : Nat) (a : Addr), w.φ[i]? = some a → (w.φ ++ [p])[i]? = some a := fun i a h => pre_get rfl h
  have nl : ¬ w.L p := fun ⟨i, u, h1, _⟩ => np (List.mem_of_getElem? h1)
  have hL : ∀ a, (w.new p mo).L a → w.L a ∨ a = p := fun a ⟨i, u, h1, h2⟩ => by
    change (w.φ ++ [p])[i]? = some a at h1
    change (w.hm ++ [some mo])[i]? = some (some u) at h2
    rcases Nat.lt_or_ge i w.φ.length with hi | hi
    · rw [List.getElem?_append_left hi] at h1
      rw [List.getElem?_append_left (by rw [k.len]; exact hi)] at h2
      exact .inl ⟨i, u, h1, h2⟩
    · rw [List.getElem?_append_right hi] at h1
      have : i - w.φ.length = 0 := by
        rcases Nat.lt_or_ge 0 (i - w.φ.length) with z | z
        · rw [List.getElem?_eq_none (by simp; omega)] at h1; cases h1
        · omega
      rw [this] at h1
      right
      simpa using h1.symm
  have hF : ∀ a, w.F a → a ≠ p := fun a f z => nf (z ▸ f)
  refine ⟨⟨fun a u q n => by rw [upd_ne (ne_of_none q h0)]; exact x.keep a u q n, x.mono, x.new, fun a h => ?_, fun a q => ?_, ?_, fun a q => ?_⟩, ⟨fun a h' => ?_, fun i u h' => ?_, fun a h' => ?_, ?_, ?_⟩⟩
  · rcases hL a h with h | rfl
    · exact x.lnew a h
    · exact .inr h0
  · by_cases e : a = p
    · subst e; exact h0
    · rw [upd_ne e] at q; exact x.there a q
  · obtain ⟨t, e⟩ := x.pre
    exact ⟨t ++ [p], by show w.φ ++ [p] = _; rw [e, List.append_assoc]⟩
  · rcases List.mem_append.mp q with q | q
    · exact x.pfr a q
    · obtain rfl : a = p := by simpa using q
      exact .inr h0
  · obtain ⟨n, u, e⟩ := k.fz a h'
    refine ⟨fun l => ?_, u, by rw [upd_ne (hF a h')]; exact e⟩
    rcases hL a l with l | l
    · exact n l
    · exact hF a h' l
  · change (w.hm ++ [some mo])[i]? = some (some u) at h'
    rcases Nat.lt_or_ge i w.hm.length with hi | hi
    · rw [List.getElem?_append_left hi] at h'
      obtain ⟨a, e, r⟩ := k.ob i u h'
      have ha : a ≠ p := fun z => np (z ▸ List.mem_of_getElem? e)
      exact ⟨a, hpg i a e, r.go (fun _ h => h) (fun b u f e => by rw [upd_ne (hF b f)]; exact e) hpg fun u e => by rw [upd_ne ha]; exact e⟩
    · rw [List.getElem?_append_right hi] at h'
      have : i - w.hm.length = 0 := by
        rcases Nat.lt_or_ge 0 (i - w.hm.length) with z | z
        · rw [List.getElem?_eq_none (by simp; omega)] at h'; cases h'
        · omega
      rw [this] at h'
      have e : mo = u := by simpa using h'
      subst e
      refine ⟨p, ?_, ho⟩
      have : i = w.φ.length := by rw [← k.len]; omega
      show (w.φ ++ [p])[i]? = some p
      rw [this]; simp
  · rcases List.mem_append.mp h' with h' | h'
    · by_cases e : a = p
      · exact ⟨o, by rw [e]; exact upd_same⟩
      · obtain ⟨u, q⟩ := k.all a h'
        exact ⟨u, by rw [upd_ne e]; exact q⟩
    · obtain rfl : a = p := by simpa using h'
      exact ⟨_, upd_same⟩
  · show (w.φ ++ [p]).Nodup
    rw [List.nodup_append]
    exact ⟨k.nd, by simp, fun a ha b hb => by
      obtain rfl : b = p := by simpa using hb
      exact fun z => np (z ▸ ha)⟩
  · show (w.hm ++ [some mo]).length = (w.φ ++ [p]).length
    simp [k.len]
theorem se_dict {keys : List (Option Expr)} {values : List Expr} {ps : List (Key × ME)} (h : PPs X pos keys values (prT X.K W ps)) (hall : keys.all (·.isSome) = true) (hl : keys.length = values.length) (h0 : keys ≠ []) (h15 : keys.length ≤ 15) :
    SE X W (.Dict keys values pos) (mDict ps) := pe_mono (pe_disp h hall hl h0 h15) fun σ H Q ⟨w, ms, q, k, sr, e, g⟩ p hp => by
  obtain ⟨x0, k0⟩ := k.lay (o := .dK []) hp
  unfold mDict rb at e
  cases er : mPairs ps ms w.hm with
  | none => rw [er] at e; cases e
  | some r1 =>
    rw [er] at e
    cases r1 with
    | ex c a hx =>
      cases e
      exact pairs_run ps σ _ w ms _ _ k0 (sr.ext k x0) er (Aft.ext x0 (show Aft X.K w H _ (WE W σ) (.ex c a hx) from g))
    | ok kvs hx =>
      dsimp only at e
      split at e
      · rename_i hl'
        cases e
        refine pairs_run ps σ _ w ms _ _ k0 (sr.ext k x0) er fun w1 H1 eh x1 k1 vs rs => ?_
        have nF : ¬ w.F p := k.notF hp
        have nL : ¬ w.L p := k.notL hp
        have h1 := x1.keep p _ upd_same nL
        have nF1 := x1.nF nF nL upd_same
        have nP1 : p ∉ w1.φ := fun z => by
          rcases x1.pfr p z with z | z
          · exact k.notφ hp z
          · rw [upd_same] at z; cases z
        have dr : DR X.K w1.F w1.φ H1 (mergeM [] kvs) (mergeK [] vs) := rs.merge .nil
        have ho : OR X.K w1.F (w1.φ ++ [p]) (upd H1 p (.dK (mergeK [] vs))) p (.dic (mergeM [] kvs)) := .dic upd_same ((dr.upd nF1).go (fun _ h => h) (fun _ _ _ e => e) fun i a h => pre_get rfl h)
        have x01 : Wx w H w1 H1 := x0.trans x1
        obtain ⟨xn, kn⟩ := Wk.newN x01 k1 hp nF1 nP1 h1 ho
        refine ⟨h1, vs, rfl, by rw [← rs.len]; exact hl', ?_⟩
        subst eh
        exact g (w1.new p (.dic (mergeM [] kvs))) _ rfl xn kn _ (.ref (by show (w1.φ ++ [p])[w1.hm.length]? = some p; rw [k1.len]; simp))
      · cases e
end
end Mx
namespace Mx
open PySem L2

section
variable {X : Cx} {W : WX} {pos : Pos}
def enumM : Nat → List MV → List MV
  | _, [] => []
  | i, x :: xs => .tup [.int i, x] :: enumM (i + 1) xs
theorem enumM_length : ∀ (xs : List MV) (i : Nat), (enumM i xs).length = xs.length
  | [], _ => rfl
  | x :: xs, i => by unfold enumM; rw [List.length_cons, List.length_cons, enumM_length xs]
theorem enumM_get : ∀ (xs : List MV) (i j : Nat) (d : MV), (enumM i xs)[j]? = some d → ∃ x, xs[j]? = some x ∧ d = .tup [.int ((i + j : Nat)), x]
  | [], _, _, _, h => by cases h
  | x :: xs, i, 0, d, h => by unfold enumM at h; exact ⟨x, rfl, by simpa using h.symm⟩
  | x :: xs, i, j + 1, d, h => by
    unfold enumM at h
    obtain ⟨y, e1, e2⟩ := enumM_get xs (i + 1) j d (by simpa using h)
    exact ⟨y, by simpa using e1, by rw [e2, show i + 1 + j = i + (j + 1) by omega]⟩
theorem itm_e {a : Addr} {vs : List V} {xs : List MV} {w : Wd} {H : Hp} (k : Wk X.K w H) (h : FLs X.K w.F H a vs) (r : VRs X.K w.F w.φ H xs vs) : Itm X.K w H (Ite X.K a) (enumM 0 xs) := fun w' H' e k' i => by
  have h' : SqL X.K H' a vs := (h.wy e).sq
  refine ⟨fun z => ⟨vs, h', by rw [← r.length]; rw [enumM_length] at z; exact z⟩, fun d q => ?_⟩
  obtain ⟨x, q1, rfl⟩ := enumM_get xs 0 i d q
  obtain ⟨v, q2, q3⟩ := r.get q1
  refine ⟨⟨vs, v, h', q2⟩, fun u H2 y => ?_⟩
  obtain ⟨T, v', rfl, hT, rfl, y⟩ := y
  have := y vs h'
  rw [q2] at this
  cases this
  exact ⟨w'.add T, rfl, (k'.addO hT).1, (k'.addO hT).2, VR.newTup k' hT (.cons (by rw [Nat.zero_add]; exact .int _) (.cons (q3.wy e) .nil))⟩
def enumA (ds : List MV) (h : Hm) : Option (RS (List MV)) := match ds with
  | [.lst xs] => some (.ok (enumM 0 xs) h)
  | [.scr xs] => some (.ok (enumM 0 xs) h)
  | _ => none
def mEnum (m : MA) : MA := fun ms h => rb (m ms h) enumA
theorem si_enum {e : Expr} {m : MA} {p tpos : Pos} {elts : List Expr} {kk : Nat} (hg : Gl X "enumerate") (hm : X.mg "enumerate" = none) (ha : SA X W [e] m) (hs : starEach [e] X.env = [(false, eval e X.env)] := by rfl) :
    SI X W (.Tuple elts kk tpos) (.Call (.Name "enumerate" p) [e] [] pos) (mEnum m) := pi_mono (pi_enum hg hm ha hs) fun σ H R ⟨w, ms, q, k, sr, e, g⟩ => by
  obtain ⟨r1, e1, g1⟩ := aft_bind e g
  refine ⟨w, ms, r1, k, sr, e1, g1.imp fun ds w1 H1 x1 k1 ⟨q1, e2, g2⟩ vs rs => ?_⟩
  unfold enumA at e2
  split at e2
  · cases e2
    cases rs with
    | cons r rr =>
      cases rr
      cases r with
      | lst f h r => exact ⟨_, _, rfl, SqL.of h, g2.here k1 _ (itm_e k1 (.inl ⟨f, .inl h⟩) r)⟩
  · cases e2
    cases rs with
    | cons r rr =>
      cases rr
      cases r with
      | scr h r => exact ⟨_, _, rfl, h.sq, g2.here k1 _ (itm_e k1 h r)⟩
  · cases e2
def itemsM : MV → Option (List MV)
  | .lst xs => some xs
  | .tup xs => some xs
  | _ => none
def mStar (a : ME) (r : MA) : MA := fun ms h => rb (a ms h) fun d h1 => match itemsM d with
  | some xs => rb (r ms h1) fun ys h2 => some (.ok (xs ++ ys) h2)
  | none => none
theorem sa_star {e : Expr} {es : List Expr} {m : ME} {r : MA} {p : Pos} (ha : SE X W e m) (hr : SA X W es r) (hs : starEach (.Starred e p :: es) X.env = (true, eval e X.env) :: starEach es X.env := by rfl) : SA X W (.Starred e p :: es) (mStar m r) := pa_mono (StX.pa_star ha hr hs) fun σ H Q ⟨w, ms, q, k, sr, e, g⟩ => by
  obtain ⟨r1, e1, g1⟩ := aft_bind e g
  refine ⟨w, ms, r1, k, sr, e1, g1.imp fun d w1 H1 x1 k1 ⟨q1, e2, g2⟩ v rv => ?_⟩
  split at e2
  · rename_i xs hx
    obtain ⟨r2, e3, g3⟩ := aft_bind e2 g2
    have key : ∃ a vs, v = .ref a ∧ (SqT X.K H1 a vs ∨ SqL X.K H1 a vs) ∧ VRs X.K w1.F w1.φ H1 xs vs := by
      cases rv with
      | tup f r => cases hx; exact ⟨_, _, rfl, .inl f.sq, r⟩
      | lst f h r => cases hx; exact ⟨_, _, rfl, .inr (SqL.of h), r⟩
      | _ => cases hx
    obtain ⟨a, vs, rfl, hsq, rs⟩ := key
    refine ⟨a, vs, rfl, hsq, w1, ms, r2, k1, sr.ext k x1, e3, g3.imp fun ys w2 H2 x2 k2 ⟨q2, e4, g4⟩ us ru => ?_⟩
    cases e4
    exact g4.here k2 _ ((rs.ext k1 x2).append ru)
  · cases e2
def intsOf : List MV → Option (List Int)
  | [] => some []
  | .int i :: r => (intsOf r).map fun is => i :: is
  | _ :: _ => none
theorem intsOf_map : ∀ {xs : List MV} {is : List Int} {F : Fz} {φ : List Addr} {H : Hp} {vs : List V}, intsOf xs = some is → VRs X.K F φ H xs vs → vs = is.map V.int
  | [], _, _, _, _, _, e, r => by cases e; cases r; rfl
  | .int i :: xs, _, _, _, _, _, e, .cons (.int _) rr => by
    unfold intsOf at e
    cases q : intsOf xs with
    | none => rw [q] at e; cases e
    | some js => rw [q] at e; cases e; rw [intsOf_map q rr]; rfl
  | .non :: _, _, _, _, _, _, e, _ => by cases e
  | .bl _ :: _, _, _, _, _, _, e, _ => by cases e
  | .str _ :: _, _, _, _, _, _, e, _ => by cases e
  | .tup _ :: _, _, _, _, _, _, e, _ => by cases e
  | .lst _ :: _, _, _, _, _, _, e, _ => by cases e
  | .ed :: _, _, _, _, _, _, e, _ => by cases e
  | .ref _ :: _, _, _, _, _, _, e, _ => by cases e
  | .ty _ :: _, _, _, _, _, _, e, _ => by cases e
  | .adr _ :: _, _, _, _, _, _, e, _ => by cases e
  | .scr _ :: _, _, _, _, _, _, e, _ => by cases e
def sumF : FL := fun _ ds => match ds with
  | [.lst xs] => (intsOf xs).map fun is => .int is.sum
  | _ => none
theorem cl_sum : Cl X.K sumF (rSum X.K) := fun w H ds d vs Q k rs e g => by
  unfold sumF at e
  split at e
  · cases rs with
    | cons r rr =>
      cases rr
      cases r with
      | lst f h r =>
        rename_i xs a us
        cases q : intsOf xs with
        | none => rw [q] at e; cases e
        | some is =>
          rw [q] at e
          cases e
          have := intsOf_map q r
          subst this
          exact ⟨_, is, rfl, SqL.of h, g w H _ rfl Wx.refl k (.int _)⟩
  · cases e
def pick {α : Type} (π : List Nat) (xs : List α) : List α := π.filterMap fun i => xs[i]?
theorem pick_vals {vs : List V} {us : List Value} (r : Vals vs us) : ∀ π : List Nat, Vals (pick π vs) (pick π us)
  | [] => .nil
  | i :: π => by
    unfold pick
    rw [List.filterMap_cons, List.filterMap_cons]
    cases q : vs[i]? with
    | none => rw [Vals.none_of r q]; exact pick_vals r π
    | some v =>
      obtain ⟨u, e1, e2⟩ := Vals.get r q
      rw [e1]
      exact .cons e2 (pick_vals r π)
theorem pick_vrs {K : PySem.W.Frag} {F : Fz} {φ : List Addr} {H : Hp} {ds : List MV} {vs : List V} (r : VRs K F φ H ds vs) : ∀ π : List Nat, VRs K F φ H (pick π ds) (pick π vs)
  | [] => .nil
  | i :: π => by
    unfold pick
    rw [List.filterMap_cons, List.filterMap_cons]
    cases q : ds[i]? with
    | none =>
      have : vs[i]? = none := by
        rw [List.getElem?_eq_none_iff, ← r.length]
        exact List.getElem?_eq_none_iff.mp q
      rw [this]
      exact pick_vrs r π
    | some d =>
      obtain ⟨v, e1, e2⟩ := r.get q
      rw [e1]
      exact .cons e2 (pick_vrs r π)
theorem kbn_of {K : PySem.W.Frag} {x qual : Str} {params : Arguments} {body : List Stmt} {scope : Scope} {kws : List (Str × V)} {f : Addr} {fd : FuncData} {ps : List Str} (F : FunD K x qual params body scope [] kws f fd) (n : Nat) (ks : List Str) (π : List Nat)
    (h : ∀ (kV doc pm : Value) (an : Option Addr) (cdv ct : Value) (us ws : List Value), us.length = n → ws.length = ks.length → bindArgs (PySem.W.fnOf x qual params body scope .none kV doc pm an cdv ct) ⟨us, ks.zip ws⟩ = pure (ps.zip (pick π (us ++ ws)))) :
    KBn K fd ps n ks (fun us ws => pick π (us ++ ws)) (fun us ws => pick π (us ++ ws)) := by
  obtain ⟨oc, od, dV, kV, doc, pm, an, cdv, ct, osl, rfl, lk, hcd, hD, hK⟩ := F.ex
  rcases hD with ⟨_, rfl⟩ | ⟨e, _⟩
  · exact ⟨fun s us ws _ l1 l2 => BindsTo.of_eq (h kV doc pm an cdv ct us ws l1 l2), fun r1 r2 => pick_vals (r1.append r2) π⟩
  · exact absurd rfl e
abbrev SK (X : Cx) (W : WX) (kws : List Keyword) (m : MA) : Prop := PK X kws (TAp X.K W m)
theorem pk_mono {kws : List Keyword} {t t' : TA} (h : PK X kws t) (k : ∀ σ H Q, t' σ H Q → t σ H Q) : PK X kws t' := ⟨fun pos pins s σ H Q I q => h.run pos pins s σ H Q I (k σ H Q q)⟩
theorem sk_nil : SK X W [] mNil := pk_mono pk_nil fun σ H Q ⟨w, ms, r, k, _, e, g⟩ => by
  cases e
  exact g.here k [] .nil
theorem sk_cons {nm : Option Str} {kpos : Pos} {e : Expr} {kws : List Keyword} {m : ME} {r : MA} (ha : SE X W e m) (hr : SK X W kws r) : SK X W (⟨nm, e, kpos⟩ :: kws) (mCons m r) := pk_mono (pk_cons ha hr) fun σ H Q ⟨w, ms, q, k, sr, e, g⟩ => by
  obtain ⟨r1, e1, g1⟩ := aft_bind e g
  refine ⟨w, ms, r1, k, sr, e1, g1.imp fun x w1 H1 x1 k1 ⟨q1, e2, g2⟩ v rv => ?_⟩
  obtain ⟨r2, e3, g3⟩ := aft_bind e2 g2
  refine ⟨w1, ms, r2, k1, sr.ext k x1, e3, g3.imp fun xs w2 H2 x2 k2 ⟨q2, e4, g4⟩ vs rs => ?_⟩
  cases e4
  exact g4.here k2 (v :: vs) (.cons (rv.ext k1 x2) rs)
abbrev EB (W : WX) : XK := fun c d H => W c d [] H
theorem passB (b : Blind W) (tk : Takes X W) : Passes (L2.CX X.prog X.w) X (EB W) := passes_call tk fun c d σ H h => b c d [] σ H h
theorem aftB {α : Type} {K : PySem.W.Frag} {w : Wd} {H : Hp} {P : α → Wd → Hp → Prop} {σ : St} (b : Blind W) : ∀ {r : RS α}, Aft K w H P (WE W σ) r → Aft K w H P (EB W) r
  | .ok a h, g => g
  | .ex c xs h, g => fun w' H' d e x k r => b _ _ _ _ _ (g w' H' d e x k r)
/-- positional values, then the keywords' -/
def mCat (a b : MA) : MA := fun ms h => rb (a ms h) fun xs h1 => rb (b ms h1) fun ys h2 => some (.ok (xs ++ ys) h2)
theorem pe_callK0 {k : Nat} {f : Addr} {fd : FuncData} {ps ks : List Str} {sp : Sp} {E : XK} {x : Str} {p : Pos} {kws : List Keyword} {tk : TA} {g : List Value → List Value → List Value} {gV : List V → List V → List V} (F : FnOk X.prog X.w X.K X.mg X.base (L2.CX X.prog X.w) k f fd ps sp) (hr : Room k X.A) (hg : Gl X x) (hm : X.mg x = some (.ref f)) (hk : PySem.W.keepIn X.K (.ref f) = true) (hb : KBn X.K fd ps 0 ks g gV) (hx : Passes (L2.CX X.prog X.w) X E)
    (hkw : PK X kws tk) (hall : (backToKw pos (keywordEach kws X.env)).all (·.1.isSome) = true := by rfl) (hks : (backToKw pos (keywordEach kws X.env)).filterMap (·.1) = ks := by rfl)
    (hdb : (x == ("__debug__" : Str)) = false := by decide) (hpl : ((backTo pos (starEach [] X.env)).any (·.1) || (backToKw pos (keywordEach kws X.env)).any (·.1.isNone)) = false := by rfl) :
    PE X (.Call (.Name x p) [] kws pos) (tCallN 0 ks.length sp gV E tNil tk) := by
  refine ⟨fun pins s σ H Q I h => ?_⟩
  refine wpAny_Call_Name_kw (ld_glob I hg hm ?_ hdb)
  refine PySem.W.callWith_KW0 (h₀ := X.base) I.ok.mod.kin hk hall ?_ hpl
  refine thn (hkw.run pos pins s σ H _ I h) fun ws s2 ⟨zs, H2, I2, rz, l1, l2, q2⟩ => ⟨I2.kIn, ?_⟩
  rw [hks]
  exact run_fnN (us := []) (vs := []) F hr hb hx I2 .nil rz rfl l2 q2
/-- f(k = v, ..) -/
theorem se_callK {k m : Nat} {x : Str} {f : Addr} {fd : FuncData} {ps ks : List Str} {fm : FD} {π : List Nat} {mk : MA} {kws : List Keyword} {p : Pos} (b : Blind W) (F : FnOk X.prog X.w X.K X.mg X.base (L2.CX X.prog X.w) k f fd ps (spF X.K fm)) (hr : Room k X.A) (hg : Gl X x) (hm : X.mg x = some (.ref f)) (hk : PySem.W.keepIn X.K (.ref f) = true)
    (hb : KBn X.K fd ps 0 ks (fun us ws => pick π (us ++ ws)) (fun us ws => pick π (us ++ ws))) (tk : Takes X W) (hkw : SK X W kws mk) (hl : ∀ ms h xs h1, mk ms h = some (.ok xs h1) → xs.length = ks.length)
    (hall : (backToKw pos (keywordEach kws X.env)).all (·.1.isSome) = true := by rfl) (hks : (backToKw pos (keywordEach kws X.env)).filterMap (·.1) = ks := by rfl) (hdb : (x == ("__debug__" : Str)) = false := by decide) (hpl : ((backTo pos (starEach [] X.env)).any (·.1) || (backToKw pos (keywordEach kws X.env)).any (·.1.isNone)) = false := by rfl) :
    SE X W (.Call (.Name x p) [] kws pos) (mCallD (fun zs => fm (pick π zs)) mk) :=
  pe_mono (pe_callK0 F hr hg hm hk hb (passB b tk) hkw hall hks hdb hpl) fun σ H Q ⟨w, ms, q, k, sr, e, g⟩ => by
    unfold mCallD rb at e
    cases er : mk ms w.hm with
    | none => rw [er] at e; cases e
    | some r1 =>
      rw [er] at e
      cases r1 with
      | ex c xs h => cases e; exact ⟨w, ms, _, k, sr, er, g⟩
      | ok xs h =>
        refine ⟨w, ms, _, k, sr, er, fun w1 H1 eh x1 k1 vs rs => ⟨rfl, by rw [← rs.length]; exact hl _ _ _ _ er, w1, pick π xs, q, k1, ?_, by rw [eh]; exact e, aftB b (g.ext x1)⟩⟩
        exact pick_vrs rs π
theorem mCons_len {a : ME} {r : MA} {n : Nat} (h : ∀ ms h xs h1, r ms h = some (.ok xs h1) → xs.length = n) : ∀ ms h xs h1, mCons a r ms h = some (.ok xs h1) → xs.length = n + 1 := fun ms h0 xs h1 e => by
  unfold mCons rb at e
  cases q : a ms h0 with
  | none => rw [q] at e; cases e
  | some r1 =>
    rw [q] at e
    cases r1 with
    | ex => cases e
    | ok x h2 =>
      dsimp only at e
      cases q2 : r ms h2 with
      | none => rw [q2] at e; cases e
      | some r2 =>
        rw [q2] at e
        cases r2 with
        | ex => cases e
        | ok ys h3 => cases e; rw [List.length_cons, h _ _ _ _ q2]
theorem mNil_len : ∀ ms h xs h1, mNil ms h = some (.ok xs h1) → xs.length = 0 := fun ms h xs h1 e => by cases e; rfl

theorem rb_ok {α β : Type} {r : Option (RS α)} {f : α → Hm → Option (RS β)} {b : β} {h' : Hm} (e : rb r f = some (.ok b h')) : ∃ a h, r = some (.ok a h) ∧ f a h = some (.ok b h') := by
  unfold rb at e
  split at e
  · exact ⟨_, _, rfl, e⟩
  · cases e
  · cases e
def comp2Go (tm : TM) (test : ME) (it1 : MA) (tm1 : TM) (test1 elt : ME) (vs1 : List Nat) (ms : Sl) : List MV → Hm → Option (RS (List MV))
  | [], h => some (.ok [] h)
  | x :: xs, h => match tm x ms with
    | none => none
    | some ms1 => rb (test ms1 h) fun d h1 => match d with
      | .bl true => rb (it1 ms1 h1) fun ys h2 => rb (compGo tm1 test1 elt (wipeM ms1 vs1) ys h2) fun zs h3 => rb (comp2Go tm test it1 tm1 test1 elt vs1 ms xs h3) fun rs h4 => some (.ok (zs ++ rs) h4)
      | .bl false => comp2Go tm test it1 tm1 test1 elt vs1 ms xs h1
      | _ => none
def lc2End (r : Option (RS (List MV))) : Option (RS MV) := match r with
  | some (.ok ys h) => if ys.length ≤ 16777215 then some (.ok (.lst ys) h) else none
  | _ => none
def mComp2 (it : MA) (tm : TM) (test : ME) (it1 : MA) (tm1 : TM) (test1 elt : ME) (own vs1 : List Nat) : ME := fun ms h => rb (it ms h) fun xs h1 => lc2End (comp2Go tm test it1 tm1 test1 elt vs1 (wipeM ms own) xs h1)
theorem lc2_read {g g1 : TG} {is is1 vs vs1 : List Nat} {tm tm1 : TM} {im im1 : MA} {test test1 me : ME} (tg : TgOk X.K g is tm) (his : ∀ i ∈ is, i ∈ vs) (tg1 : TgOk X.K g1 is1 tm1) (his1 : ∀ i ∈ is1, i ∈ vs1) :
    ∀ σ H Q, TEp X.K W (mComp2 im tm test im1 tm1 test1 me vs vs1) σ H Q → tLc2 (TIp X.K W im) g (TTp X.K W0 test) (TIp X.K W0 im1) g1 (TTp X.K W0 test1) (TEp X.K W0 me) vs vs1 σ H Q := fun σ H Q ⟨w, ms, q, k, sr, e, gv⟩ => by
  obtain ⟨r1, e1, g1'⟩ := aft_bind e gv
  refine ⟨w, ms, r1, k, sr, e1, g1'.imp fun xs w0 H0 x0 k0 ⟨q0, e2, g2⟩ J it D hD => ?_⟩
  unfold lc2End at e2
  split at e2
  · rename_i total hF ec
    split at e2
    · rename_i hlen
      cases e2
      have sr0 := sr.ext k x0
      have nF0 : ¬ w0.F D := k0.notF hD
      have nL0 : ¬ w0.L D := k0.notL hD
      let P : Nat → Hp → Prop := fun i H => ∃ w' acc ws rest, Wx w0 H0 w' H ∧ Wk X.K w' H ∧ ¬ w'.F D ∧ ¬ w'.L D ∧ H D = some (.lst ws) ∧ VRs X.K w'.F w'.φ H acc ws ∧ comp2Go tm test im1 tm1 test1 me vs1 (wipeM ms vs) (xs.drop i) w'.hm = some (.ok rest hF) ∧ total = acc ++ rest
      refine ⟨fun i m H => m = xs.length - i ∧ i ≤ xs.length ∧ P i H, ⟨_, rfl, Nat.zero_le _, w0, [], [], total, (k0.lay hD).1, (k0.lay hD).2, nF0, nL0, upd_same, .nil, by simpa using ec, rfl⟩, ?_⟩
      rintro i m H1 ⟨rfl, hi, w1, acc, ws, rest, x1, k1, n1, l1, h1, r1, c1, t1⟩
      by_cases hlt : i < xs.length
      · right
        have hdrop : xs.drop i = xs[i] :: xs.drop (i + 1) := List.drop_eq_getElem_cons hlt
        rw [hdrop] at c1
        obtain ⟨go, yl⟩ := (it w1 H1 (x1.wy k0) k1 i).2 (xs[i]) (by simp [hlt])
        refine ⟨go, P (i + 1), fun H' p => ⟨xs.length - (i + 1), by omega, rfl, hlt, p⟩, fun x H2 y => ?_⟩
        obtain ⟨w2, hm2, x2, k2, r2⟩ := yl x H2 y
        rw [← hm2] at c1
        have h2 := x2.keep D _ h1 l1
        have n2 : ¬ w2.F D := x2.nF n1 l1 h1
        have l2 : ¬ w2.L D := x2.nL l1 h1
        unfold comp2Go at c1
        split at c1
        · cases c1
        · rename_i ms1 et
          have s2 : SR X.K w2 H2 (wipeM ms vs) (L2.wipe σ vs) := ((sr0.ext k0 x1).ext k1 x2).wipe vs
          refine tg w2 H2 _ ms1 _ _ x _ s2 r2 et fun σ2 s3 hj hl => ⟨?_, ?_⟩
          · rw [wipe_eq his hj hl, wipe_idem]
          · obtain ⟨d, ht, e3, c2⟩ := rb_ok c1
            refine ⟨w2, ms1, _, k2, s3, e3, fun w3 H3 eh x3 k3 => ?_⟩
            subst eh
            have x03 := (x1.trans x2).trans x3
            have h3 := x3.keep D _ h2 l2
            have n3 : ¬ w3.F D := x3.nF n2 l2 h2
            have l3 : ¬ w3.L D := x3.nL l2 h2
            have s33 := s3.ext k2 x3
            split at c2
            · refine ⟨_, rfl, iteT ?_⟩
              obtain ⟨ys, hy, e4, c3⟩ := rb_ok c2
              obtain ⟨zs, hz, e5, c4⟩ := rb_ok c3
              obtain ⟨rs, hr, e6, c5⟩ := rb_ok c4
              cases c5
              refine ⟨w3, ms1, _, k3, s33, e4, fun w4 H4 eh x4 k4 J1 it1 => ?_⟩
              subst eh
              have x04 := x03.trans x4
              have h4 := x4.keep D _ h3 l3
              have n4 : ¬ w4.F D := x4.nF n3 l3 h3
              have l4 : ¬ w4.L D := x4.nL l3 h3
              have s44 := s33.ext k3 x4
              have r14 := r1.ext k1 ((x2.trans x3).trans x4)
              let P1 : Nat → Hp → Prop := fun j H => ∃ w' acc ws zr, Wx w0 H0 w' H ∧ Wk X.K w' H ∧ Wy w4 H4 w' H ∧ ¬ w'.F D ∧ ¬ w'.L D ∧ H D = some (.lst ws) ∧ VRs X.K w'.F w'.φ H acc ws ∧ compGo tm1 test1 me (wipeM ms1 vs1) (ys.drop j) w'.hm = some (.ok zr hz) ∧ total = acc ++ zr ++ rs
              refine ⟨fun j m H => m = ys.length - j ∧ j ≤ ys.length ∧ P1 j H, ⟨_, rfl, Nat.zero_le _, w4, acc, ws, zs, x04, k4, Wy.refl, n4, l4, h4, r14, by simpa using e5, by rw [t1, List.append_assoc]⟩, ?_⟩
              rintro j mj H5 ⟨rfl, hj5, w5, acc5, ws5, zr, x05, k5, y5, n5, l5, h5, r5, c5, t5⟩
              by_cases hjt : j < ys.length
              · right
                have hdrop5 : ys.drop j = ys[j] :: ys.drop (j + 1) := List.drop_eq_getElem_cons hjt
                rw [hdrop5] at c5
                obtain ⟨go5, yl5⟩ := (it1 w5 H5 y5 k5 j).2 (ys[j]) (by simp [hjt])
                refine ⟨go5, P1 (j + 1), fun H' p => ⟨ys.length - (j + 1), by omega, rfl, hjt, p⟩, fun x6 H6 y6 => ?_⟩
                obtain ⟨w6, hm6, x6', k6, r6⟩ := yl5 x6 H6 y6
                rw [← hm6] at c5
                have h6 := x6'.keep D _ h5 l5
                have n6 : ¬ w6.F D := x6'.nF n5 l5 h5
                have l6 : ¬ w6.L D := x6'.nL l5 h5
                unfold compGo at c5
                split at c5
                · cases c5
                · rename_i ms2 et2
                  have y56 : Wy w4 H4 w6 H6 := y5.trans (x6'.wy k5)
                  have s66 : SR X.K w6 H6 (wipeM ms1 vs1) (L2.wipe σ2 vs1) := SR.wipe ⟨s44.1, fun i d q => let ⟨v, a, b⟩ := s44.2 i d q; ⟨v, a, b.wy y56⟩⟩ vs1
                  refine tg1 w6 H6 _ ms2 _ _ x6 _ s66 r6 et2 fun σ3 s7 hj7 hl7 => ⟨?_, ?_⟩
                  · rw [wipe_eq his1 hj7 hl7, wipe_idem]
                  · obtain ⟨d7, ht7, e7, c7⟩ := rb_ok c5
                    refine ⟨w6, ms2, _, k6, s7, e7, fun w7 H7 eh7 x7 k7 => ?_⟩
                    subst eh7
                    have h7 := x7.keep D _ h6 l6
                    have n7 : ¬ w7.F D := x7.nF n6 l6 h6
                    have l7 : ¬ w7.L D := x7.nL l6 h6
                    have x07 := (x05.trans x6').trans x7
                    have y57 : Wy w4 H4 w7 H7 := y56.trans (x7.wy k6)
                    split at c7
                    · refine ⟨_, rfl, iteT ?_⟩
                      obtain ⟨yv, he, e8, c8⟩ := rb_ok c7
                      obtain ⟨zs9, h9, e9, c9⟩ := rb_ok c8
                      cases c9
                      refine ⟨w7, ms2, _, k7, s7.ext k6 x7, e8, fun w8 H8 eh8 x8 k8 v rv => ?_⟩
                      subst eh8
                      have h8 := x8.keep D _ h7 l7
                      have n8 : ¬ w8.F D := x8.nF n7 l7 h7
                      have l8 : ¬ w8.L D := x8.nL l7 h7
                      have hw : acc5.length = ws5.length := r5.length
                      have htl : acc5.length + 1 ≤ total.length := by rw [t5]; simp
                      have nF4 : ¬ w4.F D := n4
                      exact ⟨ws5, h8, by rw [← size_line, ← hw]; omega, w8, acc5 ++ [yv], ws5 ++ [v], zs9, (x07.trans x8).updO hD, k8.updO n8 l8, (y57.trans (x8.wy k7)).upd nF4, n8, l8, upd_same,
                        ((r5.ext k5 ((x6'.trans x7).trans x8)).snoc rv).updO n8, e9, by rw [t5]; simp⟩
                    · refine ⟨_, rfl, iteF ?_⟩
                      exact ⟨w7, acc5, ws5, zr, x07, k7, y57, n7, l7, h7, r5.ext k5 (x6'.trans x7), c7, t5⟩
                    · cases c7
              · left
                have hj' : j = ys.length := by omega
                refine ⟨(it1 w5 H5 y5 k5 j).1 (by omega), ?_⟩
                rw [hj', List.drop_length] at c5
                cases c5
                rw [List.append_nil] at t5
                exact ⟨w5, acc5, ws5, rs, x05, k5, n5, l5, h5, r5, e6, t5⟩
            · refine ⟨_, rfl, iteF ?_⟩
              exact ⟨w3, acc, ws, rest, x03, k3, n3, l3, h3, r1.ext k1 (x2.trans x3), c2, t1⟩
            · cases c2
      · left
        have hi' : i = xs.length := by omega
        refine ⟨(it w1 H1 (x1.wy k0) k1 i).1 (by omega), ?_⟩
        rw [hi', List.drop_length] at c1
        cases c1
        rw [List.append_nil] at t1
        subst t1
        obtain ⟨xf, kf⟩ := Wk.addN x1 k1 hD l1 h1
        exact g2 (w1.add D) H1 rfl xf kf _ (.lst (.inr rfl) h1 r1.addN)
    · cases e2
  · cases e2
theorem se_comp2 {elt tg iter tg1 iter1 : Expr} {ifs ifs1 : List Expr} {scope : Scope} {own : List (Str × Nat)} {vs1 : List Nat} {g g1 : TG} {is is1 : List Nat} {tm tm1 : TM} {im im1 : MA} {test test1 me : ME} (hc : X.calm = true) (hN : X.N.Nodup) (hi : SI X W tg iter im) (ok : BlkOk X.N X.env.scope scope own) (hv : ∀ i ∈ vs1, i ∈ own.map (·.2))
    (tk : TgOk X.K g is tm) (his : ∀ i ∈ is, i ∈ own.map (·.2)) (tk1 : TgOk X.K g1 is1 tm1) (his1 : ∀ i ∈ is1, i ∈ vs1)
    (hg : ∀ (s : Shared) (H : Hp) (C : Addr) (cl : List (Str × Addr)) (fp : List Addr), PG (X.blk s H scope (compEnvC scope cl C X.env) fp) tg g)
    (ht : ∀ (s : Shared) (H : Hp) (C : Addr) (cl : List (Str × Addr)) (fp : List Addr), PTs (X.blk s H scope (compEnvC scope cl C X.env) fp) ifs (TTp X.K W0 test))
    (hi1 : ∀ (s : Shared) (H : Hp) (C : Addr) (cl : List (Str × Addr)) (fp : List Addr), PI (X.blk s H scope (compEnvC scope cl C X.env) fp) tg1 iter1 (TIp X.K W0 im1))
    (hg1 : ∀ (s : Shared) (H : Hp) (C : Addr) (cl : List (Str × Addr)) (fp : List Addr), PG (X.blk s H scope (compEnvC scope cl C X.env) fp) tg1 g1)
    (ht1 : ∀ (s : Shared) (H : Hp) (C : Addr) (cl : List (Str × Addr)) (fp : List Addr), PTs (X.blk s H scope (compEnvC scope cl C X.env) fp) ifs1 (TTp X.K W0 test1))
    (he : ∀ (s : Shared) (H : Hp) (C : Addr) (cl : List (Str × Addr)) (fp : List Addr), PE (X.blk s H scope (compEnvC scope cl C X.env) fp) elt (TEp X.K W0 me)) (hs : ∀ x, foldedSetIterable iter X.env x = pure x := by intro _; rfl) (hs1 : ∀ env x, foldedSetIterable iter1 env x = pure x := by intro _ _; rfl) :
    SE X W (.ListComp elt [⟨tg, iter, ifs, 0⟩, ⟨tg1, iter1, ifs1, 0⟩] scope pos) (mComp2 im tm test im1 tm1 test1 me (own.map (·.2)) vs1) :=
  pe_mono (pe_lc2 hc hN hi ok hv hg ht hi1 hg1 ht1 he hs hs1) (lc2_read tk his tk1 his1)
end
end Mx
namespace Mx
open PySem L2 PyProof.Rows PySem.W

theorem each_zip {xs : List V} {its : List Value} (r : Vals xs its) : ∀ {ds : List PyData}, xs.length = ds.length → EachIs (fun v (b : V × PyData) => RelV b.1 v) its (xs.zip ds) := by
  induction r with
  | nil => intro ds h; cases ds with | nil => exact .nil | cons => cases h
  | cons r rr ih =>
    intro ds h
    cases ds with
    | nil => cases h
    | cons d ds => exact .cons r (ih (by simpa using h))
theorem vals_each {bs : List (V × PyData)} {out : List Value} (e : EachIs (fun v (b : V × PyData) => RelV b.1 v) out bs) : Vals (bs.map (·.1)) out := by
  induction e with
  | nil => exact .nil
  | cons h t ih => exact .cons h ih
theorem zip_snd {α β : Type} : ∀ {xs : List α} {ds : List β}, xs.length = ds.length → (xs.zip ds).map Prod.snd = ds
  | [], [], _ => rfl
  | x :: xs, d :: ds, h => by simp [zip_snd (xs := xs) (ds := ds) (by simpa using h)]
  | [], _ :: _, h => by cases h
  | _ :: _, [], h => by cases h
theorem dpAll_len {K : PySem.W.Frag} {H : Hp} : ∀ {xs : List V} {ds : List PyData}, DpAll K H xs ds → xs.length = ds.length
  | _, _, .nil => rfl
  | _, _, .cons _ t => by rw [List.length_cons, List.length_cons, dpAll_len t]
def rSortM (K : PySem.W.Frag) : List V → Hp → VK → Prop := fun vs H Q => ∃ (a : Addr) (xs : List V) (ds : List PyData), vs = [.ref a] ∧ SqL K H a xs ∧ DpAll K H xs ds ∧ AllAlike ds ∧ Sortable ds ∧ (∀ d ∈ ds, d.depth ≤ 60) ∧
  ∀ p, H p = none → Q (.ref p) (upd H p (.lst (((xs.zip ds).mergeSort (PySem.W.dataLe false Prod.snd)).map (·.1))))
section
variable {X : Cx} {W : WX} {pos : Pos}
theorem call_sortM (hu : X.A.units + 64 < cLine) : CallR X (.builtin "sorted") (rSortM X.K) := by
  intro pins s σ H vs us Q I r h
  obtain ⟨a, xs, ds, rfl, hs, hd, hal, hso, hdep, q⟩ := h
  obtain ⟨its, rv, hl, hz⟩ := I.list hs
  rw [Vals.ref1 r]
  have hlen := dpAll_len hd
  have hsnd : (xs.zip ds).map Prod.snd = ds := zip_snd hlen
  obtain ⟨as, hr⟩ := Dp.readsAll I ds xs its hd rv
  refine PySem.W.sorted_data (β := V × PyData) (bs := xs.zip ds) (enc := Prod.snd) (R := fun v b => RelV b.1 v) (vs := its) hl.isList (each_zip rv hlen) (readsAll_each Prod.snd (by rw [hsnd]; exact hr)) (by rw [hsnd]; exact hal) (by rw [hsnd]; exact hso) ?_ (fun b hb => ?_) fun out h1 h2 => ?_
  · rw [List.length_zip, ← hlen, Nat.min_self]; exact hz
  · have : b.2 ∈ ds := by rw [← hsnd]; exact List.mem_map.mpr ⟨b, hb, rfl⟩
    have := hdep _ this
    omega
  · obtain ⟨ep, he'⟩ := PyProof.Rows.sortedAll_at s.heap its (List.toArray out)
    have hl2 : (((xs.zip ds).mergeSort (PySem.W.dataLe false Prod.snd)).map (·.1)).length ≤ sizeLine := by
      rw [List.length_map, List.length_mergeSort, List.length_zip, ← hlen, Nat.min_self]; exact hz
    exact ⟨.ref _, upd H (s.heap.objs.size + 1) (.lst (((xs.zip ds).mergeSort (PySem.W.dataLe false Prod.snd)).map (·.1))), I.laid (t' := s.toks) (fun _ _ => PyProof.Rows.sortedAll_old) (Nat.le_succ _) ⟨hl2, out, ep, vals_each h2, he'⟩, rfl, q _ (I.hok.fresh (Nat.le_succ _))⟩
/-- sorted(u): what u yields, sorted by list.sort on a new list -/
theorem sorted_gen {prog : Program} {w : World} {A : Around} {E : Value → Shared → Prop} {s : Shared} {u : Value} {Q : Value → Shared → Prop}
    (hc : wpAny (model prog w) A.in1 (collect u) (fun l s1 => l.length ≤ sizeLine ∧ ∀ E', wpAny (model prog w) A.in1.in1 (Builtin.«list.sort» ⟨[.ref s1.heap.objs.size], []⟩) (fun f s' => f = .done (.ret .none) ∧ Q (.ref s1.heap.objs.size) s') E' { s1 with heap := s1.heap.push (seqObj "list" l.toArray 0) }) E s) :
    wpAny (model prog w) A (call (.builtin "sorted") [u]) Q E s := by
  refine Calls.call_function_entry kind_sorted plain_sorted entry_sorted (args_sorted1 _) ?_
  unfold Builtin.«sorted»
  refine wpAny_bind (m := checkCount "sorted" 1 1 _) (wpAny_pure ?_)
  refine wpAny_bind (wpAny_mono hc (fun l s1 ⟨hL, hs⟩ => ?_) fun _ _ e => e)
  refine wpAny_bind (wpAny_newList ?_ hL)
  have hoL : (s1.heap.push (seqObj "list" l.toArray 0)).get? s1.heap.objs.size = some (seqObj "list" l.toArray 0) := Heap.get?_push_size _ rfl
  show wpAny _ _ _ _ _ { s1 with heap := s1.heap.push (seqObj "list" l.toArray 0) }
  refine wpAny_bind (wpAny_holding (wpAny_call_entry_kw slot_list_sort ⟨_, hoL, rfl⟩ entry_list_sort ?body (args_list_sort _)))
  case body =>
    refine wpAny_mono (hs _) (fun f s' hf => ?_) fun _ _ e => e
    obtain ⟨rfl, hq⟩ := hf
    exact ⟨_, rfl, wpAny_pure ⟨_, rfl, hq⟩⟩
/-- the sort itself, on a new list of these values -/
theorem sort_new {A : Around} (hu : A.units + 64 < cLine) {pins : List (Addr × Obj)} {σ : L2.St} {H : Hp} {s : Shared} {Q : VK} {xs : List V} {its : List Value} {ds : List PyData} (I : Inv X pins σ H s) (rv : Vals xs its) (hd : DpAll X.K H xs ds) (hal : PySem.W.AllAlike ds) (hso : PySem.W.Sortable ds) (hdep : ∀ d ∈ ds, d.depth ≤ 60) (hz : xs.length ≤ sizeLine)
    (q : ∀ p, H p = none → Q (.ref p) (upd H p (.lst (((xs.zip ds).mergeSort (PySem.W.dataLe false Prod.snd)).map (·.1))))) (E' : Value → Shared → Prop) :
    wpAny (model X.prog X.w) A (Builtin.«list.sort» ⟨[.ref s.heap.objs.size], []⟩) (fun f s' => f = .done (.ret .none) ∧ EP X pins σ Q (.ref s.heap.objs.size) s') E' { s with heap := s.heap.push (seqObj "list" its.toArray 0) } := by
  have hlen := dpAll_len hd
  have hsnd : (xs.zip ds).map Prod.snd = ds := zip_snd hlen
  obtain ⟨as, hr⟩ := Dp.readsAll I ds xs its hd rv
  have hoL : (s.heap.push (seqObj "list" its.toArray 0)).get? s.heap.objs.size = some (seqObj "list" its.toArray 0) := Heap.get?_push_size _ rfl
  have er : EachIs (fun v (b : V × PyData) => ∃ as, Reads s.heap v b.2 as) its (xs.zip ds) := readsAll_each Prod.snd (by rw [hsnd]; exact hr)
  have er' : EachIs (fun v (b : V × PyData) => ∃ as, Reads (PySem.W.sortingHeap (s.heap.push (seqObj "list" its.toArray 0)) s.heap.objs.size its) v b.2 as) its (xs.zip ds) :=
    er.mono fun v b ⟨as, r⟩ => ⟨as, PyProof.Rows.Reads.keeps (fun b o q => PySem.W.sortingHeap_old (Nat.ne_of_lt (Heap.lt_size q)) (Heap.get?_push_of_some _ q)) r⟩
  refine PySem.W.list_sort_vals (s := { s with heap := s.heap.push (seqObj "list" its.toArray 0) }) (κ := PySem.W.dataKind (PySem.W.sortingHeap (s.heap.push (seqObj "list" its.toArray 0)) s.heap.objs.size its) ((xs.zip ds).map Prod.snd)) hoL
    (PySem.W.SortsAt.data (s := { s with heap := PySem.W.sortingHeap (s.heap.push (seqObj "list" its.toArray 0)) s.heap.objs.size its }) (PySem.W.each_map (R := fun v d => ∃ as, Reads (PySem.W.sortingHeap (s.heap.push (seqObj "list" its.toArray 0)) s.heap.objs.size its) v d as) Prod.snd er') (by rw [hsnd]; exact hal) (by rw [hsnd]; exact hso)
      (fun d hd => by rw [hsnd] at hd; have := hdep d hd; omega)) (by rw [← rv.length]; exact hz) ⟨rfl, ?_⟩
  have h2 := PySem.W.sortVals_data false (each_zip rv hlen) er' (by rw [hsnd]; exact hal)
  obtain ⟨ep, he'⟩ := PyProof.Rows.sortedHeap_at (vs := its) (out := (PySem.W.sortVals (PySem.W.dataKind (PySem.W.sortingHeap (s.heap.push (seqObj "list" its.toArray 0)) s.heap.objs.size its) ((xs.zip ds).map Prod.snd)) false its its).toArray) hoL
  have hl2 : (((xs.zip ds).mergeSort (PySem.W.dataLe false Prod.snd)).map (·.1)).length ≤ sizeLine := by
    rw [List.length_map, List.length_mergeSort, List.length_zip, ← hlen, Nat.min_self]; exact hz
  refine ⟨.ref s.heap.objs.size, upd H s.heap.objs.size (.lst (((xs.zip ds).mergeSort (PySem.W.dataLe false Prod.snd)).map (·.1))), I.laid (t' := s.toks) (fun b u e => ?_) (Nat.le_refl _) ⟨hl2, _, ep, vals_each h2, he'⟩, rfl, q _ (I.hok.fresh (Nat.le_refl _))⟩
  have hb : b < s.heap.objs.size := Heap.lt_size e
  rw [PyProof.Rows.sortedHeap_old (Nat.ne_of_lt hb) (by rw [size_push']; exact Nat.lt_succ_of_lt hb)]
  exact Heap.get?_push_of_some _ e
def rSortT (K : PySem.W.Frag) : List V → Hp → VK → Prop := fun vs H Q => ∃ (a : Addr) (xs : List V) (ds : List PyData), vs = [.ref a] ∧ SqT K H a xs ∧ DpAll K H xs ds ∧ PySem.W.AllAlike ds ∧ PySem.W.Sortable ds ∧ (∀ d ∈ ds, d.depth ≤ 60) ∧
  ∀ p, H p = none → Q (.ref p) (upd H p (.lst (((xs.zip ds).mergeSort (PySem.W.dataLe false Prod.snd)).map (·.1))))
theorem call_sortT (hu : X.A.units + 70 < cLine) : CallR X (.builtin "sorted") (rSortT X.K) := by
  intro pins s σ H vs us Q I r h
  obtain ⟨a, xs, ds, rfl, hs, hd, hal, hso, hdep, q⟩ := h
  obtain ⟨its, rv, hl, hz⟩ := I.tuple hs
  rw [Vals.ref1 r]
  obtain ⟨o, ho, hc, n, hdt⟩ := hl
  refine sorted_gen (wpAny_collect_seq a (.inr rfl) ho hc hdt (fun h' hk => ?_) (by rw [List.size_toArray, ← rv.length]; exact hz))
  have e : its.toArray.toList = its := by simp
  rw [e]
  have I2 : Inv X pins σ H { s with heap := h' } := I.kept (t' := s.toks) hk
  exact ⟨by rw [← rv.length]; exact hz, fun E' => sort_new (A := X.A.in1.in1) (by show X.A.units + 1 + 1 + 64 < cLine; omega) I2 rv hd hal hso hdep hz q E'⟩
end

def insL {α : Type} (le : α → α → Bool) (x : α) : List α → List α
  | [] => [x]
  | y :: ys => match le x y with
    | true => x :: y :: ys
    | false => y :: insL le x ys
def isort {α : Type} (le : α → α → Bool) : List α → List α
  | [] => []
  | x :: xs => insL le x (isort le xs)
section
variable {α : Type} {le : α → α → Bool} (h : PySem.W.TotalLe le)
include h
theorem insL_mem (x : α) : ∀ (ys : List α) (z : α), z ∈ insL le x ys → z = x ∨ z ∈ ys
  | [], z, m => by unfold insL at m; left; simpa using m
  | y :: ys, z, m => by
    unfold insL at m
    split at m
    · rcases List.mem_cons.mp m with e | m
      · exact .inl e
      · exact .inr m
    · rcases List.mem_cons.mp m with e | m
      · right; rw [e]; simp
      · rcases insL_mem x ys z m with e | m
        · exact .inl e
        · right; simp [m]
theorem insL_pw (x : α) : ∀ ys : List α, ys.Pairwise (fun a b => le a b = true) → (insL le x ys).Pairwise (fun a b => le a b = true)
  | [], _ => by unfold insL; simp
  | y :: ys, p => by
    obtain ⟨p1, p2⟩ := List.pairwise_cons.mp p
    unfold insL
    split
    · rename_i e
      exact List.pairwise_cons.mpr ⟨fun z hz => by
        rcases List.mem_cons.mp hz with rfl | hz
        · exact e
        · exact h.trans _ _ _ e (p1 z hz), p⟩
    · rename_i e
      have hy : le y x = true := by
        rcases h.total x y with q | q
        · rw [q] at e; cases e
        · exact q
      exact List.pairwise_cons.mpr ⟨fun z hz => by
        rcases insL_mem h x ys z hz with rfl | hz
        · exact hy
        · exact p1 z hz, insL_pw x ys p2⟩
theorem insL_filter (x c : α) : ∀ ys : List α, (insL le x ys).filter (PySem.W.sameRank le c) = (x :: ys).filter (PySem.W.sameRank le c)
  | [] => rfl
  | y :: ys => by
    unfold insL
    split
    · rfl
    · rename_i e
      rw [List.filter_cons, insL_filter x c ys]
      cases hx : PySem.W.sameRank le c x with
      | false =>
        have hx' : ¬ PySem.W.sameRank le c x = true := by rw [hx]; exact Bool.false_ne_true
        rw [List.filter_cons_of_neg hx', List.filter_cons_of_neg hx', List.filter_cons]
      | true =>
        have hy : ¬ PySem.W.sameRank le c y = true := fun hy => by
          unfold PySem.W.sameRank at hx hy
          rw [Bool.and_eq_true] at hx hy
          have := h.trans x c y hx.2 hy.1
          rw [this] at e; cases e
        rw [if_neg hy, List.filter_cons_of_pos hx, List.filter_cons_of_pos hx, List.filter_cons_of_neg hy]
theorem isort_pw : ∀ xs : List α, (isort le xs).Pairwise (fun a b => le a b = true)
  | [] => List.Pairwise.nil
  | x :: xs => insL_pw h x _ (isort_pw xs)
theorem isort_filter (c : α) : ∀ xs : List α, (isort le xs).filter (PySem.W.sameRank le c) = xs.filter (PySem.W.sameRank le c)
  | [] => rfl
  | x :: xs => by
    unfold isort
    rw [insL_filter h, List.filter_cons, List.filter_cons, isort_filter c xs]
theorem isort_eq (xs : List α) : isort le xs = xs.mergeSort le := PySem.W.sort_unique h (isort_pw h xs) fun c => isort_filter h c xs
end
/-- a ≤ b -/
def leM (a b : MV) : Bool := PySem.W.dataLe false toPD a b
theorem leM_total : PySem.W.TotalLe leM := PySem.W.sortLe_total (PyProof.Rows.listOrd PyProof.Rows.itemOrd) false fun b => PySem.W.keyToks (toPD b)
def headsOk : List MV → Bool
  | [] => true
  | .tup (_ :: _) :: xs => xs.all fun x => match x with
    | .tup (_ :: _) => true
    | _ => false
  | .tup [] :: _ => false
  | .non :: _ => false
  | _ :: xs => xs.all fun x => match x with
    | .tup _ => false
    | .non => false
    | _ => true
def sortR (xs : List MV) : Option (List MV) := if xs.all (okF 60) && (xs.all fun a => xs.all fun b => PySem.W.alike (toPD a) (toPD b)) && headsOk xs then some (isort leM xs) else none
def sortF : FL := fun _ ds => match ds with
  | [.lst xs] => (sortR xs).map .lst
  | [.tup xs] => (sortR xs).map .lst
  | _ => none
theorem okF_le {n m : Nat} (h : n ≤ m) {d : MV} (e : okF n d = true) : okF m d = true := by
  induction h with
  | refl => exact e
  | step _ ih => exact okF_up _ _ ih
theorem headsOk_sortable : ∀ {xs : List MV}, xs.all (okF 60) = true → headsOk xs = true → PySem.W.Sortable (toPDs xs) := by
  intro xs hok h
  rw [toPDs_map]
  cases xs with
  | nil => left; intro d hd; simp at hd
  | cons x xs =>
    have tupC : ∀ (z : MV), (match z with | .tup (_ :: _) => true | _ => false) = true → ∃ a r, toPD z = .tuple (a :: r) := fun z hz => by
      split at hz
      · rename_i a r; exact ⟨toPD a, toPDs r, by simp [toPD, toPDs]⟩
      · cases hz
    have othC : ∀ (z : MV), okF 60 z = true → (match z with | .tup _ => false | .non => false | _ => true) = true → toPD z ≠ .none ∧ ∀ ys, toPD z ≠ .tuple ys := fun z hk hz => by
      cases z <;> first
        | (cases hz; done)
        | (cases hk; done)
        | (simp [toPD])
    have fin1 : ∀ (zs : List MV), (∀ z ∈ zs, ∃ a r, toPD z = .tuple (a :: r)) → PySem.W.Sortable (zs.map toPD) := fun zs hz => .inl fun d hd => by
      obtain ⟨z, hm, rfl⟩ := List.mem_map.mp hd
      exact hz z hm
    have fin2 : ∀ (zs : List MV), (∀ z ∈ zs, toPD z ≠ .none ∧ ∀ ys, toPD z ≠ .tuple ys) → PySem.W.Sortable (zs.map toPD) := fun zs hz => .inr fun d hd => by
      obtain ⟨z, hm, rfl⟩ := List.mem_map.mp hd
      exact hz z hm
    have hok' := List.all_eq_true.mp hok
    cases x with
    | tup ys =>
      cases ys with
      | nil => cases h
      | cons a r =>
        refine fin1 _ fun z hz => ?_
        rcases List.mem_cons.mp hz with rfl | hz
        · exact ⟨toPD a, toPDs r, by simp [toPD, toPDs]⟩
        · exact tupC z (List.all_eq_true.mp h z hz)
    | non => cases h
    | _ =>
      refine fin2 _ fun z hz => ?_
      rcases List.mem_cons.mp hz with rfl | hz
      · exact othC _ (hok' _ (by simp)) rfl
      · exact othC z (hok' z (by simp [hz])) (List.all_eq_true.mp h z hz)
section
variable {X : Cx} {W : WX} {pos : Pos}
theorem vrs_of_zip {K : PySem.W.Frag} {F : Fz} {φ : List Addr} {H : Hp} : ∀ {zs : List (V × MV)}, (∀ p ∈ zs, VR K F φ H p.2 p.1) → VRs K F φ H (zs.map (·.2)) (zs.map (·.1))
  | [], _ => .nil
  | p :: zs, h => .cons (h p (by simp)) (vrs_of_zip fun q hq => h q (by simp [hq]))
theorem zip_vr {K : PySem.W.Frag} {F : Fz} {φ : List Addr} {H : Hp} : ∀ {xs : List MV} {vs : List V}, VRs K F φ H xs vs → ∀ p ∈ vs.zip xs, VR K F φ H p.2 p.1
  | _, _, .nil, p, hp => by cases hp
  | _, _, .cons r rr, p, hp => by
    rcases List.mem_cons.mp hp with rfl | hp
    · exact r
    · exact zip_vr rr p hp
theorem zip_map {α β γ : Type} (f : β → γ) : ∀ (xs : List α) (ys : List β), xs.zip (ys.map f) = (xs.zip ys).map fun p => (p.1, f p.2)
  | [], ys => by simp
  | x :: xs, [] => by simp
  | x :: xs, y :: ys => by simp [zip_map f xs ys]
theorem sort_vrs {K : PySem.W.Frag} {F : Fz} {φ : List Addr} {H : Hp} {xs : List MV} {vs : List V} (r : VRs K F φ H xs vs) :
    VRs K F φ H (isort leM xs) (((vs.zip (toPDs xs)).mergeSort (PySem.W.dataLe false Prod.snd)).map (·.1)) := by
  let zs := vs.zip xs
  have e1 : (zs.mergeSort fun a b => leM a.2 b.2).map (fun p => (p.1, toPD p.2)) = (vs.zip (toPDs xs)).mergeSort (PySem.W.dataLe false Prod.snd) := by
    rw [toPDs_map, zip_map toPD]
    exact PySem.W.sort_maps (fun p : V × MV => (p.1, toPD p.2)) fun a _ b _ => rfl
  have e2 : (zs.mergeSort fun a b => leM a.2 b.2).map (·.2) = isort leM xs := by
    rw [isort_eq leM_total]
    have : zs.map (·.2) = xs := zip_snd r.length.symm
    have q := PySem.W.sort_maps (r := fun a b : V × MV => leM a.2 b.2) (s := leM) (fun p : V × MV => p.2) (l := zs) fun a _ b _ => rfl
    rw [q, this]
  have e3 : (((vs.zip (toPDs xs)).mergeSort (PySem.W.dataLe false Prod.snd)).map (·.1)) = (zs.mergeSort fun a b => leM a.2 b.2).map (·.1) := by
    rw [← e1, List.map_map]; rfl
  rw [e3, ← e2]
  exact vrs_of_zip fun p hp => zip_vr r p ((List.mergeSort_perm zs _).mem_iff.mp hp)
def rSortA (K : PySem.W.Frag) : List V → Hp → VK → Prop := fun vs H Q => rSortM K vs H Q ∨ rSortT K vs H Q
theorem call_sortA (hu : X.A.units + 70 < cLine) : CallR X (.builtin "sorted") (rSortA X.K) := (call_sortM (by omega)).or (call_sortT hu)
theorem sortR_of {K : PySem.W.Frag} {F : Fz} {φ : List Addr} {H : Hp} {xs ys : List MV} {vs : List V} (r : VRs K F φ H xs vs) (e : sortR xs = some ys) :
    ys = isort leM xs ∧ DpAll K H vs (toPDs xs) ∧ PySem.W.AllAlike (toPDs xs) ∧ PySem.W.Sortable (toPDs xs) ∧ ∀ d ∈ toPDs xs, d.depth ≤ 60 := by
  unfold sortR at e
  split at e
  · rename_i h
    simp only [Bool.and_eq_true] at h
    cases e
    have h1 := List.all_eq_true.mp h.1.1
    refine ⟨rfl, VRs.dp 60 xs vs h1 r, fun d hd d' hd' => ?_, headsOk_sortable h.1.1 h.2, fun d hd => ?_⟩
    · rw [toPDs_map] at hd hd'
      obtain ⟨x, hx, rfl⟩ := List.mem_map.mp hd
      obtain ⟨y, hy, rfl⟩ := List.mem_map.mp hd'
      exact List.all_eq_true.mp (List.all_eq_true.mp h.1.2 x hx) y hy
    · rw [toPDs_map] at hd
      obtain ⟨x, hx, rfl⟩ := List.mem_map.mp hd
      exact (okF_pd 60 x (h1 x hx)).2
  · cases e
theorem cl_sort : Cl X.K sortF (rSortA X.K) := fun w H ds d vs Q k rs e g => by
  unfold sortF at e
  split at e
  · cases rs with
    | cons r rr =>
      cases rr
      cases r with
      | lst f h r =>
        rename_i xs a us
        cases q : sortR xs with
        | none => rw [q] at e; cases e
        | some ys =>
          rw [q] at e
          cases e
          obtain ⟨rfl, h1, h2, h3, h4⟩ := sortR_of r q
          exact .inl ⟨_, _, _, rfl, SqL.of h, h1, h2, h3, h4, fun p hp => g (w.add p) _ _ rfl (k.addO hp).1 (k.addO hp).2 (VR.newLst k hp (sort_vrs r))⟩
  · cases rs with
    | cons r rr =>
      cases rr
      cases r with
      | tup f r =>
        rename_i xs a us
        cases q : sortR xs with
        | none => rw [q] at e; cases e
        | some ys =>
          rw [q] at e
          cases e
          obtain ⟨rfl, h1, h2, h3, h4⟩ := sortR_of r q
          exact .inr ⟨_, _, _, rfl, f.sq, h1, h2, h3, h4, fun p hp => g (w.add p) _ _ rfl (k.addO hp).1 (k.addO hp).2 (VR.newLst k hp (sort_vrs r))⟩
  · cases e
end
end Mx
namespace Mx
open PySem L2

/-- a list object -/
abbrev LO (xs : Array Value) (n : Nat) : Obj := { cls := .type "list", data := .seq xs n }
/-- these values are the lists with these items -/
def RowsAt (h : Heap) (its : List Value) (rows : List (List Value)) : Prop := its.length = rows.length ∧ ∀ (i : Nat) (v : Value), its[i]? = some v → ∃ (a : Addr) (n : Nat) (r : List Value), v = .ref a ∧ rows[i]? = some r ∧ h.get? a = some (LO r.toArray n)
theorem args_sum2 (a b : Value) : argsOk "sum" ⟨[a, b], []⟩ := by unfold argsOk; kernel_rfl
section
variable {prog : Program} {w : World} {E : Value → Shared → Prop}
theorem sum_lists_loop {l it S : Addr} {its : List Value} {rows : List (List Value)} {h0 : Heap} {R : Result → Shared → Prop} (hl : ∃ o, h0.get? l = some o ∧ o.cls = .type "list" ∧ ∃ n, o.data = .seq its.toArray n) (hr : RowsAt h0 its rows) (hi : h0.objs.size ≤ it) (hS : h0.objs.size ≤ S) (hne : S ≠ it) :
    ∀ (k i : Nat) (A : Around) (s : Shared) (t : Addr) (T : List Value) (nT c : Nat), A.handled = none → its.length - i = k → i ≤ its.length → (∀ b o, h0.get? b = some o → s.heap.get? b = some o) → s.heap.IsListIter it l i → s.heap.get? S = some (LO #[.ref t] c) → s.heap.get? t = some (LO T.toArray nT) → t ≠ S → t ≠ it →
      T.length + (rows.drop i).flatten.length ≤ sizeLine →
      (∀ (h' : Heap) (t' : Addr) (n' : Nat), (∀ b o, h0.get? b = some o → h'.get? b = some o) → h'.get? t' = some (LO (T ++ (rows.drop i).flatten).toArray n') → ((k = 0 ∧ t' = t) ∨ h0.objs.size ≤ t') → R (.ok (.ret (.ref t'))) { s with heap := h' }) →
      codeAny (model prog w) A (.builtin "sum.loop" ⟨[.ref it, .ref S, rawInt 2, rawInt 0], []⟩) R s := by
  intro k
  induction k with
  | zero =>
    intro i A s t T nT c hh hk hle kp hit hSo ht ntS nti hsz hR
    have hin : i = its.length := by omega
    have hdr : rows.drop i = [] := by rw [hin, hr.1]; exact List.drop_length
    refine codeAny_builtin F.entry_sum_loop ?_
    rw [Around.under_plainId F.plain_sum_loop _]
    show wpAny _ A.in1 (seqItems? (.ref S) >>= _) _ _ s
    refine wpAny_bind (wpAny_seqItems hSo rfl ?_)
    show wpAny _ A.in1 (tryCatch (pyNext (.ref it)) _ >>= _) _ _ s
    obtain ⟨o, ho, hc, n, hd⟩ := hl
    refine wpAny_bind (wpAny_tryCatch (wpAny_pyNext_list_end hh hit ⟨o, kp l o ho, hc, n, hd⟩ (by simp; omega) fun h' eb => ?_))
    have k2 : ∀ b o, h0.get? b = some o → h'.get? b = some o := fun b o e => eb b o (Nat.ne_of_lt (Nat.lt_of_lt_of_le (Heap.lt_size e) hi)) (kp b o e)
    refine wpAny_pure (hR h' t nT k2 ?_ (.inl ⟨rfl, rfl⟩))
    rw [hdr]
    simpa using eb t _ nti ht
  | succ k ih =>
    intro i A s t T nT c hh hk hle kp hit hSo ht ntS nti hsz hR
    have hlt : i < its.length := by omega
    refine codeAny_builtin F.entry_sum_loop ?_
    rw [Around.under_plainId F.plain_sum_loop _]
    show wpAny _ A.in1 (seqItems? (.ref S) >>= _) _ _ s
    refine wpAny_bind (wpAny_seqItems hSo rfl ?_)
    show wpAny _ A.in1 (tryCatch (pyNext (.ref it)) _ >>= _) _ _ s
    obtain ⟨o, ho, hc, n, hd⟩ := hl
    refine wpAny_bind (wpAny_tryCatch (wpAny_pyNext_list_item hit ⟨o, kp l o ho, hc, n, hd⟩ (x := its[i]) (by simp [hlt]) fun h1 hit1 sb => ?_))
    obtain ⟨a, na, r, ea, er, ha⟩ := hr.2 i its[i] (by simp [hlt])
    rw [ea]
    have k1 : ∀ b o, h0.get? b = some o → h1.get? b = some o := fun b o e => (sb.2 b (Nat.ne_of_lt (Nat.lt_of_lt_of_le (Heap.lt_size e) hi))).trans (kp b o e)
    have hS1 : h1.get? S = some (LO #[.ref t] c) := (sb.2 S hne).trans hSo
    have ht1 : h1.get? t = some (LO T.toArray nT) := (sb.2 t nti).trans ht
    have hdrop : rows.drop i = r :: rows.drop (i + 1) := by
      obtain ⟨q1, q2⟩ := List.getElem?_eq_some_iff.mp er
      rw [List.drop_eq_getElem_cons q1, q2]
    have hfl : (rows.drop i).flatten = r ++ (rows.drop (i + 1)).flatten := by rw [hdrop]; rfl
    rw [hfl, List.length_append] at hsz
    show wpAny _ A.in1 ((holding [Value.ref a] (binaryOp .Add (.ref t) (.ref a))).attempt >>= _) _ _ _
    refine wpAny_bind (wpAny_attempt (wpAny_holding (P.add_list (items := T.toArray) (items2 := r.toArray) (n := nT) (n2 := na) ht1 (k1 a _ ha) ?_ (by rw [List.size_toArray, List.size_toArray]; omega))))
    show wpAny _ A.in1 (updateSeq S (fun _ => #[.ref h1.objs.size]) >>= _) _ _ _
    have hS2 : (h1.push (LO (T.toArray ++ r.toArray) 0)).get? S = some (LO #[.ref t] c) := Heap.get?_push_of_some _ hS1
    refine wpAny_bind (wpAny_updateSeq hS2 rfl ?_)
    have hS3 := Heap.get?_update_self (Obj.mapSeq fun _ => #[Value.ref h1.objs.size]) hS2 rfl
    refine wpAny_bind (wpAny_letGo ?_)
    refine wpAny_bind (wpAny_updateSeq hS3 rfl ?_)
    have hS4 := Heap.get?_update_self (Obj.mapSeq fun _ => #[Value.ref h1.objs.size]) hS3 rfl
    have hSs : S < h1.objs.size := Heap.lt_size hS1
    have oth : ∀ b o, b ≠ S → (h1.push (LO (T.toArray ++ r.toArray) 0)).get? b = some o → (((h1.push (LO (T.toArray ++ r.toArray) 0)).update S (Obj.mapSeq fun _ => #[Value.ref h1.objs.size])).update S (Obj.mapSeq fun _ => #[Value.ref h1.objs.size])).get? b = some o := fun b o hb e =>
      (Heap.get?_update_other _ _ (Ne.symm hb)).trans ((Heap.get?_update_other _ _ (Ne.symm hb)).trans e)
    refine wpAny_pure ⟨plainId_quiet F.plain_sum_loop _, ih (i + 1) A _ h1.objs.size (T ++ r) 0 _ hh (by omega) hlt (fun b o e => oth b o (Nat.ne_of_lt (Nat.lt_of_lt_of_le (Heap.lt_size e) hS)) (Heap.get?_push_of_some _ (k1 b o e))) ?_ hS4 ?_ (Nat.ne_of_gt hSs) ?_ (by rw [List.length_append]; omega) fun h' t' n' q1 q2 q3 => ?_⟩
    · obtain ⟨oi, e1, e2, e3⟩ := hit1
      exact ⟨oi, oth it oi (Ne.symm hne) (Heap.get?_push_of_some _ e1), e2, e3⟩
    · have e := oth h1.objs.size _ (Nat.ne_of_gt hSs) (Heap.get?_push_size _ rfl : (h1.push (LO (T.toArray ++ r.toArray) 0)).get? h1.objs.size = some _)
      rw [e]
      simp
    · obtain ⟨oi, e1, _, _⟩ := hit1
      exact Nat.ne_of_gt (Heap.lt_size e1)
    · refine hR h' t' n' q1 ?_ (.inr ?_)
      · rw [hfl, ← List.append_assoc]; exact q2
      · rcases q3 with ⟨_, rfl⟩ | q3
        · exact Nat.le_trans hS (Nat.le_of_lt hSs)
        · exact q3
theorem sum_lists {A : Around} {s : Shared} {l p : Addr} {its : List Value} {rows : List (List Value)} {n0 : Nat} {Q : Value → Shared → Prop} (hh : A.handled = none) (hl : s.heap.IsList l its.toArray) (hr : RowsAt s.heap its rows) (hp : s.heap.get? p = some (LO #[] n0)) (hsz : rows.flatten.length ≤ sizeLine)
    (hQ : ∀ (h' : Heap) (t' : Addr) (n' : Nat) (tk : Tok), (∀ b o, s.heap.get? b = some o → h'.get? b = some o) → h'.get? t' = some (LO rows.flatten.toArray n') → ((its.length = 0 ∧ t' = p) ∨ s.heap.objs.size ≤ t') → Q (.ref t') { s with heap := h', toks := tk }) :
    wpAny (model prog w) A (call (.builtin "sum") [.ref l, .ref p]) Q E s := by
  refine call_function_tree F.kind_sum F.plain_sum F.entry_sum (args_sum2 _ _) ?_
  unfold Builtin.«sum»
  simp only [List.length_cons, List.length_nil]
  rw [if_neg (by decide)]
  refine wpAny_bind (wpAny_of_eq (show Builtin.Builtins.bindParams "sum" ["start"] 0 ⟨[.ref p], []⟩ = pure [some (.ref p)] from rfl) ?_)
  refine wpAny_bind (wpAny_pyIter_list hl ?_)
  refine wpAny_bind (wpAny_pure ?_)
  have hp1 : (s.heap.push { cls := .type "list_iterator", data := .fields #[.ref l, .int 0 0] }).get? p = some (LO #[] n0) := Heap.get?_push_of_some _ hp
  have hT : Shared.TypeIs { s with heap := s.heap.push { cls := .type "list_iterator", data := .fields #[.ref l, .int 0 0] } } (.ref p) "list" := ⟨_, hp1, rfl⟩
  simp only [List.forIn_cons, List.forIn_nil]
  refine wpAny_bind (wpAny_bind (wpAny_bind (wpAny_isInstance (T := "list") (b := false) hT F.sub_list_str ?_)))
  simp only [Bool.false_eq_true, if_false]
  refine wpAny_pure (wpAny_bind (wpAny_bind (wpAny_isInstance (T := "list") (b := false) hT F.sub_list_bytes ?_)))
  simp only [Bool.false_eq_true, if_false]
  refine wpAny_pure (wpAny_bind (wpAny_bind (wpAny_isInstance (T := "list") (b := false) hT F.sub_list_bytearray ?_)))
  simp only [Bool.false_eq_true, if_false]
  refine wpAny_pure (wpAny_pure ?_)
  refine wpAny_bind (wpAny_newObj_type ?_)
  have hsz1 : (s.heap.push { cls := .type "list_iterator", data := .fields #[.ref l, .int 0 0] }).objs.size = s.heap.objs.size + 1 := Heap.size_push _ _
  refine wpAny_pure ⟨plainId_quiet F.plain_sum_loop _, sum_lists_loop (l := l) (it := s.heap.objs.size) (h0 := s.heap) (rows := rows) (its := its) hl hr (Nat.le_refl _) (by rw [hsz1]; exact Nat.le_succ _) (by rw [hsz1]; exact Nat.succ_ne_self _) its.length 0 _ _ p [] n0 0 hh (by omega) (Nat.zero_le _)
    (fun b o e => Heap.get?_push_of_some _ (Heap.get?_push_of_some _ e)) ⟨_, Heap.get?_push_of_some _ (Heap.get?_push_size _ rfl), rfl, rfl⟩ (Heap.get?_push_size _ rfl) (Heap.get?_push_of_some _ hp1) (by rw [hsz1]; exact Nat.ne_of_lt (Nat.lt_succ_of_lt (Heap.lt_size hp))) (Nat.ne_of_lt (Heap.lt_size hp)) (by simpa using hsz) fun h' t' n' k1 e k2 => ?_⟩
  exact hQ h' t' n' _ k1 (by simpa using e) k2
end
def rSumL (K : PySem.W.Frag) : List V → Hp → VK → Prop := fun vs H Q => ∃ (a p : Addr) (xs : List V) (rows : List (List V)), vs = [.ref a, .ref p] ∧ SqL K H a xs ∧ xs.length = rows.length ∧ (∀ (i : Nat) (v : V), xs[i]? = some v → ∃ (b : Addr) (r : List V), v = .ref b ∧ rows[i]? = some r ∧ H b = some (.lst r)) ∧
  H p = some (.lst []) ∧ rows.flatten.length ≤ sizeLine ∧ (rows = [] → Q (.ref p) H) ∧ ∀ q, H q = none → Q (.ref q) (upd H q (.lst rows.flatten))
theorem rows_vals {X : Cx} {pins : List (Addr × Obj)} {σ : St} {H : Hp} {s : Shared} (I : Inv X pins σ H s) : ∀ (xs : List V) (its : List Value) (rows : List (List V)), Vals xs its → xs.length = rows.length → (∀ (i : Nat) (v : V), xs[i]? = some v → ∃ (b : Addr) (r : List V), v = .ref b ∧ rows[i]? = some r ∧ H b = some (.lst r)) →
    ∃ rv : List (List Value), RowsAt s.heap its rv ∧ Vals rows.flatten rv.flatten
  | [], its, rows, rv, hl, _ => by
    cases rv
    cases rows with
    | nil => exact ⟨[], ⟨rfl, fun i v e => by simp at e⟩, .nil⟩
    | cons => cases hl
  | x :: xs, its, rows, rv, hl, h => by
    cases rv with
    | cons r0 rr =>
      cases rows with
      | nil => cases hl
      | cons row rows =>
        obtain ⟨b, r, rfl, e1, e2⟩ := h 0 x rfl
        obtain rfl : row = r := by simpa using e1
        obtain ⟨_, its0, n, rv0, _, e3⟩ := I.lstM e2
        obtain ⟨rvs, ⟨q1, q2⟩, q3⟩ := rows_vals I xs _ rows rr (by simpa using hl) fun i v e => by
          obtain ⟨b, r, h1, h2, h3⟩ := h (i + 1) v (by simpa using e)
          exact ⟨b, r, h1, by simpa using h2, h3⟩
        refine ⟨its0 :: rvs, ⟨by simp [q1], fun i v e => ?_⟩, by simp only [List.flatten_cons]; exact rv0.append q3⟩
        cases i with
        | zero =>
          simp at e
          subst e
          exact ⟨b, n, its0, r0, rfl, e3⟩
        | succ i =>
          obtain ⟨a, n', r', h1, h2, h3⟩ := q2 i v (by simpa using e)
          exact ⟨a, n', r', h1, by simpa using h2, h3⟩
section
variable {X : Cx} {W : WX} {pos : Pos}
theorem call_sumL (hc : X.calm = true) : CallR X (.builtin "sum") (rSumL X.K) := by
  intro pins s σ H vs us Q I r h
  obtain ⟨a, p, xs, rows, rfl, hs, hl, hrow, hp, hz, q0, q1⟩ := h
  obtain ⟨u1, u2, rfl, r1, r2⟩ := vals2 r
  cases (show u1 = Value.ref a from r1)
  cases (show u2 = Value.ref p from r2)
  obtain ⟨its, rv, hli, _⟩ := I.list hs
  obtain ⟨rvs, hra, hfl⟩ := rows_vals I xs its rows rv hl hrow
  obtain ⟨_, its0, n0, rv0, _, e0⟩ := I.lstM hp
  cases rv0
  have hlen : rvs.flatten.length = rows.flatten.length := hfl.length.symm
  refine sum_lists (rows := rvs) (I.ok.hd hc) hli.isList hra e0 (by rw [hlen]; exact hz) fun h' t' n' tk k1 e k2 => ?_
  rcases k2 with ⟨z, rfl⟩ | k2
  · have hr0 : rows = [] := by
      have h1 := rv.length
      have h2 : rows.length = 0 := by omega
      exact List.length_eq_zero_iff.mp h2
    exact ⟨.ref t', H, I.kept (t' := tk) k1, rfl, q0 hr0⟩
  · exact ⟨.ref t', upd H t' (.lst rows.flatten), I.laid (t' := tk) k1 k2 ⟨hz, rvs.flatten, n', hfl, e⟩, rfl, q1 t' (I.hok.fresh k2)⟩
/-- all lists -/
def rowsOf : List MV → Option (List (List MV))
  | [] => some []
  | .lst r :: xs => (rowsOf xs).map fun rs => r :: rs
  | _ :: _ => none
def sumF2 : FL := fun _ ds => match ds with
  | [.lst xs, .lst []] => (rowsOf xs).bind fun rs => if rs.flatten.length ≤ 16777216 then some (.lst rs.flatten) else none
  | _ => none
theorem rows_vrs {K : PySem.W.Frag} {F : Fz} {φ : List Addr} {H : Hp} : ∀ {xs : List MV} {rs : List (List MV)} {vs : List V}, rowsOf xs = some rs → VRs K F φ H xs vs →
    ∃ rows : List (List V), vs.length = rows.length ∧ (∀ (i : Nat) (v : V), vs[i]? = some v → ∃ (b : Addr) (r : List V), v = .ref b ∧ rows[i]? = some r ∧ H b = some (.lst r)) ∧ VRs K F φ H rs.flatten rows.flatten
  | [], rs, vs, e, r => by
    cases e
    cases r
    exact ⟨[], rfl, fun i v e => by simp at e, .nil⟩
  | .lst r0 :: xs, rs, _, e, .cons (.lst f h r) rr => by
    unfold rowsOf at e
    cases q : rowsOf xs with
    | none => rw [q] at e; cases e
    | some rs' =>
      rw [q] at e
      cases e
      obtain ⟨rows, h1, h2, h3⟩ := rows_vrs q rr
      refine ⟨_ :: rows, by simp [h1], fun i v e => ?_, by simp only [List.flatten_cons]; exact r.append h3⟩
      cases i with
      | zero => simp at e; subst e; exact ⟨_, _, rfl, rfl, h⟩
      | succ i =>
        obtain ⟨b, r', g1, g2, g3⟩ := h2 i v (by simpa using e)
        exact ⟨b, r', g1, by simpa using g2, g3⟩
  | .non :: _, _, _, e, _ => by cases e
  | .bl _ :: _, _, _, e, _ => by cases e
  | .int _ :: _, _, _, e, _ => by cases e
  | .str _ :: _, _, _, e, _ => by cases e
  | .tup _ :: _, _, _, e, _ => by cases e
  | .ed :: _, _, _, e, _ => by cases e
  | .ref _ :: _, _, _, e, _ => by cases e
  | .ty _ :: _, _, _, e, _ => by cases e
  | .adr _ :: _, _, _, e, _ => by cases e
  | .scr _ :: _, _, _, e, _ => by cases e
theorem cl_sum2 : Cl X.K sumF2 (rSumL X.K) := fun w H ds d vs Q k rs e g => by
  unfold sumF2 at e
  split at e
  · rename_i xs
    cases rs with
    | cons r rr =>
      cases rr with
      | cons r2 rr =>
        cases rr
        cases r2 with
        | lst f2 h2 r2 =>
          cases r2
          cases r with
          | lst f h r =>
            cases q : rowsOf xs with
            | none => rw [q] at e; cases e
            | some rws =>
              rw [q] at e
              change (if rws.flatten.length ≤ 16777216 then some (MV.lst rws.flatten) else none) = some d at e
              split at e
              · rename_i hz
                cases e
                obtain ⟨rows, h1, h3, h4⟩ := rows_vrs q r
                refine ⟨_, _, _, rows, rfl, SqL.of h, h1, h3, h2, by rw [← h4.length, ← size_line]; exact hz, fun e0 => ?_, fun p hp => g (w.add p) _ _ rfl (k.addO hp).1 (k.addO hp).2 (VR.newLst k hp h4)⟩
                subst e0
                have hnil : rws.flatten = [] := List.length_eq_zero_iff.mp h4.length
                rw [hnil] at g
                exact g w H _ rfl Wx.refl k (.lst f2 h2 .nil)
              · cases e
  · cases e
/-- sum of ints, of lists -/
def sumFA : FL := fun h ds => match sumF h ds with
  | some d => some d
  | none => sumF2 h ds
def rSumA (K : PySem.W.Frag) : List V → Hp → VK → Prop := fun vs H Q => rSum K vs H Q ∨ rSumL K vs H Q
theorem call_sumA (hc : X.calm = true) : CallR X (.builtin "sum") (rSumA X.K) := (cr_sum hc).or (call_sumL hc)
theorem cl_sumA : Cl X.K sumFA (rSumA X.K) := fun w H ds d vs Q k rs e g => by
  unfold sumFA at e
  split at e
  · rename_i q
    cases e
    exact .inl (cl_sum w H ds _ vs Q k rs q g)
  · exact .inr (cl_sum2 w H ds d vs Q k rs e g)
end
end Mx
namespace Mx
open PySem L2

def rReprD (K : PySem.W.Frag) : List V → Hp → VK → Prop := fun vs H Q => ∃ (a : Addr) (d : PyData), vs = [.ref a] ∧ Dp K H (.ref a) d ∧ d.showable = true ∧ d.hasDict = false ∧ d.depth ≤ 60 ∧ d.shown.length ≤ sizeLine ∧ Q (.str d.shown) H
section
variable {X : Cx} {W : WX} {pos : Pos}
theorem call_reprD (hg : X.A.guards = some []) (hu : X.A.units + 64 < cLine) : CallR X (.builtin "repr") (rReprD X.K) := by
  intro pins s σ H vs us Q I r h
  obtain ⟨a, d, rfl, hd, h1, h2, h3, h4, q⟩ := h
  rw [Vals.ref1 r]
  obtain ⟨as, hr⟩ := Dp.reads I d (.ref a) (.ref a) hd rfl
  exact repr_of_reads' hr h1 (fun e => by rw [h2] at e; cases e) hg (by omega) (fun _ _ e => e) (fun h' u tk hk => ⟨.str d.shown, H, I.kept (t' := tk) hk, ⟨u, rfl⟩, q⟩) h4
def rReprB : List V → Hp → VK → Prop := fun vs H Q => ∃ b, vs = [.bl b] ∧ Q (.str (if b then "True" else "False")) H
theorem call_reprB : CallR X (.builtin "repr") rReprB := by
  intro pins s σ H vs us Q I r h
  obtain ⟨b, rfl, q⟩ := h
  obtain ⟨u, rfl, r1⟩ := vals1 r
  cases (show u = Value.bool b from r1)
  exact PySem.P.repr_of_bool ⟨.str _, H, I.tok _, ⟨_, rfl⟩, q⟩
mutual
theorem hasDict_of : ∀ (n : Nat) (d : MV), okF n d = true → (toPD d).hasDict = false
  | _, .non, _ => by simp [toPD, PyData.hasDict]
  | _, .bl b, _ => by simp [toPD, PyData.hasDict]
  | _, .int i, _ => by simp [toPD, PyData.hasDict]
  | _, .str x, _ => by simp [toPD, PyData.hasDict]
  | 0, .tup xs, h => by cases h
  | n + 1, .tup xs, h => by simp only [toPD, PyData.hasDict]; exact hasDict_all n xs (List.all_eq_true.mp h)
  | 0, .lst xs, h => by cases h
  | n + 1, .lst xs, h => by simp only [toPD, PyData.hasDict]; exact hasDict_all n xs (List.all_eq_true.mp h)
  | 0, .ed, h => by cases h
  | 0, .ref _, h => by cases h
  | 0, .ty _, h => by cases h
  | 0, .adr _, h => by cases h
  | 0, .scr _, h => by cases h
  | _ + 1, .ed, h => by cases h
  | _ + 1, .ref _, h => by cases h
  | _ + 1, .ty _, h => by cases h
  | _ + 1, .adr _, h => by cases h
  | _ + 1, .scr _, h => by cases h
theorem hasDict_all : ∀ (n : Nat) (xs : List MV), (∀ x ∈ xs, okF n x = true) → PyData.hasDictAll (toPDs xs) = false
  | _, [], _ => by simp [toPDs, PyData.hasDictAll]
  | n, x :: xs, h => by
    simp only [toPDs, PyData.hasDictAll, Bool.or_eq_false_iff]
    exact ⟨hasDict_of n x (h x (by simp)), hasDict_all n xs fun y hy => h y (by simp [hy])⟩
end
def isSeq : MV → Bool
  | .lst _ => true
  | .tup _ => true
  | _ => false
/-- the text of a list or a tuple of data -/
def reprF : FL := fun _ ds => match ds with
  | [d] => if isSeq d && okF 60 d && (toPD d).showable && decide ((toPD d).shown.length ≤ 16777216) then some (.str (toPD d).shown) else none
  | _ => none
theorem cl_repr : Cl X.K reprF (rReprD X.K) := fun w H ds d vs Q k rs e g => by
  unfold reprF at e
  split at e
  · rename_i d0
    split at e
    · rename_i h
      simp only [Bool.and_eq_true, decide_eq_true_eq] at h
      obtain ⟨⟨⟨h0, h1⟩, h2⟩, h3⟩ := h
      cases e
      cases rs with
      | @cons _ v0 _ _ r rr =>
        cases rr
        have hd := r.dp 60 d0 _ h1
        have hv : ∃ a, v0 = V.ref a := by
          cases r with
          | tup f r => exact ⟨_, rfl⟩
          | lst f h r => exact ⟨_, rfl⟩
          | _ => cases h0
        obtain ⟨a, hv⟩ := hv
        subst hv
        exact ⟨a, toPD d0, rfl, hd, h2, hasDict_of 60 d0 h1, (okF_pd 60 d0 h1).2, by rw [sizeLine_eq]; exact h3, g w H _ rfl Wx.refl k (.str _)⟩
    · cases e
  · cases e
def eqOpS : F2 := fun h a b => match a, b with
  | .str x, .str y => some (.bl (decide (x = y)))
  | _, _ => eqOp h a b
def neOpS : F2 := fun h a b => match a, b with
  | .str x, .str y => some (.bl (!decide (x = y)))
  | _, _ => neOp h a b
def rEqA (K : PySem.W.Frag) : R2 := fun x y H Q => rEq x y H Q ∨ rEqD K x y H Q
def rNeA (K : PySem.W.Frag) : R2 := fun x y H Q => rNe x y H Q ∨ rNeD K x y H Q
theorem op_eqA (hu : X.A.units + 64 < cLine) : OpR X (compareOp .Eq) (rEqA X.K) := op_eq.or (op_eqD hu)
theorem op_neA (hu : X.A.units + 64 < cLine) : OpR X (compareOp .NotEq) (rNeA X.K) := op_ne.or (op_neD hu)
theorem dec_strV {x y : Str} : decide (V.str x = V.str y) = decide (x = y) := by
  rw [decide_eq_decide]; exact ⟨fun e => V.str.inj e, fun e => by rw [e]⟩
theorem op2_eqA : Op2 X.K eqOpS (rEqA X.K) := fun w H a b d x y Q k ra rb e g => by
  unfold eqOpS at e
  split at e
  · cases ra
    cases rb
    cases e
    exact .inl ⟨rfl, by rw [dec_strV]; exact g w H _ rfl Wx.refl k (.bl _)⟩
  · exact .inr (op2_eq w H a b d x y Q k ra rb e g)
theorem op2_neA : Op2 X.K neOpS (rNeA X.K) := fun w H a b d x y Q k ra rb e g => by
  unfold neOpS at e
  split at e
  · cases ra
    cases rb
    cases e
    exact .inl ⟨rfl, by rw [dec_strV]; exact g w H _ rfl Wx.refl k (.bl _)⟩
  · exact .inr (op2_ne w H a b d x y Q k ra rb e g)
end
end Mx
namespace Mx
open PySem L2

section
variable {X : Cx} {W : WX} {pos : Pos}
theorem se_tyN {x : Str} {n : String} (hg : Gl X x) (hm : X.mg x = none) (hv : bootBuiltins x = some (.type n)) (hn : x ≠ "__name__" := by decide) (hd : (x == ("__debug__" : Str)) = false := by decide) : SE X W (.Name x pos) (mC (.ty n)) :=
  se_c (v := .ty n) (pe_bltn (v := .ty n) hg hm hv rfl hn hd) fun _ _ _ => .ty _
theorem bt_isinstance : bootBuiltins "isinstance" = some (.builtin "isinstance") := by decide +kernel
theorem bt_int : bootBuiltins "int" = some (.type "int") := by decide +kernel
theorem bt_bool : bootBuiltins "bool" = some (.type "bool") := by decide +kernel
theorem bt_list : bootBuiltins "list" = some (.type "list") := by decide +kernel
theorem bt_tuple : bootBuiltins "tuple" = some (.type "tuple") := by decide +kernel
theorem bt_len : bootBuiltins "len" = some (.builtin "len") := by decide +kernel
theorem bt_sum : bootBuiltins "sum" = some (.builtin "sum") := by decide +kernel
theorem bt_sorted : bootBuiltins "sorted" = some (.builtin "sorted") := by decide +kernel
theorem bt_repr : bootBuiltins "repr" = some (.builtin "repr") := by decide +kernel
theorem u65 {k : Nat} {A : Around} (r : Room k A) : A.units + 65 < cLine := by have := r.un; omega
theorem u70 {k : Nat} {A : Around} (r : Room k A) : A.units + 70 < cLine := by have := r.un; omega
theorem u1 {k : Nat} {A : Around} (r : Room k A) : A.units + 1 < cLine := by have := r.un; omega
def mNeg (m : ME) : ME := fun ms h => rb (m ms h) fun d h1 => match d with
  | .int i => some (.ok (.int (-i)) h1)
  | _ => none
theorem se_neg {e : Expr} {m : ME} (h : SE X W e m) : SE X W (.UnaryOp .USub e pos) (mNeg m) := pe_mono (pe_un un_neg h) fun σ H Q ⟨w, ms, q, k, sr, e, g⟩ => by
  obtain ⟨r1, e1, g1⟩ := aft_bind e g
  refine ⟨w, ms, r1, k, sr, e1, g1.imp fun d w1 H1 x1 k1 ⟨q1, e2, g2⟩ v rv => ?_⟩
  split at e2
  · cases e2
    cases rv
    exact ⟨_, rfl, g2.here k1 _ (.int _)⟩
  · cases e2
def mPar (i j : Nat) (r : MA) : MS := fun ms h => sb ms (r ms h) fun xs h1 => match xs with
  | [x, y] => some (.nx ((ms.set i (some x)).set j (some y)) h1)
  | _ => none
theorem ss_par {tg e : Expr} {i j : Nat} {r : MA} (h : PS X (.Assign [tg] e pos) (tPar i j (TAp X.K W r))) : SS X W (.Assign [tg] e pos) (mPar i j r) := ps_mono h fun D σ H ⟨w, ms, fl, k, sr, e, g⟩ => by
  obtain ⟨r1, e1, g1⟩ := sb_bind e g k sr
  refine ⟨w, ms, r1, k, sr, e1, g1.imp fun xs w1 H1 x1 k1 ⟨q1, e2, g2⟩ vs rs => ?_⟩
  split at e2
  · cases e2
    cases rs with
    | cons r rr =>
      cases rr with
      | cons r' rr =>
        cases rr
        exact ⟨_, _, rfl, g2 _ w1 H1 rfl Wx.refl k1 (((sr.ext k x1).set r).set r')⟩
  · cases e2
/-- {}: an empty dict that stays so -/
theorem se_ed : SE X W (.Dict [] [] pos) (mC .ed) := pe_mono pe_dnewK fun σ H Q ⟨w, ms, q, k, sr, e, g⟩ p hp => by
  cases e
  exact g (w.add p) _ rfl (k.addO hp).1 (k.addO hp).2 _ (.ed (.inr rfl) upd_same)
end
end Mx
namespace Mx
open PySem PySem.Spec PyProof.Rows L2

/-- the call of a def from a known place -/
theorem call_at {P : Program} {w : World} {K : PySem.W.Frag} {mg : Str → Option Value} {base : Heap} {A0 : Around} {callers : List PySem.Env} {x qual : Str} {params : Arguments} {body : List Stmt} {scope : Scope} {f : Addr} {fd : FuncData} {N ps : List Str} {k n p : Nat} {m : MS}
    (F : FunD K x qual params body scope [] [] f fd) (S : FnScope N ps scope) (hp : p = ps.length) (hn : n = N.length) (hpn : p ≤ n) (room : Room (k + 1) A0) {st : Shared} {H : Hp} {given : Args} {us : List Value} {vs : List V} {Q : VK} {E : XK}
    (e0 : Env0 P w K mg base A0 callers st H) (hb : BindsTo st fd given (ps.zip us)) (rel : Vals vs us) (hsp : spF K (runM n p m) vs H Q E)
    (hbody : ∀ cdv : Value, Room k (A0.deeper (envOfC qual scope st.heap.objs.size f cdv)) → Takes (cxOf (L2.CX P w) P w K mg base N qual scope f cdv A0 callers st H E) (WO E) →
      SB (cxOf (L2.CX P w) P w K mg base N qual scope f cdv A0 callers st H E) (WO E) body m) :
    codeAny (model P w) A0 (.call (.ref f) given) (CR (L2.CX P w) callers P w H st Q E) st := by
  have hlen : vs.length = ps.length := (spF_len runM_takes hsp).trans hp
  have kin : K.In st.heap := e0.mod.kin.keeps fun b o e => (e0.bs b o e).1
  have nol : st.heap.NoLimit := e0.mod.nolimit.keeps fun b o e => (e0.bs b o e).1
  obtain ⟨oc, od, dV, kV, doc, pm, an, cdv, ct, osl, rfl, lk, hcd, _, _⟩ := F.ex
  have kinds : ∀ y ∈ ps.zip us, scope.names.lookup y.1 = some .local ∨ (scope.names.lookup y.1 = some .cell ∧ ((cellsFrom (st.heap.objs.size + 1) scope.names []).lookup y.1).isSome = true) := by
    rintro ⟨nm, v⟩ hy
    exact (S.par nm (List.of_mem_zip hy).1).imp id fun q => ⟨q, PySem.W.cellsFrom_some _ _ _ (.inl q)⟩
  refine codeAny_call_function room.depth (kin _ _ lk) rfl S.co S.gen rfl (PySem.W.codeRec_of kin hcd) (hb _ _ _ _ ?_)
  refine wpAny_newFunctionEnv_cells S.kind kinds fun env he s1 inC => ?_
  subst he
  refine ⟨nol.keeps inC.toInCall.keep, codeAny_func ?_⟩
  have I : Inv (cxOf (L2.CX P w) P w K mg base N qual scope f cdv A0 callers st H E) [] (start N vs) H s1 := inv_start S room.hd e0 hlen rel inC
  have B := hbody cdv (room.deeper _) (takes_of rfl rfl rfl rfl)
  refine wpAny_mono (B.run [] s1 (start N vs) H { nx := fun _ H' => Q .non H', rt := Q } I (runM_ok hn hpn hsp)) (fun fl s' hs => ?_) fun _ _ hs => hs
  have back : ∀ {σ' : L2.St} {H' : Hp} {v : V} {u : Value}, Inv (cxOf (L2.CX P w) P w K mg base N qual scope f cdv A0 callers st H E) [] σ' H' s' → RelV v u → Q v H' → CE callers P w H st Q u s' := by
    intro σ' H' v u J rv q
    exact ⟨v, H', J.os, J.bare, J.base, J.hok, rv, q⟩
  match fl, hs with
  | .ret u, ⟨v, _, H', J, rv, q⟩ => exact back J rv q
  | .next, ⟨_, H', J, q⟩ => exact back (v := .non) (u := .none) J rfl q
  | .brk, ⟨_, _, _, q⟩ => exact q.elim
  | .cont, ⟨_, _, _, q⟩ => exact q.elim
/-- nothing of the heap but the script at a is tracked -/
structure Start (P : Program) (w : World) (K : PySem.W.Frag) (st : Shared) (H : Hp) (a : Addr) (ns : List Int) : Prop where
  only : ∀ b, b ≠ a → H b = none
  own : H a = none ∨ (K.lookup a = none ∧ ∃ ob, H a = some (.frz ob (.lst (ns.map V.int))))
  seq : SqL K H a (ns.map V.int)
  ok : HOk P w H st.heap
/-- the law's call, from the promise at every such heap -/
theorem law_at {P : Program} {w : World} {K : PySem.W.Frag} {mg mb : Str → Option Value} {fa a : Addr} {st : Shared} {vs : List Value} {ns : List Int}
    (KX : K.In st.heap) (hns : st.heap.Ns mainGlobals mg) (hb : st.heap.Ns builtinsNs mb) (hbb : ∀ x : Str, x ≠ "__name__" → mb x = bootBuiltins x) (hlim : st.heap.NoLimit) (hg : st.gens = #[])
    (ha : st.heap.get? a = some { cls := .type "list", data := .seq vs.toArray }) (hi : IntsAre vs ns) (hl : ns.length ≤ sizeLine)
    (F : ∀ (base : Heap) (H : Hp), K.In base → base.Ns mainGlobals mg → Start P w K st H a ns → Env0 P w K mg base callerA [] st H →
      codeAny (model P w) callerA (.call (.ref fa) ⟨[.ref a], []⟩) (CR (L2.CX P w) [] P w H st (fun v _ => v = .bl true) (fun _ _ _ => False)) st) :
    codeAny (model P w) callerA (.call (.ref fa) ⟨[.ref a], []⟩) (fun r s' => r = .ok (.ret (.bool true)) ∧ OldK st.heap s'.heap ∧ s'.os = st.os ∧ AllBare s'.gens) st := by
  have rv := vals_ints hi
  have lenV := hi.length
  obtain ⟨H, hS⟩ : ∃ H : Hp, Start P w K st H a ns := by
    cases hk : K.lookup a with
    | some o =>
      have e := KX a o hk
      rw [ha] at e
      cases e
      exact ⟨fun _ => none, fun _ _ => rfl, .inl rfl, .inr ⟨_, vs.toArray, _, hk, rfl, rfl, rfl, by rw [List.size_toArray, lenV]; exact hl, by simpa using rv⟩, fun _ _ z => nomatch z⟩
    | none =>
      let ob : Obj := { cls := .type "list", data := .seq vs.toArray }
      have hit : (fun b : Addr => if b = a then some (HO.frz ob (.lst (ns.map V.int))) else none) a = some (HO.frz ob (.lst (ns.map V.int))) := if_pos rfl
      refine ⟨fun b => if b = a then some (.frz ob (.lst (ns.map V.int))) else none, fun b hne => if_neg hne, .inr ⟨hk, ob, hit⟩, .inl (.inr ⟨ob, hit⟩), fun b u z => ?_⟩
      by_cases hba : b = a
      · subst hba
        have z2 : HO.frz ob (.lst (ns.map V.int)) = u := Option.some.inj (hit.symm.trans z)
        subst z2
        exact ⟨ha, by rw [List.length_map]; exact hl, vs, _, rv, ha⟩
      · have z2 := (if_neg hba).symm.trans z
        cases z2
  have free : ∀ {b : Addr} {o : Obj}, st.heap.get? b = some o → (∀ es ep, o.data = .dict es ep → True) → b ≠ a → (hidT st.heap H).get? b = some o := fun e _ hne => hidT_get e (hS.only _ hne)
  have dictNe : ∀ {b : Addr} {o : Obj} {es : Array DictEntry} {ep : Nat}, st.heap.get? b = some o → o.data = .dict es ep → b ≠ a := by
    rintro b o es ep e d rfl
    rw [ha] at e
    cases e
    cases (show Data.seq vs.toArray _ = Data.dict es ep from d)
  have nsOf : ∀ {b : Addr} {mm : Str → Option Value}, st.heap.Ns b mm → (hidT st.heap H).Ns b mm := by
    rintro b mm ⟨o, es, ep, e, d, r⟩
    exact ⟨o, es, ep, hidT_get e (hS.only _ (dictNe e d)), d, r⟩
  have kin : K.In (hidT st.heap H) := by
    intro b o e
    refine hidT_get (KX b o e) ?_
    by_cases hba : b = a
    · subst hba
      rcases hS.own with z | ⟨z, _⟩
      · exact z
      · rw [z] at e; cases e
    · exact hS.only _ hba
  have modl : Mod K mg (hidT st.heap H) := ⟨kin, nsOf hns, ⟨mb, nsOf hb, hbb⟩, by obtain ⟨mc, h1, h2⟩ := hlim; exact ⟨mc, nsOf h1, h2⟩⟩
  have e0 : Env0 P w K mg (hidT st.heap H) callerA [] st H :=
    { frames := rfl, mod := modl, bs := fun b o e => of_hidT e, bsz := by rw [hidT_size]; exact Nat.le_refl _, funs := trivial, frf := fun b hb => (nomatch (show b ∈ ([] : List Addr) from hb)), hok := hS.ok, bare := .of_eq hg }
  refine codeAny_mono (F _ H kin (nsOf hns) hS e0) fun r s' h => ?_
  match r, h with
  | .error e, h =>
    obtain ⟨_, _, _, _, _, _, _, _, _, _, _, _, z⟩ := h
    exact z.elim
  | .ok (.ret u), ⟨v, H', os, bare, un, hok', r', q⟩ =>
    cases (show v = .bl true from q)
    cases (show u = Value.bool true from r')
    refine ⟨rfl, OldK.of_keep fun b o e => ?_, os, bare⟩
    have none_ : H b = none → s'.heap.get? b = some o := fun z => un.keep b o e z (by intro y; exact (nomatch (show b ∈ ([] : List Addr) from y))) (by simp)
    by_cases hba : b = a
    · subst hba
      rcases hS.own with z | ⟨_, ob, z⟩
      · exact none_ z
      · have t := (hS.ok b _ z).1
        rw [e] at t
        cases t
        exact (hok' b _ (un.frzs b _ _ z)).1
    · exact none_ (hS.only _ hba)
end Mx
namespace Mx
open PySem PySem.Spec PyProof.Rows L2
theorem ints_vrs {K : PySem.W.Frag} {F : Fz} {φ : List Addr} {H : Hp} : ∀ ns : List Int, VRs K F φ H (ns.map MV.int) (ns.map V.int)
  | [] => .nil
  | n :: ns => .cons (.int n) (ints_vrs ns)
/-- at the law's entry -/
theorem start_sp {P : Program} {w : World} {K : PySem.W.Frag} {st : Shared} {H : Hp} {a : Addr} {ns : List Int} {f : FD} {h : Hm} (S : Start P w K st H a ns) (e : f [.scr (ns.map MV.int)] [] = some (.ok (.bl true) h)) :
    spF K f [.ref a] H (fun v _ => v = .bl true) (fun _ _ _ => False) := by
  let w0 : Wd := ⟨fun b => b = a ∧ ∃ o, H a = some o, [], []⟩
  have k0 : Wk K w0 H := by
    refine ⟨fun b hb => ⟨fun hl => ?_, ?_⟩, fun i o z => ?_, fun b hb => ?_, List.nodup_nil, rfl⟩
    · obtain ⟨i, o, z, _⟩ := hl
      simp [w0] at z
    · obtain ⟨rfl, o, z⟩ := hb
      exact ⟨o, z⟩
    · simp [w0] at z
    · simp [w0] at hb
  refine ⟨w0, [.scr (ns.map MV.int)], .ok (.bl true) h, k0, .cons (.scr ?_ (ints_vrs ns)) .nil, e, fun w' H' _ _ _ v rv => by cases rv; rfl⟩
  rcases S.seq with q | q
  · refine .inl ⟨⟨rfl, ?_⟩, q⟩
    rcases q with q | ⟨o, q⟩
    · exact ⟨_, q⟩
    · exact ⟨_, q⟩
  · exact .inr q
end Mx
namespace Mx
open PySem PyProof.Rows

section
variable {P : Program} {w : World}
/-- a question that is answered so, whatever stands around -/
def Says (P : Program) (w : World) (s : Shared) (q : Sem Bool) (b : Bool) : Prop := ∀ (A : Around) (E : Value → Shared → Prop) (Q : Bool → Shared → Prop), Q b s → wpAny (model P w) A q Q E s
theorem Says.pure {s : Shared} {b : Bool} {q : Sem Bool} (e : q = Pure.pure b) : Says P w s q b := fun A E Q h => by rw [e]; exact wpAny_pure h
mutual
theorem class_key : ∀ (k : NestedKey) (v : Value) (n : Nat) (s : Shared), NestedIs s.heap k v → k.depth ≤ n → Says P w s (ofAClassStatement n v) false
  | .none, _, n, s, x, _ => by cases x; exact .pure (by cases n <;> rfl)
  | .num i, _, n, s, x, _ => by cases x <;> exact .pure (by cases n <;> rfl)
  | .text y, _, n, s, x, _ => by cases x; exact .pure (by cases n <;> rfl)
  | .tup ks, _, n, s, x, hn => by
    cases x with
    | @tup a o vs m _ ho hc hd hk =>
      simp only [NestedKey.depth] at hn
      cases n with
      | zero => omega
      | succ n =>
        intro A E Q hq
        have hT : s.TypeIs (.ref a) "tuple" := ⟨o, ho, hc⟩
        have all := class_keys ks _ n s hk (by omega)
        unfold ofAClassStatement
        refine wpAny_bind (wpAny_typeOf hT ?_)
        dsimp only
        have e : (("tuple" : String) == "tuple") = true := by decide
        simp only [e, if_true, Bool.not_true, Bool.false_eq_true, if_false]
        try refine wpAny_bind (wpAny_pure ?_)
        try simp only [Bool.not_true, Bool.false_eq_true, if_false]
        show wpAny _ _ (seqItems? (.ref a) >>= _) _ _ s
        refine wpAny_bind (wpAny_seqItems ho hd ?_)
        dsimp only
        refine wpAny_bind ?_
        show wpAny _ _ (forIn vs _ _) _ _ s
        rw [← Array.forIn_toList]
        refine wpAny_forIn_list _ (fun left r s' => r.1 = none ∧ s' = s ∧ ∀ v ∈ left, Says P w s (ofAClassStatement n v) false) _ ?_ ?_ _ _ ⟨rfl, rfl, all⟩
        · rintro v left r s' ⟨hr, rfl, hall⟩
          refine wpAny_bind (hall v List.mem_cons_self _ _ _ ?_)
          simp only [Bool.false_eq_true, if_false]
          exact wpAny_pure ⟨rfl, rfl, fun u hu => hall u (List.mem_cons_of_mem _ hu)⟩
        · rintro ⟨r1, r2⟩ s' ⟨hr, rfl, _⟩
          simp only at hr
          subst hr
          exact wpAny_pure hq
theorem class_keys : ∀ (ks : List NestedKey) (vs : List Value) (n : Nat) (s : Shared), NestedAll s.heap ks vs → NestedKey.depthAll ks ≤ n → ∀ v ∈ vs, Says P w s (ofAClassStatement n v) false
  | [], _, n, s, x, _, v, hv => by cases x; cases hv
  | k :: ks, _, n, s, x, hn, v, hv => by
    cases x with
    | cons x1 x2 =>
      simp only [NestedKey.depthAll] at hn
      rcases List.mem_cons.mp hv with e | hv
      · rw [e]; exact class_key k _ n s x1 (by omega)
      · exact class_keys ks _ n s x2 (by omega) v hv
end
mutual
/-- no text in it: its hash is the same in every world -/
def byN : NestedKey → Bool
  | .none => true
  | .num _ => true
  | .text _ => false
  | .tup ks => byNs ks
def byNs : List NestedKey → Bool
  | [] => true
  | k :: ks => byN k && byNs ks
end
mutual
theorem hash_key : ∀ (k : NestedKey) (v : Value) (n : Nat) (s : Shared), NestedIs s.heap k v → k.depth ≤ n → byN k = true → Says P w s (hashByValue n v) true
  | .none, _, n, s, x, _, _ => by cases x; exact .pure (by cases n <;> rfl)
  | .num i, _, n, s, x, _, _ => by cases x <;> exact .pure (by cases n <;> rfl)
  | .text y, _, n, s, x, _, h => by simp [byN] at h
  | .tup ks, _, n, s, x, hn, hb => by
    cases x with
    | @tup a o vs m _ ho hc hd hk =>
      simp only [NestedKey.depth] at hn
      simp only [byN] at hb
      cases n with
      | zero => omega
      | succ n =>
        intro A E Q hq
        have hT : s.TypeIs (.ref a) "tuple" := ⟨o, ho, hc⟩
        have all := hash_keys ks _ n s hk (by omega) hb
        unfold hashByValue
        refine wpAny_bind (wpAny_specialOf hT F.slot_tuple_hash.lookup ?_)
        show wpAny _ _ (seqItems? (.ref a) >>= _) _ _ s
        refine wpAny_bind (wpAny_seqItems ho hd ?_)
        refine wpAny_bind ?_
        show wpAny _ _ (forIn vs _ _) _ _ s
        rw [← Array.forIn_toList]
        refine wpAny_forIn_list _ (fun left r s' => r.1 = none ∧ s' = s ∧ ∀ v ∈ left, Says P w s (hashByValue n v) true) _ ?_ ?_ _ _ ⟨rfl, rfl, all⟩
        · rintro v left r s' ⟨hr, rfl, hall⟩
          refine wpAny_bind (hall v List.mem_cons_self _ _ _ ?_)
          simp only [Bool.not_true, Bool.false_eq_true, if_false]
          exact wpAny_pure ⟨rfl, rfl, fun u hu => hall u (List.mem_cons_of_mem _ hu)⟩
        · rintro ⟨r1, r2⟩ s' ⟨hr, rfl, _⟩
          simp only at hr
          subst hr
          exact wpAny_pure hq
theorem hash_keys : ∀ (ks : List NestedKey) (vs : List Value) (n : Nat) (s : Shared), NestedAll s.heap ks vs → NestedKey.depthAll ks ≤ n → byNs ks = true → ∀ v ∈ vs, Says P w s (hashByValue n v) true
  | [], _, n, s, x, _, _, v, hv => by cases x; cases hv
  | k :: ks, _, n, s, x, hn, hb, v, hv => by
    cases x with
    | cons x1 x2 =>
      simp only [NestedKey.depthAll] at hn
      simp only [byNs, Bool.and_eq_true] at hb
      rcases List.mem_cons.mp hv with e | hv
      · rw [e]; exact hash_key k _ n s x1 (by omega) hb.1
      · exact hash_keys ks _ n s x2 (by omega) hb.2 v hv
end
/-- a tuple that may be a member -/
def Mem (h : Heap) (k : NestedKey) (a : Addr) : Prop := NestedIs h k (.ref a) ∧ k.depth ≤ 8 ∧ byN k = true
/-- a search among such tuples shows nothing -/
theorem seen_key {A : Around} {E : Value → Shared → Prop} {s : Shared} {k : NestedKey} {b : Addr} {Q : Bool → Shared → Prop} (hk : Mem s.heap k b) {ys : List Value} (hy : ∀ y ∈ ys, ∃ k' c, y = Value.ref c ∧ Mem s.heap k' c) (h : Q false s) :
    wpAny (model P w) A (searchCouldBeSeen (.ref b) ys) Q E s := by
  unfold searchCouldBeSeen
  refine wpAny_bind ?_
  refine wpAny_forIn_list _ (fun left r s' => r.1 = none ∧ s' = s ∧ ∀ y ∈ left, ∃ k' c, y = Value.ref c ∧ Mem s.heap k' c) _ ?_ ?_ _ _ ⟨rfl, rfl, hy⟩
  · rintro v left r s' ⟨hr, rfl, hall⟩
    obtain ⟨k', c, rfl, hc⟩ := hall v List.mem_cons_self
    have more : ∀ y ∈ left, ∃ k' c, y = Value.ref c ∧ Mem s'.heap k' c := fun u hu => hall u (List.mem_cons_of_mem _ hu)
    dsimp only
    by_cases hv : (b == c || (carriedByValue (.ref b) && carriedByValue (.ref c))) = true
    · exact L2.wp_if_pos hv (wpAny_pure ⟨rfl, rfl, more⟩)
    · refine L2.wp_if_neg hv ?_
      refine wpAny_bind (quiet_key k _ 8 s' hk.1 hk.2.1 _ _ _ ?_)
      simp only [Bool.not_true, Bool.false_eq_true, if_false]
      refine wpAny_bind (quiet_key k' _ 8 s' hc.1 hc.2.1 _ _ _ ?_)
      simp only [Bool.not_true, Bool.false_eq_true, if_false]
      refine wpAny_bind (class_key k _ 8 s' hk.1 hk.2.1 _ _ _ ?_)
      simp only [Bool.false_eq_true, if_false]
      refine wpAny_bind (class_key k' _ 8 s' hc.1 hc.2.1 _ _ _ ?_)
      simp only [Bool.false_eq_true, if_false]
      exact wpAny_pure ⟨rfl, rfl, more⟩
  · rintro ⟨r1, r2⟩ s' ⟨hr, rfl, _⟩
    simp only at hr
    subst hr
    exact wpAny_pure h
abbrev KH (w : World) (k : NestedKey) : Int := k.hash w
/-- the entries of members L -/
def ents (w : World) (L : List (Addr × NestedKey)) : List (Int × Value) := L.map fun p => (KH w p.2, Value.ref p.1)
theorem ents_len (L : List (Addr × NestedKey)) : (ents w L).length = L.length := List.length_map ..
theorem ents_get {L : List (Addr × NestedKey)} {i : Nat} {p : Addr × NestedKey} (h : L[i]? = some p) : (ents w L)[i]? = some (KH w p.2, Value.ref p.1) := by
  unfold ents
  rw [List.getElem?_map, h]; rfl
/-- a set object with the members L (at addresses, with their keys), fewer than 64 -/
structure SetN (w : World) (h : Heap) (a : Addr) (L : List (Addr × NestedKey)) (es : Array (Int × Value)) (ep : Nat) (t : SetTable) : Prop where
  ob : ∃ o, h.get? a = some o ∧ o.ExactSet ∧ o.data = .set es ep t
  ents : es.toList = ents w L
  tab : L2.TabOk t (L.map fun p => KH w p.2)
  nd : (L.map (·.2)).Nodup
  mem : ∀ p ∈ L, Mem h p.2 p.1
  plain : t.plain = true
  led : w.params.followText "set-order" = true ∨ t.led = true
  room : L.length * 5 < t.mask * 3
  few : L.length < 64
section
variable {h : Heap} {a : Addr} {L : List (Addr × NestedKey)} {es : Array (Int × Value)} {ep : Nat} {t : SetTable}
theorem SetN.size (R : SetN w h a L es ep t) : es.size = L.length := by
  rw [← Array.length_toList, R.ents, ents_len]
theorem SetN.get (R : SetN w h a L es ep t) {i : Nat} {p : Addr × NestedKey} (e : L[i]? = some p) : es[i]? = some (KH w p.2, Value.ref p.1) := by
  rw [← Array.getElem?_toList, R.ents]; exact ents_get e
theorem SetN.place (R : SetN w h a L es ep t) : t.place.size = L.length := by
  have := R.tab.sz
  rwa [List.length_map] at this
theorem SetN.fits (R : SetN w h a L es ep t) : t.fits es.size = true := by
  have h1 := R.place
  have h2 := R.size
  have h3 := R.room
  unfold SetTable.fits SetTable.fill
  rw [R.tab.dm, Bool.and_eq_true, beq_iff_eq, decide_eq_true_eq]
  exact ⟨by omega, by show t.place.size + 0 ≤ t.mask; omega⟩
theorem SetN.whole (R : SetN w h a L es ep t) : ¬ t.gaveWay = true := by
  unfold SetTable.gaveWay
  rw [L2.mask_odd R.tab.mok]
  decide
end
theorem Mem.keep {h h' : Heap} {k : NestedKey} {b : Addr} (m : Mem h k b) (hk : ∀ c o, h.get? c = some o → h'.get? c = some o) : Mem h' k b :=
  ⟨NestedIs.at (fun c o _ _ e _ => hk c o e) k _ m.1, m.2⟩
theorem Mem.but {h h' : Heap} {k : NestedKey} {a b : Addr} {o : Obj} {es : Array (Int × Value)} {ep : Nat} {t : SetTable} (m : Mem h k b) (ho : h.get? a = some o) (hd : o.data = .set es ep t) (hs : Heap.SameBut a h h') : Mem h' k b := by
  refine ⟨NestedIs.at (fun c ob vs n e d => ?_) k _ m.1, m.2⟩
  refine (hs.2 c ?_).trans e
  rintro rfl
  rw [ho] at e
  cases e
  rw [hd] at d
  cases d
end
end Mx
namespace Mx
open PySem PyProof.Rows

section
variable {P : Program} {w : World} {A : Around} {E : Value → Shared → Prop} {s : Shared}
variable {a : Addr} {L : List (Addr × NestedKey)} {es : Array (Int × Value)} {ep : Nat} {t : SetTable}
/-- the c-th step of the way of a hash -/
abbrev stp (m : Nat) (h : Int) (c : Nat) : SetTable.Probe := L2.nth m (L2.runAt m (SetTable.bits h % (m + 1)) (SetTable.bits h)) c
theorem stp_clean (m : Nat) (h : Int) (c : Nat) : (stp m h c).dummy = none := by
  have go : ∀ (n : Nat) (p : SetTable.Probe), p.dummy = none → (L2.nth m p n).dummy = none := by
    intro n
    induction n with
    | zero => exact fun p e => e
    | succ n ih => exact fun p e => ih (L2.adv m p) (by unfold L2.adv; split <;> exact e)
  exact go c _ rfl
theorem stp_add (m : Nat) (h : Int) (c q : Nat) : L2.nth m (stp m h c) q = stp m h (c + q) := (L2.nth_add m c _ q).symm
/-- what a search for k finds, from the c-th step on -/
theorem look_from (R : SetN w s.heap a L es ep t) {x : Addr} {k : NestedKey} (hx : Mem s.heap k x) (hu : A.units + 8 < cLine) {K : Nat} (hKf : K < 10 * SetTable.turns t.mask)
    (hK : L2.way t.mask (KH w k) K ∉ t.place.toList) (hKb : ∀ c, c < K → L2.way t.mask (KH w k) c ∈ t.place.toList) {Q : SetFound → Shared → Prop}
    (yes : k ∈ L.map (·.2) → Q (.there none) s) (no : k ∉ L.map (·.2) → Q (.free (L2.way t.mask (KH w k) K) false) s) :
    ∀ (f c : Nat) (stand : Option SetTable.Probe), stand.getD (t.probeStart (KH w k)) = stp t.mask (KH w k) c → c ≤ K → K - c < f →
      (∀ (i : Nat) p, L[i]? = some p → p.2 = k → ∃ c', c ≤ c' ∧ c' < K ∧ t.place.toList[i]? = some (L2.way t.mask (KH w k) c')) →
      wpAny (model P w) A (setSearchFrom a (.ref x) (KH w k) true f stand) Q E s
  | 0, c, stand, _, _, hf, _ => absurd hf (Nat.not_lt_zero _)
  | f + 1, c, stand, hst, hc, hf, hre => by
    obtain ⟨o, ho, hex, hd⟩ := R.ob
    rw [L2.setSearchFrom_succ]
    refine wpAny_bind (wpAny_setState_of ho hd R.fits ?_)
    dsimp only
    refine L2.wp_if_neg R.whole ?_
    try refine wpAny_bind (wpAny_pure ?_)
    have jq : ∀ q, (L2.nth t.mask (stp t.mask (KH w k) c) q).j = L2.way t.mask (KH w k) (c + q) := fun q => congrArg SetTable.Probe.j (stp_add _ _ c q)
    have toK : c + (K - c) = K := by omega
    have spec := L2.go_spec t R.tab.ris R.tab.dm (fun i => (es[i]?.map (·.1)).getD 0) (KH w k) (10 * SetTable.turns t.mask) (K - c) (stp t.mask (KH w k) c) (stp_clean _ _ c) (by omega)
      (fun q hq => by rw [jq]; exact hKb (c + q) (by omega)) (by rw [jq, toK]; exact hK)
    have hashAt : ∀ (i : Nat) p, L[i]? = some p → (es[i]?.map (·.1)).getD 0 = KH w p.2 := fun i p hp => by rw [R.get hp]; rfl
    rcases spec with ⟨q, i, hq, hi, hh, hno, hpr⟩ | ⟨hno, hpr⟩
    · -- an entry of the same hash
      have hpr' : t.probe (fun i => (es[i]?.map (·.1)).getD 0) (KH w k) (stand.getD (t.probeStart (KH w k))) = some (.candidate (L2.way t.mask (KH w k) (c + q)) i (stp t.mask (KH w k) (c + (q + 1)))) := by
        rw [hst, ← jq, ← stp_add]; exact hpr
      rw [hpr']
      dsimp only
      rw [jq] at hi
      have hil : i < L.length := by
        have h1 := (List.getElem?_eq_some_iff.mp hi).1
        rw [Array.length_toList, R.place] at h1; exact h1
      have hp : L[i]? = some L[i] := List.getElem?_eq_getElem hil
      generalize hpe : L[i] = p at hp
      have hmem : p ∈ L := List.mem_of_getElem? hp
      have hpt := R.mem p hmem
      have tail : wpAny (model P w) A (L2.searchRest a (.ref x) (KH w k) true f es t (L2.way t.mask (KH w k) (c + q)) i (stp t.mask (KH w k) (c + (q + 1)))) Q E s := by
        unfold L2.searchRest
        rw [R.get hp]
        dsimp only
        refine wpAny_bind (wpAny_holding (eqAt_key p.2 k A s _ _ hpt.1 hx.1 (by have := hpt.2.1; omega) _ _ _ _ ?_))
        refine wpAny_bind (wpAny_setState_of ho hd R.fits ?_)
        dsimp only
        rw [← NestedKey.decide_eq]
        by_cases hkk : p.2 = k
        · refine L2.wp_if_pos (by simp [hkk]) ?_
          exact wpAny_pure (yes (List.mem_map.mpr ⟨p, hmem, hkk⟩))
        · refine L2.wp_if_neg (by simp [hkk]) ?_
          try refine wpAny_bind (wpAny_pure ?_)
          rw [L2.sameMem]
          dsimp only
          have live : t.slot (L2.way t.mask (KH w k) (c + q)) = .live i := L2.slot_live R.tab.ris hi
          simp only [if_true, live, R.get hp]
          refine wpAny_bind (wpAny_isSame_ref_self (wpAny_bind (wpAny_pure ?_)))
          simp only [if_true]
          refine L2.wp_if_neg (by simp [hkk]) ?_
          refine look_from R hx hu hKf hK hKb yes no f (c + (q + 1)) _ rfl (by omega) (by omega) fun i0 p0 h0 hk0 => ?_
          obtain ⟨c', a1, a2, a3⟩ := hre i0 p0 h0 hk0
          refine ⟨c', ?_, a2, a3⟩
          rcases Nat.lt_trichotomy c' (c + q) with z | z | z
          · refine absurd ((hashAt i0 p0 h0).trans (congrArg (KH w) hk0)) (hno (c' - c) i0 (by omega) ?_)
            rw [jq, show c + (c' - c) = c' by omega]; exact a3
          · rw [z] at a3
            have s0 := L2.slot_live R.tab.ris a3
            rw [live] at s0
            injection s0 with s0
            rw [← s0, hp] at h0
            exact absurd ((congrArg Prod.snd (Option.some.inj h0)).trans hk0) hkk
          · omega
      by_cases hl : t.led = true
      · refine L2.wp_if_neg (by simp [hl]) ?_
        try refine wpAny_bind (wpAny_pure ?_)
        exact tail
      · refine L2.wp_if_pos (by simp [hl]) ?_
        refine wpAny_bind (seen_key hx (fun y hy => ?_) ?_)
        · obtain ⟨e, he, ee⟩ := List.mem_map.mp hy
          have he1 : e ∈ es ∧ e.1 = KH w k := by simpa using he
          have he2 : e ∈ es.toList := by simpa using he1.1
          rw [R.ents] at he2
          obtain ⟨p2, hp2, e2⟩ := List.mem_map.mp he2
          exact ⟨p2.2, p2.1, by rw [← ee, ← e2], R.mem p2 hp2⟩
        · refine L2.wp_if_neg (by decide) ?_
          try refine wpAny_bind (wpAny_pure ?_)
          exact tail
    · -- nothing of it
      have hpr' : t.probe (fun i => (es[i]?.map (·.1)).getD 0) (KH w k) (stand.getD (t.probeStart (KH w k))) = some (.empty (L2.way t.mask (KH w k) K) none) := by
        have e2 : L2.way t.mask (KH w k) K = (L2.nth t.mask (stp t.mask (KH w k) c) (K - c)).j := by rw [jq, toK]
        rw [hst, e2]; exact hpr
      rw [hpr']
      dsimp only
      refine wpAny_pure (no fun hm => ?_)
      obtain ⟨p0, h0, hk0⟩ := List.mem_map.mp hm
      obtain ⟨i0, hi0, e0⟩ := List.getElem_of_mem h0
      have h00 : L[i0]? = some p0 := by rw [List.getElem?_eq_getElem hi0, e0]
      obtain ⟨c', a1, a2, a3⟩ := hre i0 p0 h00 hk0
      refine hno (c' - c) i0 (by omega) ?_ ((hashAt i0 p0 h00).trans (congrArg (KH w) hk0))
      rw [jq, show c + (c' - c) = c' by omega]; exact a3
/-- the search of an adding -/
theorem look_at (R : SetN w s.heap a L es ep t) {x : Addr} {k : NestedKey} (hx : Mem s.heap k x) (hu : A.units + 8 < cLine) {Q : SetFound → Shared → Prop}
    (yes : k ∈ L.map (·.2) → Q (.there none) s)
    (no : ∀ K, k ∉ L.map (·.2) → L2.way t.mask (KH w k) K ∉ t.place.toList → (∀ c, c < K → L2.way t.mask (KH w k) c ∈ t.place.toList) → Q (.free (L2.way t.mask (KH w k) K) false) s) :
    wpAny (model P w) A (setSearch a (.ref x) (KH w k) true) Q E s := by
  have room := R.room
  obtain ⟨K, hKf, hK, hKb⟩ := R.tab.first (by rw [List.length_map]; omega) (KH w k)
  have big : K < 100000 := by
    have : 10 * SetTable.turns t.mask ≤ 1420 := by
      unfold SetTable.turns
      rcases R.tab.mok with e | e | e <;> omega
    omega
  unfold setSearch
  refine look_from R hx hu hKf hK hKb yes (fun hn => no K hn hK hKb) 100000 0 none rfl (Nat.zero_le _) (by omega) fun i p hp hk => ?_
  have hi : (L.map fun p => KH w p.2)[i]? = some (KH w k) := by rw [List.getElem?_map, hp, ← hk]; rfl
  have hil : i < t.place.toList.length := by
    rw [Array.length_toList, R.place]; exact (List.getElem?_eq_some_iff.mp hp).1
  have hj := List.getElem?_eq_getElem hil
  obtain ⟨c, hc, e⟩ := R.tab.before hK hi hj
  exact ⟨c, Nat.zero_le _, hc, by rw [hj, e]⟩
end
end Mx
namespace Mx
open PySem PyProof.Rows

section
variable {P : Program} {w : World} {A : Around} {E : Value → Shared → Prop} {s : Shared}
variable {a : Addr} {L : List (Addr × NestedKey)} {es : Array (Int × Value)} {ep : Nat} {t : SetTable}
theorem ents_put (L : List (Addr × NestedKey)) (p : Nat) (x : Addr) (k : NestedKey) : ents w (L.take p ++ (x, k) :: L.drop p) = (ents w L).take p ++ (KH w k, Value.ref x) :: (ents w L).drop p := by
  unfold ents
  rw [List.map_append, List.map_cons, List.map_take, List.map_drop]
theorem take_all {α : Type} (L : List α) : ∀ n, n ≤ L.length → (List.range n).filterMap (fun i => L[i]?) = L.take n
  | 0, _ => rfl
  | n + 1, hn => by
    have e := List.getElem?_eq_getElem (show n < L.length from hn)
    rw [List.range_succ, List.filterMap_append, take_all L n (Nat.le_of_succ_le hn), List.take_succ, e, List.filterMap_cons_some e]
    rfl
/-- entries in a new order -/
theorem ents_order {es : Array (Int × Value)} {order : Array Nat} (hr : es.toList = ents w L) (hp : order.toList.Perm (List.range L.length)) :
    ∃ L2, (order.filterMap (es[·]?)).toList = ents w L2 ∧ L2.Perm L ∧ (L2.map fun p => KH w p.2) = order.toList.map fun i => (es.map (·.1)).getD i 0 := by
  have at_ : ∀ i (h : i < L.length), es[i]? = some (KH w (L[i]).2, Value.ref (L[i]).1) := fun i h => by
    rw [← Array.getElem?_toList, hr]
    exact ents_get (List.getElem?_eq_getElem h)
  have go : ∀ l : List Nat, (∀ i ∈ l, i < L.length) → l.filterMap (fun i => es[i]?) = ents w (l.filterMap fun i => L[i]?) ∧ ((l.filterMap fun i => L[i]?).map fun p => KH w p.2) = l.map fun i => (es.map (·.1)).getD i 0 := by
    intro l
    induction l with
    | nil => exact fun _ => ⟨rfl, rfl⟩
    | cons i l ih =>
      intro hl
      have hi := hl i List.mem_cons_self
      obtain ⟨e1, e2⟩ := ih fun j hj => hl j (List.mem_cons_of_mem _ hj)
      have e5 : (es.map (·.1))[i]? = some (KH w (L[i]).2) := by rw [Array.getElem?_map, at_ i hi]; rfl
      rw [List.filterMap_cons_some (at_ i hi), List.filterMap_cons_some (List.getElem?_eq_getElem hi), e1, List.map_cons, List.map_cons, e2]
      exact ⟨rfl, by simp [Array.getD_eq_getD_getElem?, e5]⟩
  obtain ⟨e1, e2⟩ := go order.toList fun i hi => List.mem_range.mp (hp.mem_iff.mp hi)
  refine ⟨_, by first | (rw [Array.toList_filterMap]; exact e1) | simpa using e1, ?_, e2⟩
  have h1 := hp.filterMap fun i => L[i]?
  rwa [take_all L L.length (Nat.le_refl _), List.take_length] at h1
/-- what a table that is to be laid anew is -/
structure Fullish (w : World) (h : Heap) (a : Addr) (L : List (Addr × NestedKey)) (es : Array (Int × Value)) (ep : Nat) (t : SetTable) : Prop where
  ob : ∃ o, h.get? a = some o ∧ o.ExactSet ∧ o.data = .set es ep t
  ents : es.toList = ents w L
  place : t.place.size = L.length
  dm : t.dummies = #[]
  fit : L.length ≤ t.mask
  nd : (L.map (·.2)).Nodup
  mem : ∀ p ∈ L, Mem h p.2 p.1
  plain : t.plain = true
  led : w.params.followText "set-order" = true ∨ t.led = true
  few : L.length < 64
theorem relay_nested (R : Fullish w s.heap a L es ep t) {wanted M : Nat} (hw : SetTable.sizeAbove wanted - 1 = M) (hM : L2.MaskOk M) (hw2 : SetTable.sizeAbove wanted ≤ 128) (hn : L.length * 5 < M * 3) {Q : Unit → Shared → Prop}
    (hQ : ∀ h' L' es' ep' t', Heap.SameBut a s.heap h' → SetN w h' a L' es' ep' t' → L'.Perm L → Q () { s with heap := h' }) : wpAny (model P w) A (setRelay a wanted) Q E s := by
  obtain ⟨o, ho, hex, hd⟩ := R.ob
  have hsl : es.size = L.length := by rw [← Array.length_toList, R.ents, ents_len]
  have hf := R.fit
  have few := R.few
  have hfits : t.fits es.size = true := by
    unfold SetTable.fits SetTable.fill
    rw [R.dm, Bool.and_eq_true, beq_iff_eq, decide_eq_true_eq, R.place, hsl]
    exact ⟨rfl, hf⟩
  obtain ⟨t', order, e, hp, T, em, el, ep', ed⟩ := L2.relaid_ok t (hs := es.map (·.1)) (wanted := wanted) hw hM (by rw [Array.size_map, hsl]; omega)
  rw [Array.size_map, hsl] at hp
  obtain ⟨Ln, r1, r2, r3⟩ := ents_order R.ents hp
  rw [← r3] at T
  have hs2 : (order.filterMap (es[·]?)).size = es.size := by rw [← Array.length_toList, r1, ents_len, r2.length_eq, hsl]
  rw [L2.setRelay_eq]
  refine wpAny_bind (wpAny_setState_of ho hd hfits ?_)
  dsimp only
  refine L2.wp_if_neg (by rw [sizeLine_eq]; omega) ?_
  try refine wpAny_bind (wpAny_pure ?_)
  rw [e]
  dsimp only
  refine wpAny_bind ?_
  refine L2.wp_if_neg (by rw [hs2]; simp) ?_
  try refine wpAny_bind (wpAny_pure ?_)
  refine wpAny_pure ?_
  dsimp only
  refine wpAny_storeSet_of ho hd ?_ (by rw [hs2, hsl, sizeLine_eq]; omega)
  have sb : Heap.SameBut a s.heap (s.heap.update a (Obj.putSet (order.filterMap (es[·]?)) t')) := Heap.SameBut.update ..
  refine hQ _ Ln (order.filterMap (es[·]?)) (ep + 1) t' sb ?_ r2
  exact {
    ob := ⟨_, L2.store_at ho hd, ⟨hex.1, hex.2.1, hex.2.2⟩, rfl⟩
    ents := r1
    tab := T
    nd := (r2.map (·.2)).nodup_iff.mpr R.nd
    mem := fun p hpm => (R.mem p (r2.mem_iff.mp hpm)).but ho hd sb
    plain := by rw [ep']; exact R.plain
    led := by rw [el]; exact R.led
    room := by rw [r2.length_eq, em]; exact hn
    few := by rw [r2.length_eq]; exact few }
/-- adding one -/
theorem add_nested (R : SetN w s.heap a L es ep t) {x : Addr} {k : NestedKey} (hx : Mem s.heap k x) (hu : A.units + 8 < cLine) (hfew : L.length + 1 < 64) {Q : Bool → Shared → Prop}
    (hQ : ∀ b h' L' es' ep' t', Heap.SameBut a s.heap h' → SetN w h' a L' es' ep' t' → (k ∈ L.map (·.2) → L' = L) → (k ∉ L.map (·.2) → L'.Perm ((x, k) :: L)) → Q b { s with heap := h' }) :
    wpAny (model P w) A (setAddHashed a (.ref x) (KH w k)) Q E s := by
  obtain ⟨o, ho, hex, hd⟩ := R.ob
  have hsl := R.size
  have room := R.room
  unfold setAddHashed
  refine wpAny_holding ?_
  rw [show (100000 : Nat) = 99999 + 1 from rfl, L2.setAddHashedIn_succ]
  refine wpAny_bind (wpAny_setState_of ho hd R.fits ?_)
  dsimp only
  refine L2.wp_if_neg (by simp [byScan, Value.scannable]) ?_
  try refine wpAny_bind (wpAny_pure ?_)
  refine wpAny_bind (look_at R hx hu (fun hm => ?_) fun K hm hK hb => ?_)
  · dsimp only
    exact wpAny_pure (hQ false s.heap L es ep t (Heap.SameBut.refl a s.heap) R (fun _ => rfl) fun z => absurd hm z)
  · dsimp only
    refine wpAny_bind (wpAny_setState_of ho hd R.fits ?_)
    dsimp only
    obtain ⟨q1, q2, q3, q4, q5, q6, q7, q8, q9⟩ := R.tab.put hK hb
    have pl : (t.put (L2.way t.mask (KH w k) K)).1.plain = true := by rw [q6]; exact R.plain
    generalize hpt : t.put (L2.way t.mask (KH w k) K) = pt at q1 q3 q4 q5 q6 q7 q8 q9 pl ⊢
    obtain ⟨t1, p⟩ := pt
    dsimp only at q1 q3 q4 q5 q6 q7 q8 q9 pl ⊢
    subst q1
    have hashed := hash_key (P := P) (w := w) k _ 8 s hx.1 hx.2.1 hx.2.2
    first
      | (refine wpAny_bind ?_; refine L2.wp_if_pos pl ?_; refine hashed A E _ ?_)
      | refine L2.wp_if_pos pl (wpAny_bind (hashed A E _ ?_))
    simp only [if_true]
    have hin : (SetTable.insertAt es (SetTable.below t.place (L2.way t.mask (KH w k) K)) (KH w k, Value.ref x)).toList = ents w (L.take (SetTable.below t.place (L2.way t.mask (KH w k) K)) ++ (x, k) :: L.drop (SetTable.below t.place (L2.way t.mask (KH w k) K))) := by
      rw [SetTable.toList_insertAt, ents_put, R.ents]
    generalize hpp : SetTable.below t.place (L2.way t.mask (KH w k) K) = p at q2 q3 hin ⊢
    have pm := L2.put_perm L p (x, k)
    have hlen : (L.take p ++ (x, k) :: L.drop p).length = L.length + 1 := pm.length_eq
    have hhs : (L.take p ++ (x, k) :: L.drop p).map (fun p => KH w p.2) = (L.map fun p => KH w p.2).take p ++ KH w k :: (L.map fun p => KH w p.2).drop p := by
      rw [List.map_append, List.map_cons, List.map_take, List.map_drop]
    rw [← hhs] at q3
    have nd1 : ((L.take p ++ (x, k) :: L.drop p).map (·.2)).Nodup := by
      refine (pm.map (·.2)).nodup_iff.mpr ?_
      exact List.nodup_cons.mpr ⟨hm, R.nd⟩
    have hes : (SetTable.insertAt es p (KH w k, Value.ref x)).size = L.length + 1 := by
      rw [← Array.length_toList, hin, ents_len, hlen]
    generalize SetTable.insertAt es p (KH w k, Value.ref x) = es1 at hin hes ⊢
    generalize L.take p ++ (x, k) :: L.drop p = L1 at pm hlen q3 nd1 hin
    refine wpAny_bind (wpAny_storeSet_of ho hd ?_ (by rw [hes, sizeLine_eq]; omega))
    have sb : Heap.SameBut a s.heap (s.heap.update a (Obj.putSet es1 t1)) := Heap.SameBut.update ..
    have ho1 := L2.store_at (es' := es1) (t' := t1) ho hd
    generalize s.heap.update a (Obj.putSet es1 t1) = h1 at sb ho1 ⊢
    have mem1 : ∀ p ∈ L1, Mem h1 p.2 p.1 := fun p hp => by
      rcases List.mem_cons.mp (pm.mem_iff.mp hp) with e | hp
      · rw [e]; exact hx.but ho hd sb
      · exact (R.mem p hp).but ho hd sb
    have ld1 : w.params.followText "set-order" = true ∨ t1.led = true := by rw [q5]; exact R.led
    have exact1 : o.ExactSet := hex
    by_cases hf : t1.tooFull = true
    · first
        | (refine wpAny_bind ?_; refine L2.wp_if_pos (by simp [hf]) ?_)
        | (refine L2.wp_if_pos (by simp [hf]) ?_; refine wpAny_bind ?_)
      have hfull : (L.length + 1) * 5 ≥ t1.mask * 3 := by
        have h := hf
        unfold SetTable.tooFull at h
        rwa [decide_eq_true_eq, q9, List.length_map] at h
      rw [hsl]
      have hsz1 : t1.place.size = L1.length := by
        have h := q3.sz
        rwa [List.length_map] at h
      have two : (t.mask = 7 ∧ L.length = 4) ∨ (t.mask = 31 ∧ L.length = 18) := by
        rcases R.tab.mok with e | e | e <;> rw [q4, e] at hfull <;> rw [e] at room
        · exact .inl ⟨e, by omega⟩
        · exact .inr ⟨e, by omega⟩
        · omega
      have F1 : Fullish w h1 a L1 es1 (ep + 1) t1 := ⟨⟨_, ho1, ⟨hex.1, hex.2.1, hex.2.2⟩, rfl⟩, hin, hsz1, q3.dm, by rw [hlen, q4]; rcases two with ⟨e, e2⟩ | ⟨e, e2⟩ <;> omega, nd1, mem1, pl, ld1, by rw [hlen]; exact hfew⟩
      have go : ∀ M, SetTable.sizeAbove (SetTable.grown (L.length + 1)) - 1 = M → L2.MaskOk M → SetTable.sizeAbove (SetTable.grown (L.length + 1)) ≤ 128 → (L.length + 1) * 5 < M * 3 →
          wpAny (model P w) A (setRelay a (SetTable.grown (L.length + 1))) (fun _ s' => wpAny (model P w) A (pure true) Q E s') E { s with heap := h1 } := fun M g1 g2 g3 g4 =>
        relay_nested (s := { s with heap := h1 }) F1 g1 g2 g3 (by rw [hlen]; exact g4) fun h2 Ln es2 ep2 t2 sb2 R2 pm2 =>
          wpAny_pure (hQ true h2 Ln es2 ep2 t2 (sb.trans sb2) R2 (fun z => absurd z hm) fun _ => pm2.trans pm)
      rcases two with ⟨_, e2⟩ | ⟨_, e2⟩
      · exact go 31 (by rw [e2, L2.size_20]) (.inr (.inl rfl)) (by rw [e2, L2.size_20]; decide) (by omega)
      · exact go 127 (by rw [e2, L2.size_76]) (.inr (.inr rfl)) (by rw [e2, L2.size_76]; decide) (by omega)
    · first
        | refine L2.wp_if_neg (by simp [hf]) ?_
        | (refine wpAny_bind ?_; refine L2.wp_if_neg (by simp [hf]) ?_; refine wpAny_pure ?_)
      refine wpAny_pure (hQ true h1 L1 es1 (ep + 1) t1 sb ⟨⟨_, ho1, ⟨hex.1, hex.2.1, hex.2.2⟩, rfl⟩, hin, q3, nd1, mem1, pl, ld1, ?_, by rw [hlen]; exact hfew⟩ (fun z => absurd z hm) fun _ => pm)
      have h := hf
      unfold SetTable.tooFull at h
      rw [decide_eq_true_eq, q9, List.length_map] at h
      omega
end
end Mx
namespace Mx
open PySem PyProof.Rows

/-- the set has what came so far -/
structure Has (ks : List (Addr × NestedKey)) (i : Nat) (L : List (Addr × NestedKey)) : Prop where
  old : ∀ p ∈ L, p ∈ ks.take i
  key : ∀ p ∈ ks.take i, p.2 ∈ L.map (·.2)
  num : L.length ≤ i
section
variable {ks L L' : List (Addr × NestedKey)} {i : Nat} {x : Addr × NestedKey}
theorem Has.none (ks : List (Addr × NestedKey)) : Has ks 0 [] := ⟨by simp, by simp, Nat.le_refl 0⟩
theorem take_one (h : ks[i]? = some x) : ks.take (i + 1) = ks.take i ++ [x] := by rw [List.take_succ, h]; rfl
theorem Has.again (g : Has ks i L) (h : ks[i]? = some x) (hm : x.2 ∈ L.map (·.2)) : Has ks (i + 1) L where
  old p hp := by rw [take_one h]; exact List.mem_append_left _ (g.old p hp)
  key p hp := by
    rw [take_one h, List.mem_append, List.mem_singleton] at hp
    rcases hp with hp | rfl
    · exact g.key p hp
    · exact hm
  num := Nat.le_succ_of_le g.num
theorem Has.one (g : Has ks i L) (h : ks[i]? = some x) (pm : L'.Perm (x :: L)) : Has ks (i + 1) L' where
  old p hp := by
    rw [take_one h, List.mem_append, List.mem_singleton]
    rcases List.mem_cons.mp (pm.mem_iff.mp hp) with e | hp
    · exact .inr e
    · exact .inl (g.old p hp)
  key p hp := by
    rw [(pm.map (·.2)).mem_iff, List.map_cons]
    rw [take_one h, List.mem_append, List.mem_singleton] at hp
    rcases hp with hp | rfl
    · exact List.mem_cons_of_mem _ (g.key p hp)
    · exact List.mem_cons_self
  num := by rw [pm.length_eq]; exact Nat.succ_le_succ g.num
end
section
variable {P : Program} {w : World} {A : Around} {E : Value → Shared → Prop} {s : Shared}
theorem SetN.keep {h h' : Heap} {a : Addr} {L : List (Addr × NestedKey)} {es : Array (Int × Value)} {ep : Nat} {t : SetTable} (R : SetN w h a L es ep t) (ha : ∀ o, h.get? a = some o → h'.get? a = some o) (hm : ∀ p ∈ L, Mem h' p.2 p.1) : SetN w h' a L es ep t := by
  obtain ⟨o, ho, r⟩ := R.ob
  exact { R with ob := ⟨o, ha o ho, r⟩, mem := hm }
/-- the object of set() -/
abbrev freshSet (w : World) : Obj := { cls := .type "set", dict := none, data := .set #[] 0 (.fresh 0 0 (!w.params.followText "set-order")) }
theorem SetN.fresh {h : Heap} {a : Addr} (ho : h.get? a = some (freshSet w)) : SetN w h a [] #[] 0 (.fresh 0 0 (!w.params.followText "set-order")) where
  ob := ⟨_, ho, ⟨rfl, rfl, rfl⟩, rfl⟩
  ents := rfl
  tab := ⟨List.Pairwise.nil, rfl, rfl, .inl rfl, fun x hx => (by cases hx), fun i h j hi => (by simp at hi)⟩
  nd := List.nodup_nil
  mem := by simp
  plain := rfl
  led := by
    show _ ∨ (!w.params.followText "set-order") = true
    cases w.params.followText "set-order" <;> simp
  room := by show 0 * 5 < 7 * 3; decide
  few := by show 0 < 64; decide
/-- the loop of set.update -/
theorem loop_nested {I : Addr} {fp wr : List Addr} {G : Array GenState → Array GenState → Prop} {n : Nat} {Pv : Nat → Value → Prop} {St : Nat → Shared → Prop} {R : Result → Shared → Prop}
    (W : WalksS P w A.in1 I fp wr G n Pv St) (S : Addr) (hSf : S ∉ fp) (ks : List (Addr × NestedKey)) (hn : n = ks.length) (hfew : ks.length < 64) (hval : ∀ i v, Pv i v → ∃ p, ks[i]? = some p ∧ v = .ref p.1)
    (h0 : Heap) (hk : ∀ p ∈ ks, Mem h0 p.2 p.1) (hS0 : h0.get? S = none) (hw0 : ∀ b ∈ wr, h0.get? b = none) (hu : A.in1.units + 8 < cLine) :
    ∀ (k i : Nat) (s : Shared), n - i = k → i ≤ n → St i s → (∀ b o, h0.get? b = some o → s.heap.get? b = some o) → (∃ L es ep t, SetN w s.heap S L es ep t ∧ Has ks i L) →
      (∀ s' L es ep t, Moved (S :: wr) G s s' → SetN w s'.heap S L es ep t → Has ks n L → (∀ b o, h0.get? b = some o → s'.heap.get? b = some o) → R (.ok (.ret .none)) s') →
      codeAny (model P w) A (.builtin "set.update.loop" ⟨[.ref S, .ref I], []⟩) R s := by
  have nowr : S ∉ wr := fun h => hSf (W.sub _ h)
  have stays : ∀ {s s' : Shared}, Moved wr G s s' → (∀ b o, h0.get? b = some o → s.heap.get? b = some o) → ∀ b o, h0.get? b = some o → s'.heap.get? b = some o := fun hm kp b o e =>
    hm.heap b o (fun hb => by rw [hw0 b hb] at e; cases e) (kp b o e)
  intro k
  induction k with
  | zero =>
    intro i s hk' hi hst kp ⟨L, es, ep, t, hS, g⟩ hR
    obtain rfl : i = n := by omega
    refine codeAny_builtin F.entry_set_update_loop ?_
    rw [Around.under_plainId F.plain_set_update_loop _]
    show wpAny _ A.in1 (pyNext (.ref I) >>= _) _ _ s
    refine wpAny_bind (W.done s _ _ hst fun s' hm => ?_)
    show wpAny _ A.in1 (ret Value.none) _ _ s'
    have kp' := stays hm kp
    refine wpAny_pure (hR s' L es ep t (hm.mono fun b hb => List.mem_cons_of_mem _ hb) (hS.keep (fun o e => hm.heap S o nowr e) fun p hp => (hk p (List.mem_of_mem_take (g.old p hp))).keep kp') g kp')
  | succ k ih =>
    intro i s hk' hi hst kp ⟨L, es, ep, t, hS, g⟩ hR
    have hlt : i < n := by omega
    refine codeAny_builtin F.entry_set_update_loop ?_
    rw [Around.under_plainId F.plain_set_update_loop _]
    show wpAny _ A.in1 (pyNext (.ref I) >>= _) _ _ s
    refine wpAny_bind (W.item i s _ _ hlt hst fun v s' hP hst' hm => ?_)
    obtain ⟨p, hp, rfl⟩ := hval i v hP
    have kp' := stays hm kp
    have hS' : SetN w s'.heap S L es ep t := hS.keep (fun o e => hm.heap S o nowr e) fun q hq => (hk q (List.mem_of_mem_take (g.old q hq))).keep kp'
    have hx : Mem s'.heap p.2 p.1 := (hk p (List.mem_of_getElem? hp)).keep kp'
    show wpAny _ A.in1 (holding [Value.ref p.1] (setAdd S (.ref p.1)) >>= _) _ _ s'
    refine wpAny_bind (wpAny_holding ?_)
    unfold setAdd
    refine wpAny_holding ?_
    refine wpAny_bind (pyHash_key p.2 _ _ _ _ hx.1 (by have := hx.2.1; omega) ?_)
    refine add_nested (s := { s' with toks := s'.toks + p.2.draws }) hS' hx hu (by have := g.num; omega) fun b h' L' es' ep' t' sb hS2 c1 c2 => ?_
    have g' : Has ks (i + 1) L' := by
      by_cases c : p.2 ∈ L.map (·.2)
      · rw [c1 c]; exact g.again hp c
      · exact g.one hp (c2 c)
    have kp2 : ∀ b o, h0.get? b = some o → h'.get? b = some o := fun b o e => (sb.2 b (fun z => by rw [z, hS0] at e; cases e)).trans (kp' b o e)
    refine wpAny_pure ⟨plainId_quiet F.plain_set_update_loop _, ih (i + 1) _ (by omega) hlt (W.frame _ s' _ _ hst' (Nat.le_add_right _ _) fun b hb o e => ?_) kp2 ⟨L', es', ep', t', hS2, g'⟩ fun s2 L2 es2 ep2 t2 hm2 hS3 g3 kp3 => ?_⟩
    · exact (sb.2 b fun h => hSf (h ▸ hb)).trans e
    · refine hR s2 L2 es2 ep2 t2 (Moved.trans W.gtrans ((hm.mono fun b hb => List.mem_cons_of_mem _ hb).then_heap (Nat.le_add_right _ _) fun b o hb e => ?_) hm2) hS3 g3 kp3
      exact (sb.2 b fun h => hb (h ▸ List.mem_cons_self)).trans e
/-- set(x) of a tuple -/
theorem set_of_tuple {l : Addr} {items : Array Value} (ks : List (Addr × NestedKey)) {Q : Value → Shared → Prop} (hh : A.handled = none) (hl : s.heap.IsTuple l items) (hit : items.toList = ks.map fun p => Value.ref p.1)
    (hk : ∀ p ∈ ks, Mem s.heap p.2 p.1) (hfew : ks.length < 64) (hu : A.units + 12 < cLine)
    (h : ∀ (h' : Heap) (tk : Nat) L es ep t, SetN w h' s.heap.objs.size L es ep t → Has ks ks.length L → (∀ b o, s.heap.get? b = some o → h'.get? b = some o) → Q (.ref s.heap.objs.size) { s with heap := h', toks := tk }) :
    wpAny (model P w) A (call (.type "set") [.ref l]) Q E s := by
  have hisz : items.size = ks.length := by rw [← Array.length_toList, hit, List.length_map]
  obtain ⟨c, tl, hmro⟩ := F.called_set.mro
  have hmade := F.called_set.made
  have hsub := F.called_set.sub
  refine wpAny_call (codeAny_of_tree ?_)
  show wpAny _ _ (callAny (.type "set") _) _ _ _
  refine wpAny_pure ⟨Code.quiet_builtin _ (by decide +kernel), codeAny_builtin F.entry_type_call ?_⟩
  rw [Around.under_plain (weight_type_call_type "set" [.ref l] []) rfl]
  have h1 := F.called_set.notType
  have h2 := F.called_set.canCreate
  have hct := F.typeCall_set_1 (.ref l)
  repeat (any_goals (first | assumption | wp_step))

  refine codeAny_mono (L2.code_set_led1 (.ref l) (E := E) (Q₁ := fun obj s₁ => obj = .ref s.heap.objs.size ∧ s₁ = { s with heap := s.heap.push (freshSet w) }) ⟨rfl, rfl⟩) fun r s₁ hr => ?_
  cases r with
  | error e => exact hr
  | ok fl =>
    cases fl with
    | ret obj =>
      obtain ⟨rfl, rfl⟩ := hr
      have hS : (s.heap.push (freshSet w)).get? s.heap.objs.size = some (freshSet w) := Heap.get?_push_size _ rfl
      have hT : Shared.TypeIs { s with heap := s.heap.push (freshSet w) } (.ref s.heap.objs.size) "set" := ⟨_, hS, rfl⟩
      have hli := F.called_set.init.lookup
      have hbi := F.called_set.init.bind (.ref s.heap.objs.size)
      repeat (any_goals (first | assumption | wp_step))

      refine codeAny_mono (codeAny_call_builtin (R := wants (fun r s₂ => r = .none ∧ ∃ h' tk L es ep t, s₂ = { s with heap := h', toks := tk } ∧ SetN w h' s.heap.objs.size L es ep t ∧ Has ks ks.length L ∧
          (∀ b o, s.heap.get? b = some o → h'.get? b = some o)) E) F.called_set.init.plain F.entry_set_init (check_set_init_1 hT ?_)) fun r₂ s₂ hr₂ => ?_
      · obtain ⟨ol, hol, hcl, nl, hdl⟩ := hl
        obtain ⟨ocls, odict, odata, oslots⟩ := ol
        simp only at hcl hdl
        subst hcl; subst hdl
        have hol' : (s.heap.push (freshSet w)).get? l = some { cls := .type "tuple", dict := odict, data := .seq items nl, slots := oslots } := Heap.get?_push_of_some _ hol
        have hsls := F.sub_tuple_set
        have hslf := F.sub_tuple_frozenset
        have hne : (Value.type "tuple" == Value.type "dict") = false := by decide
        have hl1 : (s.heap.push (freshSet w)).IsTuple l items := ⟨_, hol', rfl, nl, rfl⟩
        unfold Builtin.«set.__init__» noKeywords Builtin.Frozenset.updateFrom
        generalize hPI : pyIter = PI
        wp_walk
        subst hPI

        refine wpAny_pyIter_tuple hl1 ?_
        refine wpAny_bind (wpAny_runValue ?_)
        have hlS : l < s.heap.objs.size := Heap.lt_size hol
        have hh3 : A.in1.in1.in1.handled = none := by simp [hh]
        have hneI : l ≠ (s.heap.push (freshSet w)).objs.size := by rw [Heap.size_push]; exact Nat.ne_of_lt (Nat.lt_succ_of_lt hlS)
        have hSf : s.heap.objs.size ∉ [(s.heap.push (freshSet w)).objs.size, l] := by
          rw [Heap.size_push]; simp only [List.mem_cons, List.mem_singleton, List.not_mem_nil, or_false, not_or]; exact ⟨Nat.ne_of_lt (Nat.lt_succ_self _), Nat.ne_of_gt hlS⟩
        have hval : ∀ (i : Nat) (v : Value), items[i]? = some v → ∃ p, ks[i]? = some p ∧ v = .ref p.1 := fun i v hv => by
          rw [← Array.getElem?_toList, hit, List.getElem?_map] at hv
          obtain ⟨p, hq, e⟩ := Option.map_eq_some_iff.mp hv
          exact ⟨p, hq, e.symm⟩
        have none_of : ∀ b, s.heap.objs.size ≤ b → s.heap.get? b = none := fun b hb => by
          cases q : s.heap.get? b with
          | none => rfl
          | some o => exact absurd (Heap.lt_size q) (Nat.not_lt.mpr hb)
        refine loop_nested ((Walks.tuple hh3 _ l hneI items).toS) s.heap.objs.size hSf ks hisz hfew hval s.heap hk (none_of _ (Nat.le_refl _)) (fun b hb => none_of b (by
            rw [List.mem_singleton.mp hb, Heap.size_push]; exact Nat.le_succ _)) (by simp only [Around.in1_units] at hu ⊢; omega) (items.size - 0) 0 _ (by omega) (Nat.zero_le _)
          ⟨⟨_, Heap.get?_push_size _ rfl, rfl, rfl⟩, (hl1.push _)⟩ (fun b o e => Heap.get?_push_of_some _ (Heap.get?_push_of_some _ e)) ⟨[], #[], 0, _, SetN.fresh (Heap.get?_push_of_some _ hS), Has.none ks⟩ ?hR
        case hR =>
          intro s' L es ep t hm hS' g' kp
          obtain ⟨h', g2, d', tk', os'⟩ := s'
          have eg : g2 = s.gens := hm.gens
          have ed : d' = s.drawn := hm.drawn
          have eo : os' = s.os := hm.os
          subst eg; subst ed; subst eo
          show wpAny _ _ _ _ _ _
          refine wpAny_pure ?_
          show wpAny _ _ (ret Value.none) _ _ _
          rw [hisz] at g'
          exact wpAny_pure ⟨rfl, h', tk', L, es, ep, t, rfl, hS', g', kp⟩

      · cases r₂ with
        | error e => exact hr₂
        | ok fl₂ =>
          cases fl₂ with
          | ret r =>
            obtain ⟨rfl, h', tk, L, es, ep, t, rfl, hS', g', hk'⟩ := hr₂
            repeat (any_goals (first | assumption | wp_step))
            exact h _ _ _ _ _ _ hS' g' hk'
          | _ => exact hr₂.elim
    | _ => exact hr.elim
end
end Mx
namespace Mx
open PySem PySem.Spec PyProof.Rows L2

def mapO {α β : Type} (f : α → Option β) : List α → Option (List β)
  | [] => some []
  | x :: xs => match f x with
    | some a => match mapO f xs with
      | some r => some (a :: r)
      | none => none
    | none => none
theorem mapO_cons {α β : Type} {f : α → Option β} {x : α} {xs : List α} {ys : List β} (e : mapO f (x :: xs) = some ys) : ∃ a r, ys = a :: r ∧ f x = some a ∧ mapO f xs = some r := by
  unfold mapO at e
  split at e
  · split at e
    · cases e; exact ⟨_, _, rfl, by assumption, by assumption⟩
    · cases e
  · cases e
/-- the key of numbers, None and tuples of such -/
def nkM : Nat → MV → Option NestedKey
  | _, .non => some .none
  | _, .int i => some (.num i)
  | n + 1, .tup xs => (mapO (nkM n) xs).map .tup
  | _, _ => none
theorem nk_both : ∀ (n : Nat) (d : MV) (k : NestedKey), nkM n d = some k → k.depth ≤ n ∧ byN k = true := by
  intro n
  induction n with
  | zero =>
    intro d k e
    cases d <;> simp [nkM] at e <;> subst e <;> simp [NestedKey.depth, byN]
  | succ n ih =>
    intro d k e
    cases d with
    | tup xs =>
      simp only [nkM] at e
      cases q : mapO (nkM n) xs with
      | none => rw [q] at e; cases e
      | some ks =>
        rw [q] at e
        cases e
        have all : ∀ (xs : List MV) (ks : List NestedKey), mapO (nkM n) xs = some ks → NestedKey.depthAll ks ≤ n ∧ byNs ks = true := by
          intro xs
          induction xs with
          | nil => intro ks q; simp [mapO] at q; subst q; simp [NestedKey.depthAll, byNs]
          | cons x xs ihx =>
            intro ks q
            obtain ⟨a, r, rfl, h1, h2⟩ := mapO_cons q
            obtain ⟨i1, i2⟩ := ih x a h1
            obtain ⟨j1, j2⟩ := ihx r h2
            simp only [NestedKey.depthAll, byNs, Bool.and_eq_true]
            exact ⟨Nat.max_le.mpr ⟨i1, j1⟩, i2, j2⟩
        have := all xs ks q
        simp only [NestedKey.depth, byN]
        exact ⟨by omega, this.2⟩
    | non => simp [nkM] at e; subst e; simp [NestedKey.depth, byN]
    | int i => simp [nkM] at e; subst e; simp [NestedKey.depth, byN]
    | _ => simp [nkM] at e
theorem nk_inj : ∀ (n : Nat) (a b : MV) (k : NestedKey), nkM n a = some k → nkM n b = some k → a = b := by
  intro n
  induction n with
  | zero =>
    intro a b k e e'
    cases a <;> simp [nkM] at e <;> subst e <;> cases b <;> simp [nkM] at e' <;> simp_all
  | succ n ih =>
    intro a b k e e'
    have lists : ∀ (xs ys : List MV) (ks : List NestedKey), mapO (nkM n) xs = some ks → mapO (nkM n) ys = some ks → xs = ys := by
      intro xs
      induction xs with
      | nil =>
        intro ys ks h h'
        simp [mapO] at h
        subst h
        cases ys with
        | nil => rfl
        | cons y ys => obtain ⟨_, _, z, _⟩ := mapO_cons h'; cases z
      | cons x xs ihx =>
        intro ys ks h h'
        obtain ⟨a, r, rfl, h1, h2⟩ := mapO_cons h
        cases ys with
        | nil => simp [mapO] at h'
        | cons y ys =>
          obtain ⟨a', r', z, h3, h4⟩ := mapO_cons h'
          cases z
          rw [ih x y a h1 h3, ihx ys r h2 h4]
    cases a with
    | tup xs =>
      simp only [nkM] at e
      cases q : mapO (nkM n) xs with
      | none => rw [q] at e; cases e
      | some ks =>
        rw [q] at e
        cases e
        cases b with
        | tup ys =>
          simp only [nkM] at e'
          cases q' : mapO (nkM n) ys with
          | none => rw [q'] at e'; cases e'
          | some ks' =>
            rw [q'] at e'
            simp only [Option.map_some, Option.some.injEq, NestedKey.tup.injEq] at e'
            subst e'
            rw [lists xs ys _ q q']
        | _ => simp [nkM] at e'
    | non =>
      simp [nkM] at e; subst e
      cases b with
      | non => rfl
      | tup ys =>
        simp only [nkM] at e'
        cases q' : mapO (nkM n) ys <;> rw [q'] at e' <;> simp at e'
      | _ => simp [nkM] at e'
    | int i =>
      simp [nkM] at e; subst e
      cases b with
      | int j => simp [nkM] at e'; rw [e']
      | tup ys =>
        simp only [nkM] at e'
        cases q' : mapO (nkM n) ys <;> rw [q'] at e' <;> simp at e'
      | _ => simp [nkM] at e'
    | _ => simp [nkM] at e
/-- a member of a set -/
def nkT (d : MV) : Option NestedKey := match d with
  | .tup _ => nkM 8 d
  | _ => none
theorem nkT_of {d : MV} {k : NestedKey} (e : nkT d = some k) : nkM 8 d = some k ∧ ∃ xs, d = .tup xs := by
  unfold nkT at e
  split at e
  · exact ⟨e, _, rfl⟩
  · cases e
section
variable {X : Cx} {pins : List (Addr × Obj)} {σ : L2.St} {H : Hp} {s : Shared} {F : Fz} {φ : List Addr}
theorem nk_is (I : Inv X pins σ H s) : ∀ (n : Nat) (d : MV) (v : V) (u : Value) (k : NestedKey), nkM n d = some k → VR X.K F φ H d v → RelV v u → NestedIs s.heap k u := by
  intro n
  induction n with
  | zero =>
    intro d v u k e r ru
    cases d <;> simp [nkM] at e <;> subst e <;> cases r
    · cases (show u = Value.none from ru); exact .none
    · obtain ⟨t, rfl⟩ := ru; exact .int _ _
  | succ n ih =>
    intro d v u k e r ru
    cases d with
    | tup xs =>
      simp only [nkM] at e
      cases q : mapO (nkM n) xs with
      | none => rw [q] at e; cases e
      | some ks =>
        rw [q] at e
        cases e
        cases r with
        | tup f rs =>
          obtain ⟨its, rv, ⟨o, ho, hc, m, hd⟩, _⟩ := I.tuple f.sq
          cases (show u = Value.ref _ from ru)
          refine .tup ho hc hd ?_
          have all : ∀ (xs : List MV) (ks : List NestedKey) (vs : List V) (its : List Value), mapO (nkM n) xs = some ks → VRs X.K F φ H xs vs → Vals vs its → NestedAll s.heap ks its := by
            intro xs
            induction xs with
            | nil => intro ks vs its q rs rv; simp [mapO] at q; subst q; cases rs; cases rv; exact .nil
            | cons x xs ihx =>
              intro ks vs its q rs rv
              obtain ⟨a, r, rfl, h1, h2⟩ := mapO_cons q
              cases rs with
              | cons r1 r2 =>
                cases rv with
                | cons v1 v2 => exact .cons (ih x _ _ a h1 r1 v1) (ihx r _ _ h2 r2 v2)
          exact all xs ks _ its q rs rv
    | non => simp [nkM] at e; subst e; cases r; cases (show u = Value.none from ru); exact .none
    | int i => simp [nkM] at e; subst e; cases r; obtain ⟨t, rfl⟩ := ru; exact .int _ _
    | _ => simp [nkM] at e
theorem keys_of (I : Inv X pins σ H s) : ∀ (xs : List MV) (vs : List V) (its : List Value) (keys : List NestedKey), mapO nkT xs = some keys → VRs X.K F φ H xs vs → Vals vs its →
    ∃ ks : List (Addr × NestedKey), its = (ks.map fun p => Value.ref p.1) ∧ ks.map (·.2) = keys ∧ ∀ p ∈ ks, Mem s.heap p.2 p.1 := by
  intro xs
  induction xs with
  | nil => intro vs its keys e r rv; simp [mapO] at e; subst e; cases r; cases rv; exact ⟨[], rfl, rfl, by simp⟩
  | cons x xs ih =>
    intro vs its keys e r rv
    obtain ⟨k, rest, rfl, h1, h2⟩ := mapO_cons e
    cases r with
    | cons r1 r2 =>
      cases rv with
      | cons v1 v2 =>
        obtain ⟨ks, e1, e2, e3⟩ := ih _ _ rest h2 r2 v2
        obtain ⟨hk, ys, rfl⟩ := nkT_of h1
        have z := nk_is I 8 _ _ _ k hk r1 v1
        have z2 := nk_both 8 _ k hk
        cases r1 with
        | tup f rs =>
          rename_i a us
          have e0 := (show _ = Value.ref a from v1)
          subst e0
          refine ⟨(a, k) :: ks, by rw [List.map_cons, ← e1], by rw [List.map_cons, e2], fun p hp => ?_⟩
          rcases List.mem_cons.mp hp with rfl | hp
          · exact ⟨z, z2⟩
          · exact e3 p hp
end
def pwB {α : Type} (f : α → α → Bool) : List α → Bool
  | [] => true
  | x :: xs => xs.all (f x) && pwB f xs
theorem pwB_pw {α : Type} {f : α → α → Bool} : ∀ {xs : List α}, pwB f xs = true → xs.Pairwise fun a b => f a b = true
  | [], _ => .nil
  | x :: xs, h => by
    rw [pwB, Bool.and_eq_true] at h
    exact .cons (fun y hy => List.all_eq_true.mp h.1 y hy) (pwB_pw h.2)
def unlike (a b : MV) : Bool := !(leM a b && leM b a)
theorem leM_refl (a : MV) : leM a a = true := by
  rcases (leM_total).total a a with h | h <;> exact h
theorem unlike_ne {a b : MV} (h : unlike a b = true) : a ≠ b := by
  rintro rfl
  simp [unlike, leM_refl] at h
theorem unlike_nodup {xs : List MV} (h : pwB unlike xs = true) : xs.Nodup := (pwB_pw h).imp fun h => unlike_ne h
theorem unlike_eq {xs : List MV} (h : pwB unlike xs = true) : ∀ a ∈ xs, ∀ b ∈ xs, leM a b = true → leM b a = true → a = b := by
  intro a ha b hb h1 h2
  obtain ⟨i, hi, rfl⟩ := List.getElem_of_mem ha
  obtain ⟨j, hj, rfl⟩ := List.getElem_of_mem hb
  have p := List.pairwise_iff_getElem.mp (pwB_pw h)
  rcases Nat.lt_trichotomy i j with c | c | c
  · have := p i j hi hj c; simp [unlike, h1, h2] at this
  · subst c; rfl
  · have := p j i hj hi c; simp [unlike, h1, h2] at this
theorem keys_nodup : ∀ {xs : List MV} {keys : List NestedKey}, mapO nkT xs = some keys → xs.Nodup → keys.Nodup
  | [], _, e, _ => by simp [mapO] at e; subst e; exact .nil
  | x :: xs, _, e, h => by
    obtain ⟨k, rest, rfl, h1, h2⟩ := mapO_cons e
    rw [List.nodup_cons] at h ⊢
    refine ⟨fun hm => h.1 ?_, keys_nodup h2 h.2⟩
    clear h
    have : ∀ (ys : List MV) (r : List NestedKey), mapO nkT ys = some r → k ∈ r → x ∈ ys := by
      intro ys
      induction ys with
      | nil => intro r e hk; simp [mapO] at e; subst e; cases hk
      | cons y ys ih =>
        intro r e hk
        obtain ⟨a, r', rfl, h3, h4⟩ := mapO_cons e
        rcases List.mem_cons.mp hk with rfl | hk
        · rw [nk_inj 8 x y k (nkT_of h1).1 (nkT_of h3).1]; exact List.mem_cons_self
        · exact List.mem_cons_of_mem _ (ih r' h4 hk)
    exact this xs rest h2 hm
theorem has_perm {ks L : List (Addr × NestedKey)} (hn : (ks.map (·.2)).Nodup) (hL : (L.map (·.2)).Nodup) (g : Has ks ks.length L) : L.Perm ks := by
  have n1 : L.Nodup := L2.nodup_of_map hL
  have n2 : ks.Nodup := L2.nodup_of_map hn
  refine (List.perm_ext_iff_of_nodup n1 n2).mpr fun p => ⟨fun hp => List.mem_of_mem_take (g.old p hp), fun hp => ?_⟩
  obtain ⟨q, hq, e⟩ := List.mem_map.mp (g.key p (by rw [List.take_length]; exact hp))
  have hq' : q ∈ ks := List.mem_of_mem_take (g.old q hq)
  have : q = p := by
    obtain ⟨i, hi, rfl⟩ := List.getElem_of_mem hq'
    obtain ⟨j, hj, rfl⟩ := List.getElem_of_mem hp
    have : i = j := (List.getElem_inj (h₀ := by rw [List.length_map]; exact hi) (h₁ := by rw [List.length_map]; exact hj) hn).mp (by rw [List.getElem_map, List.getElem_map]; exact e)
    subst this; rfl
  rw [← this]; exact hq
theorem perm_unmap {α β : Type} {f : α → β} {l m' : List β} (h : l.Perm m') : ∀ {m : List α}, m' = m.map f → ∃ m1 : List α, m1.Perm m ∧ m1.map f = l := by
  induction h with
  | nil =>
    intro m e
    cases m with
    | nil => exact ⟨[], List.Perm.nil, rfl⟩
    | cons _ _ => cases e
  | cons x h ih =>
    intro m e
    cases m with
    | nil => cases e
    | cons a m =>
      rw [List.map_cons] at e
      injection e with e1 e2
      obtain ⟨m1, p, q⟩ := ih e2
      exact ⟨a :: m1, p.cons a, by rw [List.map_cons, q, e1]⟩
  | swap x y l =>
    intro m e
    cases m with
    | nil => cases e
    | cons a m =>
      cases m with
      | nil => cases e
      | cons b m =>
        simp only [List.map_cons] at e
        injection e with e1 e2
        injection e2 with e2 e3
        exact ⟨b :: a :: m, .swap .., by simp [e1, e2, e3]⟩
  | trans h1 h2 ih1 ih2 =>
    intro m e
    obtain ⟨m1, p, q⟩ := ih2 e
    obtain ⟨m2, p2, q2⟩ := ih1 q.symm
    exact ⟨m2, p2.trans p, q2⟩
theorem zip3_rel {K : PySem.W.Frag} {F : Fz} {φ : List Addr} {H : Hp} : ∀ (xs : List MV) (vs : List V) (its : List Value), VRs K F φ H xs vs → Vals vs its → ∀ z ∈ its.zip (vs.zip xs), RelV z.2.1 z.1 ∧ VR K F φ H z.2.2 z.2.1
  | [], _, _, .nil, .nil => fun z hz => by cases hz
  | x :: xs, _, _, .cons r r', .cons v v' => fun z hz => by
    rcases List.mem_cons.mp hz with rfl | hz
    · exact ⟨v, r⟩
    · exact zip3_rel xs _ _ r' v' z hz
/-- what is asked of the members -/
def setOk (xs : List MV) : Bool := (mapO nkT xs).isSome && pwB unlike xs && decide (xs.length < 64)
def lenSetF (d : MV) : Option MV := match d with
  | .tup xs => if setOk xs then some (.int xs.length) else none
  | _ => none
def headsT (xs : List MV) : Bool := xs.all fun x => match x with
  | .tup (_ :: _) => true
  | _ => false
def sortSetF (d : MV) : Option MV := match d with
  | .tup xs => if setOk xs && xs.all (okF 60) && (xs.all fun a => xs.all fun b => PySem.W.alike (toPD a) (toPD b)) && headsT xs then some (.lst (isort leM xs)) else none
  | _ => none
def mVal (f : MV → Option MV) (m : ME) : ME := fun ms h => rb (m ms h) fun d h1 => (f d).map fun d' => .ok d' h1
theorem setOk_of {xs : List MV} (h : setOk xs = true) : ∃ keys, mapO nkT xs = some keys ∧ keys.Nodup ∧ pwB unlike xs = true ∧ xs.length < 64 := by
  unfold setOk at h
  simp only [Bool.and_eq_true, decide_eq_true_eq] at h
  obtain ⟨⟨h1, h2⟩, h3⟩ := h
  cases q : mapO nkT xs with
  | none => rw [q] at h1; cases h1
  | some keys => exact ⟨keys, rfl, keys_nodup q (unlike_nodup h2), h2, h3⟩
section
variable {X : Cx} {W : WX} {pos : Pos}
/-- set(e): the set stands at an address that nothing tracks -/
theorem set_run {pins : List (Addr × Obj)} {σ : L2.St} {H : Hp} {s : Shared} {F : Fz} {φ : List Addr} {a : Addr} {vs : List V} {xs : List MV} {Q : Value → Shared → Prop} {E : Value → Shared → Prop} (hc : X.calm = true) (hu : X.A.units + 64 < cLine)
    (I : Inv X pins σ H s) (f : SqT X.K H a vs) (r : VRs X.K F φ H xs vs) (h : setOk xs = true)
    (q : ∀ (s' : Shared) (c : Addr) (its : List Value) (ks L : List (Addr × NestedKey)) es ep t, Inv X pins σ H s' → Vals vs its → its = (ks.map fun p => Value.ref p.1) → L.Perm ks → SetN X.w s'.heap c L es ep t → Q (.ref c) s') :
    wpAny (model X.prog X.w) X.A (call (.type "set") [.ref a]) Q E s := by
  obtain ⟨keys, h1, h2, _, h4⟩ := setOk_of h
  obtain ⟨its, rv, pl, hz⟩ := I.tuple f
  obtain ⟨ks, e1, e2, e3⟩ := keys_of I xs vs its keys h1 r rv
  have hl : ks.length = xs.length := by
    have := congrArg List.length e1
    rw [List.length_map] at this
    rw [← this, ← rv.length, r.length]
  refine set_of_tuple (P := X.prog) (w := X.w) ks (I.ok.hd hc) (by obtain ⟨o, ho, hcl, n, hd⟩ := pl; exact ⟨o, ho, hcl, n, hd⟩) (by simpa using e1) e3 (by omega) (by omega) fun h' tk L es ep t R g k => ?_
  exact q _ _ its ks L es ep t (I.kept (t' := tk) k) rv e1 (has_perm (by rw [e2]; exact h2) R.nd g) R
def FSET (X : Cx) (W : WX) (Q : VK) (σ : L2.St) (f : MV → Option MV) : VK := fun v H1 => ∃ d w1 q1, Wk X.K w1 H1 ∧ VR X.K w1.F w1.φ H1 d v ∧ ((f d).map fun d' => RS.ok d' w1.hm) = some q1 ∧ Aft X.K w1 H1 (Vf X.K Q) (WE W σ) q1
theorem se_lenSet {a : Expr} {ma : ME} {p p2 q : Pos} (hc : X.calm = true) (hu : X.A.units + 64 < cLine) (hg : Gl X "len") (hm : X.mg "len" = none) (hg2 : Gl X "set") (hm2 : X.mg "set" = none) (ha : SE X W a ma)
    (na : starEach [a] X.env = (false, eval a X.env) :: starEach [] X.env := by rfl) : SE X W (.Call (.Name "len" p) [.Call (.Name "set" p2) [a] [] q] [] pos) (mVal lenSetF ma) := by
  refine ⟨fun pins s σ H Q I h => ?_⟩
  refine Call_ (ld_blt I hg hm PySem.boot_len ?_)
  refine PyProof.Rows.callWith_builtin1 (PyProof.Rows.args_cons ?_ rfl) rfl rfl
  refine Call_ (ld_blt I hg2 hm2 PyProof.Rows.boot_set ?_)
  obtain ⟨w, ms, r0, k, sr, e, g⟩ := h
  obtain ⟨r1, e1, g1⟩ := aft_bind e g
  refine PyProof.Rows.callWith_type1 (PyProof.Rows.args_cons (thn (ha.run pins s σ H (FSET X W Q σ lenSetF) I ⟨w, ms, r1, k, sr, e1, g1.imp fun d w1 H1 x1 k1 ⟨q1, e2, g2⟩ v rv => ⟨d, w1, q1, k1, rv, e2, g2⟩⟩) fun v s1 ⟨x, H1, I1, rx, hx⟩ => PyProof.Rows.args_nil ?_) na) na rfl
  obtain ⟨d, w1, q1, k1, rv, e2, g2⟩ := hx
  cases e5 : lenSetF d with
  | none => rw [e5] at e2; cases e2
  | some d' =>
    rw [e5] at e2
    cases e2
    unfold lenSetF at e5
    split at e5
    · split at e5
      · rename_i xs hs
        cases e5
        cases rv with
        | tup f rs =>
          cases rx
          refine set_run hc hu I1 f.sq rs hs fun s2 c its ks L es ep t I2 rvs eits pm R => PyProof.Rows.args_nil ?_
          obtain ⟨o, ho, hex, hd⟩ := R.ob
          have hsz : es.size = xs.length := by
            rw [R.size, pm.length_eq]
            have := congrArg List.length eits
            rw [List.length_map] at this
            rw [← this, ← rvs.length, rs.length]
          have hf := R.few
          refine call_len_set ho hex hd R.fits (by rw [R.size]; omega) ⟨.int xs.length, H1, I2.tok _, ⟨_, by rw [hsz]⟩, g2.here k1 _ (.int _)⟩
      · cases e5
    · cases e5
theorem se_sortSet {a : Expr} {ma : ME} {p p2 q : Pos} (hc : X.calm = true) (hu : X.A.units + 70 < cLine) (hg : Gl X "sorted") (hm : X.mg "sorted" = none) (hg2 : Gl X "set") (hm2 : X.mg "set" = none) (ha : SE X W a ma)
    (na : starEach [a] X.env = (false, eval a X.env) :: starEach [] X.env := by rfl) : SE X W (.Call (.Name "sorted" p) [.Call (.Name "set" p2) [a] [] q] [] pos) (mVal sortSetF ma) := by
  refine ⟨fun pins s σ H Q I h => ?_⟩
  refine Call_ (ld_blt I hg hm bt_sorted ?_)
  refine PyProof.Rows.callWith_builtin1 (PyProof.Rows.args_cons ?_ rfl) rfl rfl
  refine Call_ (ld_blt I hg2 hm2 PyProof.Rows.boot_set ?_)
  obtain ⟨w, ms, r0, k, sr, e, g⟩ := h
  obtain ⟨r1, e1, g1⟩ := aft_bind e g
  refine PyProof.Rows.callWith_type1 (PyProof.Rows.args_cons (thn (ha.run pins s σ H (FSET X W Q σ sortSetF) I ⟨w, ms, r1, k, sr, e1, g1.imp fun d w1 H1 x1 k1 ⟨q1, e2, g2⟩ v rv => ⟨d, w1, q1, k1, rv, e2, g2⟩⟩) fun v s1 ⟨x, H1, I1, rx, hx⟩ => PyProof.Rows.args_nil ?_) na) na rfl
  obtain ⟨d, w1, q1, k1, rv, e2, g2⟩ := hx
  cases e5 : sortSetF d with
  | none => rw [e5] at e2; cases e2
  | some d' =>
    rw [e5] at e2
    cases e2
    unfold sortSetF at e5
    split at e5
    · split at e5
      · rename_i xs hs
        cases e5
        simp only [Bool.and_eq_true] at hs
        obtain ⟨⟨⟨hs, hok⟩, hal⟩, hhd⟩ := hs
        cases rv with
        | tup f rs =>
          rename_i b vs
          cases rx
          refine set_run hc (by omega) I1 f.sq rs hs fun s2 c its ks L es ep t I2 rvs eits pm R => PyProof.Rows.args_nil ?_
          obtain ⟨keys, _, _, hpw, h64⟩ := setOk_of hs
          obtain ⟨o, ho, hex, hd⟩ := R.ob
          have hf := R.few
          refine sorted_gen ?_
          refine collect_set (A := X.A.in1) (I1.ok.hd hc) ⟨o, ho, hex.1, hd⟩ R.fits (by rw [R.size]; unfold scanBound; omega) R.tab.ris R.led fun s3 out k3 hz g3 o3 pm3 => ?_
          -- out is its in another order
          have hes : es.toList.map (·.2) = L.map fun q => Value.ref q.1 := by
            rw [R.ents]; unfold ents; rw [List.map_map]; rfl
          have pout : out.Perm its := by
            rw [eits]
            rw [hes] at pm3
            exact pm3.trans (pm.map _)
          let zs : List (Value × (V × MV)) := its.zip (vs.zip xs)
          have l1 := rvs.length
          have l2 := rs.length
          have ez : zs.map (·.1) = its := by
            show (its.zip (vs.zip xs)).map Prod.fst = its
            rw [List.map_fst_zip]
            rw [List.length_zip]; omega
          obtain ⟨zs', pz, ez'⟩ := perm_unmap (f := Prod.fst) pout ez.symm
          have hrel : ∀ z ∈ zs, RelV z.2.1 z.1 ∧ VR X.K w1.F w1.φ H1 z.2.2 z.2.1 := zip3_rel xs vs its rs rvs
          have rel' : ∀ z ∈ zs', RelV z.2.1 z.1 ∧ VR X.K w1.F w1.φ H1 z.2.2 z.2.1 := fun z hz => hrel z (pz.mem_iff.mp hz)
          have e2' : zs.map (fun z => z.2.2) = xs := by
            have a1 : zs.map (fun z => z.2) = vs.zip xs := List.map_snd_zip (by rw [List.length_zip]; omega)
            have a2 : (vs.zip xs).map Prod.snd = xs := List.map_snd_zip (by omega)
            rw [← a2, ← a1, List.map_map]; rfl
          have px : (zs'.map fun z => z.2.2).Perm xs := by
            have := pz.map (fun z => z.2.2)
            rw [e2'] at this; exact this
          have both : ∀ zz : List (Value × (V × MV)), (∀ z ∈ zz, RelV z.2.1 z.1 ∧ VR X.K w1.F w1.φ H1 z.2.2 z.2.1) → Vals (zz.map fun z => z.2.1) (zz.map (·.1)) ∧ VRs X.K w1.F w1.φ H1 (zz.map fun z => z.2.2) (zz.map fun z => z.2.1) := by
            intro zz
            induction zz with
            | nil => intro _; exact ⟨.nil, .nil⟩
            | cons z zz ih =>
              intro hh
              obtain ⟨i1, i2⟩ := ih fun y hy => hh y (List.mem_cons_of_mem _ hy)
              obtain ⟨j1, j2⟩ := hh z List.mem_cons_self
              exact ⟨.cons j1 i1, .cons j2 i2⟩
          obtain ⟨rv', rs'⟩ := both zs' rel'
          rw [ez'] at rv'
          have hmem : ∀ x ∈ (zs'.map fun z => z.2.2), x ∈ xs := fun x hx => px.mem_iff.mp hx
          have hok' : ∀ x ∈ (zs'.map fun z => z.2.2), okF 60 x = true := fun x hx => List.all_eq_true.mp hok x (hmem x hx)
          have I3 : Inv X pins σ H1 { s2 with heap := s3.heap, gens := s3.gens, drawn := s3.drawn, toks := s3.toks } :=
            I2.call (ch := []) (Un.kept k3) (I2.hok.kept k3) (by rw [g3]; exact I2.bare) (fun _ z => nomatch z)
          have es3 : s3 = { s2 with heap := s3.heap, gens := s3.gens, drawn := s3.drawn, toks := s3.toks } := by
            cases s3
            cases s2
            cases o3
            rfl
          rw [← es3] at I3
          have hlen : (zs'.map fun z => z.2.1).length ≤ sizeLine := by
            rw [rv'.length, pout.length_eq, ← rvs.length, ← rs.length, sizeLine_eq]; omega
          refine ⟨by rw [← rv'.length]; exact hlen, fun E' => ?_⟩
          refine sort_new (A := X.A.in1.in1) (by show X.A.units + 1 + 1 + 64 < cLine; omega) I3 rv' (VRs.dp 60 _ _ hok' rs') (fun d hd d' hd' => ?_) (.inl fun d hd => ?_) (fun d hd => ?_) hlen (fun p hp => ?_) E'
          · rw [toPDs_map] at hd hd'
            obtain ⟨x, hx, rfl⟩ := List.mem_map.mp hd
            obtain ⟨y, hy, rfl⟩ := List.mem_map.mp hd'
            exact List.all_eq_true.mp (List.all_eq_true.mp hal x (hmem x hx)) y (hmem y hy)
          · rw [toPDs_map] at hd
            obtain ⟨x, hx, rfl⟩ := List.mem_map.mp hd
            have := List.all_eq_true.mp hhd x (hmem x hx)
            split at this
            · rename_i y ys
              exact ⟨toPD y, toPDs ys, by simp only [toPD, toPDs]⟩
            · cases this
          · rw [toPDs_map] at hd
            obtain ⟨x, hx, rfl⟩ := List.mem_map.mp hd
            exact (okF_pd 60 x (hok' x hx)).2
          · have es : isort leM (zs'.map fun z => z.2.2) = isort leM xs := by
              rw [isort_eq leM_total, isort_eq leM_total]
              have t1 := List.mergeSort_perm (zs'.map fun z => z.2.2) leM
              have t2 := List.mergeSort_perm xs leM
              refine List.Perm.eq_of_pairwise (le := fun a b => leM a b = true) (fun a b ha hb h1 h2 => ?_) ?_ ?_ (t1.trans (px.trans t2.symm))
              · exact unlike_eq hpw a (hmem a (t1.mem_iff.mp ha)) b (t2.mem_iff.mp hb) h1 h2
              · rw [← isort_eq leM_total]; exact isort_pw leM_total _
              · rw [← isort_eq leM_total]; exact isort_pw leM_total _
            have kk := k1.addO (o := .lst (((((zs'.map fun z => z.2.1).zip (toPDs (zs'.map fun z => z.2.2))).mergeSort (PySem.W.dataLe false Prod.snd)).map (·.1)))) hp
            exact g2 (w1.add p) _ rfl kk.1 kk.2 _ (VR.newLst k1 hp (es ▸ sort_vrs rs'))
      · cases e5
    · cases e5
end
end Mx
namespace Mx
open PySem L2

theorem u64 {k : Nat} {A : Around} (r : Room k A) : A.units + 64 < cLine := by have := r.un; omega
mutual
/-- no thing that may change is named in it -/
def noRef : MV → Bool
  | .ref _ => false
  | .tup xs => noRefs xs
  | .lst xs => noRefs xs
  | .scr xs => noRefs xs
  | _ => true
def noRefs : List MV → Bool
  | [] => true
  | x :: xs => noRef x && noRefs xs
end
section
variable {K : PySem.W.Frag} {F : Fz} {φ φ' : List Addr} {H : Hp}
mutual
theorem VR.plain : ∀ {d : MV} {v : V}, VR K F φ H d v → noRef d = true → VR K F φ' H d v
  | _, _, .non, _ => .non
  | _, _, .bl b, _ => .bl b
  | _, _, .int i, _ => .int i
  | _, _, .str x, _ => .str x
  | _, _, .ty x, _ => .ty x
  | _, _, .adr x, _ => .adr x
  | _, _, .scr h r, e => .scr h (VRs.plain r (by simpa [noRef] using e))
  | _, _, .tup h r, e => .tup h (VRs.plain r (by simpa [noRef] using e))
  | _, _, .lst f h r, e => .lst f h (VRs.plain r (by simpa [noRef] using e))
  | _, _, .ed f h, _ => .ed f h
  | _, _, .ref h, e => by simp [noRef] at e
theorem VRs.plain : ∀ {ds : List MV} {vs : List V}, VRs K F φ H ds vs → noRefs ds = true → VRs K F φ' H ds vs
  | _, _, .nil, _ => .nil
  | _, _, .cons r rr, e => by
    simp only [noRefs, Bool.and_eq_true] at e
    exact .cons (VR.plain r e.1) (VRs.plain rr e.2)
end
theorem AR.plain : ∀ {xs : List (Str × MV)} {vs : List (Str × V)}, AR K F φ H xs vs → (xs.all fun p => noRef p.2) = true → AR K F φ' H xs vs
  | _, _, .nil, _ => .nil
  | _, _, .cons r rr, e => by
    rw [List.all_cons, Bool.and_eq_true] at e
    exact .cons (r.plain e.1) (AR.plain rr e.2)
theorem XR.plain {xs : List (Str × MV)} {d : Option Addr} (h : XR K F φ H xs d) (e : (xs.all fun p => noRef p.2) = true) : XR K F φ' H xs d := by
  rcases h with h | ⟨dx, fs, h1, h2, h3⟩
  · exact .inl h
  · exact .inr ⟨dx, fs, h1, h2, h3.plain e⟩
end
/-- the world in which nothing may change -/
def Wd.still (w : Wd) : Wd := { w with φ := [], hm := [] }
section
variable {K : PySem.W.Frag} {w w' : Wd} {H H' : Hp}
theorem Wd.still_L {a : Addr} : ¬ w.still.L a := fun ⟨i, o, h, _⟩ => by simp [Wd.still] at h
theorem Wk.still (k : Wk K w H) : Wk K w.still H :=
  ⟨fun a f => ⟨Wd.still_L, (k.fz a f).2⟩, fun i o h => by simp [Wd.still] at h, fun a h => by simp [Wd.still] at h, List.nodup_nil, rfl⟩
/-- what ran there left all that may change as it was -/
theorem still_back (k : Wk K w H) (x : Wx w.still H w' H') (k' : Wk K w' H') : Wx w H { w' with φ := w.φ, hm := w.hm } H' ∧ Wk K { w' with φ := w.φ, hm := w.hm } H' := by
  have hk : ∀ a o, H a = some o → H' a = some o := fun a o e => x.keep a o e Wd.still_L
  have hL : ∀ a, ({ w' with φ := w.φ, hm := w.hm } : Wd).L a → w.L a := fun a h => h
  refine ⟨⟨fun a o e _ => hk a o e, x.mono, fun a f => ?_, fun a h => .inl h, x.there, ⟨[], by simp⟩, fun a h => .inl h⟩, ⟨fun a f => ⟨fun l => ?_, (k'.fz a f).2⟩, fun i o h => ?_, fun a h => ?_, k.nd, k.len⟩⟩
  · rcases x.new a f with h | h | h
    · exact .inl h
    · exact absurd h Wd.still_L
    · exact .inr (.inr h)
  · rcases x.new a f with h | h | h
    · exact (k.fz a h).1 l
    · exact Wd.still_L h
    · exact k.notL h l
  · obtain ⟨a, e, r⟩ := k.ob i o h
    exact ⟨a, e, r.go x.mono (fun a u _ e => hk a u e) (fun _ _ h => h) fun u e => hk a u e⟩
  · obtain ⟨o, e⟩ := k.all a h
    exact ⟨o, hk a o e⟩
end
/-- the answer of what ran with nothing that may change -/
def pureR (r : Option (RS MV)) (h : Hm) : Option (RS MV) := match r with
  | some (.ok d _) => if noRef d then some (.ok d h) else none
  | some (.ex c xs _) => if xs.all fun p => noRef p.2 then some (.ex c xs h) else none
  | none => none
theorem pureR_aft {K : PySem.W.Frag} {w : Wd} {H : Hp} {Q : VK} {E : XK} {r : Option (RS MV)} {q : RS MV} (k : Wk K w H) (e : pureR r w.hm = some q) (g : Aft K w H (Vf K Q) E q) : ∃ r', r = some r' ∧ Aft K w.still H (Vf K Q) E r' := by
  unfold pureR at e
  split at e
  · rename_i d h
    split at e
    · rename_i hn
      cases e
      refine ⟨_, rfl, fun w' H' _ x k' v rv => ?_⟩
      obtain ⟨x1, k1⟩ := still_back k x k'
      exact g { w' with φ := w.φ, hm := w.hm } H' rfl x1 k1 v (rv.plain hn)
    · cases e
  · rename_i c xs h
    split at e
    · rename_i hn
      cases e
      refine ⟨_, rfl, fun w' H' d _ x k' xr => ?_⟩
      obtain ⟨x1, k1⟩ := still_back k x k'
      exact g { w' with φ := w.φ, hm := w.hm } H' d rfl x1 k1 (xr.plain hn)
    · cases e
  · cases e
/-- a def that needs nothing of what may change -/
def pureF (f : FD) : FD := fun ds h => if noRefs ds then pureR (f ds []) h else none
theorem spF_pure {K : PySem.W.Frag} {f : FD} {vs : List V} {H : Hp} {Q : VK} {E : XK} (h : spF K (pureF f) vs H Q E) : spF K f vs H Q E := by
  obtain ⟨w, ds, r, k, rs, e, g⟩ := h
  unfold pureF at e
  split at e
  · rename_i hn
    obtain ⟨r', e', g'⟩ := pureR_aft k e g
    exact ⟨w.still, ds, r', k.still, rs.plain hn, e', g'⟩
  · cases e
def keepM : List Bool → Sl → Sl
  | true :: bs, x :: xs => x :: keepM bs xs
  | false :: bs, _ :: xs => none :: keepM bs xs
  | _, [] => []
  | [], _ :: xs => none :: keepM [] xs
theorem keepM_len : ∀ (m : List Bool) (ms : Sl), (keepM m ms).length = ms.length
  | true :: bs, x :: xs => by simp [keepM, keepM_len bs xs]
  | false :: bs, _ :: xs => by simp [keepM, keepM_len bs xs]
  | [], [] => rfl
  | _ :: _, [] => by simp [keepM]
  | [], _ :: xs => by simp [keepM, keepM_len [] xs]
theorem keepM_get : ∀ (m : List Bool) (ms : Sl) (i : Nat) (d : MV), (keepM m ms)[i]? = some (some d) → ms[i]? = some (some d)
  | true :: bs, x :: xs, 0, d, h => by simpa [keepM] using h
  | true :: bs, x :: xs, i + 1, d, h => by simpa using keepM_get bs xs i d (by simpa [keepM] using h)
  | false :: bs, x :: xs, 0, d, h => by simp [keepM] at h
  | false :: bs, x :: xs, i + 1, d, h => by simpa using keepM_get bs xs i d (by simpa [keepM] using h)
  | [], [], i, d, h => by simp [keepM] at h
  | _ :: _, [], i, d, h => by simp [keepM] at h
  | [], _ :: xs, 0, d, h => by simp [keepM] at h
  | [], _ :: xs, i + 1, d, h => by simpa using keepM_get [] xs i d (by simpa [keepM] using h)
section
variable {K : PySem.W.Frag} {w : Wd} {H : Hp} {ms : Sl} {σ : St}
theorem SR.keep (m : List Bool) (s : SR K w H ms σ) : SR K w H (keepM m ms) σ :=
  ⟨by rw [keepM_len]; exact s.1, fun i d q => s.2 i d (keepM_get m ms i d q)⟩
def noRefO : Option MV → Bool
  | some d => noRef d
  | none => true
theorem SR.still (s : SR K w H ms σ) (h : ms.all noRefO = true) : SR K w.still H ms σ :=
  ⟨s.1, fun i d q => let ⟨v, a, b⟩ := s.2 i d q; ⟨v, a, b.plain (List.all_eq_true.mp h (some d) (List.mem_of_getElem? q))⟩⟩
end
/-- an expression that needs nothing of what may change, and of the names only those of the mask -/
def mPure (mask : List Bool) (e : ME) : ME := fun ms h => if (keepM mask ms).all noRefO then pureR (e (keepM mask ms) []) h else none
section
variable {X : Cx} {W : WX} {pos : Pos}
theorem pure_te {mask : List Bool} {m : ME} : ∀ σ H Q, TEp X.K W (mPure mask m) σ H Q → TEp X.K W m σ H Q := fun σ H Q ⟨w, ms, q, k, sr, e, g⟩ => by
  unfold mPure at e
  split at e
  · rename_i hn
    obtain ⟨r', e', g'⟩ := pureR_aft k e g
    exact ⟨w.still, _, r', k.still, (sr.keep mask).still hn, e', g'⟩
  · cases e
theorem se_pure {e : Expr} {m : ME} (mask : List Bool) (h : SE X W e m) : SE X W e (mPure mask m) := pe_mono h pure_te
theorem pure_tt {mask : List Bool} {m : ME} : ∀ σ H Q, TTp X.K W (mPure mask m) σ H Q → TTp X.K W m σ H Q := fun σ H Q ⟨w, ms, q, k, sr, e, g⟩ => by
  unfold mPure at e
  split at e
  · rename_i hn
    have g1 : Aft X.K w H (Vf X.K fun v H' => ∃ b, v = V.bl b ∧ Q b H') (WE W σ) q := g.imp fun d w' H' x k' ⟨b, eb, q⟩ v rv => by subst eb; cases rv; exact ⟨b, rfl, q⟩
    obtain ⟨r', e', g'⟩ := pureR_aft k e g1
    refine ⟨w.still, _, r', k.still, (sr.keep mask).still hn, e', ?_⟩
    -- the value is a bool: by what pureR hands on
    cases r' with
    | ex c xs h => exact g'
    | ok d h =>
      intro w' H' eh x k'
      rw [e'] at e
      unfold pureR at e
      dsimp only at e
      split at e
      · rename_i hd
        cases e
        obtain ⟨x1, k1⟩ := still_back k x k'
        exact g { w' with φ := w.φ, hm := w.hm } H' rfl x1 k1
      · cases e
  · cases e
theorem st_pure {e : Expr} {m : ME} (mask : List Bool) (h : ST X W e m) : ST X W e (mPure mask m) := pt_mono h pure_tt
/-- a statement ahead of which names are forgotten -/
def mKeep (mask : List Bool) (m : MS) : MS := fun ms h => m (keepM mask ms) h
theorem ss_keep {st : Stmt} {m : MS} (mask : List Bool) (h : SS X W st m) : SS X W st (mKeep mask m) := ps_mono h fun D σ H ⟨w, ms, fl, k, sr, e, g⟩ => ⟨w, _, fl, k, sr.keep mask, e, g⟩
theorem sb_keep {st : List Stmt} {m : MS} (mask : List Bool) (h : SB X W st m) : SB X W st (mKeep mask m) := pss_mono h fun D σ H ⟨w, ms, fl, k, sr, e, g⟩ => ⟨w, _, fl, k, sr.keep mask, e, g⟩
/-- .. behind which -/
def mTidy (mask : List Bool) (m : MS) : MS := fun ms h => match m ms h with
  | some (.nx ms1 h1) => some (.nx (keepM mask ms1) h1)
  | some (.ct ms1 h1) => some (.ct (keepM mask ms1) h1)
  | some (.bk ms1 h1) => some (.bk (keepM mask ms1) h1)
  | some (.ex c a ms1 h1) => some (.ex c a (keepM mask ms1) h1)
  | r => r
theorem tidy_ts {mask : List Bool} {m : MS} : ∀ D σ H, TSp X.K W (mTidy mask m) D σ H → TSp X.K W m D σ H := fun D σ H ⟨w, ms, fl, k, sr, e, g⟩ => by
  unfold mTidy at e
  split at e
  · rename_i ms1 h1 em
    cases e
    exact ⟨w, ms, _, k, sr, em, fun σ' w' H' eh x k' s => g σ' w' H' eh x k' (s.keep mask)⟩
  · rename_i ms1 h1 em
    cases e
    exact ⟨w, ms, _, k, sr, em, fun σ' w' H' eh x k' s => g σ' w' H' eh x k' (s.keep mask)⟩
  · rename_i ms1 h1 em
    cases e
    exact ⟨w, ms, _, k, sr, em, fun σ' w' H' eh x k' s => g σ' w' H' eh x k' (s.keep mask)⟩
  · rename_i c a ms1 h1 em
    cases e
    exact ⟨w, ms, _, k, sr, em, fun σ' w' H' d eh x k' s => g σ' w' H' d eh x k' (s.keep mask)⟩
  · exact ⟨w, ms, fl, k, sr, e, g⟩
theorem ss_tidy {st : Stmt} {m : MS} (mask : List Bool) (h : SS X W st m) : SS X W st (mTidy mask m) := ps_mono h tidy_ts
theorem sb_tidy {st : List Stmt} {m : MS} (mask : List Bool) (h : SB X W st m) : SB X W st (mTidy mask m) := pss_mono h tidy_ts
end
end Mx
namespace Mx
open PySem L2

abbrev sSc : Key := .inr (PySem.Str.ofString "script")
abbrev sSp : Key := .inr (PySem.Str.ofString "spot")
abbrev sSe : Key := .inr (PySem.Str.ofString "seed")
/-- a well -/
def Wl (ns : List Int) (p s : Int) : MO := .dic [(sSc, .lst (ns.map MV.int)), (sSp, .int p), (sSe, .int s)]
abbrev eSp : ME := mBin dgetOp (mVar 0) (mC (.str (PySem.Str.ofString "spot")))
abbrev eSc : ME := mBin dgetOp (mVar 0) (mC (.str (PySem.Str.ofString "script")))
abbrev eSe : ME := mBin dgetOp (mVar 0) (mC (.str (PySem.Str.ofString "seed")))
def tA : ME := mB (mBin (iOp ltF) (mVar 1) (mC (.int 2)))
def wA : MS := mIfS tA (mRet (mC (.int 0))) mSkip
def wB : MS := mDPut (mVar 0) (mC (.str (PySem.Str.ofString "spot"))) (mBin addOp eSp (mC (.int 1)))
def tC' : ME := mB (mBin (iOp leF) eSp (mCall lenF (mCons eSc mNil)))
def rC : MS := mRet (mBin (iOp modF) (mCall intF (mCons (mBin ixOp eSc (mBin (iOp subF) eSp (mC (.int 1)))) mNil)) (mVar 1))
def wC : MS := mIfS tC' rC mSkip
def wD (a b : Int) : MS := mDPut (mVar 0) (mC (.str (PySem.Str.ofString "seed"))) (mBin (iOp modF) (mBin addOp (mBin addOp (mBin (iOp mulF) eSe (mC (.int a))) (mC (.int b))) (mBin (iOp mulF) (mC (.int 31)) eSp)) (mC (.int 1000003)))
def wE : MS := mRet (mBin (iOp modF) (mBin (iOp divF) eSe (mC (.int 17))) (mVar 1))
def wDraw (a b : Int) : MS := mSeq wA (mSeq wB (mSeq wC (mSeq (wD a b) wE)))
theorem mIfS_t {c : ME} {a b : MS} {ms : Sl} {h h1 : Hm} (e : c ms h = some (.ok (.bl true) h1)) : mIfS c a b ms h = a ms h1 := by unfold mIfS; rw [e]; rfl
theorem mIfS_f {c : ME} {a b : MS} {ms : Sl} {h h1 : Hm} (e : c ms h = some (.ok (.bl false) h1)) : mIfS c a b ms h = b ms h1 := by unfold mIfS; rw [e]; rfl
theorem mSeq_nx {a b : MS} {ms ms1 : Sl} {h h1 : Hm} (e : a ms h = some (.nx ms1 h1)) : mSeq a b ms h = b ms1 h1 := by unfold mSeq; rw [e]
theorem mSeq_rt {a b : MS} {ms : Sl} {h h1 : Hm} {d : MV} (e : a ms h = some (.rt d h1)) : mSeq a b ms h = some (.rt d h1) := by unfold mSeq; rw [e]
section
variable (a b : Int) (ns : List Int) (p s n : Int) (r : Hm)
theorem wA_lt (h : n < 2) : wA [some (.ref 0), some (.int n)] r = some (.rt (.int 0) r) := by
  have c : tA [some (.ref 0), some (.int n)] r = some (.ok (.bl (decide (n < 2))) r) := rfl
  rw [decide_eq_true h] at c
  unfold wA
  rw [mIfS_t c]; rfl
theorem wA_ge (h : ¬ n < 2) : wA [some (.ref 0), some (.int n)] r = some (.nx [some (.ref 0), some (.int n)] r) := by
  have c : tA [some (.ref 0), some (.int n)] r = some (.ok (.bl (decide (n < 2))) r) := rfl
  rw [decide_eq_false h] at c
  unfold wA
  rw [mIfS_f c]; rfl
theorem wB_is : wB [some (.ref 0), some (.int n)] (some (Wl ns p s) :: r) = some (.nx [some (.ref 0), some (.int n)] (some (Wl ns (p + 1) s) :: r)) := by
  with_unfolding_all rfl
theorem tC_is : tC' [some (.ref 0), some (.int n)] (some (Wl ns p s) :: r) = some (.ok (.bl (decide (p ≤ ((ns.map MV.int).length : Int)))) (some (Wl ns p s) :: r)) := by
  with_unfolding_all rfl
theorem rC_is (i : Nat) (x : Int) (hp : p = i + 1) (hx : ns[i]? = some x) (hn : 0 < n) : rC [some (.ref 0), some (.int n)] (some (Wl ns p s) :: r) = some (.rt (.int (x % n)) (some (Wl ns p s) :: r)) := by
  have e1 : (mBin ixOp eSc (mBin (iOp subF) eSp (mC (.int 1)))) [some (.ref 0), some (.int n)] (some (Wl ns p s) :: r) = (atI (ns.map MV.int) (p - 1)).map fun d => .ok d (some (Wl ns p s) :: r) := by
    with_unfolding_all rfl
  have e2 : atI (ns.map MV.int) (p - 1) = some (.int x) := by
    have l : i < ns.length := (List.getElem?_eq_some_iff.mp hx).1
    unfold atI ixN
    have q : p - 1 = (i : Int) := by omega
    rw [q, List.length_map, if_pos (by omega), if_pos (by omega)]
    show (ns.map MV.int)[((i : Int)).toNat]? = _
    rw [Int.toNat_natCast, List.getElem?_map, hx]; rfl
  rw [e2] at e1
  show sb [some (.ref 0), some (.int n)] (rb (rb (rb ((mBin ixOp eSc (mBin (iOp subF) eSp (mC (.int 1)))) [some (.ref 0), some (.int n)] (some (Wl ns p s) :: r)) fun x h1 => some (RS.ok [x] h1)) fun xs h1 => (intF h1 xs).map fun d => RS.ok d h1) fun x h1 => (iOp modF h1 x (.int n)).map fun d => RS.ok d h1) (fun d h1 => some (Fl.rt d h1)) = _
  rw [e1]
  show sb [some (.ref 0), some (.int n)] ((iOp modF (some (Wl ns p s) :: r) (.int x) (.int n)).map fun d => RS.ok d (some (Wl ns p s) :: r)) (fun d h1 => some (Fl.rt d h1)) = _
  have m : iOp modF (some (Wl ns p s) :: r) (.int x) (.int n) = some (.int (x % n)) := if_pos hn
  rw [m]; rfl
theorem bin_is {f : F2} {ea eb : ME} {ms : Sl} {h : Hm} {x y d : MV} (e1 : ea ms h = some (.ok x h)) (e2 : eb ms h = some (.ok y h)) (e3 : f h x y = some d) : mBin f ea eb ms h = some (.ok d h) := by
  unfold mBin
  rw [e1]
  show rb (eb ms h) _ = _
  rw [e2]
  show (f h x y).map _ = _
  rw [e3]; rfl
theorem mul_r {i j : Int} {h : Hm} (h1 : -(2 ^ 64) < j) (h2 : j < 2 ^ 64) : iOp mulF h (.int i) (.int j) = some (.int (i * j)) := if_pos (.inl ⟨h1, h2⟩)
theorem mul_l {i j : Int} {h : Hm} (h1 : -(2 ^ 64) < i) (h2 : i < 2 ^ 64) : iOp mulF h (.int i) (.int j) = some (.int (i * j)) := if_pos (.inr ⟨h1, h2⟩)
theorem wD_is (ha : 0 ≤ a) (ha2 : a < 1000000) : wD a b [some (.ref 0), some (.int n)] (some (Wl ns p s) :: r) = some (.nx [some (.ref 0), some (.int n)] (some (Wl ns p ((s * a + b + 31 * p) % 1000003)) :: r)) := by
  have g1 : eSe [some (.ref 0), some (.int n)] (some (Wl ns p s) :: r) = some (.ok (.int s) (some (Wl ns p s) :: r)) := by with_unfolding_all rfl
  have g2 : eSp [some (.ref 0), some (.int n)] (some (Wl ns p s) :: r) = some (.ok (.int p) (some (Wl ns p s) :: r)) := by with_unfolding_all rfl
  have q1 := bin_is (f := iOp mulF) g1 (eb := mC (.int a)) (y := .int a) rfl (mul_r (by omega) (by omega))
  have q2 := bin_is (f := iOp mulF) (ea := mC (.int 31)) (x := .int 31) rfl g2 (mul_l (by decide) (by decide))
  have q3 := bin_is (f := addOp) q1 (eb := mC (.int b)) (y := .int b) rfl (d := .int (s * a + b)) rfl
  have q4 := bin_is (f := addOp) q3 q2 (d := .int (s * a + b + 31 * p)) rfl
  have q5 := bin_is (f := iOp modF) q4 (eb := mC (.int 1000003)) (y := .int 1000003) rfl (d := .int ((s * a + b + 31 * p) % 1000003)) (show (if (0 : Int) < 1000003 then some (MV.int ((s * a + b + 31 * p) % 1000003)) else none) = _ from if_pos (by decide))
  unfold wD mDPut
  rw [q5]
  with_unfolding_all rfl
theorem wE_is (hn : 0 < n) : wE [some (.ref 0), some (.int n)] (some (Wl ns p s) :: r) = some (.rt (.int ((s / 17) % n)) (some (Wl ns p s) :: r)) := by
  have e : wE [some (.ref 0), some (.int n)] (some (Wl ns p s) :: r) = sb [some (.ref 0), some (.int n)] ((iOp modF (some (Wl ns p s) :: r) (.int (s / 17)) (.int n)).map fun d => RS.ok d (some (Wl ns p s) :: r)) fun d h1 => some (.rt d h1) := by
    with_unfolding_all rfl
  rw [e]
  have m : iOp modF (some (Wl ns p s) :: r) (.int (s / 17)) (.int n) = some (.int ((s / 17) % n)) := if_pos hn
  rw [m]; rfl
/-- a draw: a number from 0 below n; only the well has changed -/
theorem draw_is (ha : 0 ≤ a) (ha2 : a < 1000000) (hn : 1 ≤ n) (hp : 0 ≤ p) : ∃ x p' s', 0 ≤ x ∧ x < n ∧ 0 ≤ p' ∧ runM 2 2 (wDraw a b) [.ref 0, .int n] (some (Wl ns p s) :: r) = some (.ok (.int x) (some (Wl ns p' s') :: r)) := by
  have run : ∀ fl, wDraw a b [some (.ref 0), some (.int n)] (some (Wl ns p s) :: r) = some fl → ∀ d h, fl = .rt d h → runM 2 2 (wDraw a b) [.ref 0, .int n] (some (Wl ns p s) :: r) = some (.ok d h) := by
    intro fl e d h ef
    subst ef
    show (if (2 : Nat) = 2 then _ else _) = _
    rw [if_pos rfl]
    show (match wDraw a b [some (.ref 0), some (.int n)] (some (Wl ns p s) :: r) with | some (.rt d h1) => some (RS.ok d h1) | some (.nx _ h1) => some (.ok .non h1) | some (.ex c xs _ h1) => some (.ex c xs h1) | _ => none) = _
    rw [e]
  by_cases h2 : n < 2
  · refine ⟨0, p, s, by omega, by omega, hp, run _ ?_ _ _ rfl⟩
    unfold wDraw
    rw [mSeq_rt (wA_lt n _ h2)]
  · have e0 : wDraw a b [some (.ref 0), some (.int n)] (some (Wl ns p s) :: r) = (mSeq wC (mSeq (wD a b) wE)) [some (.ref 0), some (.int n)] (some (Wl ns (p + 1) s) :: r) := by
      unfold wDraw
      rw [mSeq_nx (wA_ge n _ h2), mSeq_nx (wB_is ns p s n r)]
    by_cases hc : p + 1 ≤ ((ns.map MV.int).length : Int)
    · have c := tC_is ns (p + 1) s n r
      rw [decide_eq_true hc] at c
      rw [List.length_map] at hc
      have hl : p.toNat < ns.length := by omega
      refine ⟨ns[p.toNat] % n, p + 1, s, Int.emod_nonneg _ (by omega), Int.emod_lt_of_pos _ (by omega), by omega, run _ ?_ _ _ rfl⟩
      rw [e0]
      refine mSeq_rt ?_
      unfold wC
      rw [mIfS_t c]
      exact rC_is ns (p + 1) s n r p.toNat _ (by omega) (List.getElem?_eq_getElem hl) (by omega)
    · have c := tC_is ns (p + 1) s n r
      rw [decide_eq_false hc] at c
      refine ⟨(((s * a + b + 31 * (p + 1)) % 1000003) / 17) % n, p + 1, (s * a + b + 31 * (p + 1)) % 1000003, Int.emod_nonneg _ (by omega), Int.emod_lt_of_pos _ (by omega), by omega, run _ ?_ _ _ rfl⟩
      rw [e0]
      have z : wC [some (.ref 0), some (.int n)] (some (Wl ns (p + 1) s) :: r) = some (.nx [some (.ref 0), some (.int n)] (some (Wl ns (p + 1) s) :: r)) := by
        unfold wC
        rw [mIfS_f c]; rfl
      rw [mSeq_nx z, mSeq_nx (wD_is a b ns (p + 1) s n r ha ha2)]
      exact wE_is ns (p + 1) _ n r (by omega)
/-- the k-th of some drawn ones -/
def wOne (f : FD) : MS := mRet (mBin ixOp (mVar 1) (mCallD f (mCons (mVar 0) (mCons (mCall lenF (mCons (mVar 1) mNil)) mNil))))
theorem one_is (ha : 0 ≤ a) (ha2 : a < 1000000) (xs : List MV) (hx : 1 ≤ xs.length) (hp : 0 ≤ p) : ∃ (k : Nat) (d : MV) (p' s' : Int), k < xs.length ∧ xs[k]? = some d ∧ 0 ≤ p' ∧ runM 2 2 (wOne (runM 2 2 (wDraw a b))) [.ref 0, .lst xs] (some (Wl ns p s) :: r) = some (.ok d (some (Wl ns p' s') :: r)) := by
  obtain ⟨x, p', s', h0, h1, h2, e⟩ := draw_is a b ns p s (xs.length : Int) r ha ha2 (by omega) hp
  have hl : x.toNat < xs.length := by omega
  refine ⟨x.toNat, xs[x.toNat], p', s', hl, List.getElem?_eq_getElem hl, h2, ?_⟩
  have q : (mBin ixOp (mVar 1) (mCallD (runM 2 2 (wDraw a b)) (mCons (mVar 0) (mCons (mCall lenF (mCons (mVar 1) mNil)) mNil)))) [some (.ref 0), some (.lst xs)] (some (Wl ns p s) :: r) = some (.ok xs[x.toNat] (some (Wl ns p' s') :: r)) := by
    show rb (runM 2 2 (wDraw a b) [.ref 0, .int xs.length] (some (Wl ns p s) :: r)) (fun y h2 => (ixOp h2 (.lst xs) y).map fun d => RS.ok d h2) = _
    rw [e]
    show (atI xs x).map _ = _
    have z : atI xs x = some xs[x.toNat] := by
      unfold atI ixN
      rw [if_pos h0, if_pos (by omega)]
      exact List.getElem?_eq_getElem hl
    rw [z]; rfl
  show (if (2 : Nat) = 2 then _ else _) = _
  rw [if_pos rfl]
  show (match wOne (runM 2 2 (wDraw a b)) [some (.ref 0), some (.lst xs)] (some (Wl ns p s) :: r) with | some (.rt d h1) => some (RS.ok d h1) | some (.nx _ h1) => some (.ok .non h1) | some (.ex c xs _ h1) => some (.ex c xs h1) | _ => none) = _
  unfold wOne mRet
  rw [q]; rfl
end
section
variable (c : Int) (ns : List Int)
def mScr : ME := mComp (mItems (mVar 0)) (tgN 1) mTrue (mCall intF (mCons (mVar 1) mNil)) [1]
def mSeed (c : Int) : ME := mBin addOp (mC (.int c)) (mCall sumFA (mCons (mComp (mEnum (mCons (mVar 0) mNil)) (tgT [2, 1]) mTrue (mBin (iOp mulF) (mBin addOp (mVar 2) (mC (.int 1))) (mVar 1)) [2, 1]) mNil))
def wWell (c : Int) : MS := mRet (mDict ((.inr (PySem.Str.ofString "script"), mScr) :: ((.inr (PySem.Str.ofString "spot"), mC (.int 0)) :: ((.inr (PySem.Str.ofString "seed"), mSeed c) :: []))))
theorem scr_go : ∀ (ns : List Int) (x : MV), compGo (tgN 1) mTrue (mCall intF (mCons (mVar 1) mNil)) [some x, none, none] (ns.map MV.int) [] = some (.ok (ns.map MV.int) [])
  | [], _ => rfl
  | n :: ns, x => by
    have ih := scr_go ns x
    show rb (some (RS.ok (MV.int n) [])) (fun y h2 => rb (compGo (tgN 1) mTrue (mCall intF (mCons (mVar 1) mNil)) [some x, none, none] (ns.map MV.int) h2) fun ys h3 => some (.ok (y :: ys) h3)) = _
    show rb (compGo (tgN 1) mTrue (mCall intF (mCons (mVar 1) mNil)) [some x, none, none] (ns.map MV.int) []) (fun ys h3 => some (.ok (.int n :: ys) h3)) = _
    rw [ih]; rfl
def seedL : Nat → List Int → List Int
  | _, [] => []
  | i, n :: ns => (((i : Nat) : Int) + 1) * n :: seedL (i + 1) ns
theorem seed_go : ∀ (ns : List Int) (i : Nat) (x : MV), i + ns.length ≤ 63 → compGo (tgT [2, 1]) mTrue (mBin (iOp mulF) (mBin addOp (mVar 2) (mC (.int 1))) (mVar 1)) [some x, none, none] (enumM i (ns.map MV.int)) [] = some (.ok ((seedL i ns).map MV.int) [])
  | [], _, _, _ => rfl
  | n :: ns, i, x, hl => by
    rw [List.length_cons] at hl
    have ih := seed_go ns (i + 1) x (by omega)
    have q : (mBin (iOp mulF) (mBin addOp (mVar 2) (mC (.int 1))) (mVar 1)) [some x, some (.int n), some (.int i)] [] = some (RS.ok (MV.int ((((i : Nat) : Int) + 1) * n)) []) := bin_is (f := iOp mulF) (x := .int (((i : Nat) : Int) + 1)) (y := .int n) rfl rfl (mul_l (by omega) (by omega))
    show rb ((mBin (iOp mulF) (mBin addOp (mVar 2) (mC (.int 1))) (mVar 1)) [some x, some (.int n), some (.int i)] []) (fun y h2 => rb (compGo (tgT [2, 1]) mTrue (mBin (iOp mulF) (mBin addOp (mVar 2) (mC (.int 1))) (mVar 1)) [some x, none, none] (enumM (i + 1) (ns.map MV.int)) h2) fun ys h3 => some (.ok (y :: ys) h3)) = _
    rw [q]
    show rb (compGo (tgT [2, 1]) mTrue (mBin (iOp mulF) (mBin addOp (mVar 2) (mC (.int 1))) (mVar 1)) [some x, none, none] (enumM (i + 1) (ns.map MV.int)) []) (fun ys h3 => some (.ok (.int ((((i : Nat) : Int) + 1) * n) :: ys) h3)) = _
    rw [ih]; rfl
theorem intsOf_ints : ∀ is : List Int, intsOf (is.map MV.int) = some is
  | [] => rfl
  | i :: is => by rw [List.map_cons]; unfold intsOf; rw [intsOf_ints is]; rfl
theorem well_is (h63 : ns.length ≤ 63) : ∃ s, runM 3 1 (wWell c) [.scr (ns.map MV.int)] [] = some (.ok (.ref 0) [some (Wl ns 0 s)]) := by
  refine ⟨c + (seedL 0 ns).sum, ?_⟩
  have e1 : mScr [some (.scr (ns.map MV.int)), none, none] [] = some (.ok (.lst (ns.map MV.int)) []) := by
    show (if (ns.map MV.int).length ≤ 16777215 then lcEnd (compGo (tgN 1) mTrue (mCall intF (mCons (mVar 1) mNil)) [some (.scr (ns.map MV.int)), none, none] (ns.map MV.int) []) else none) = _
    rw [if_pos (by rw [List.length_map]; omega), scr_go]; rfl
  have e2 : mSeed c [some (.scr (ns.map MV.int)), none, none] [] = some (.ok (.int (c + (seedL 0 ns).sum)) []) := by
    have e3 : (mComp (mEnum (mCons (mVar 0) mNil)) (tgT [2, 1]) mTrue (mBin (iOp mulF) (mBin addOp (mVar 2) (mC (.int 1))) (mVar 1)) [2, 1]) [some (.scr (ns.map MV.int)), none, none] [] = some (.ok (.lst ((seedL 0 ns).map MV.int)) []) := by
      show (if (enumM 0 (ns.map MV.int)).length ≤ 16777215 then lcEnd (compGo (tgT [2, 1]) mTrue (mBin (iOp mulF) (mBin addOp (mVar 2) (mC (.int 1))) (mVar 1)) [some (.scr (ns.map MV.int)), none, none] (enumM 0 (ns.map MV.int)) []) else none) = _
      rw [if_pos (by rw [enumM_length, List.length_map]; omega), seed_go _ _ _ (by omega)]; rfl
    show rb (rb (rb ((mComp (mEnum (mCons (mVar 0) mNil)) (tgT [2, 1]) mTrue (mBin (iOp mulF) (mBin addOp (mVar 2) (mC (.int 1))) (mVar 1)) [2, 1]) [some (.scr (ns.map MV.int)), none, none] []) fun x h1 => some (.ok [x] h1)) fun xs h1 => (sumFA h1 xs).map fun d => RS.ok d h1) (fun y h2 => (addOp h2 (.int c) y).map fun d => RS.ok d h2) = _
    rw [e3]
    show rb ((sumFA [] [.lst ((seedL 0 ns).map MV.int)]).map fun d => RS.ok d []) _ = _
    have e4 : sumFA [] [.lst ((seedL 0 ns).map MV.int)] = some (.int (seedL 0 ns).sum) := by
      unfold sumFA sumF
      simp only [intsOf_ints, Option.map_some]
    rw [e4]; rfl
  have e5 : wWell c [some (.scr (ns.map MV.int)), none, none] [] = some (.rt (.ref 0) [some (Wl ns 0 (c + (seedL 0 ns).sum))]) := by
    show sb _ (rb (rb (mScr [some (.scr (ns.map MV.int)), none, none] []) fun v h1 => rb (rb (some (RS.ok (.int 0) h1)) fun v2 h2 => rb (rb (mSeed c [some (.scr (ns.map MV.int)), none, none] h2) fun v3 h3 => rb (some (RS.ok [] h3)) fun ps h4 => some (.ok ((sSe, v3) :: ps) h4)) fun ps h3 => some (.ok ((sSp, v2) :: ps) h3)) fun ps h2 => some (.ok ((sSc, v) :: ps) h2)) fun kvs h1 => if kvs.length ≤ 15 then some (RS.ok (MV.ref h1.length) (h1 ++ [some (.dic (mergeM [] kvs))])) else none) _ = _
    rw [e1]
    dsimp only [rb]
    rw [e2]
    with_unfolding_all rfl
  show (if (1 : Nat) = 1 then _ else _) = _
  rw [if_pos rfl]
  show (match wWell c [some (.scr (ns.map MV.int)), none, none] [] with | some (.rt d h1) => some (RS.ok d h1) | some (.nx _ h1) => some (.ok .non h1) | some (.ex c xs _ h1) => some (.ex c xs h1) | _ => none) = _
  rw [e5]
end
end Mx
namespace Mx
open PySem PySem.Spec PyProof.Rows L2

/-- the value of a run that left nothing behind -/
def valOf : Option (RS MV) → MV
  | some (.ok d _) => d
  | _ => .non
def okV : Option (RS MV) → Bool
  | some (.ok d _) => noRef d
  | _ => false
theorem okV_eq {r : Option (RS MV)} (h : okV r = true) : (∃ g, r = some (.ok (valOf r) g)) ∧ noRef (valOf r) = true := by
  unfold okV at h
  split at h
  · exact ⟨⟨_, rfl⟩, h⟩
  · cases h
def isF : Option (RS MV) → Bool
  | some (.ok (.bl false) _) => true
  | _ => false
def isT : Option (RS MV) → Bool
  | some (.ok (.bl true) _) => true
  | _ => false
theorem isF_eq {r : Option (RS MV)} (h : isF r = true) : okV r = true ∧ valOf r = .bl false := by
  unfold isF at h
  split at h
  · exact ⟨rfl, rfl⟩
  · cases h
theorem isT_eq {r : Option (RS MV)} (h : isT r = true) : okV r = true ∧ valOf r = .bl true := by
  unfold isT at h
  split at h
  · exact ⟨rfl, rfl⟩
  · cases h
/-- a closed run of a pure expression over the names that it reads -/
def okA (k : Sl) (e : ME) : Bool := k.all noRefO && okV (e k [])
def okF' (k : Sl) (e : ME) : Bool := k.all noRefO && isF (e k [])
def okT' (k : Sl) (e : ME) : Bool := k.all noRefO && isT (e k [])
def lstOf : MV → List MV
  | .lst xs => xs
  | _ => []
def okL (k : Sl) (e : ME) : Bool := okA k e && (match valOf (e k []) with
  | .lst (_ :: _) => true
  | _ => false)
theorem okL_of {k : Sl} {e : ME} (h : okL k e = true) : okA k e = true ∧ valOf (e k []) = .lst (lstOf (valOf (e k []))) ∧ 1 ≤ (lstOf (valOf (e k []))).length := by
  unfold okL at h
  rw [Bool.and_eq_true] at h
  refine ⟨h.1, ?_⟩
  have h2 := h.2
  split at h2
  · rename_i q; rw [q]; exact ⟨rfl, by simp [lstOf]⟩
  · cases h2
theorem pure_is {mask : List Bool} {e : ME} {ms k : Sl} {h : Hm} (ek : keepM mask ms = k) (c : okA k e = true) : mPure mask e ms h = some (.ok (valOf (e k [])) h) := by
  unfold okA at c
  rw [Bool.and_eq_true] at c
  obtain ⟨⟨g, e1⟩, e2⟩ := okV_eq c.2
  unfold mPure
  rw [ek, if_pos c.1]
  generalize e k [] = r at e1 e2 ⊢
  generalize valOf r = d at e1 e2 ⊢
  subst e1
  show (if noRef d = true then _ else _) = _
  rw [if_pos e2]
theorem pure_F {mask : List Bool} {e : ME} {ms k : Sl} {h : Hm} (ek : keepM mask ms = k) (c : okF' k e = true) : mPure mask e ms h = some (.ok (.bl false) h) := by
  unfold okF' at c
  rw [Bool.and_eq_true] at c
  have q := pure_is (h := h) ek (show okA k e = true by unfold okA; rw [Bool.and_eq_true]; exact ⟨c.1, (isF_eq c.2).1⟩)
  rw [(isF_eq c.2).2] at q
  exact q
theorem pure_T {mask : List Bool} {e : ME} {ms k : Sl} {h : Hm} (ek : keepM mask ms = k) (c : okT' k e = true) : mPure mask e ms h = some (.ok (.bl true) h) := by
  unfold okT' at c
  rw [Bool.and_eq_true] at c
  have q := pure_is (h := h) ek (show okA k e = true by unfold okA; rw [Bool.and_eq_true]; exact ⟨c.1, (isT_eq c.2).1⟩)
  rw [(isT_eq c.2).2] at q
  exact q
section
variable {X : Cx}
def rInT (K : PySem.W.Frag) : R2 := fun x y H Q => ∃ d ds, Dp K H x d ∧ Dp K H y (.tuple ds) ∧ SeqAt.shaped d = true ∧ SeqAt.shaped (.tuple ds) = true ∧ Q (.bl (ds.any fun z => PyData.eqv z d)) H
def rNotInT (K : PySem.W.Frag) : R2 := fun x y H Q => ∃ d ds, Dp K H x d ∧ Dp K H y (.tuple ds) ∧ SeqAt.shaped d = true ∧ SeqAt.shaped (.tuple ds) = true ∧ Q (.bl (!ds.any fun z => PyData.eqv z d)) H
theorem op_inT (hu : X.A.units + 65 < cLine) : OpR X (compareOp .In) (rInT X.K) := by
  intro pins s σ H x y v u Q I rx ry h
  obtain ⟨d, ds, hd, he, sd, se, q⟩ := h
  obtain ⟨as, r1⟩ := Dp.reads I d x v hd rx
  obtain ⟨bs, r2⟩ := Dp.reads I (.tuple ds) y u he ry
  exact SeqAt.in_tuple_reads r2 r1 (SeqAt.canLay_of_shaped se) (SeqAt.canLay_of_shaped sd) (room_in_shaped sd hu) ⟨.bl _, H, I, rfl, q⟩
theorem op_notInT (hu : X.A.units + 65 < cLine) : OpR X (compareOp .NotIn) (rNotInT X.K) := by
  intro pins s σ H x y v u Q I rx ry h
  obtain ⟨d, ds, hd, he, sd, se, q⟩ := h
  obtain ⟨as, r1⟩ := Dp.reads I d x v hd rx
  obtain ⟨bs, r2⟩ := Dp.reads I (.tuple ds) y u he ry
  exact SeqAt.notIn_tuple_reads r2 r1 (SeqAt.canLay_of_shaped se) (SeqAt.canLay_of_shaped sd) (room_in_shaped sd hu) ⟨.bl _, H, I, rfl, q⟩
def rInA (K : PySem.W.Frag) : R2 := fun x y H Q => rInD K x y H Q ∨ rInT K x y H Q
def rNotInA (K : PySem.W.Frag) : R2 := fun x y H Q => rNotInD K x y H Q ∨ rNotInT K x y H Q
theorem op_inA (hu : X.A.units + 65 < cLine) : OpR X (compareOp .In) (rInA X.K) := (op_inD hu).or (op_inT hu)
theorem op_notInA (hu : X.A.units + 65 < cLine) : OpR X (compareOp .NotIn) (rNotInA X.K) := (op_notInD hu).or (op_notInT hu)
def inMT (a : MV) : MV → Option Bool
  | .tup xs => if okF 64 a && okF 64 (.tup xs) then some (xs.any fun z => eqM 64 z a) else none
  | b => inM a b
def inOpA : F2 := fun _ a b => (inMT a b).map .bl
def ninOpA : F2 := fun _ a b => (inMT a b).map fun c => .bl (!c)
theorem in_coreT {w : Wd} {H : Hp} {a : MV} {xs : List MV} {x y : V} {c : Bool} (ra : VR X.K w.F w.φ H a x) (rb : VR X.K w.F w.φ H (.tup xs) y) (e : inMT a (.tup xs) = some c) :
    ∃ d ds, Dp X.K H x d ∧ Dp X.K H y (.tuple ds) ∧ SeqAt.shaped d = true ∧ SeqAt.shaped (.tuple ds) = true ∧ (ds.any fun z => PyData.eqv z d) = c := by
  change (if (okF 64 a && okF 64 (.tup xs)) = true then some (xs.any fun z => eqM 64 z a) else none) = some c at e
  split at e
  · rename_i h
    rw [Bool.and_eq_true] at h
    cases e
    have h2 : ∀ z ∈ xs, okF 63 z = true := List.all_eq_true.mp h.2
    have hp : toPD (.tup xs) = .tuple (toPDs xs) := by simp only [toPD]
    refine ⟨_, toPDs xs, ra.dp 64 a x h.1, by rw [← hp]; exact rb.dp 64 _ y h.2, shaped_of h.1, by rw [← hp]; exact shaped_of h.2, ?_⟩
    exact (any_eqv h.1 xs fun z hz => okF_up 63 z (h2 z hz)).symm
  · cases e
theorem op2_inA : Op2 X.K inOpA (rInA X.K) := fun w H a b d x y Q k ra rb e g => by
  unfold inOpA at e
  cases q : inMT a b with
  | none => rw [q] at e; cases e
  | some c =>
    rw [q] at e
    cases e
    cases b with
    | tup xs =>
      obtain ⟨d, ds, h1, h2, h3, h4, h5⟩ := in_coreT ra rb q
      exact .inr ⟨d, ds, h1, h2, h3, h4, by rw [h5]; exact g w H _ rfl Wx.refl k (.bl _)⟩
    | _ =>
      obtain ⟨d, ds, h1, h2, h3, h4, h5⟩ := in_core ra rb q
      exact .inl ⟨d, ds, h1, h2, h3, h4, by rw [h5]; exact g w H _ rfl Wx.refl k (.bl _)⟩
theorem op2_ninA : Op2 X.K ninOpA (rNotInA X.K) := fun w H a b d x y Q k ra rb e g => by
  unfold ninOpA at e
  cases q : inMT a b with
  | none => rw [q] at e; cases e
  | some c =>
    rw [q] at e
    cases e
    cases b with
    | tup xs =>
      obtain ⟨d, ds, h1, h2, h3, h4, h5⟩ := in_coreT ra rb q
      exact .inr ⟨d, ds, h1, h2, h3, h4, by rw [h5]; exact g w H _ rfl Wx.refl k (.bl _)⟩
    | _ =>
      obtain ⟨d, ds, h1, h2, h3, h4, h5⟩ := in_core ra rb q
      exact .inl ⟨d, ds, h1, h2, h3, h4, by rw [h5]; exact g w H _ rfl Wx.refl k (.bl _)⟩
end
/-- x = e -/
theorem set_is {i : Nat} {e : ME} {ms : Sl} {h h1 : Hm} {d : MV} (q : e ms h = some (.ok d h1)) : mSet i e ms h = some (.nx (ms.set i (some d)) h1) := by unfold mSet; rw [q]; rfl
theorem ret_is {e : ME} {ms : Sl} {h h1 : Hm} {d : MV} (q : e ms h = some (.ok d h1)) : mRet e ms h = some (.rt d h1) := by unfold mRet; rw [q]; rfl
theorem if_nx {c : ME} {a : MS} {ms : Sl} {h : Hm} (q : c ms h = some (.ok (.bl false) h)) : mIfS c a mSkip ms h = some (.nx ms h) := by rw [mIfS_f q]; rfl
/-- a for whose turns all go on, with a state that is said by P -/
theorem for_go {tm : TM} {body : MS} {P : Sl → Hm → Prop} : ∀ (xs : List MV), (∀ x ∈ xs, ∀ ms h, P ms h → ∃ ms1 ms2 h2, tm x ms = some ms1 ∧ body ms1 h = some (.nx ms2 h2) ∧ P ms2 h2) → ∀ ms h, P ms h → ∃ ms' h', forGo tm body xs ms h = some (.nx ms' h') ∧ P ms' h'
  | [], _, ms, h, p => ⟨ms, h, rfl, p⟩
  | x :: xs, H, ms, h, p => by
    obtain ⟨ms1, ms2, h2, e1, e2, p2⟩ := H x (by simp) ms h p
    obtain ⟨ms', h', e, p'⟩ := for_go xs (fun y hy => H y (by simp [hy])) ms2 h2 p2
    refine ⟨ms', h', ?_, p'⟩
    unfold forGo
    rw [e1]
    dsimp only
    rw [e2]
    exact e
theorem for_is {it : MA} {tm : TM} {body : MS} {ms : Sl} {h h1 : Hm} {xs : List MV} (q : it ms h = some (.ok xs h1)) : mFor it tm body ms h = forGo tm body xs ms h1 := by unfold mFor; rw [q]; rfl
theorem tidy_nx {mask : List Bool} {m : MS} {ms ms1 : Sl} {h h1 : Hm} (e : m ms h = some (.nx ms1 h1)) : mTidy mask m ms h = some (.nx (keepM mask ms1) h1) := by unfold mTidy; rw [e]
theorem runM_rt {n p : Nat} {m : MS} {ds : List MV} {h h1 : Hm} {d : MV} (hl : ds.length = p) (e : m (ds.map some ++ List.replicate (n - p) none) h = some (.rt d h1)) : runM n p m ds h = some (.ok d h1) := by
  unfold runM
  rw [if_pos hl, e]
theorem all_of {α : Type} {f : α → Bool} {xs : List α} (h : xs.all f = true) {x : α} (hx : x ∈ xs) : f x = true := List.all_eq_true.mp h x hx
theorem all_range {f : Nat → Bool} {n : Nat} (h : (List.range n).all f = true) {k : Nat} (hk : k < n) : f k = true := List.all_eq_true.mp h k (List.mem_range.mpr hk)
end Mx
namespace Mx
open PySem L2
section
variable {ms : Sl} {h : Hm} {a b c : ME} {x y : Bool}
theorem and_is (e1 : a ms h = some (.ok (.bl x) h)) (e2 : x = true → b ms h = some (.ok (.bl y) h)) : mAnd a b ms h = some (.ok (.bl (x && y)) h) := by
  unfold mAnd
  rw [e1]
  cases x
  · rfl
  · exact e2 rfl
theorem or_is (e1 : a ms h = some (.ok (.bl x) h)) (e2 : x = false → b ms h = some (.ok (.bl y) h)) : mOr a b ms h = some (.ok (.bl (x || y)) h) := by
  unfold mOr
  rw [e1]
  cases x
  · exact e2 rfl
  · rfl
theorem not_is (e1 : a ms h = some (.ok (.bl x) h)) : mNot a ms h = some (.ok (.bl (!x)) h) := by
  unfold mNot
  rw [e1]; rfl
theorem mB_is (e1 : a ms h = some (.ok (.bl x) h)) : mB a ms h = some (.ok (.bl x) h) := by
  unfold mB
  rw [e1]; rfl
theorem mIf_is {d : MV} {r1 r2 : ME} (e1 : a ms h = some (.ok (.bl x) h)) (t : x = true → r1 ms h = some (.ok d h)) (f : x = false → r2 ms h = some (.ok d h)) : mIf a r1 r2 ms h = some (.ok d h) := by
  unfold mIf
  rw [e1]
  cases x
  · exact f rfl
  · exact t rfl
end
theorem bin2_is {f : F2} {ea eb : ME} {ms : Sl} {h h1 h2 : Hm} {x y d : MV} (e1 : ea ms h = some (.ok x h1)) (e2 : eb ms h1 = some (.ok y h2)) (e3 : f h2 x y = some d) : mBin f ea eb ms h = some (.ok d h2) := by
  unfold mBin
  rw [e1]
  show rb (eb ms h1) _ = _
  rw [e2]
  show (f h2 x y).map _ = _
  rw [e3]; rfl
theorem cons_is {ea : ME} {r : MA} {ms : Sl} {h h1 h2 : Hm} {x : MV} {xs : List MV} (e1 : ea ms h = some (.ok x h1)) (e2 : r ms h1 = some (.ok xs h2)) : mCons ea r ms h = some (.ok (x :: xs) h2) := by
  unfold mCons
  rw [e1]
  show rb (r ms h1) _ = _
  rw [e2]; rfl
theorem tup_is {r : MA} {ms : Sl} {h h1 : Hm} {xs : List MV} (e : r ms h = some (.ok xs h1)) (hl : xs.length ≤ 16777216) : mTup r ms h = some (.ok (.tup xs) h1) := by
  unfold mTup
  rw [e]
  show (if xs.length ≤ 16777216 then some (RS.ok (MV.tup xs) h1) else none) = _
  rw [if_pos hl]
theorem setT_is {tm : TM} {e : ME} {ms ms1 : Sl} {h h1 : Hm} {d : MV} (q : e ms h = some (.ok d h1)) (t : tm d ms = some ms1) : mSetT tm e ms h = some (.nx ms1 h1) := by
  unfold mSetT
  rw [q]
  show (tm d ms).map _ = _
  rw [t]; rfl
theorem pure_of {mask : List Bool} {e : ME} {ms k : Sl} {h g : Hm} {d : MV} (ek : keepM mask ms = k) (c : k.all noRefO = true) (q : e k [] = some (.ok d g)) (n : noRef d = true) : mPure mask e ms h = some (.ok d h) := by
  unfold mPure
  rw [ek, if_pos c, q]
  show (if noRef d = true then _ else _) = _
  rw [if_pos n]
theorem call_is {f : FD} {r : MA} {ms : Sl} {h h1 : Hm} {xs : List MV} {q : Option (RS MV)} (e1 : r ms h = some (.ok xs h1)) (e2 : f xs h1 = q) : mCallD f r ms h = q := by unfold mCallD; rw [e1]; exact e2
theorem items_is {m : ME} {ms : Sl} {h h1 : Hm} {d : MV} {q : Option (RS (List MV))} (e1 : m ms h = some (.ok d h1)) (e2 : itemsOf d h1 = q) : mItems m ms h = q := by unfold mItems; rw [e1]; exact e2
section
variable {α : Type} {g : α → MV} {p : α → Bool} {f : α → MV} {tm : TM} {test elt : ME}
theorem comp_go {ms : Sl} {h : Hm} : ∀ (xs : List α), (∀ x ∈ xs, ∃ ms1, tm (g x) ms = some ms1 ∧ test ms1 h = some (.ok (.bl (p x)) h) ∧ (p x = true → elt ms1 h = some (.ok (f x) h))) →
    compGo tm test elt ms (xs.map g) h = some (.ok ((xs.filter p).map f) h)
  | [], _ => rfl
  | x :: xs, H => by
    have ih := comp_go xs fun y hy => H y (by simp [hy])
    obtain ⟨ms1, e1, e2, e3⟩ := H x (by simp)
    rw [List.map_cons]
    unfold compGo
    rw [e1]
    dsimp only
    rw [e2]
    cases hp : p x with
    | true =>
      show rb (elt ms1 h) _ = _
      rw [e3 hp]
      show rb (compGo tm test elt ms (xs.map g) h) _ = _
      rw [ih, List.filter_cons_of_pos hp]; rfl
    | false =>
      show compGo tm test elt ms (xs.map g) h = _
      rw [ih, List.filter_cons_of_neg (by rw [hp]; decide)]
theorem comp_is {it : MA} {own : List Nat} {ms : Sl} {h : Hm} {xs : List α} (e0 : it ms h = some (.ok (xs.map g) h)) (hl : xs.length ≤ 16777215)
    (H : ∀ x ∈ xs, ∃ ms1, tm (g x) (wipeM ms own) = some ms1 ∧ test ms1 h = some (.ok (.bl (p x)) h) ∧ (p x = true → elt ms1 h = some (.ok (f x) h))) :
    mComp it tm test elt own ms h = some (.ok (.lst ((xs.filter p).map f)) h) := by
  unfold mComp
  rw [e0]
  show (if (xs.map g).length ≤ 16777215 then lcEnd (compGo tm test elt (wipeM ms own) (xs.map g) h) else none) = _
  rw [if_pos (by rw [List.length_map]; exact hl), comp_go xs H]; rfl
end
end Mx
namespace Mx
open PySem L2
mutual
def nodes : MV → Nat
  | .tup xs => nodesL xs + 1
  | .lst xs => nodesL xs + 1
  | _ => 1
def nodesL : List MV → Nat
  | [] => 0
  | x :: xs => nodes x + nodesL xs
end
mutual
/-- data without texts -/
def noS : MV → Bool
  | .non => true
  | .bl _ => true
  | .int i => decide (i.natAbs < 1000000)
  | .tup xs => noSs xs
  | .lst xs => noSs xs
  | _ => false
def noSs : List MV → Bool
  | [] => true
  | x :: xs => noS x && noSs xs
end
theorem len_app (a b : Str) : (a ++ b).length = a.length + b.length := by
  show (a.cps ++ b.cps).size = _
  rw [Array.size_append]; rfl
theorem textFrom_le : ∀ (ts : List Str) (k : Nat) (acc : Str), (textFrom k acc ts).length ≤ acc.length + piled ts
  | [], k, acc => by show acc.length ≤ _; omega
  | t :: r, k, acc => by
    have ih := textFrom_le r (k + 1) (acc ++ (if k > 0 then ", " else "" : String) ++ t)
    show (textFrom (k + 1) (acc ++ (if k > 0 then ", " else "" : String) ++ t) r).length ≤ _
    have e : (acc ++ (Str.ofString (if k > 0 then ", " else "" : String)) ++ t).length ≤ acc.length + 2 + t.length := by
      rw [len_app, len_app]
      have : (Str.ofString (if k > 0 then ", " else "" : String)).length ≤ 2 := by split <;> decide +kernel
      omega
    have e2 : piled (t :: r) = t.length + 2 + piled r := by simp [piled]
    rw [e2]
    refine Nat.le_trans ih ?_
    have := e
    omega
theorem log2_small {i : Int} (h : i.natAbs < 1000000) : i.natAbs.log2 < 1920 := by
  by_cases z : i.natAbs = 0
  · rw [z]; decide
  · exact (Nat.log2_lt z).mpr (Nat.lt_trans h (by decide +kernel))
mutual
theorem show_le : ∀ d : MV, noS d = true → (toPD d).showable = true ∧ (toPD d).shown.length + 2 ≤ 2000 * nodes d
  | .non, _ => ⟨by simp [toPD, PyData.showable], by simp only [toPD, PyData.shown, nodes]; decide +kernel⟩
  | .bl b, _ => ⟨by simp [toPD, PyData.showable], by cases b <;> (simp only [toPD, PyData.shown, nodes]; decide +kernel)⟩
  | .int i, h => by
    have h' : i.natAbs < 1000000 := of_decide_eq_true (by simpa only [noS] using h)
    have l := log2_small h'
    refine ⟨by simp only [toPD, PyData.showable]; exact decide_eq_true l, ?_⟩
    simp only [toPD, PyData.shown, nodes]
    have := PyProof.Rows.int_text_len_1921 l
    show (Str.ofString (toString i)).length + 2 ≤ 2000 * 1
    omega
  | .tup xs, h => by
    obtain ⟨h1, h2⟩ := show_les xs (by simpa only [noS] using h)
    refine ⟨by simpa only [toPD, PyData.showable] using h1, ?_⟩
    simp only [toPD, PyData.shown, nodes]
    unfold tupleText
    rw [len_app, len_app]
    have e1 : (Str.ofString "(").length = 1 := by decide +kernel
    have e2 : (Str.ofString (if (PyData.shownAll (toPDs xs)).length == 1 then ",)" else ")" : String)).length ≤ 2 := by split <;> decide +kernel
    have e3 : (Str.join ", " (PyData.shownAll (toPDs xs))).length ≤ piled (PyData.shownAll (toPDs xs)) := by
      by_cases z : PyData.shownAll (toPDs xs) = []
      · rw [z]; decide +kernel
      · have := join_length_add _ z; omega
    omega
  | .lst xs, h => by
    obtain ⟨h1, h2⟩ := show_les xs (by simpa only [noS] using h)
    refine ⟨by simpa only [toPD, PyData.showable] using h1, ?_⟩
    simp only [toPD, PyData.shown, nodes]
    unfold listText
    rw [len_app]
    have e1 := textFrom_le (PyData.shownAll (toPDs xs)) 0 "["
    have e2 : (Str.ofString "[").length = 1 := by decide +kernel
    have e3 : (Str.ofString "]").length = 1 := by decide +kernel
    omega
  | .str _, h => by simp [noS] at h
  | .ed, h => by simp [noS] at h
  | .ref _, h => by simp [noS] at h
  | .ty _, h => by simp [noS] at h
  | .adr _, h => by simp [noS] at h
  | .scr _, h => by simp [noS] at h
theorem show_les : ∀ xs : List MV, noSs xs = true → PyData.showableAll (toPDs xs) = true ∧ piled (PyData.shownAll (toPDs xs)) ≤ 2000 * nodesL xs
  | [], _ => ⟨by simp [toPDs, PyData.showableAll], by simp [toPDs, PyData.shownAll, piled]⟩
  | x :: xs, h => by
    simp only [noSs, Bool.and_eq_true] at h
    obtain ⟨a1, a2⟩ := show_le x h.1
    obtain ⟨b1, b2⟩ := show_les xs h.2
    refine ⟨by simp only [toPDs, PyData.showableAll, a1, b1]; rfl, ?_⟩
    simp only [toPDs, PyData.shownAll, nodesL]
    have e2 : piled ((toPD x).shown :: PyData.shownAll (toPDs xs)) = (toPD x).shown.length + 2 + piled (PyData.shownAll (toPDs xs)) := by simp [piled]
    rw [e2]
    have : 1 ≤ nodes x := by cases x <;> simp [nodes]
    omega
end
theorem noS_ok : ∀ (n : Nat) (d : MV), okF n d = true → okF n d = true := fun _ _ h => h
/-- repr of short data -/
theorem repr_is {d : MV} {h : Hm} (h0 : isSeq d = true) (h1 : okF 60 d = true) (h2 : noS d = true) (h3 : nodes d ≤ 8000) : reprF h [d] = some (.str (toPD d).shown) := by
  obtain ⟨a, b⟩ := show_le d h2
  show (if (isSeq d && okF 60 d && (toPD d).showable && decide ((toPD d).shown.length ≤ 16777216)) = true then some (MV.str (toPD d).shown) else none) = _
  rw [if_pos]
  rw [h0, h1, a]
  exact decide_eq_true (by omega)
/-- repr(a) != repr(b) of the same data -/
theorem ne_repr {ma mb : ME} {ms : Sl} {h h1 h2 : Hm} {d : MV} (e1 : ma ms h = some (.ok d h1)) (e2 : mb ms h1 = some (.ok d h2)) (c0 : isSeq d = true) (c1 : okF 60 d = true) (c2 : noS d = true) (c3 : nodes d ≤ 8000) :
    mBin neOpS (mCall reprF (mCons ma mNil)) (mCall reprF (mCons mb mNil)) ms h = some (.ok (.bl false) h2) := by
  have r : ∀ g, reprF g [d] = some (.str (toPD d).shown) := fun g => repr_is c0 c1 c2 c3
  have q1 : mCall reprF (mCons ma mNil) ms h = some (.ok (.str (toPD d).shown) h1) := by
    unfold mCall
    rw [cons_is e1 (show mNil ms h1 = some (.ok [] h1) from rfl)]
    show (reprF h1 [d]).map _ = _
    rw [r]; rfl
  have q2 : mCall reprF (mCons mb mNil) ms h1 = some (.ok (.str (toPD d).shown) h2) := by
    unfold mCall
    rw [cons_is e2 (show mNil ms h2 = some (.ok [] h2) from rfl)]
    show (reprF h2 [d]).map _ = _
    rw [r]; rfl
  refine bin2_is q1 q2 ?_
  show some (MV.bl (!decide ((toPD d).shown = (toPD d).shown))) = _
  rw [decide_eq_true rfl]; rfl
theorem or2_is {a b : ME} {ms : Sl} {h h1 h2 : Hm} {y : Bool} (e1 : a ms h = some (.ok (.bl false) h1)) (e2 : b ms h1 = some (.ok (.bl y) h2)) : mOr a b ms h = some (.ok (.bl y) h2) := by
  unfold mOr
  rw [e1]
  exact e2
theorem mB2_is {a : ME} {x : Bool} {ms : Sl} {h h1 : Hm} (e1 : a ms h = some (.ok (.bl x) h1)) : mB a ms h = some (.ok (.bl x) h1) := by
  unfold mB
  rw [e1]; rfl
end Mx
namespace K16
open PySem PySem.Spec PyProof.Rows L2 Mx
def isiT (a b : String) : Option Bool := if a = b then some true else if a = "bool" ∧ b = "int" then some true else if a ∈ ["NoneType", "bool", "int", "str", "tuple", "list", "dict"] ∧ b ∈ ["bool", "int", "list", "tuple"] then some false else none
def top (i : Nat) : Stmt := PySem.Challenge.pw_elasticsheets_k16_marks_and_chains.main.body.getD i (.Pass ⟨0, 0, 0, 0⟩)
abbrev FnP (K : PySem.W.Frag) (x : Str) (st : Stmt) (f : Addr) (fd : FuncData) : Prop := FunD K x x (defArgs st) (defBody st) (defScope st) [] [] f fd
/-- what the head tells of the module -/
structure Env (K : PySem.W.Frag) (mg : Str → Option Value) where
  hT : IsiT K isiT
  b_bool : mg "bool" = none
  b_enumerate : mg "enumerate" = none
  b_int : mg "int" = none
  b_isinstance : mg "isinstance" = none
  b_len : mg "len" = none
  b_list : mg "list" = none
  b_range : mg "range" = none
  b_repr : mg "repr" = none
  b_set : mg "set" = none
  b_sorted : mg "sorted" = none
  b_sum : mg "sum" = none
  b_tuple : mg "tuple" = none
  f_is_integer : Addr
  d_is_integer : FuncData
  F_is_integer : FnP K "is_integer" (top 1) f_is_integer d_is_integer
  g_is_integer : mg "is_integer" = some (.ref f_is_integer)
  f_is_within : Addr
  d_is_within : FuncData
  F_is_within : FnP K "is_within" (top 2) f_is_within d_is_within
  g_is_within : mg "is_within" = some (.ref f_is_within)
  f_is_row : Addr
  d_is_row : FuncData
  F_is_row : FnP K "is_row" (top 3) f_is_row d_is_row
  g_is_row : mg "is_row" = some (.ref f_is_row)
  f_between : Addr
  d_between : FuncData
  F_between : FnP K "between" (top 5) f_between d_between
  g_between : mg "between" = some (.ref f_between)
  f_is_in : Addr
  d_is_in : FuncData
  F_is_in : FnP K "is_in" (top 6) f_is_in d_is_in
  g_is_in : mg "is_in" = some (.ref f_is_in)
  f_marks_of : Addr
  d_marks_of : FuncData
  F_marks_of : FnP K "marks_of" (top 7) f_marks_of d_marks_of
  g_marks_of : mg "marks_of" = some (.ref f_marks_of)
  f_is_mark : Addr
  d_is_mark : FuncData
  F_is_mark : FnP K "is_mark" (top 8) f_is_mark d_is_mark
  g_is_mark : mg "is_mark" = some (.ref f_is_mark)
  f_chains_of : Addr
  d_chains_of : FuncData
  F_chains_of : FnP K "chains_of" (top 9) f_chains_of d_chains_of
  g_chains_of : mg "chains_of" = some (.ref f_chains_of)
  f__law_well : Addr
  d__law_well : FuncData
  F__law_well : FnP K "_law_well" (top 11) f__law_well d__law_well
  g__law_well : mg "_law_well" = some (.ref f__law_well)
  f__law_draw : Addr
  d__law_draw : FuncData
  F__law_draw : FnP K "_law_draw" (top 12) f__law_draw d__law_draw
  g__law_draw : mg "_law_draw" = some (.ref f__law_draw)
  f__law_one : Addr
  d__law_one : FuncData
  F__law_one : FnP K "_law_one" (top 13) f__law_one d__law_one
  g__law_one : mg "_law_one" = some (.ref f__law_one)
  f__law_ranges : Addr
  d__law_ranges : FuncData
  F__law_ranges : FnP K "_law_ranges" (top 14) f__law_ranges d__law_ranges
  g__law_ranges : mg "_law_ranges" = some (.ref f__law_ranges)
  f__law_is_apart : Addr
  d__law_is_apart : FuncData
  F__law_is_apart : FnP K "_law_is_apart" (top 15) f__law_is_apart d__law_is_apart
  g__law_is_apart : mg "_law_is_apart" = some (.ref f__law_is_apart)
  f__law_inside : Addr
  d__law_inside : FuncData
  F__law_inside : FnP K "_law_inside" (top 16) f__law_inside d__law_inside
  g__law_inside : mg "_law_inside" = some (.ref f__law_inside)
  f__law_lots : Addr
  d__law_lots : FuncData
  F__law_lots : FnP K "_law_lots" (top 17) f__law_lots d__law_lots
  g__law_lots : mg "_law_lots" = some (.ref f__law_lots)
  f_law : Addr
  d_law : FuncData
  F_law : FnP K "law" (top 18) f_law d_law
  g_law : mg "law" = some (.ref f_law)
section
variable {P : Program} {w : World} {K : PySem.W.Frag} {mg : Str → Option Value} {base : Heap}
def N_is_integer : List Str := ["value"]
theorem sc_is_integer : FnScope N_is_integer ["value"] (defScope (top 1)) := ⟨rfl, rfl, rfl, by decide +kernel, rfl, by decide +kernel, by decide +kernel⟩
def M_is_integer : MS := (mRet (mAnd (mCall (isiF isiT) (mCons (mVar 0) (mCons (mC (.ty "int")) mNil))) (mNot (mCall (isiF isiT) (mCons (mVar 0) (mCons (mC (.ty "bool")) mNil))))))
def D_is_integer : FD := runM 1 1 M_is_integer
theorem ok_is_integer (e : Env K mg) : FnOk P w K mg base (L2.CX P w) 1 e.f_is_integer e.d_is_integer ["value"] (spF K D_is_integer) :=
  fn_ok e.F_is_integer sc_is_integer rfl rfl (by decide) fun cdv A outer s H E hr tk =>
    have sc := sc_is_integer
    (sb_one (ss_ret (se_and (se_blt call_isiA (cl_isi e.hT) (by rfl) (by exact e.b_isinstance) bt_isinstance (sa_cons (se_var (pv 0)) (sa_cons (se_tyN (by rfl) (by exact e.b_int) bt_int) sa_nil))) (se_one (se_not (se_blt call_isiA (cl_isi e.hT) (by rfl) (by exact e.b_isinstance) bt_isinstance (sa_cons (se_var (pv 0)) (sa_cons (se_tyN (by rfl) (by exact e.b_bool) bt_bool) sa_nil))))))))
def N_is_within : List Str := ["value", "least", "most"]
theorem sc_is_within : FnScope N_is_within ["value", "least", "most"] (defScope (top 2)) := ⟨rfl, rfl, rfl, by decide +kernel, rfl, by decide +kernel, by decide +kernel⟩
def M_is_within : MS := (mRet (mAnd (mCallD D_is_integer (mCons (mVar 0) mNil)) (mChain (mVar 1) (chLink (iOp leF) (mVar 0) (chLast (iOp leF) (mVar 2))))))
def D_is_within : FD := runM 3 3 M_is_within
theorem ok_is_within (e : Env K mg) : FnOk P w K mg base (L2.CX P w) 2 e.f_is_within e.d_is_within ["value", "least", "most"] (spF K D_is_within) :=
  fn_ok e.F_is_within sc_is_within rfl rfl (by decide) fun cdv A outer s H E hr tk =>
    have sc := sc_is_within
    (sb_one (ss_ret (se_and (se_call (ok_is_integer e) (by exact hr.mono (by decide)) (by rfl) (by exact e.g_is_integer) e.F_is_integer.kp (e.F_is_integer.bindsN (fun _ _ _ _ _ _ us hl => match us, hl with | [_], _ => rfl)) tk (sa_cons (se_var (pv 0)) sa_nil)) (se_one (se_chain (se_var (pv 1)) (sch_link op_le op2_le (se_var (pv 0)) (sch_last op_le op2_le (se_var (pv 2)))))))))
def N_is_row : List Str := ["value"]
theorem sc_is_row : FnScope N_is_row ["value"] (defScope (top 3)) := ⟨rfl, rfl, rfl, by decide +kernel, rfl, by decide +kernel, by decide +kernel⟩
def M_is_row : MS := (mRet (mCall (isiF isiT) (mCons (mVar 0) (mCons (mTup (mCons (mC (.ty "list")) (mCons (mC (.ty "tuple")) mNil))) mNil))))
def D_is_row : FD := runM 1 1 M_is_row
theorem ok_is_row (e : Env K mg) : FnOk P w K mg base (L2.CX P w) 1 e.f_is_row e.d_is_row ["value"] (spF K D_is_row) :=
  fn_ok e.F_is_row sc_is_row rfl rfl (by decide) fun cdv A outer s H E hr tk =>
    have sc := sc_is_row
    (sb_one (ss_ret (se_blt call_isiA (cl_isi e.hT) (by rfl) (by exact e.b_isinstance) bt_isinstance (sa_cons (se_var (pv 0)) (sa_cons (se_tup (sa_cons (se_tyN (by rfl) (by exact e.b_list) bt_list) (sa_cons (se_tyN (by rfl) (by exact e.b_tuple) bt_tuple) sa_nil))) sa_nil)))))
def N_between : List Str := ["upper", "lower"]
theorem sc_between : FnScope N_between ["upper", "lower"] (defScope (top 5)) := ⟨rfl, rfl, rfl, by decide +kernel, rfl, by decide +kernel, by decide +kernel⟩
def M_between : MS := (mRet (mIf (mOr (mB (mBin isOp (mVar 0) (mC .non))) (mB (mBin isOp (mVar 1) (mC .non)))) (mC .non) (mTup (mCons (mBin ixOp (mVar 0) (mC (.int 0))) (mCons (mBin ixOp (mVar 1) (mC (.int 1))) mNil)))))
def D_between : FD := runM 2 2 M_between
theorem ok_between (e : Env K mg) : FnOk P w K mg base (L2.CX P w) 1 e.f_between e.d_between ["upper", "lower"] (spF K D_between) :=
  fn_ok e.F_between sc_between rfl rfl (by decide) fun cdv A outer s H E hr tk =>
    have sc := sc_between
    (sb_one (ss_ret (se_if (PW.pt (sw_or (st_cmp op_isN op2_is (se_var (pv 0)) se_non (nomark _)) (sw_one (.inr rfl) (st_cmp op_isN op2_is (se_var (pv 1)) se_non (nomark _))))) se_non (se_tup (sa_cons (se_ix ix_seq op2_ix (se_var (pv 0)) se_int (fun _ _ => rfl)) (sa_cons (se_ix ix_seq op2_ix (se_var (pv 1)) se_int (fun _ _ => rfl)) sa_nil))))))
def N_is_in : List Str := ["mark", "first", "last"]
theorem sc_is_in : FnScope N_is_in ["mark", "first", "last"] (defScope (top 6)) := ⟨rfl, rfl, rfl, by decide +kernel, rfl, by decide +kernel, by decide +kernel⟩
def M_is_in : MS := (mRet (mAnd (mBin notOp (mVar 0) (mC .non)) (mAnd (mBin (iOp leF) (mVar 1) (mBin ixOp (mVar 0) (mC (.int 0)))) (mBin (iOp leF) (mBin ixOp (mVar 0) (mC (.int 1))) (mVar 2)))))
def D_is_in : FD := runM 3 3 M_is_in
theorem ok_is_in (e : Env K mg) : FnOk P w K mg base (L2.CX P w) 1 e.f_is_in e.d_is_in ["mark", "first", "last"] (spF K D_is_in) :=
  fn_ok e.F_is_in sc_is_in rfl rfl (by decide) fun cdv A outer s H E hr tk =>
    have sc := sc_is_in
    (sb_one (ss_ret (se_and (se_cmp op_notN op2_not (se_var (pv 0)) se_non (nomark _)) (se_and (se_cmp op_le op2_le (se_var (pv 1)) (se_ix ix_seq op2_ix (se_var (pv 0)) se_int (fun _ _ => rfl)) (nomark _)) (se_one (se_cmp op_le op2_le (se_ix ix_seq op2_ix (se_var (pv 0)) se_int (fun _ _ => rfl)) (se_var (pv 2)) (nomark _)))))))
def N_marks_of : List Str := ["many", "first", "last"]
theorem sc_marks_of : FnScope N_marks_of ["many"] (defScope (top 7)) := ⟨rfl, rfl, rfl, by decide +kernel, rfl, by decide +kernel, by decide +kernel⟩
def M_marks_of : MS := (mRet (mCall tupF (mCons (mComp2 (mRange 2 (mCons (mC (.int 1)) (mCons (mBin addOp (mVar 0) (mC (.int 1))) mNil))) (tgN 1) mTrue (mRange 2 (mCons (mVar 1) (mCons (mBin addOp (mVar 0) (mC (.int 1))) mNil))) (tgN 2) mTrue (mTup (mCons (mVar 1) (mCons (mVar 2) mNil))) [1, 2] [2]) mNil)))
def D_marks_of : FD := runM 3 1 M_marks_of
theorem ok_marks_of (e : Env K mg) : FnOk P w K mg base (L2.CX P w) 1 e.f_marks_of e.d_marks_of ["many"] (spF K D_marks_of) :=
  fn_ok e.F_marks_of sc_marks_of rfl rfl (by decide) fun cdv A outer s H E hr tk =>
    have sc := sc_marks_of
    (sb_one (ss_ret (se_ty call_tuple_of cl_tup (by rfl) (by exact e.b_tuple) bt_tuple (sa_cons (se_comp2 (own := [("first", 1), ("last", 2)]) (vs1 := [2]) (by rfl) (by exact sc.nd) (si_range2 (by rfl) (by exact e.b_range) (sa_cons se_int (sa_cons (se_bin op_addA op2_add (se_var (pv 0)) se_int) sa_nil))) (blkOk_by (N := N_marks_of) (sc := defScope (top 7)) (own := [("first", 1), ("last", 2)]) (by decide +kernel)) (by decide) (tgok_name 1) (by decide) (tgok_name 2) (by decide) (fun _ _ _ _ _ => (pg_name (i := 1) (by exact sc.nd) (by rfl) (by first | exact Or.inl rfl | exact Or.inr rfl))) (fun _ _ _ _ _ => pts_nilM) (fun _ _ _ _ _ => (si_range2 (by rfl) (by exact e.b_range) (sa_cons (se_var (pv 1)) (sa_cons (se_bin op_addA op2_add (se_var (pv 0)) se_int) sa_nil)))) (fun _ _ _ _ _ => (pg_name (i := 2) (by exact sc.nd) (by rfl) (by first | exact Or.inl rfl | exact Or.inr rfl))) (fun _ _ _ _ _ => pts_nilM) (fun _ _ _ _ _ => (se_tup (sa_cons (se_var (pv 1)) (sa_cons (se_var (pv 2)) sa_nil))))) sa_nil))))
def N_is_mark : List Str := ["value", "many"]
theorem sc_is_mark : FnScope N_is_mark ["value", "many"] (defScope (top 8)) := ⟨rfl, rfl, rfl, by decide +kernel, rfl, by decide +kernel, by decide +kernel⟩
def M_is_mark : MS := (mSeq (mIfS (mOr (mNot (mB (mCallD D_is_row (mCons (mVar 0) mNil)))) (mOr (mB (mBin neOpS (mCall lenF (mCons (mVar 0) mNil)) (mC (.int 2)))) (mNot (mB (mCallD D_is_within (mCons (mBin ixOp (mVar 0) (mC (.int 0))) (mCons (mC (.int 1)) (mCons (mVar 1) mNil)))))))) (mRet (mC (.bl false))) mSkip) (mRet (mCallD D_is_within (mCons (mBin ixOp (mVar 0) (mC (.int 1))) (mCons (mBin ixOp (mVar 0) (mC (.int 0))) (mCons (mVar 1) mNil))))))
def D_is_mark : FD := runM 2 2 M_is_mark
theorem ok_is_mark (e : Env K mg) : FnOk P w K mg base (L2.CX P w) 3 e.f_is_mark e.d_is_mark ["value", "many"] (spF K D_is_mark) :=
  fn_ok e.F_is_mark sc_is_mark rfl rfl (by decide) fun cdv A outer s H E hr tk =>
    have sc := sc_is_mark
    (sb_cons (ss_if (PW.pt (sw_or (st_not (st_val (se_call (ok_is_row e) (by exact hr.mono (by decide)) (by rfl) (by exact e.g_is_row) e.F_is_row.kp (e.F_is_row.bindsN (fun _ _ _ _ _ _ us hl => match us, hl with | [_], _ => rfl)) tk (sa_cons (se_var (pv 0)) sa_nil)))) (sw_or (st_cmp (op_neA (by exact hr.units)) op2_neA (se_blt call_len cl_len (by rfl) (by exact e.b_len) bt_len (sa_cons (se_var (pv 0)) sa_nil)) se_int (nomark _)) (sw_one (.inr rfl) (st_not (st_val (se_call (ok_is_within e) (by exact hr.mono (by decide)) (by rfl) (by exact e.g_is_within) e.F_is_within.kp (e.F_is_within.bindsN (fun _ _ _ _ _ _ us hl => match us, hl with | [_, _, _], _ => rfl)) tk (sa_cons (se_ix ix_seq op2_ix (se_var (pv 0)) se_int (fun _ _ => rfl)) (sa_cons se_int (sa_cons (se_var (pv 1)) sa_nil)))))))))) (sb_one (ss_ret se_bl)) sb_nil) (sb_one (ss_ret (se_call (ok_is_within e) (by exact hr.mono (by decide)) (by rfl) (by exact e.g_is_within) e.F_is_within.kp (e.F_is_within.bindsN (fun _ _ _ _ _ _ us hl => match us, hl with | [_, _, _], _ => rfl)) tk (sa_cons (se_ix ix_seq op2_ix (se_var (pv 0)) se_int (fun _ _ => rfl)) (sa_cons (se_ix ix_seq op2_ix (se_var (pv 0)) se_int (fun _ _ => rfl)) (sa_cons (se_var (pv 1)) sa_nil)))))))
def N_chains_of : List Str := ["many", "paths", "turn", "longer", "path", "first", "last"]
theorem sc_chains_of : FnScope N_chains_of ["many"] (defScope (top 9)) := ⟨rfl, rfl, rfl, by decide +kernel, rfl, by decide +kernel, by decide +kernel⟩
def M_chains_of : MS := (mSeq (mSet 1 (mLst (mCons (mTup (mCons (mTup (mCons (mC (.int 1)) (mCons (mC (.int 1)) mNil))) mNil)) mNil))) (mSeq (mFor (mRange 1 (mCons (mBin (iOp subF) (mBin (iOp mulF) (mC (.int 2)) (mVar 0)) (mC (.int 2))) mNil)) (tgN 2) (mSeq (mSet 3 (mNew mNil)) (mSeq (mFor (mItems (mVar 1)) (tgN 4) (mSeq (mSetT (tgT [5, 6]) (mBin ixOp (mVar 4) (mNeg (mC (.int 1))))) (mSeq (mIfS (mB (mBin (iOp ltF) (mVar 6) (mVar 0))) (mDrop (mApp (mVar 3) (mCons (mTup (mStar (mVar 4) (mCons (mTup (mCons (mVar 5) (mCons (mBin addOp (mVar 6) (mC (.int 1))) mNil))) mNil))) mNil))) mSkip) (mIfS (mB (mBin (iOp ltF) (mVar 5) (mVar 6))) (mDrop (mApp (mVar 3) (mCons (mTup (mStar (mVar 4) (mCons (mTup (mCons (mBin addOp (mVar 5) (mC (.int 1))) (mCons (mVar 6) mNil))) mNil))) mNil))) mSkip)))) (mSet 1 (mFrz (mVar 3)))))) (mRet (mCall tupF (mCons (mCall sortF (mCons (mVar 1) mNil)) mNil)))))
def D_chains_of : FD := runM 7 1 M_chains_of
theorem ok_chains_of (e : Env K mg) : FnOk P w K mg base (L2.CX P w) 1 e.f_chains_of e.d_chains_of ["many"] (spF K D_chains_of) :=
  fn_ok e.F_chains_of sc_chains_of rfl rfl (by decide) fun cdv A outer s H E hr tk =>
    have sc := sc_chains_of
    (sb_cons (ss_asg (ps_set (i := 1) (by exact sc.nd) (by rfl) (by first | exact Or.inl rfl | exact Or.inr rfl) (se_lst (sa_cons (se_tup (sa_cons (se_tup (sa_cons se_int (sa_cons se_int sa_nil))) sa_nil)) sa_nil))) (fun _ _ _ h => h)) (sb_cons (ss_for (by exact passes_of rfl) (by rfl) (si_range1 (by rfl) (by exact e.b_range) (sa_cons (se_bin op_sub op2_sub (se_bin op_mul op2_mul se_int (se_var (pv 0))) se_int) sa_nil)) (tgok_name 2) (pg_name (i := 2) (by exact sc.nd) (by rfl) (by first | exact Or.inl rfl | exact Or.inr rfl)) (sb_cons (ss_asg (ps_set (i := 3) (by exact sc.nd) (by rfl) (by first | exact Or.inl rfl | exact Or.inr rfl) (se_new sa_nil)) (fun _ _ _ h => h)) (sb_cons (ss_for (by exact passes_of rfl) (by rfl) (si_seq (se_var (pv 1))) (tgok_name 4) (pg_name (i := 4) (by exact sc.nd) (by rfl) (by first | exact Or.inl rfl | exact Or.inr rfl)) (sb_cons (ss_asgT (tgok_tup [5, 6]) (ps_asg (se_ix ix_seq op2_ix (se_var (pv 4)) (se_neg se_int) (fun _ _ => rfl)) (pg_tup (by rfl) (pgs_cons (pg_name (i := 5) (by exact sc.nd) (by rfl) (by first | exact Or.inl rfl | exact Or.inr rfl)) (pgs_cons (pg_name (i := 6) (by exact sc.nd) (by rfl) (by first | exact Or.inl rfl | exact Or.inr rfl)) pgs_nil))))) (sb_cons (ss_if (st_cmp op_lt op2_lt (se_var (pv 6)) (se_var (pv 0)) (nomark _)) (sb_one (ss_expr (se_app (se_var (pv 3)) (sa_cons (se_tup (sa_star (se_var (pv 4)) (sa_cons (se_tup (sa_cons (se_var (pv 5)) (sa_cons (se_bin op_addA op2_add (se_var (pv 6)) se_int) sa_nil))) sa_nil))) sa_nil)))) sb_nil) (sb_one (ss_if (st_cmp op_lt op2_lt (se_var (pv 5)) (se_var (pv 6)) (nomark _)) (sb_one (ss_expr (se_app (se_var (pv 3)) (sa_cons (se_tup (sa_star (se_var (pv 4)) (sa_cons (se_tup (sa_cons (se_bin op_addA op2_add (se_var (pv 5)) se_int) (sa_cons (se_var (pv 6)) sa_nil))) sa_nil))) sa_nil)))) sb_nil))))) (sb_one (ss_asg (ps_set (i := 1) (by exact sc.nd) (by rfl) (by first | exact Or.inl rfl | exact Or.inr rfl) (se_frz (se_var (pv 3)))) (fun _ _ _ h => h)))))) (sb_one (ss_ret (se_ty call_tuple_of cl_tup (by rfl) (by exact e.b_tuple) bt_tuple (sa_cons (se_blt (call_sortA (by exact u70 hr)) cl_sort (by rfl) (by exact e.b_sorted) bt_sorted (sa_cons (se_var (pv 1)) sa_nil)) sa_nil))))))
def N__law_well : List Str := ["script", "one", "at"]
theorem sc__law_well : FnScope N__law_well ["script"] (defScope (top 11)) := ⟨rfl, rfl, rfl, by decide +kernel, rfl, by decide +kernel, by decide +kernel⟩
def M__law_well : MS := (mRet (mDict ((.inr (PySem.Str.ofString "script"), (mComp (mItems (mVar 0)) (tgN 1) mTrue (mCall intF (mCons (mVar 1) mNil)) [1])) :: ((.inr (PySem.Str.ofString "spot"), (mC (.int 0))) :: ((.inr (PySem.Str.ofString "seed"), (mBin addOp (mC (.int 50613)) (mCall sumFA (mCons (mComp (mEnum (mCons (mVar 0) mNil)) (tgT [2, 1]) mTrue (mBin (iOp mulF) (mBin addOp (mVar 2) (mC (.int 1))) (mVar 1)) [2, 1]) mNil)))) :: [])))))
def D__law_well : FD := runM 3 1 M__law_well
theorem ok__law_well (e : Env K mg) : FnOk P w K mg base (L2.CX P w) 1 e.f__law_well e.d__law_well ["script"] (spF K D__law_well) :=
  fn_ok e.F__law_well sc__law_well rfl rfl (by decide) fun cdv A outer s H E hr tk =>
    have sc := sc__law_well
    (sb_one (ss_ret (se_dict (pps_cons pe_str (se_comp (own := [("one", 1)]) (by rfl) (by exact sc.nd) (si_seq (se_var (pv 0))) (blkOk_by (N := N__law_well) (sc := defScope (top 11)) (own := [("one", 1)]) (by decide +kernel)) (tgok_name 1) (by decide) (fun _ _ _ _ _ => (pg_name (i := 1) (by exact sc.nd) (by rfl) (by first | exact Or.inl rfl | exact Or.inr rfl))) (fun _ _ _ _ _ => pts_nilM) (fun _ _ _ _ _ => (se_ty call_int1 cl_int (by rfl) (by exact e.b_int) bt_int (sa_cons (se_var (pv 1)) sa_nil)))) (pps_cons pe_str se_int (pps_cons pe_str (se_bin op_addA op2_add se_int (se_blt (call_sumA (by rfl)) cl_sumA (by rfl) (by exact e.b_sum) bt_sum (sa_cons (se_comp (own := [("at", 2), ("one", 1)]) (by rfl) (by exact sc.nd) (si_enum (by rfl) (by exact e.b_enumerate) (sa_cons (se_var (pv 0)) sa_nil)) (blkOk_by (N := N__law_well) (sc := defScope (top 11)) (own := [("at", 2), ("one", 1)]) (by decide +kernel)) (tgok_tup [2, 1]) (by decide) (fun _ _ _ _ _ => (pg_tup (by rfl) (pgs_cons (pg_name (i := 2) (by exact sc.nd) (by rfl) (by first | exact Or.inl rfl | exact Or.inr rfl)) (pgs_cons (pg_name (i := 1) (by exact sc.nd) (by rfl) (by first | exact Or.inl rfl | exact Or.inr rfl)) pgs_nil)))) (fun _ _ _ _ _ => pts_nilM) (fun _ _ _ _ _ => (se_bin op_mul op2_mul (se_bin op_addA op2_add (se_var (pv 2)) se_int) (se_var (pv 1))))) sa_nil))) pps_nil))) rfl rfl (by simp) (by decide))))
def N__law_draw : List Str := ["well", "many"]
theorem sc__law_draw : FnScope N__law_draw ["well", "many"] (defScope (top 12)) := ⟨rfl, rfl, rfl, by decide +kernel, rfl, by decide +kernel, by decide +kernel⟩
def M__law_draw : MS := (mSeq (mIfS (mB (mBin (iOp ltF) (mVar 1) (mC (.int 2)))) (mRet (mC (.int 0))) mSkip) (mSeq (mDPut (mVar 0) (mC (.str (PySem.Str.ofString "spot"))) (mBin addOp (mBin dgetOp (mVar 0) (mC (.str (PySem.Str.ofString "spot")))) (mC (.int 1)))) (mSeq (mIfS (mB (mBin (iOp leF) (mBin dgetOp (mVar 0) (mC (.str (PySem.Str.ofString "spot")))) (mCall lenF (mCons (mBin dgetOp (mVar 0) (mC (.str (PySem.Str.ofString "script")))) mNil)))) (mRet (mBin (iOp modF) (mCall intF (mCons (mBin ixOp (mBin dgetOp (mVar 0) (mC (.str (PySem.Str.ofString "script")))) (mBin (iOp subF) (mBin dgetOp (mVar 0) (mC (.str (PySem.Str.ofString "spot")))) (mC (.int 1)))) mNil)) (mVar 1))) mSkip) (mSeq (mDPut (mVar 0) (mC (.str (PySem.Str.ofString "seed"))) (mBin (iOp modF) (mBin addOp (mBin addOp (mBin (iOp mulF) (mBin dgetOp (mVar 0) (mC (.str (PySem.Str.ofString "seed")))) (mC (.int 8105))) (mC (.int 42925))) (mBin (iOp mulF) (mC (.int 31)) (mBin dgetOp (mVar 0) (mC (.str (PySem.Str.ofString "spot")))))) (mC (.int 1000003)))) (mRet (mBin (iOp modF) (mBin (iOp divF) (mBin dgetOp (mVar 0) (mC (.str (PySem.Str.ofString "seed")))) (mC (.int 17))) (mVar 1)))))))
def D__law_draw : FD := runM 2 2 M__law_draw
theorem ok__law_draw (e : Env K mg) : FnOk P w K mg base (L2.CX P w) 1 e.f__law_draw e.d__law_draw ["well", "many"] (spF K D__law_draw) :=
  fn_ok e.F__law_draw sc__law_draw rfl rfl (by decide) fun cdv A outer s H E hr tk =>
    have sc := sc__law_draw
    (sb_cons (ss_if (st_cmp op_lt op2_lt (se_var (pv 1)) se_int (nomark _)) (sb_one (ss_ret se_int)) sb_nil) (sb_cons (ss_dput (by exact u1 hr) (se_var (pv 0)) se_str (se_bin op_addA op2_add (se_dget (by exact u1 hr) (se_var (pv 0)) se_str (fun _ _ => rfl)) se_int)) (sb_cons (ss_if (st_cmp op_le op2_le (se_dget (by exact u1 hr) (se_var (pv 0)) se_str (fun _ _ => rfl)) (se_blt call_len cl_len (by rfl) (by exact e.b_len) bt_len (sa_cons (se_dget (by exact u1 hr) (se_var (pv 0)) se_str (fun _ _ => rfl)) sa_nil)) (nomark _)) (sb_one (ss_ret (se_bin op_mod op2_mod (se_ty call_int1 cl_int (by rfl) (by exact e.b_int) bt_int (sa_cons (se_ix ix_seq op2_ix (se_dget (by exact u1 hr) (se_var (pv 0)) se_str (fun _ _ => rfl)) (se_bin op_sub op2_sub (se_dget (by exact u1 hr) (se_var (pv 0)) se_str (fun _ _ => rfl)) se_int) (fun _ _ => rfl)) sa_nil)) (se_var (pv 1))))) sb_nil) (sb_cons (ss_dput (by exact u1 hr) (se_var (pv 0)) se_str (se_bin op_mod op2_mod (se_bin op_addA op2_add (se_bin op_addA op2_add (se_bin op_mul op2_mul (se_dget (by exact u1 hr) (se_var (pv 0)) se_str (fun _ _ => rfl)) se_int) se_int) (se_bin op_mul op2_mul se_int (se_dget (by exact u1 hr) (se_var (pv 0)) se_str (fun _ _ => rfl)))) se_int)) (sb_one (ss_ret (se_bin op_mod op2_mod (se_bin op_fdiv op2_div (se_dget (by exact u1 hr) (se_var (pv 0)) se_str (fun _ _ => rfl)) se_int) (se_var (pv 1)))))))))
def N__law_one : List Str := ["well", "some"]
theorem sc__law_one : FnScope N__law_one ["well", "some"] (defScope (top 13)) := ⟨rfl, rfl, rfl, by decide +kernel, rfl, by decide +kernel, by decide +kernel⟩
def M__law_one : MS := (mRet (mBin ixOp (mVar 1) (mCallD D__law_draw (mCons (mVar 0) (mCons (mCall lenF (mCons (mVar 1) mNil)) mNil)))))
def D__law_one : FD := runM 2 2 M__law_one
theorem ok__law_one (e : Env K mg) : FnOk P w K mg base (L2.CX P w) 2 e.f__law_one e.d__law_one ["well", "some"] (spF K D__law_one) :=
  fn_ok e.F__law_one sc__law_one rfl rfl (by decide) fun cdv A outer s H E hr tk =>
    have sc := sc__law_one
    (sb_one (ss_ret (se_ix ix_seq op2_ix (se_var (pv 1)) (se_call (ok__law_draw e) (by exact hr.mono (by decide)) (by rfl) (by exact e.g__law_draw) e.F__law_draw.kp (e.F__law_draw.bindsN (fun _ _ _ _ _ _ us hl => match us, hl with | [_, _], _ => rfl)) tk (sa_cons (se_var (pv 0)) (sa_cons (se_blt call_len cl_len (by rfl) (by exact e.b_len) bt_len (sa_cons (se_var (pv 1)) sa_nil)) sa_nil))) (fun _ _ => rfl))))
def N__law_ranges : List Str := ["many", "first", "last"]
theorem sc__law_ranges : FnScope N__law_ranges ["many"] (defScope (top 14)) := ⟨rfl, rfl, rfl, by decide +kernel, rfl, by decide +kernel, by decide +kernel⟩
def M__law_ranges : MS := (mRet (mCall sumFA (mCons (mComp (mRange 2 (mCons (mC (.int 1)) (mCons (mBin addOp (mVar 0) (mC (.int 1))) mNil))) (tgN 1) mTrue (mComp (mRange 2 (mCons (mVar 1) (mCons (mBin addOp (mVar 0) (mC (.int 1))) mNil))) (tgN 2) mTrue (mTup (mCons (mVar 1) (mCons (mVar 2) mNil))) [2]) [1]) (mCons (mLst mNil) mNil))))
def D__law_ranges : FD := runM 3 1 M__law_ranges
theorem ok__law_ranges (e : Env K mg) : FnOk P w K mg base (L2.CX P w) 1 e.f__law_ranges e.d__law_ranges ["many"] (spF K D__law_ranges) :=
  fn_ok e.F__law_ranges sc__law_ranges rfl rfl (by decide) fun cdv A outer s H E hr tk =>
    have sc := sc__law_ranges
    (sb_one (ss_ret (se_blt (call_sumA (by rfl)) cl_sumA (by rfl) (by exact e.b_sum) bt_sum (sa_cons (se_comp (own := [("first", 1)]) (by rfl) (by exact sc.nd) (si_range2 (by rfl) (by exact e.b_range) (sa_cons se_int (sa_cons (se_bin op_addA op2_add (se_var (pv 0)) se_int) sa_nil))) (blkOk_by (N := N__law_ranges) (sc := defScope (top 14)) (own := [("first", 1)]) (by decide +kernel)) (tgok_name 1) (by decide) (fun _ _ _ _ _ => (pg_name (i := 1) (by exact sc.nd) (by rfl) (by first | exact Or.inl rfl | exact Or.inr rfl))) (fun _ _ _ _ _ => pts_nilM) (fun _ _ _ _ _ => (se_comp (own := [("last", 2)]) (by rfl) (by exact sc.nd) (si_range2 (by rfl) (by exact e.b_range) (sa_cons (se_var (pv 1)) (sa_cons (se_bin op_addA op2_add (se_var (pv 0)) se_int) sa_nil))) (blkOk_by (own := [("last", 2)]) (by rfl)) (tgok_name 2) (by decide) (fun _ _ _ _ _ => (pg_name (i := 2) (by exact sc.nd) (by rfl) (by first | exact Or.inl rfl | exact Or.inr rfl))) (fun _ _ _ _ _ => pts_nilM) (fun _ _ _ _ _ => (se_tup (sa_cons (se_var (pv 1)) (sa_cons (se_var (pv 2)) sa_nil))))))) (sa_cons (se_lst sa_nil) sa_nil)))))
def N__law_is_apart : List Str := ["one", "other"]
theorem sc__law_is_apart : FnScope N__law_is_apart ["one", "other"] (defScope (top 15)) := ⟨rfl, rfl, rfl, by decide +kernel, rfl, by decide +kernel, by decide +kernel⟩
def M__law_is_apart : MS := (mRet (mOr (mAnd (mBin (iOp ltF) (mBin ixOp (mVar 0) (mC (.int 0))) (mBin ixOp (mVar 1) (mC (.int 0)))) (mBin (iOp ltF) (mBin ixOp (mVar 1) (mC (.int 1))) (mBin ixOp (mVar 0) (mC (.int 1))))) (mAnd (mBin (iOp ltF) (mBin ixOp (mVar 1) (mC (.int 0))) (mBin ixOp (mVar 0) (mC (.int 0)))) (mBin (iOp ltF) (mBin ixOp (mVar 0) (mC (.int 1))) (mBin ixOp (mVar 1) (mC (.int 1)))))))
def D__law_is_apart : FD := runM 2 2 M__law_is_apart
theorem ok__law_is_apart (e : Env K mg) : FnOk P w K mg base (L2.CX P w) 1 e.f__law_is_apart e.d__law_is_apart ["one", "other"] (spF K D__law_is_apart) :=
  fn_ok e.F__law_is_apart sc__law_is_apart rfl rfl (by decide) fun cdv A outer s H E hr tk =>
    have sc := sc__law_is_apart
    (sb_one (ss_ret (se_or (se_and (se_cmp op_lt op2_lt (se_ix ix_seq op2_ix (se_var (pv 0)) se_int (fun _ _ => rfl)) (se_ix ix_seq op2_ix (se_var (pv 1)) se_int (fun _ _ => rfl)) (nomark _)) (se_one (se_cmp op_lt op2_lt (se_ix ix_seq op2_ix (se_var (pv 1)) se_int (fun _ _ => rfl)) (se_ix ix_seq op2_ix (se_var (pv 0)) se_int (fun _ _ => rfl)) (nomark _)))) (se_one (se_and (se_cmp op_lt op2_lt (se_ix ix_seq op2_ix (se_var (pv 1)) se_int (fun _ _ => rfl)) (se_ix ix_seq op2_ix (se_var (pv 0)) se_int (fun _ _ => rfl)) (nomark _)) (se_one (se_cmp op_lt op2_lt (se_ix ix_seq op2_ix (se_var (pv 0)) se_int (fun _ _ => rfl)) (se_ix ix_seq op2_ix (se_var (pv 1)) se_int (fun _ _ => rfl)) (nomark _))))))))
def N__law_inside : List Str := ["mark", "many", "one"]
theorem sc__law_inside : FnScope N__law_inside ["mark", "many"] (defScope (top 16)) := ⟨rfl, rfl, rfl, by decide +kernel, rfl, by decide +kernel, by decide +kernel⟩
def M__law_inside : MS := (mRet (mIf (mB (mBin isOp (mVar 0) (mC .non))) (mLst mNil) (mComp (mItems (mCallD D__law_ranges (mCons (mVar 1) mNil))) (tgN 2) (mAnd (mB (mBin (iOp leF) (mBin ixOp (mVar 2) (mC (.int 0))) (mBin ixOp (mVar 0) (mC (.int 0))))) (mB (mBin (iOp leF) (mBin ixOp (mVar 0) (mC (.int 1))) (mBin ixOp (mVar 2) (mC (.int 1)))))) (mVar 2) [2])))
def D__law_inside : FD := runM 3 2 M__law_inside
theorem ok__law_inside (e : Env K mg) : FnOk P w K mg base (L2.CX P w) 2 e.f__law_inside e.d__law_inside ["mark", "many"] (spF K D__law_inside) :=
  fn_ok e.F__law_inside sc__law_inside rfl rfl (by decide) fun cdv A outer s H E hr tk =>
    have sc := sc__law_inside
    (sb_one (ss_ret (se_if (st_cmp op_isN op2_is (se_var (pv 0)) se_non (nomark _)) (se_lst sa_nil) (se_comp (own := [("one", 2)]) (by rfl) (by exact sc.nd) (si_seq (se_call (ok__law_ranges e) (by exact hr.mono (by decide)) (by rfl) (by exact e.g__law_ranges) e.F__law_ranges.kp (e.F__law_ranges.bindsN (fun _ _ _ _ _ _ us hl => match us, hl with | [_], _ => rfl)) tk (sa_cons (se_var (pv 1)) sa_nil))) (blkOk_by (N := N__law_inside) (sc := defScope (top 16)) (own := [("one", 2)]) (by decide +kernel)) (tgok_name 2) (by decide) (fun _ _ _ _ _ => (pg_name (i := 2) (by exact sc.nd) (by rfl) (by first | exact Or.inl rfl | exact Or.inr rfl))) (fun _ _ _ _ _ => pts_one (PW.pt (sw_and (st_cmp op_le op2_le (se_ix ix_seq op2_ix (se_var (pv 2)) se_int (fun _ _ => rfl)) (se_ix ix_seq op2_ix (se_var (pv 0)) se_int (fun _ _ => rfl)) (nomark _)) (sw_one (.inl rfl) (st_cmp op_le op2_le (se_ix ix_seq op2_ix (se_var (pv 0)) se_int (fun _ _ => rfl)) (se_ix ix_seq op2_ix (se_var (pv 2)) se_int (fun _ _ => rfl)) (nomark _)))))) (fun _ _ _ _ _ => (se_var (pv 2)))))))
def N__law_lots : List Str := ["marks", "found", "mark", "lot", "one"]
theorem sc__law_lots : FnScope N__law_lots ["marks"] (defScope (top 17)) := ⟨rfl, rfl, rfl, by decide +kernel, rfl, by decide +kernel, by decide +kernel⟩
def M__law_lots : MS := (mSeq (mSet 1 (mLst (mCons (mTup mNil) mNil))) (mSeq (mFor (mItems (mVar 0)) (tgN 2) (mSet 1 (mBin addOp (mVar 1) (mComp (mItems (mVar 1)) (tgN 3) (mB (mBin eqOpS (mComp (mItems (mVar 3)) (tgN 4) (mB (mCallD D__law_is_apart (mCons (mVar 4) (mCons (mVar 2) mNil)))) (mVar 4) [4]) (mLst mNil))) (mBin addOp (mVar 3) (mTup (mCons (mVar 2) mNil))) [3])))) (mRet (mVar 1))))
def D__law_lots : FD := runM 5 1 M__law_lots
theorem ok__law_lots (e : Env K mg) : FnOk P w K mg base (L2.CX P w) 2 e.f__law_lots e.d__law_lots ["marks"] (spF K D__law_lots) :=
  fn_ok e.F__law_lots sc__law_lots rfl rfl (by decide) fun cdv A outer s H E hr tk =>
    have sc := sc__law_lots
    (sb_cons (ss_asg (ps_set (i := 1) (by exact sc.nd) (by rfl) (by first | exact Or.inl rfl | exact Or.inr rfl) (se_lst (sa_cons (se_tup sa_nil) sa_nil))) (fun _ _ _ h => h)) (sb_cons (ss_for (by exact passes_of rfl) (by rfl) (si_seq (se_var (pv 0))) (tgok_name 2) (pg_name (i := 2) (by exact sc.nd) (by rfl) (by first | exact Or.inl rfl | exact Or.inr rfl)) (sb_one (ss_asg (ps_set (i := 1) (by exact sc.nd) (by rfl) (by first | exact Or.inl rfl | exact Or.inr rfl) (se_bin op_addA op2_add (se_var (pv 1)) (se_comp (own := [("lot", 3)]) (by rfl) (by exact sc.nd) (si_seq (se_var (pv 1))) (blkOk_by (N := N__law_lots) (sc := defScope (top 17)) (own := [("lot", 3)]) (by decide +kernel)) (tgok_name 3) (by decide) (fun _ _ _ _ _ => (pg_name (i := 3) (by exact sc.nd) (by rfl) (by first | exact Or.inl rfl | exact Or.inr rfl))) (fun _ _ _ _ _ => pts_one (st_cmp (op_eqA (by exact hr.units)) op2_eqA (se_comp (own := [("one", 4)]) (by rfl) (by exact sc.nd) (si_seq (se_var (pv 3))) (blkOk_by (own := [("one", 4)]) (by rfl)) (tgok_name 4) (by decide) (fun _ _ _ _ _ => (pg_name (i := 4) (by exact sc.nd) (by rfl) (by first | exact Or.inl rfl | exact Or.inr rfl))) (fun _ _ _ _ _ => pts_one (st_val (se_call (ok__law_is_apart e) (by exact hr.mono (by decide)) (by rfl) (by exact e.g__law_is_apart) e.F__law_is_apart.kp (e.F__law_is_apart.bindsN (fun _ _ _ _ _ _ us hl => match us, hl with | [_, _], _ => rfl)) takes0 (sa_cons (se_var (pv 4)) (sa_cons (se_var (pv 2)) sa_nil))))) (fun _ _ _ _ _ => (se_var (pv 4)))) (se_lst sa_nil) (nomark _))) (fun _ _ _ _ _ => (se_bin op_addA op2_add (se_var (pv 3)) (se_tup (sa_cons (se_var (pv 2)) sa_nil))))))) (fun _ _ _ h => h)))) (sb_one (ss_ret (se_var (pv 1))))))
def N_law : List Str := ["script", "well", "turn", "many", "marks", "one", "other", "first", "last", "told", "both", "odd", "due", "small", "lots", "most", "inside", "part", "lot", "mark", "chain", "its"]
theorem sc_law : FnScope N_law ["script"] (defScope (top 18)) := ⟨rfl, rfl, rfl, by decide +kernel, rfl, by decide +kernel, by decide +kernel⟩
def P0k : List Bool := [false, false, false, false, false, false, false, false, false, false, false, false, false, false, false, false, false, false, false, false, false, false]
def P0 : ME := (mBin eqOpS (mComp (mRange 2 (mCons (mC (.int 1)) (mCons (mC (.int 7)) mNil))) (tgN 3) mTrue (mVal lenSetF (mCallD D_chains_of (mCons (mVar 3) mNil))) [3]) (mLst (mCons (mC (.int 1)) (mCons (mC (.int 1)) (mCons (mC (.int 2)) (mCons (mC (.int 5)) (mCons (mC (.int 14)) (mCons (mC (.int 42)) mNil))))))))
def L2 : MS := (mRet (mPure P0k P0))
def P1k : List Bool := [false, false, false, false, false, false, false, false, false, true, false, false, false, false, false, false, false, false, false, false, false, false]
def P1 : ME := (mB (mBin neOpS (mComp (mItems (mVar 9)) (tgN 20) (mB (mBin neOpS (mComp (mItems (mVar 20)) (tgN 19) (mB (mBin neOpS (mComp (mItems (mVar 20)) (tgN 21) (mB (mCallD D__law_is_apart (mCons (mVar 19) (mCons (mVar 21) mNil)))) (mC (.int 1)) [21]) (mLst mNil))) (mVar 19) [19]) (mLst mNil))) (mVar 20) [20]) (mLst mNil)))
def L5 : MS := (mRet (mC (.bl false)))
def L6 : MS := (mIfS (mPure P1k P1) L5 mSkip)
def P2k : List Bool := [false, false, false, true, false, false, false, false, false, true, false, false, false, false, false, false, false, false, false, false, false, false]
def P2 : ME := (mOr (mB (mBin neOpS (mCall listF (mCons (mVar 9) mNil)) (mCall sortF (mCons (mVar 9) mNil)))) (mB (mBin neOpS (mComp (mItems (mVar 9)) (tgN 20) (mOr (mB (mBin neOpS (mCall listF (mCons (mVar 20) mNil)) (mVal sortSetF (mVar 20)))) (mB (mBin neOpS (mCall lenF (mCons (mVar 20) mNil)) (mBin (iOp subF) (mBin (iOp mulF) (mC (.int 2)) (mVar 3)) (mC (.int 1)))))) (mVar 20) [20]) (mLst mNil))))
def L9 : MS := (mRet (mC (.bl false)))
def L10 : MS := (mIfS (mPure P2k P2) L9 mSkip)
def P3k : List Bool := [false, false, false, true, false, false, false, false, false, false, false, false, false, false, false, false, false, false, false, false, false, false]
def P3 : ME := (mCallD D_chains_of (mCons (mVar 3) mNil))
def L13 : MS := (mSet 9 (mPure P3k P3))
def L14 : MS := (mFor (mItems (mTup (mCons (mC (.int 5)) (mCons (mC (.int 6)) mNil)))) (tgN 3) (mTidy [false, false, false, false, false, false, false, false, false, false, false, false, false, false, false, false, false, false, false, false, false, false] (mSeq L13 (mSeq L10 L6))))
def P4k : List Bool := [false, false, false, false, false, false, false, false, false, false, false, false, false, true, false, true, false, false, false, false, false, false]
def P4 : ME := (mOr (mB (mBin neOpS (mCall reprF (mCons (mCallD D_chains_of (mCons (mVar 13) mNil)) mNil)) (mCall reprF (mCons (mCall tupF (mCons (mCall sortF (mCons (mVar 15) mNil)) mNil)) mNil)))) (mB (mBin neOpS (mCallD (fun zs => D_chains_of (pick [0] zs)) (mCons (mVar 13) mNil)) (mCallD D_chains_of (mCons (mVar 13) mNil)))))
def L17 : MS := (mRet (mC (.bl false)))
def L18 : MS := (mIfS (mPure P4k P4) L17 mSkip)
def P5k : List Bool := [false, false, false, false, false, false, false, false, false, false, false, false, false, false, true, false, false, false, false, false, false, false]
def P5 : ME := (mComp (mItems (mVar 14)) (tgN 18) (mB (mBin eqOpS (mComp (mItems (mVar 14)) (tgN 6) (mAnd (mB (mBin neOpS (mVar 6) (mVar 18))) (mB (mBin eqOpS (mComp (mItems (mVar 18)) (tgN 19) (mB (mBin ninOpA (mVar 19) (mVar 6))) (mVar 19) [19]) (mLst mNil)))) (mC (.int 1)) [6]) (mLst mNil))) (mVar 18) [18])
def L21 : MS := (mSet 15 (mPure P5k P5))
def P6k : List Bool := [false, false, false, false, false, false, false, false, false, false, false, false, false, true, false, false, false, false, false, false, false, false]
def P6 : ME := (mCallD D__law_lots (mCons (mCall listF (mCons (mCallD D_marks_of (mCons (mVar 13) mNil)) mNil)) mNil))
def L24 : MS := (mSet 14 (mPure P6k P6))
def L25 : MS := (mSet 13 (mBin addOp (mC (.int 1)) (mCallD D__law_draw (mCons (mVar 1) (mCons (mC (.int 4)) mNil)))))
def P7k : List Bool := [false, false, false, true, false, false, false, false, false, false, false, true, true, false, false, false, false, false, false, false, false, false]
def P7 : ME := (mB (mBin neOpS (mCall reprF (mCons (mLst (mCons (mCallD D_is_mark (mCons (mVar 11) (mCons (mVar 3) mNil))) (mCons (mCallD (fun zs => D_is_mark (pick [1, 0] zs)) (mCons (mVar 3) (mCons (mVar 11) mNil))) mNil))) mNil)) (mCall reprF (mCons (mLst (mCons (mVar 12) (mCons (mVar 12) mNil))) mNil))))
def L28 : MS := (mRet (mC (.bl false)))
def L29 : MS := (mIfS (mPure P7k P7) L28 mSkip)
def P8k : List Bool := [false, false, false, true, false, false, false, false, false, false, false, true, false, false, false, false, false, false, false, false, false, false]
def P8 : ME := (mAnd (mCall (isiF isiT) (mCons (mVar 11) (mCons (mTup (mCons (mC (.ty "list")) (mCons (mC (.ty "tuple")) mNil))) mNil))) (mAnd (mBin eqOpS (mCall lenF (mCons (mVar 11) mNil)) (mC (.int 2))) (mAnd (mBin eqOpS (mComp (mItems (mVar 11)) (tgN 17) (mOr (mB (mCall (isiF isiT) (mCons (mVar 17) (mCons (mC (.ty "bool")) mNil)))) (mNot (mB (mCall (isiF isiT) (mCons (mVar 17) (mCons (mC (.ty "int")) mNil)))))) (mC (.int 1)) [17]) (mLst mNil)) (mChain (mC (.int 1)) (chLink (iOp leF) (mBin ixOp (mVar 11) (mC (.int 0))) (chLink (iOp leF) (mBin ixOp (mVar 11) (mC (.int 1))) (chLast (iOp leF) (mVar 3))))))))
def L32 : MS := (mSet 12 (mPure P8k P8))
def P9k : List Bool := [false, false, false, true, false, false, false, false, false, false, false, false, false, false, false, false, false, false, false, false, false, false]
def P9 : ME := (mLst (mCons (mC .non) (mCons (mC (.int 5)) (mCons (mTup mNil) (mCons (mTup (mCons (mC (.int 0)) (mCons (mC (.int 1)) mNil))) (mCons (mTup (mCons (mC (.int 1)) (mCons (mBin addOp (mVar 3) (mC (.int 1))) mNil))) (mCons (mTup (mCons (mC (.int 2)) (mCons (mC (.int 1)) mNil))) (mCons (mTup (mCons (mC (.int 1)) mNil)) (mCons (mTup (mCons (mC (.int 1)) (mCons (mC (.int 1)) (mCons (mC (.int 1)) mNil)))) (mCons (mTup (mCons (mC (.bl true)) (mCons (mC (.int 1)) mNil))) (mCons (mTup (mCons (mC (.str (PySem.Str.ofString "1"))) (mCons (mC (.int 1)) mNil))) (mCons (mC (.str (PySem.Str.ofString "11"))) (mCons (mC .ed) (mCons (mLst (mCons (mC (.int 1)) (mCons (mVar 3) mNil))) (mCons (mTup (mCons (mC (.int 1)) (mCons (mVar 3) mNil))) (mCons (mLst (mCons (mC (.int 2)) (mCons (mC (.int 1)) mNil))) (mCons (mTup (mCons (mVar 3) (mCons (mVar 3) mNil))) (mCons (mTup (mCons (mC .non) (mCons (mC (.int 1)) mNil))) mNil))))))))))))))))))
def L35 : MS := (mSet 11 (mCallD D__law_one (mCons (mVar 1) (mCons (mPure P9k P9) mNil))))
def P10k : List Bool := [false, false, false, false, false, true, true, false, false, false, false, false, false, false, false, false, false, false, false, false, false, false]
def P10 : ME := (mOr (mB (mBin isOp (mVar 5) (mC .non))) (mOr (mB (mBin isOp (mVar 6) (mC .non))) (mAnd (mB (mBin (iOp leF) (mBin ixOp (mVar 5) (mC (.int 0))) (mBin ixOp (mVar 6) (mC (.int 0))))) (mB (mBin (iOp leF) (mBin ixOp (mVar 5) (mC (.int 1))) (mBin ixOp (mVar 6) (mC (.int 1))))))))
def P11k : List Bool := [false, false, false, true, false, true, true, false, false, true, true, false, false, false, false, false, false, false, false, false, false, false]
def P11 : ME := (mOr (mB (mBin neOpS (mCallD D__law_inside (mCons (mVar 9) (mCons (mVar 3) mNil))) (mVar 10))) (mOr (mB (mBin neOpS (mCallD (fun zs => D_between (pick [1, 0] zs)) (mCons (mVar 6) (mCons (mVar 5) mNil))) (mVar 9))) (mB (mBin neOpS (mBin isOp (mVar 9) (mC .non)) (mOr (mBin isOp (mVar 5) (mC .non)) (mBin isOp (mVar 6) (mC .non)))))))
def L40 : MS := (mRet (mC (.bl false)))
def L41 : MS := (mIfS (mPure P11k P11) L40 mSkip)
def P12k : List Bool := [false, false, false, true, false, true, true, false, false, false, false, false, false, false, false, false, false, false, false, false, false, false]
def P12 : ME := (mComp (mItems (mCallD D__law_inside (mCons (mVar 5) (mCons (mVar 3) mNil)))) (tgN 16) (mB (mBin inOpA (mVar 16) (mCallD D__law_inside (mCons (mVar 6) (mCons (mVar 3) mNil))))) (mVar 16) [16])
def L44 : MS := (mSet 10 (mPure P12k P12))
def P13k : List Bool := [false, false, false, false, false, true, true, false, false, false, false, false, false, false, false, false, false, false, false, false, false, false]
def P13 : ME := (mCallD D_between (mCons (mVar 5) (mCons (mVar 6) mNil)))
def L47 : MS := (mSet 9 (mPure P13k P13))
def L48 : MS := (mIfS (mPure P10k P10) (mSeq L47 (mSeq L44 L41)) mSkip)
def P14k : List Bool := [false, false, false, true, false, true, false, true, true, false, false, false, false, false, false, false, false, false, false, false, false, false]
def P14 : ME := (mOr (mB (mBin neOpS (mCallD D_is_in (mCons (mVar 5) (mCons (mVar 7) (mCons (mVar 8) mNil)))) (mBin inOpA (mTup (mCons (mVar 7) (mCons (mVar 8) mNil))) (mCallD D__law_inside (mCons (mVar 5) (mCons (mVar 3) mNil)))))) (mB (mBin neOpS (mCallD (fun zs => D_is_in (pick [2, 1, 0] zs)) (mCons (mVar 8) (mCons (mVar 7) (mCons (mVar 5) mNil)))) (mCallD D_is_in (mCons (mVar 5) (mCons (mVar 7) (mCons (mVar 8) mNil)))))))
def L51 : MS := (mRet (mC (.bl false)))
def L52 : MS := (mIfS (mPure P14k P14) L51 mSkip)
def P15k : List Bool := [false, false, false, true, false, false, false, false, false, false, false, false, false, false, false, false, false, false, false, false, false, false]
def P15 : ME := (mCallD D__law_ranges (mCons (mVar 3) mNil))
def L55 : MS := (mSetT (tgT [7, 8]) (mCallD D__law_one (mCons (mVar 1) (mCons (mPure P15k P15) mNil))))
def P16k : List Bool := [false, false, false, true, true, false, false, false, false, false, false, false, false, false, false, false, false, false, false, false, false, false]
def P16 : ME := (mOr (mB (mBin neOpS (mCall reprF (mCons (mCallD D_marks_of (mCons (mVar 3) mNil)) mNil)) (mCall reprF (mCons (mCall tupF (mCons (mVar 4) mNil)) mNil)))) (mB (mBin neOpS (mCall reprF (mCons (mCallD (fun zs => D_marks_of (pick [0] zs)) (mCons (mVar 3) mNil)) mNil)) (mCall reprF (mCons (mCall tupF (mCons (mVar 4) mNil)) mNil)))))
def L58 : MS := (mRet (mC (.bl false)))
def L59 : MS := (mIfS (mPure P16k P16) L58 mSkip)
def P17k : List Bool := [false, false, false, false, true, false, false, false, false, false, false, false, false, false, false, false, false, false, false, false, false, false]
def P17 : ME := (mBin addOp (mVar 4) (mLst (mCons (mC .non) mNil)))
def P18k : List Bool := [false, false, false, false, true, false, false, false, false, false, false, false, false, false, false, false, false, false, false, false, false, false]
def P18 : ME := (mBin addOp (mVar 4) (mLst (mCons (mC .non) mNil)))
def L64 : MS := (mSetT (tgT [5, 6]) (mTup (mCons (mCallD D__law_one (mCons (mVar 1) (mCons (mPure P18k P18) mNil))) (mCons (mCallD D__law_one (mCons (mVar 1) (mCons (mPure P17k P17) mNil))) mNil))))
def P19k : List Bool := [false, false, false, true, false, false, false, false, false, false, false, false, false, false, false, false, false, false, false, false, false, false]
def P19 : ME := (mComp (mItems (mCallD D__law_ranges (mCons (mVar 3) mNil))) (tgT [7, 8]) mTrue (mTup (mCons (mVar 7) (mCons (mVar 8) mNil))) [7, 8])
def L67 : MS := (mSet 4 (mPure P19k P19))
def L68 : MS := (mSet 3 (mBin addOp (mC (.int 1)) (mCallD D__law_draw (mCons (mVar 1) (mCons (mC (.int 6)) mNil)))))
def L69 : MS := (mFor (mRange 1 (mCons (mC (.int 12)) mNil)) (tgN 2) (mTidy [false, true, false, false, false, false, false, false, false, false, false, false, false, true, true, true, false, false, true, true, true, true] (mSeq L68 (mSeq L67 (mSeq L64 (mSeq L59 (mSeq L55 (mSeq L52 (mSeq L48 (mSeq L35 (mSeq L32 L29)))))))))))
def L70 : MS := (mSet 1 (mCallD D__law_well (mCons (mVar 0) mNil)))
def M_law : MS := (mSeq L70 (mSeq L69 (mSeq L25 (mSeq L24 (mSeq L21 (mSeq L18 (mSeq L14 L2)))))))
def D_law : FD := runM 22 1 M_law
abbrev n_law : Nat := 22
theorem body_law (e : Env K mg) (st : Shared) (H : Hp) (E : XK) (cdv : Value) (hr : Room 4 (callerA.deeper (PyProof.Rows.envOfC "law" (defScope (top 18)) st.heap.objs.size e.f_law cdv)))
    (tk : Takes (cxOf (L2.CX P w) P w K mg base N_law "law" (defScope (top 18)) e.f_law cdv callerA [] st H E) (WO E)) :
    SB (cxOf (L2.CX P w) P w K mg base N_law "law" (defScope (top 18)) e.f_law cdv callerA [] st H E) (WO E) (defBody (top 18)) M_law :=
  have sc := sc_law
  (sb_cons (ss_asg (ps_set (i := 1) (by exact sc.nd) (by rfl) (by first | exact Or.inl rfl | exact Or.inr rfl) (se_call (ok__law_well e) (by exact hr.mono (by decide)) (by rfl) (by exact e.g__law_well) e.F__law_well.kp (e.F__law_well.bindsN (fun _ _ _ _ _ _ us hl => match us, hl with | [_], _ => rfl)) tk (sa_cons (se_var (pv 0)) sa_nil))) (fun _ _ _ h => h)) (sb_cons (ss_for (by exact passes_of rfl) (by rfl) (si_range1 (by rfl) (by exact e.b_range) (sa_cons se_int sa_nil)) (tgok_name 2) (pg_name (i := 2) (by exact sc.nd) (by rfl) (by first | exact Or.inl rfl | exact Or.inr rfl)) (sb_tidy [false, true, false, false, false, false, false, false, false, false, false, false, false, true, true, true, false, false, true, true, true, true] (sb_cons (ss_asg (ps_set (i := 3) (by exact sc.nd) (by rfl) (by first | exact Or.inl rfl | exact Or.inr rfl) (se_bin op_addA op2_add se_int (se_call (ok__law_draw e) (by exact hr.mono (by decide)) (by rfl) (by exact e.g__law_draw) e.F__law_draw.kp (e.F__law_draw.bindsN (fun _ _ _ _ _ _ us hl => match us, hl with | [_, _], _ => rfl)) tk (sa_cons (se_var (pv 1)) (sa_cons se_int sa_nil))))) (fun _ _ _ h => h)) (sb_cons (ss_asg (ps_setLc (i := 4) (own := [("first", 7), ("last", 8)]) (by rfl) (by exact sc.nd) (by rfl) (by rfl) (by rfl) (si_seq (se_call (ok__law_ranges e) (by exact hr.mono (by decide)) (by rfl) (by exact e.g__law_ranges) e.F__law_ranges.kp (e.F__law_ranges.bindsN (fun _ _ _ _ _ _ us hl => match us, hl with | [_], _ => rfl)) tk (sa_cons (se_var (pv 3)) sa_nil))) (blkOk_by (N := N_law) (sc := defScope (top 18)) (own := [("first", 7), ("last", 8)]) (by decide +kernel)) (fun _ _ _ _ _ => (pg_tup (by rfl) (pgs_cons (pg_name (i := 7) (by exact sc.nd) (by rfl) (by first | exact Or.inl rfl | exact Or.inr rfl)) (pgs_cons (pg_name (i := 8) (by exact sc.nd) (by rfl) (by first | exact Or.inl rfl | exact Or.inr rfl)) pgs_nil)))) (fun _ _ _ _ _ => pts_nilM) (fun _ _ _ _ _ => (se_tup (sa_cons (se_var (pv 7)) (sa_cons (se_var (pv 8)) sa_nil))))) (fun σ H Q h => (lc_read (vs := [7, 8]) (tgok_tup [7, 8]) (by decide)) σ H Q (pure_te σ H Q h))) (sb_cons (ss_asgT (tgok_tup [5, 6]) (ps_asg (se_tup (sa_cons (se_call (ok__law_one e) (by exact hr.mono (by decide)) (by rfl) (by exact e.g__law_one) e.F__law_one.kp (e.F__law_one.bindsN (fun _ _ _ _ _ _ us hl => match us, hl with | [_, _], _ => rfl)) tk (sa_cons (se_var (pv 1)) (sa_cons (se_pure P18k (se_bin op_addA op2_add (se_var (pv 4)) (se_lst (sa_cons se_non sa_nil)))) sa_nil))) (sa_cons (se_call (ok__law_one e) (by exact hr.mono (by decide)) (by rfl) (by exact e.g__law_one) e.F__law_one.kp (e.F__law_one.bindsN (fun _ _ _ _ _ _ us hl => match us, hl with | [_, _], _ => rfl)) tk (sa_cons (se_var (pv 1)) (sa_cons (se_pure P17k (se_bin op_addA op2_add (se_var (pv 4)) (se_lst (sa_cons se_non sa_nil)))) sa_nil))) sa_nil))) (pg_tup (by rfl) (pgs_cons (pg_name (i := 5) (by exact sc.nd) (by rfl) (by first | exact Or.inl rfl | exact Or.inr rfl)) (pgs_cons (pg_name (i := 6) (by exact sc.nd) (by rfl) (by first | exact Or.inl rfl | exact Or.inr rfl)) pgs_nil))))) (sb_cons (ss_if (st_pure P16k (PW.pt (sw_or (st_cmp (op_neA (by exact hr.units)) op2_neA (se_blt (call_reprD (by rfl) (by exact u64 hr)) cl_repr (by rfl) (by exact e.b_repr) bt_repr (sa_cons (se_call (ok_marks_of e) (by exact hr.mono (by decide)) (by rfl) (by exact e.g_marks_of) e.F_marks_of.kp (e.F_marks_of.bindsN (fun _ _ _ _ _ _ us hl => match us, hl with | [_], _ => rfl)) tk (sa_cons (se_var (pv 3)) sa_nil)) sa_nil)) (se_blt (call_reprD (by rfl) (by exact u64 hr)) cl_repr (by rfl) (by exact e.b_repr) bt_repr (sa_cons (se_ty call_tuple_of cl_tup (by rfl) (by exact e.b_tuple) bt_tuple (sa_cons (se_var (pv 4)) sa_nil)) sa_nil)) (nomark _)) (sw_one (.inr rfl) (st_cmp (op_neA (by exact hr.units)) op2_neA (se_blt (call_reprD (by rfl) (by exact u64 hr)) cl_repr (by rfl) (by exact e.b_repr) bt_repr (sa_cons (se_callK (m := 0) (fun _ _ _ _ _ h => h) (ok_marks_of e) (by exact hr.mono (by decide)) (by rfl) (by exact e.g_marks_of) e.F_marks_of.kp (kbn_of e.F_marks_of 0 ["many"] [0] (fun _ _ _ _ _ _ us ws h1 h2 => match us, ws, h1, h2 with | [], [_], _, _ => rfl)) tk (sk_cons (se_var (pv 3)) sk_nil) (mCons_len mNil_len)) sa_nil)) (se_blt (call_reprD (by rfl) (by exact u64 hr)) cl_repr (by rfl) (by exact e.b_repr) bt_repr (sa_cons (se_ty call_tuple_of cl_tup (by rfl) (by exact e.b_tuple) bt_tuple (sa_cons (se_var (pv 4)) sa_nil)) sa_nil)) (nomark _)))))) (sb_one (ss_ret se_bl)) sb_nil) (sb_cons (ss_asgT (tgok_tup [7, 8]) (ps_asg (se_call (ok__law_one e) (by exact hr.mono (by decide)) (by rfl) (by exact e.g__law_one) e.F__law_one.kp (e.F__law_one.bindsN (fun _ _ _ _ _ _ us hl => match us, hl with | [_, _], _ => rfl)) tk (sa_cons (se_var (pv 1)) (sa_cons (se_pure P15k (se_call (ok__law_ranges e) (by exact hr.mono (by decide)) (by rfl) (by exact e.g__law_ranges) e.F__law_ranges.kp (e.F__law_ranges.bindsN (fun _ _ _ _ _ _ us hl => match us, hl with | [_], _ => rfl)) tk (sa_cons (se_var (pv 3)) sa_nil))) sa_nil))) (pg_tup (by rfl) (pgs_cons (pg_name (i := 7) (by exact sc.nd) (by rfl) (by first | exact Or.inl rfl | exact Or.inr rfl)) (pgs_cons (pg_name (i := 8) (by exact sc.nd) (by rfl) (by first | exact Or.inl rfl | exact Or.inr rfl)) pgs_nil))))) (sb_cons (ss_if (st_pure P14k (PW.pt (sw_or (st_cmp (op_neA (by exact hr.units)) op2_neA (se_call (ok_is_in e) (by exact hr.mono (by decide)) (by rfl) (by exact e.g_is_in) e.F_is_in.kp (e.F_is_in.bindsN (fun _ _ _ _ _ _ us hl => match us, hl with | [_, _, _], _ => rfl)) tk (sa_cons (se_var (pv 5)) (sa_cons (se_var (pv 7)) (sa_cons (se_var (pv 8)) sa_nil)))) (se_cmp (op_inA (by exact u65 hr)) op2_inA (se_tup (sa_cons (se_var (pv 7)) (sa_cons (se_var (pv 8)) sa_nil))) (se_call (ok__law_inside e) (by exact hr.mono (by decide)) (by rfl) (by exact e.g__law_inside) e.F__law_inside.kp (e.F__law_inside.bindsN (fun _ _ _ _ _ _ us hl => match us, hl with | [_, _], _ => rfl)) tk (sa_cons (se_var (pv 5)) (sa_cons (se_var (pv 3)) sa_nil))) (by with_unfolding_all rfl)) (nomark _)) (sw_one (.inr rfl) (st_cmp (op_neA (by exact hr.units)) op2_neA (se_callK (m := 0) (fun _ _ _ _ _ h => h) (ok_is_in e) (by exact hr.mono (by decide)) (by rfl) (by exact e.g_is_in) e.F_is_in.kp (kbn_of e.F_is_in 0 ["last", "first", "mark"] [2, 1, 0] (fun _ _ _ _ _ _ us ws h1 h2 => match us, ws, h1, h2 with | [], [_, _, _], _, _ => rfl)) tk (sk_cons (se_var (pv 8)) (sk_cons (se_var (pv 7)) (sk_cons (se_var (pv 5)) sk_nil))) (mCons_len (mCons_len (mCons_len mNil_len)))) (se_call (ok_is_in e) (by exact hr.mono (by decide)) (by rfl) (by exact e.g_is_in) e.F_is_in.kp (e.F_is_in.bindsN (fun _ _ _ _ _ _ us hl => match us, hl with | [_, _, _], _ => rfl)) tk (sa_cons (se_var (pv 5)) (sa_cons (se_var (pv 7)) (sa_cons (se_var (pv 8)) sa_nil)))) (nomark _)))))) (sb_one (ss_ret se_bl)) sb_nil) (sb_cons (ss_if (st_pure P10k (PW.pt (sw_or (st_cmp op_isN op2_is (se_var (pv 5)) se_non (nomark _)) (sw_or (st_cmp op_isN op2_is (se_var (pv 6)) se_non (nomark _)) (sw_one (.inr rfl) (PW.pt (sw_and (st_cmp op_le op2_le (se_ix ix_seq op2_ix (se_var (pv 5)) se_int (fun _ _ => rfl)) (se_ix ix_seq op2_ix (se_var (pv 6)) se_int (fun _ _ => rfl)) (nomark _)) (sw_one (.inl rfl) (st_cmp op_le op2_le (se_ix ix_seq op2_ix (se_var (pv 5)) se_int (fun _ _ => rfl)) (se_ix ix_seq op2_ix (se_var (pv 6)) se_int (fun _ _ => rfl)) (nomark _)))))))))) (sb_cons (ss_asg (ps_set (i := 9) (by exact sc.nd) (by rfl) (by first | exact Or.inl rfl | exact Or.inr rfl) (se_pure P13k (se_call (ok_between e) (by exact hr.mono (by decide)) (by rfl) (by exact e.g_between) e.F_between.kp (e.F_between.bindsN (fun _ _ _ _ _ _ us hl => match us, hl with | [_, _], _ => rfl)) tk (sa_cons (se_var (pv 5)) (sa_cons (se_var (pv 6)) sa_nil))))) (fun _ _ _ h => h)) (sb_cons (ss_asg (ps_setLc (i := 10) (own := [("inside", 16)]) (by rfl) (by exact sc.nd) (by rfl) (by rfl) (by rfl) (si_seq (se_call (ok__law_inside e) (by exact hr.mono (by decide)) (by rfl) (by exact e.g__law_inside) e.F__law_inside.kp (e.F__law_inside.bindsN (fun _ _ _ _ _ _ us hl => match us, hl with | [_, _], _ => rfl)) tk (sa_cons (se_var (pv 5)) (sa_cons (se_var (pv 3)) sa_nil)))) (blkOk_by (N := N_law) (sc := defScope (top 18)) (own := [("inside", 16)]) (by decide +kernel)) (fun _ _ _ _ _ => (pg_name (i := 16) (by exact sc.nd) (by rfl) (by first | exact Or.inl rfl | exact Or.inr rfl))) (fun _ _ _ _ _ => pts_one (st_cmp (op_inA (by exact u65 hr)) op2_inA (se_var (pv 16)) (se_call (ok__law_inside e) (by exact hr.mono (by decide)) (by rfl) (by exact e.g__law_inside) e.F__law_inside.kp (e.F__law_inside.bindsN (fun _ _ _ _ _ _ us hl => match us, hl with | [_, _], _ => rfl)) takes0 (sa_cons (se_var (pv 6)) (sa_cons (se_var (pv 3)) sa_nil))) (by with_unfolding_all rfl))) (fun _ _ _ _ _ => (se_var (pv 16)))) (fun σ H Q h => (lc_read (vs := [16]) (tgok_name 16) (by decide)) σ H Q (pure_te σ H Q h))) (sb_one (ss_if (st_pure P11k (PW.pt (sw_or (st_cmp (op_neA (by exact hr.units)) op2_neA (se_call (ok__law_inside e) (by exact hr.mono (by decide)) (by rfl) (by exact e.g__law_inside) e.F__law_inside.kp (e.F__law_inside.bindsN (fun _ _ _ _ _ _ us hl => match us, hl with | [_, _], _ => rfl)) tk (sa_cons (se_var (pv 9)) (sa_cons (se_var (pv 3)) sa_nil))) (se_var (pv 10)) (nomark _)) (sw_or (st_cmp (op_neA (by exact hr.units)) op2_neA (se_callK (m := 0) (fun _ _ _ _ _ h => h) (ok_between e) (by exact hr.mono (by decide)) (by rfl) (by exact e.g_between) e.F_between.kp (kbn_of e.F_between 0 ["lower", "upper"] [1, 0] (fun _ _ _ _ _ _ us ws h1 h2 => match us, ws, h1, h2 with | [], [_, _], _, _ => rfl)) tk (sk_cons (se_var (pv 6)) (sk_cons (se_var (pv 5)) sk_nil)) (mCons_len (mCons_len mNil_len))) (se_var (pv 9)) (nomark _)) (sw_one (.inr rfl) (st_cmp (op_neA (by exact hr.units)) op2_neA (se_cmp op_isN op2_is (se_var (pv 9)) se_non (nomark _)) (se_or (se_cmp op_isN op2_is (se_var (pv 5)) se_non (nomark _)) (se_one (se_cmp op_isN op2_is (se_var (pv 6)) se_non (nomark _)))) (nomark _))))))) (sb_one (ss_ret se_bl)) sb_nil)))) sb_nil) (sb_cons (ss_asg (ps_set (i := 11) (by exact sc.nd) (by rfl) (by first | exact Or.inl rfl | exact Or.inr rfl) (se_call (ok__law_one e) (by exact hr.mono (by decide)) (by rfl) (by exact e.g__law_one) e.F__law_one.kp (e.F__law_one.bindsN (fun _ _ _ _ _ _ us hl => match us, hl with | [_, _], _ => rfl)) tk (sa_cons (se_var (pv 1)) (sa_cons (se_pure P9k (se_lst (sa_cons se_non (sa_cons se_int (sa_cons (se_tup sa_nil) (sa_cons (se_tup (sa_cons se_int (sa_cons se_int sa_nil))) (sa_cons (se_tup (sa_cons se_int (sa_cons (se_bin op_addA op2_add (se_var (pv 3)) se_int) sa_nil))) (sa_cons (se_tup (sa_cons se_int (sa_cons se_int sa_nil))) (sa_cons (se_tup (sa_cons se_int sa_nil)) (sa_cons (se_tup (sa_cons se_int (sa_cons se_int (sa_cons se_int sa_nil)))) (sa_cons (se_tup (sa_cons se_bl (sa_cons se_int sa_nil))) (sa_cons (se_tup (sa_cons se_str (sa_cons se_int sa_nil))) (sa_cons se_str (sa_cons se_ed (sa_cons (se_lst (sa_cons se_int (sa_cons (se_var (pv 3)) sa_nil))) (sa_cons (se_tup (sa_cons se_int (sa_cons (se_var (pv 3)) sa_nil))) (sa_cons (se_lst (sa_cons se_int (sa_cons se_int sa_nil))) (sa_cons (se_tup (sa_cons (se_var (pv 3)) (sa_cons (se_var (pv 3)) sa_nil))) (sa_cons (se_tup (sa_cons se_non (sa_cons se_int sa_nil))) sa_nil))))))))))))))))))) sa_nil)))) (fun _ _ _ h => h)) (sb_cons (ss_asg (ps_set (i := 12) (by exact sc.nd) (by rfl) (by first | exact Or.inl rfl | exact Or.inr rfl) (se_pure P8k (se_and (se_blt call_isiA (cl_isi e.hT) (by rfl) (by exact e.b_isinstance) bt_isinstance (sa_cons (se_var (pv 11)) (sa_cons (se_tup (sa_cons (se_tyN (by rfl) (by exact e.b_list) bt_list) (sa_cons (se_tyN (by rfl) (by exact e.b_tuple) bt_tuple) sa_nil))) sa_nil))) (se_and (se_cmp (op_eqA (by exact hr.units)) op2_eqA (se_blt call_len cl_len (by rfl) (by exact e.b_len) bt_len (sa_cons (se_var (pv 11)) sa_nil)) se_int (nomark _)) (se_and (se_cmp (op_eqA (by exact hr.units)) op2_eqA (se_comp (own := [("part", 17)]) (by rfl) (by exact sc.nd) (si_seq (se_var (pv 11))) (blkOk_by (N := N_law) (sc := defScope (top 18)) (own := [("part", 17)]) (by decide +kernel)) (tgok_name 17) (by decide) (fun _ _ _ _ _ => (pg_name (i := 17) (by exact sc.nd) (by rfl) (by first | exact Or.inl rfl | exact Or.inr rfl))) (fun _ _ _ _ _ => pts_one (PW.pt (sw_or (st_val (se_blt call_isiA (cl_isi e.hT) (by rfl) (by exact e.b_isinstance) bt_isinstance (sa_cons (se_var (pv 17)) (sa_cons (se_tyN (by rfl) (by exact e.b_bool) bt_bool) sa_nil)))) (sw_one (.inr rfl) (st_not (st_val (se_blt call_isiA (cl_isi e.hT) (by rfl) (by exact e.b_isinstance) bt_isinstance (sa_cons (se_var (pv 17)) (sa_cons (se_tyN (by rfl) (by exact e.b_int) bt_int) sa_nil))))))))) (fun _ _ _ _ _ => se_int)) (se_lst sa_nil) (nomark _)) (se_one (se_chain se_int (sch_link op_le op2_le (se_ix ix_seq op2_ix (se_var (pv 11)) se_int (fun _ _ => rfl)) (sch_link op_le op2_le (se_ix ix_seq op2_ix (se_var (pv 11)) se_int (fun _ _ => rfl)) (sch_last op_le op2_le (se_var (pv 3)))))))))))) (fun _ _ _ h => h)) (sb_one (ss_if (st_pure P7k (st_cmp (op_neA (by exact hr.units)) op2_neA (se_blt (call_reprD (by rfl) (by exact u64 hr)) cl_repr (by rfl) (by exact e.b_repr) bt_repr (sa_cons (se_lst (sa_cons (se_call (ok_is_mark e) (by exact hr.mono (by decide)) (by rfl) (by exact e.g_is_mark) e.F_is_mark.kp (e.F_is_mark.bindsN (fun _ _ _ _ _ _ us hl => match us, hl with | [_, _], _ => rfl)) tk (sa_cons (se_var (pv 11)) (sa_cons (se_var (pv 3)) sa_nil))) (sa_cons (se_callK (m := 0) (fun _ _ _ _ _ h => h) (ok_is_mark e) (by exact hr.mono (by decide)) (by rfl) (by exact e.g_is_mark) e.F_is_mark.kp (kbn_of e.F_is_mark 0 ["many", "value"] [1, 0] (fun _ _ _ _ _ _ us ws h1 h2 => match us, ws, h1, h2 with | [], [_, _], _, _ => rfl)) tk (sk_cons (se_var (pv 3)) (sk_cons (se_var (pv 11)) sk_nil)) (mCons_len (mCons_len mNil_len))) sa_nil))) sa_nil)) (se_blt (call_reprD (by rfl) (by exact u64 hr)) cl_repr (by rfl) (by exact e.b_repr) bt_repr (sa_cons (se_lst (sa_cons (se_var (pv 12)) (sa_cons (se_var (pv 12)) sa_nil))) sa_nil)) (nomark _))) (sb_one (ss_ret se_bl)) sb_nil))))))))))))) (sb_cons (ss_asg (ps_set (i := 13) (by exact sc.nd) (by rfl) (by first | exact Or.inl rfl | exact Or.inr rfl) (se_bin op_addA op2_add se_int (se_call (ok__law_draw e) (by exact hr.mono (by decide)) (by rfl) (by exact e.g__law_draw) e.F__law_draw.kp (e.F__law_draw.bindsN (fun _ _ _ _ _ _ us hl => match us, hl with | [_, _], _ => rfl)) tk (sa_cons (se_var (pv 1)) (sa_cons se_int sa_nil))))) (fun _ _ _ h => h)) (sb_cons (ss_asg (ps_set (i := 14) (by exact sc.nd) (by rfl) (by first | exact Or.inl rfl | exact Or.inr rfl) (se_pure P6k (se_call (ok__law_lots e) (by exact hr.mono (by decide)) (by rfl) (by exact e.g__law_lots) e.F__law_lots.kp (e.F__law_lots.bindsN (fun _ _ _ _ _ _ us hl => match us, hl with | [_], _ => rfl)) tk (sa_cons (se_ty call_list_of cl_list (by rfl) (by exact e.b_list) bt_list (sa_cons (se_call (ok_marks_of e) (by exact hr.mono (by decide)) (by rfl) (by exact e.g_marks_of) e.F_marks_of.kp (e.F_marks_of.bindsN (fun _ _ _ _ _ _ us hl => match us, hl with | [_], _ => rfl)) tk (sa_cons (se_var (pv 13)) sa_nil)) sa_nil)) sa_nil)))) (fun _ _ _ h => h)) (sb_cons (ss_asg (ps_setLc (i := 15) (own := [("lot", 18)]) (by rfl) (by exact sc.nd) (by rfl) (by rfl) (by rfl) (si_seq (se_var (pv 14))) (blkOk_by (N := N_law) (sc := defScope (top 18)) (own := [("lot", 18)]) (by decide +kernel)) (fun _ _ _ _ _ => (pg_name (i := 18) (by exact sc.nd) (by rfl) (by first | exact Or.inl rfl | exact Or.inr rfl))) (fun _ _ _ _ _ => pts_one (st_cmp (op_eqA (by exact hr.units)) op2_eqA (se_comp (own := [("other", 6)]) (by rfl) (by exact sc.nd) (si_seq (se_var (pv 14))) (blkOk_by (own := [("other", 6)]) (by rfl)) (tgok_name 6) (by decide) (fun _ _ _ _ _ => (pg_name (i := 6) (by exact sc.nd) (by rfl) (by first | exact Or.inl rfl | exact Or.inr rfl))) (fun _ _ _ _ _ => pts_one (PW.pt (sw_and (st_cmp (op_neA (by exact hr.units)) op2_neA (se_var (pv 6)) (se_var (pv 18)) (nomark _)) (sw_one (.inl rfl) (st_cmp (op_eqA (by exact hr.units)) op2_eqA (se_comp (own := [("mark", 19)]) (by rfl) (by exact sc.nd) (si_seq (se_var (pv 18))) (blkOk_by (own := [("mark", 19)]) (by rfl)) (tgok_name 19) (by decide) (fun _ _ _ _ _ => (pg_name (i := 19) (by exact sc.nd) (by rfl) (by first | exact Or.inl rfl | exact Or.inr rfl))) (fun _ _ _ _ _ => pts_one (st_cmp (op_notInA (by exact u65 hr)) op2_ninA (se_var (pv 19)) (se_var (pv 6)) (by with_unfolding_all rfl))) (fun _ _ _ _ _ => (se_var (pv 19)))) (se_lst sa_nil) (nomark _)))))) (fun _ _ _ _ _ => se_int)) (se_lst sa_nil) (nomark _))) (fun _ _ _ _ _ => (se_var (pv 18)))) (fun σ H Q h => (lc_read (vs := [18]) (tgok_name 18) (by decide)) σ H Q (pure_te σ H Q h))) (sb_cons (ss_if (st_pure P4k (PW.pt (sw_or (st_cmp (op_neA (by exact hr.units)) op2_neA (se_blt (call_reprD (by rfl) (by exact u64 hr)) cl_repr (by rfl) (by exact e.b_repr) bt_repr (sa_cons (se_call (ok_chains_of e) (by exact hr.mono (by decide)) (by rfl) (by exact e.g_chains_of) e.F_chains_of.kp (e.F_chains_of.bindsN (fun _ _ _ _ _ _ us hl => match us, hl with | [_], _ => rfl)) tk (sa_cons (se_var (pv 13)) sa_nil)) sa_nil)) (se_blt (call_reprD (by rfl) (by exact u64 hr)) cl_repr (by rfl) (by exact e.b_repr) bt_repr (sa_cons (se_ty call_tuple_of cl_tup (by rfl) (by exact e.b_tuple) bt_tuple (sa_cons (se_blt (call_sortA (by exact u70 hr)) cl_sort (by rfl) (by exact e.b_sorted) bt_sorted (sa_cons (se_var (pv 15)) sa_nil)) sa_nil)) sa_nil)) (nomark _)) (sw_one (.inr rfl) (st_cmp (op_neA (by exact hr.units)) op2_neA (se_callK (m := 0) (fun _ _ _ _ _ h => h) (ok_chains_of e) (by exact hr.mono (by decide)) (by rfl) (by exact e.g_chains_of) e.F_chains_of.kp (kbn_of e.F_chains_of 0 ["many"] [0] (fun _ _ _ _ _ _ us ws h1 h2 => match us, ws, h1, h2 with | [], [_], _, _ => rfl)) tk (sk_cons (se_var (pv 13)) sk_nil) (mCons_len mNil_len)) (se_call (ok_chains_of e) (by exact hr.mono (by decide)) (by rfl) (by exact e.g_chains_of) e.F_chains_of.kp (e.F_chains_of.bindsN (fun _ _ _ _ _ _ us hl => match us, hl with | [_], _ => rfl)) tk (sa_cons (se_var (pv 13)) sa_nil)) (nomark _)))))) (sb_one (ss_ret se_bl)) sb_nil) (sb_cons (ss_for (by exact passes_of rfl) (by rfl) (si_seq (se_tup (sa_cons se_int (sa_cons se_int sa_nil)))) (tgok_name 3) (pg_name (i := 3) (by exact sc.nd) (by rfl) (by first | exact Or.inl rfl | exact Or.inr rfl)) (sb_tidy [false, false, false, false, false, false, false, false, false, false, false, false, false, false, false, false, false, false, false, false, false, false] (sb_cons (ss_asg (ps_set (i := 9) (by exact sc.nd) (by rfl) (by first | exact Or.inl rfl | exact Or.inr rfl) (se_pure P3k (se_call (ok_chains_of e) (by exact hr.mono (by decide)) (by rfl) (by exact e.g_chains_of) e.F_chains_of.kp (e.F_chains_of.bindsN (fun _ _ _ _ _ _ us hl => match us, hl with | [_], _ => rfl)) tk (sa_cons (se_var (pv 3)) sa_nil)))) (fun _ _ _ h => h)) (sb_cons (ss_if (st_pure P2k (PW.pt (sw_or (st_cmp (op_neA (by exact hr.units)) op2_neA (se_ty call_list_of cl_list (by rfl) (by exact e.b_list) bt_list (sa_cons (se_var (pv 9)) sa_nil)) (se_blt (call_sortA (by exact u70 hr)) cl_sort (by rfl) (by exact e.b_sorted) bt_sorted (sa_cons (se_var (pv 9)) sa_nil)) (nomark _)) (sw_one (.inr rfl) (st_cmp (op_neA (by exact hr.units)) op2_neA (se_comp (own := [("chain", 20)]) (by rfl) (by exact sc.nd) (si_seq (se_var (pv 9))) (blkOk_by (N := N_law) (sc := defScope (top 18)) (own := [("chain", 20)]) (by decide +kernel)) (tgok_name 20) (by decide) (fun _ _ _ _ _ => (pg_name (i := 20) (by exact sc.nd) (by rfl) (by first | exact Or.inl rfl | exact Or.inr rfl))) (fun _ _ _ _ _ => pts_one (PW.pt (sw_or (st_cmp (op_neA (by exact hr.units)) op2_neA (se_ty call_list_of cl_list (by rfl) (by exact e.b_list) bt_list (sa_cons (se_var (pv 20)) sa_nil)) (se_sortSet (by rfl) (by exact u70 hr) (by rfl) (by exact e.b_sorted) (by rfl) (by exact e.b_set) (se_var (pv 20))) (nomark _)) (sw_one (.inr rfl) (st_cmp (op_neA (by exact hr.units)) op2_neA (se_blt call_len cl_len (by rfl) (by exact e.b_len) bt_len (sa_cons (se_var (pv 20)) sa_nil)) (se_bin op_sub op2_sub (se_bin op_mul op2_mul se_int (se_var (pv 3))) se_int) (nomark _)))))) (fun _ _ _ _ _ => (se_var (pv 20)))) (se_lst sa_nil) (nomark _)))))) (sb_one (ss_ret se_bl)) sb_nil) (sb_one (ss_if (st_pure P1k (st_cmp (op_neA (by exact hr.units)) op2_neA (se_comp (own := [("chain", 20)]) (by rfl) (by exact sc.nd) (si_seq (se_var (pv 9))) (blkOk_by (N := N_law) (sc := defScope (top 18)) (own := [("chain", 20)]) (by decide +kernel)) (tgok_name 20) (by decide) (fun _ _ _ _ _ => (pg_name (i := 20) (by exact sc.nd) (by rfl) (by first | exact Or.inl rfl | exact Or.inr rfl))) (fun _ _ _ _ _ => pts_one (st_cmp (op_neA (by exact hr.units)) op2_neA (se_comp (own := [("mark", 19)]) (by rfl) (by exact sc.nd) (si_seq (se_var (pv 20))) (blkOk_by (own := [("mark", 19)]) (by rfl)) (tgok_name 19) (by decide) (fun _ _ _ _ _ => (pg_name (i := 19) (by exact sc.nd) (by rfl) (by first | exact Or.inl rfl | exact Or.inr rfl))) (fun _ _ _ _ _ => pts_one (st_cmp (op_neA (by exact hr.units)) op2_neA (se_comp (own := [("its", 21)]) (by rfl) (by exact sc.nd) (si_seq (se_var (pv 20))) (blkOk_by (own := [("its", 21)]) (by rfl)) (tgok_name 21) (by decide) (fun _ _ _ _ _ => (pg_name (i := 21) (by exact sc.nd) (by rfl) (by first | exact Or.inl rfl | exact Or.inr rfl))) (fun _ _ _ _ _ => pts_one (st_val (se_call (ok__law_is_apart e) (by exact hr.mono (by decide)) (by rfl) (by exact e.g__law_is_apart) e.F__law_is_apart.kp (e.F__law_is_apart.bindsN (fun _ _ _ _ _ _ us hl => match us, hl with | [_, _], _ => rfl)) takes0 (sa_cons (se_var (pv 19)) (sa_cons (se_var (pv 21)) sa_nil))))) (fun _ _ _ _ _ => se_int)) (se_lst sa_nil) (nomark _))) (fun _ _ _ _ _ => (se_var (pv 19)))) (se_lst sa_nil) (nomark _))) (fun _ _ _ _ _ => (se_var (pv 20)))) (se_lst sa_nil) (nomark _))) (sb_one (ss_ret se_bl)) sb_nil)))))) (sb_one (ss_ret (se_pure P0k (se_cmp (op_eqA (by exact hr.units)) op2_eqA (se_comp (own := [("many", 3)]) (by rfl) (by exact sc.nd) (si_range2 (by rfl) (by exact e.b_range) (sa_cons se_int (sa_cons se_int sa_nil))) (blkOk_by (N := N_law) (sc := defScope (top 18)) (own := [("many", 3)]) (by decide +kernel)) (tgok_name 3) (by decide) (fun _ _ _ _ _ => (pg_name (i := 3) (by exact sc.nd) (by rfl) (by first | exact Or.inl rfl | exact Or.inr rfl))) (fun _ _ _ _ _ => pts_nilM) (fun _ _ _ _ _ => (se_lenSet (by rfl) (by exact u64 hr) (by rfl) (by exact e.b_len) (by rfl) (by exact e.b_set) (se_call (ok_chains_of e) (by exact hr.mono (by decide)) (by rfl) (by exact e.g_chains_of) e.F_chains_of.kp (e.F_chains_of.bindsN (fun _ _ _ _ _ _ us hl => match us, hl with | [_], _ => rfl)) takes0 (sa_cons (se_var (pv 3)) sa_nil))))) (se_lst (sa_cons se_int (sa_cons se_int (sa_cons se_int (sa_cons se_int (sa_cons se_int (sa_cons se_int sa_nil))))))) (nomark _))))))))))))
end
end K16
namespace K16
open PySem L2 Mx

abbrev mny (k : Nat) : MV := .int (1 + (k : Int))
abbrev a3 (k : Nat) : Sl := [none, none, none, some (mny k), none, none, none, none, none, none, none, none, none, none, none, none, none, none, none, none, none, none]
abbrev a34 (k : Nat) (m : MV) : Sl := [none, none, none, some (mny k), some m, none, none, none, none, none, none, none, none, none, none, none, none, none, none, none, none, none]
abbrev a4 (m : MV) : Sl := [none, none, none, none, some m, none, none, none, none, none, none, none, none, none, none, none, none, none, none, none, none, none]
abbrev a14 (k : Nat) (x f l : MV) : Sl := [none, none, none, some (mny k), none, some x, none, some f, some l, none, none, none, none, none, none, none, none, none, none, none, none, none]
abbrev a10 (x y : MV) : Sl := [none, none, none, none, none, some x, some y, none, none, none, none, none, none, none, none, none, none, none, none, none, none, none]
abbrev a12 (k : Nat) (x y : MV) : Sl := [none, none, none, some (mny k), none, some x, some y, none, none, none, none, none, none, none, none, none, none, none, none, none, none, none]
abbrev a11 (k : Nat) (x y t b : MV) : Sl := [none, none, none, some (mny k), none, some x, some y, none, none, some t, some b, none, none, none, none, none, none, none, none, none, none, none]
abbrev a8 (k : Nat) (d : MV) : Sl := [none, none, none, some (mny k), none, none, none, none, none, none, none, some d, none, none, none, none, none, none, none, none, none, none]
abbrev a7 (k : Nat) (d u : MV) : Sl := [none, none, none, some (mny k), none, none, none, none, none, none, none, some d, some u, none, none, none, none, none, none, none, none, none]
abbrev b13 (k : Nat) : Sl := [none, none, none, none, none, none, none, none, none, none, none, none, none, some (mny k), none, none, none, none, none, none, none, none]
abbrev b14 (l : MV) : Sl := [none, none, none, none, none, none, none, none, none, none, none, none, none, none, some l, none, none, none, none, none, none, none]
abbrev b4 (k : Nat) (m : MV) : Sl := [none, none, none, none, none, none, none, none, none, none, none, none, none, some (mny k), none, some m, none, none, none, none, none, none]
abbrev c3 (k : Nat) : Sl := [none, none, none, some (.int (k : Int)), none, none, none, none, none, none, none, none, none, none, none, none, none, none, none, none, none, none]
abbrev c2 (k : Nat) (t : MV) : Sl := [none, none, none, some (.int (k : Int)), none, none, none, none, none, some t, none, none, none, none, none, none, none, none, none, none, none, none]
abbrev c1 (t : MV) : Sl := [none, none, none, none, none, none, none, none, none, some t, none, none, none, none, none, none, none, none, none, none, none, none]
abbrev nil0  : Sl := [none, none, none, none, none, none, none, none, none, none, none, none, none, none, none, none, none, none, none, none, none, none]
/-- a mark by its number -/
abbrev cd (n : Nat) : MV := .tup [.int ((n / 8 : Nat) : Int), .int ((n % 8 : Nat) : Int)]
def rN : Nat → List Nat
  | 0 => [9]
  | 1 => [9, 10, 18]
  | 2 => [9, 10, 11, 18, 19, 27]
  | 3 => [9, 10, 11, 12, 18, 19, 20, 27, 28, 36]
  | 4 => [9, 10, 11, 12, 13, 18, 19, 20, 21, 27, 28, 29, 36, 37, 45]
  | 5 => [9, 10, 11, 12, 13, 14, 18, 19, 20, 21, 22, 27, 28, 29, 30, 36, 37, 38, 45, 46, 54]
  | _ => []
def moN : Nat → List (List Nat)
  | 0 => [[9]]
  | 1 => [[9, 10, 18]]
  | 2 => [[9, 10, 11, 19, 27], [9, 10, 18, 19, 27]]
  | 3 => [[9, 10, 11, 12, 20, 28, 36], [9, 10, 11, 19, 20, 28, 36], [9, 10, 18, 19, 20, 28, 36], [9, 10, 11, 19, 27, 28, 36], [9, 10, 18, 19, 27, 28, 36]]
  | _ => []
def chN : Nat → List (List Nat)
  | 0 => [[9]]
  | 1 => [[9, 10, 18]]
  | 2 => [[9, 10, 11, 19, 27], [9, 10, 18, 19, 27]]
  | 3 => [[9, 10, 11, 12, 20, 28, 36], [9, 10, 11, 19, 20, 28, 36], [9, 10, 11, 19, 27, 28, 36], [9, 10, 18, 19, 20, 28, 36], [9, 10, 18, 19, 27, 28, 36]]
  | _ => []

theorem rngs_is : ∀ k, k < 6 → D__law_ranges [mny k] [] = some (.ok (.lst ((rN k).map cd)) [])
  | 0, _ => by kernel_rfl
  | 1, _ => by kernel_rfl
  | 2, _ => by kernel_rfl
  | 3, _ => by kernel_rfl
  | 4, _ => by kernel_rfl
  | 5, _ => by kernel_rfl
  | n + 6, h => absurd h (by omega)
theorem rlen {k : Nat} : (rN k).length ≤ 100 := by
  match k with
  | 0 => decide
  | 1 => decide
  | 2 => decide
  | 3 => decide
  | 4 => decide
  | 5 => decide
  | n + 6 => exact Nat.zero_le _
theorem dN (a b : Nat) : decide (((a : Nat) : Int) < ((b : Nat) : Int)) = Nat.blt a b := by
  cases h : Nat.blt a b with
  | true => have : a < b := Nat.le_of_ble_eq_true h; exact decide_eq_true (by omega)
  | false =>
    refine decide_eq_false fun q => ?_
    have : Nat.ble (a + 1) b = true := Nat.ble_eq_true_of_le (by omega)
    exact absurd (this.symm.trans h) (by decide)
theorem dL (a b : Nat) : decide (((a : Nat) : Int) ≤ ((b : Nat) : Int)) = Nat.ble a b := by
  cases h : Nat.ble a b with
  | true => have : a ≤ b := Nat.le_of_ble_eq_true h; exact decide_eq_true (by omega)
  | false =>
    refine decide_eq_false fun q => ?_
    have : Nat.ble a b = true := Nat.ble_eq_true_of_le (by omega)
    exact absurd (this.symm.trans h) (by decide)
def apN (a b : Nat) : Bool := (Nat.blt (a / 8) (b / 8) && Nat.blt (b % 8) (a % 8)) || (Nat.blt (b / 8) (a / 8) && Nat.blt (a % 8) (b % 8))
theorem apart_is (a b : Nat) : D__law_is_apart [cd a, cd b] [] = some (.ok (.bl (apN a b)) []) := by
  refine runM_rt rfl (ret_is ?_)
  unfold apN
  rw [← dN, ← dN, ← dN, ← dN]
  exact or_is (and_is rfl fun _ => rfl) fun _ => and_is rfl fun _ => rfl
def inN (k a : Nat) : List Nat := (rN k).filter fun r => Nat.ble (r / 8) (a / 8) && Nat.ble (a % 8) (r % 8)
theorem inside_is {k : Nat} (hk : k < 6) (a : Nat) : D__law_inside [cd a, mny k] [] = some (.ok (.lst ((inN k a).map cd)) []) := by
  refine runM_rt rfl (ret_is (mIf_is (x := false) rfl (fun h => by cases h) fun _ => ?_))
  refine comp_is (g := cd) (xs := rN k) (f := cd) (own := [2]) ?_ (Nat.le_trans rlen (by decide)) fun r _ => ⟨_, rfl, ?_, fun _ => rfl⟩
  · exact items_is (call_is (xs := [mny k]) rfl (rngs_is k hk)) rfl
  · rw [← dL, ← dL]
    exact and_is (mB_is rfl) fun _ => mB_is rfl
theorem inside_non (k : Nat) : D__law_inside [.non, mny k] [] = some (.ok (.lst []) []) := by kernel_rfl
def oM : Option Nat → MV
  | some a => cd a
  | none => .non
def inO (k : Nat) : Option Nat → List Nat
  | some a => inN k a
  | none => []
theorem insideO {k : Nat} (hk : k < 6) : ∀ x : Option Nat, D__law_inside [oM x, mny k] [] = some (.ok (.lst ((inO k x).map cd)) [])
  | some a => inside_is hk a
  | none => inside_non k
def isInO (x : Option Nat) (f l : Nat) : Bool := match x with
  | some a => Nat.ble f (a / 8) && Nat.ble (a % 8) l
  | none => false
theorem is_in_is (x : Option Nat) (f l : Nat) : D_is_in [oM x, .int f, .int l] [] = some (.ok (.bl (isInO x f l)) []) := by
  cases x with
  | none => kernel_rfl
  | some a =>
    refine runM_rt rfl (ret_is ?_)
    show mAnd _ _ _ _ = some (.ok (.bl (Nat.ble f (a / 8) && Nat.ble (a % 8) l)) [])
    rw [← dL, ← dL]
    exact and_is (x := true) rfl fun _ => and_is rfl fun _ => rfl
theorem beq_int (a b : Nat) : (((a : Nat) : Int) == ((b : Nat) : Int)) = Nat.beq a b := by
  cases h : Nat.beq a b with
  | true => have := Nat.eq_of_beq_eq_true h; subst this; exact beq_self_eq_true _
  | false =>
    have := Nat.ne_of_beq_eq_false h
    exact beq_eq_false_iff_ne.mpr (by omega)
theorem eq_cd (n a b : Nat) : eqM (n + 1) (cd a) (cd b) = Nat.beq a b := by
  have e : eqM (n + 1) (cd a) (cd b) = ((((a / 8 : Nat) : Int) == ((b / 8 : Nat) : Int)) && ((((a % 8 : Nat) : Int) == ((b % 8 : Nat) : Int)) && true)) := by
    cases n <;> rfl
  rw [e, beq_int, beq_int]
  cases h : Nat.beq a b with
  | true => have := Nat.eq_of_beq_eq_true h; subst this; simp
  | false =>
    have h' := Nat.ne_of_beq_eq_false h
    cases h1 : Nat.beq (a / 8) (b / 8) with
    | false => rfl
    | true =>
      cases h2 : Nat.beq (a % 8) (b % 8) with
      | false => rfl
      | true =>
        have := Nat.eq_of_beq_eq_true h1
        have := Nat.eq_of_beq_eq_true h2
        omega
theorem ok_cd (n a : Nat) : okF (n + 1) (cd a) = true := by cases n <;> rfl
theorem ok_cds (n : Nat) (xs : List Nat) : (xs.map cd).all (okF (n + 1)) = true := by
  rw [List.all_eq_true]
  intro x hx
  obtain ⟨a, _, rfl⟩ := List.mem_map.mp hx
  exact ok_cd n a
def eqN : List Nat → List Nat → Bool
  | [], [] => true
  | x :: xs, y :: ys => Nat.beq x y && eqN xs ys
  | _, _ => false
theorem eqL_cds (n : Nat) : ∀ xs ys : List Nat, eqL (eqM (n + 1)) (xs.map cd) (ys.map cd) = eqN xs ys
  | [], [] => rfl
  | [], _ :: _ => rfl
  | _ :: _, [] => rfl
  | x :: xs, y :: ys => by
    rw [List.map_cons, List.map_cons]
    unfold eqL eqN
    rw [eq_cd, eqL_cds n xs ys]
theorem eqN_iff : ∀ xs ys : List Nat, eqN xs ys = true ↔ xs = ys
  | [], [] => by simp [eqN]
  | [], _ :: _ => by simp [eqN]
  | _ :: _, [] => by simp [eqN]
  | x :: xs, y :: ys => by
    unfold eqN
    rw [Bool.and_eq_true, eqN_iff xs ys, List.cons.injEq]
    exact ⟨fun h => ⟨Nat.eq_of_beq_eq_true h.1, h.2⟩, fun h => ⟨by rw [h.1]; exact Nat.beq_refl _, h.2⟩⟩
abbrev lM (xs : List Nat) : MV := .lst (xs.map cd)
abbrev tM (xs : List Nat) : MV := .tup (xs.map cd)
theorem neS_l (h : Hm) (xs ys : List Nat) : neOpS h (lM xs) (lM ys) = some (.bl (!eqN xs ys)) := by
  show (if (okF 64 (lM xs) && okF 64 (lM ys)) = true then some (MV.bl (!eqM 64 (lM xs) (lM ys))) else none) = _
  have e1 : okF 64 (lM xs) = true := ok_cds 62 xs
  have e2 : okF 64 (lM ys) = true := ok_cds 62 ys
  rw [e1, e2]
  have e3 : eqM 64 (lM xs) (lM ys) = eqN xs ys := eqL_cds 62 xs ys
  rw [e3]; rfl
theorem eqS_l (h : Hm) (xs ys : List Nat) : eqOpS h (lM xs) (lM ys) = some (.bl (eqN xs ys)) := by
  show (if (okF 64 (lM xs) && okF 64 (lM ys)) = true then some (MV.bl (eqM 64 (lM xs) (lM ys))) else none) = _
  have e1 : okF 64 (lM xs) = true := ok_cds 62 xs
  have e2 : okF 64 (lM ys) = true := ok_cds 62 ys
  rw [e1, e2]
  have e3 : eqM 64 (lM xs) (lM ys) = eqN xs ys := eqL_cds 62 xs ys
  rw [e3]; rfl
theorem neS_t (h : Hm) (xs ys : List Nat) : neOpS h (tM xs) (tM ys) = some (.bl (!eqN xs ys)) := by
  show (if (okF 64 (tM xs) && okF 64 (tM ys)) = true then some (MV.bl (!eqM 64 (tM xs) (tM ys))) else none) = _
  have e1 : okF 64 (tM xs) = true := ok_cds 62 xs
  have e2 : okF 64 (tM ys) = true := ok_cds 62 ys
  rw [e1, e2]
  have e3 : eqM 64 (tM xs) (tM ys) = eqN xs ys := eqL_cds 62 xs ys
  rw [e3]; rfl
theorem any_cd (a : Nat) : ∀ xs : List Nat, ((xs.map cd).any fun z => eqM 64 z (cd a)) = xs.any fun z => Nat.beq z a
  | [] => rfl
  | x :: xs => by rw [List.map_cons, List.any_cons, List.any_cons, eq_cd 63, any_cd a xs]
theorem in_l (h : Hm) (a : Nat) (xs : List Nat) : inOpA h (cd a) (lM xs) = some (.bl (xs.any fun z => Nat.beq z a)) := by
  show (inM (cd a) (lM xs)).map MV.bl = _
  have e1 : okF 64 (lM xs) = true := ok_cds 62 xs
  have e2 : okF 64 (cd a) = true := rfl
  show (if (okF 64 (cd a) && okF 64 (lM xs)) = true then some ((xs.map cd).any fun z => eqM 64 z (cd a)) else none).map MV.bl = _
  rw [e1, e2, any_cd]; rfl
theorem nin_t (h : Hm) (a : Nat) (xs : List Nat) : ninOpA h (cd a) (tM xs) = some (.bl (!xs.any fun z => Nat.beq z a)) := by
  have e1 : okF 64 (tM xs) = true := ok_cds 62 xs
  have e2 : okF 64 (cd a) = true := rfl
  show (if (okF 64 (cd a) && okF 64 (tM xs)) = true then some ((xs.map cd).any fun z => eqM 64 z (cd a)) else none).map (fun c => MV.bl (!c)) = _
  rw [e1, e2, any_cd]; rfl
def t14 (k : Nat) (x : Option Nat) (r : Nat) : Bool := eqB2 (isInO x (r / 8) (r % 8)) ((inO k x).any fun z => Nat.beq z r)
where eqB2 : Bool → Bool → Bool
  | true, true => true
  | false, false => true
  | _, _ => false
theorem ne_b (h : Hm) (x y : Bool) : neOpS h (.bl x) (.bl y) = some (.bl (!(x == y))) := by cases x <;> cases y <;> rfl
theorem p14 {k : Nat} (hk : k < 6) (x : Option Nat) (r : Nat) (c : t14 k x r = true) : okF' (a14 k (oM x) (.int ((r / 8 : Nat) : Int)) (.int ((r % 8 : Nat) : Int))) P14 = true := by
  unfold okF'
  rw [Bool.and_eq_true]
  refine ⟨by cases x <;> rfl, ?_⟩
  have e : P14 (a14 k (oM x) (.int ((r / 8 : Nat) : Int)) (.int ((r % 8 : Nat) : Int))) [] = some (.ok (.bl (!(isInO x (r / 8) (r % 8) == (inO k x).any fun z => Nat.beq z r) || !(isInO x (r / 8) (r % 8) == isInO x (r / 8) (r % 8)))) []) := by
    refine or_is (mB_is (bin_is (x := .bl (isInO x (r / 8) (r % 8))) (y := .bl ((inO k x).any fun z => Nat.beq z r)) ?_ ?_ (ne_b _ _ _))) fun _ => mB_is (bin_is (x := .bl (isInO x (r / 8) (r % 8))) (y := .bl (isInO x (r / 8) (r % 8))) ?_ ?_ (ne_b _ _ _))
    · exact call_is (xs := [oM x, .int ((r / 8 : Nat) : Int), .int ((r % 8 : Nat) : Int)]) rfl (is_in_is x (r / 8) (r % 8))
    · refine bin_is (x := cd r) (y := lM (inO k x)) rfl ?_ (in_l _ _ _)
      exact call_is (xs := [oM x, mny k]) rfl (insideO hk x)
    · exact call_is (xs := [.int ((r % 8 : Nat) : Int), .int ((r / 8 : Nat) : Int), oM x]) rfl (is_in_is x (r / 8) (r % 8))
    · exact call_is (xs := [oM x, .int ((r / 8 : Nat) : Int), .int ((r % 8 : Nat) : Int)]) rfl (is_in_is x (r / 8) (r % 8))
  rw [e]
  have q : (isInO x (r / 8) (r % 8) == (inO k x).any fun z => Nat.beq z r) = true := by
    unfold t14 at c
    revert c
    cases isInO x (r / 8) (r % 8) <;> cases ((inO k x).any fun z => Nat.beq z r) <;> simp [t14.eqB2]
  rw [q, beq_self_eq_true]; rfl
def btw : Option Nat → Option Nat → Option Nat
  | some a, some b => some (a / 8 * 8 + b % 8)
  | _, _ => none
theorem btw_is (x y : Option Nat) : D_between [oM x, oM y] [] = some (.ok (oM (btw x y)) []) := by
  cases x with
  | none => cases y <;> kernel_rfl
  | some a =>
    cases y with
    | none => kernel_rfl
    | some b =>
      have e : oM (btw (some a) (some b)) = .tup [.int ((a / 8 : Nat) : Int), .int ((b % 8 : Nat) : Int)] := by
        show cd (a / 8 * 8 + b % 8) = _
        have h1 : (a / 8 * 8 + b % 8) / 8 = a / 8 := by omega
        have h2 : (a / 8 * 8 + b % 8) % 8 = b % 8 := by omega
        show MV.tup [.int (((a / 8 * 8 + b % 8) / 8 : Nat) : Int), .int (((a / 8 * 8 + b % 8) % 8 : Nat) : Int)] = _
        rw [h1, h2]
      rw [e]
      exact runM_rt rfl (ret_is (mIf_is (x := false) (or_is (x := false) (y := false) rfl fun _ => rfl) (fun h => by cases h) fun _ => rfl))
def ordO : Option Nat → Option Nat → Bool
  | some a, some b => Nat.ble (a / 8) (b / 8) && Nat.ble (a % 8) (b % 8)
  | _, _ => true
theorem p10 (x y : Option Nat) : P10 (a10 (oM x) (oM y)) [] = some (.ok (.bl (ordO x y)) []) := by
  cases x with
  | none => cases y <;> kernel_rfl
  | some a =>
    cases y with
    | none => kernel_rfl
    | some b =>
      show P10 _ _ = some (.ok (.bl (false || (false || (Nat.ble (a / 8) (b / 8) && Nat.ble (a % 8) (b % 8))))) [])
      rw [← dL, ← dL]
      exact or_is rfl fun _ => or_is rfl fun _ => and_is (mB_is rfl) fun _ => mB_is rfl
theorem noRef_o (x : Option Nat) : noRef (oM x) = true := by cases x <;> rfl
theorem noRefs_cd : ∀ xs : List Nat, noRefs (xs.map cd) = true
  | [] => rfl
  | x :: xs => by rw [List.map_cons]; unfold noRefs; rw [noRefs_cd xs]; rfl
def boN (k : Nat) (x y : Option Nat) : List Nat := (inO k x).filter fun r => (inO k y).any fun z => Nat.beq z r
theorem inO_len {k : Nat} {x : Option Nat} : (inO k x).length ≤ 100 := by
  cases x with
  | none => exact Nat.zero_le _
  | some a => exact Nat.le_trans (List.length_filter_le _ _) rlen
theorem p12 {k : Nat} (hk : k < 6) (x y : Option Nat) : P12 (a12 k (oM x) (oM y)) [] = some (.ok (lM (boN k x y)) []) := by
  refine comp_is (g := cd) (xs := inO k x) (f := cd) ?_ (Nat.le_trans inO_len (by decide)) fun r _ => ⟨_, rfl, ?_, fun _ => rfl⟩
  · exact items_is (call_is (xs := [oM x, mny k]) rfl (insideO hk x)) rfl
  · exact mB_is (bin_is (x := cd r) (y := lM (inO k y)) rfl (call_is (xs := [oM y, mny k]) rfl (insideO hk y)) (in_l _ _ _))
theorem ne_o (h : Hm) (x : Option Nat) : neOpS h (oM x) (oM x) = some (.bl false) := by
  cases x with
  | none => rfl
  | some a =>
    show (if (okF 64 (cd a) && okF 64 (cd a)) = true then some (MV.bl (!eqM 64 (cd a) (cd a))) else none) = _
    rw [eq_cd 63, Nat.beq_refl]; rfl
def t11 (k : Nat) (x y : Option Nat) : Bool := eqN (inO k (btw x y)) (boN k x y)
theorem isN_o (x : Option Nat) : isN (oM x) = x.isNone := by cases x <;> rfl
theorem p11 {k : Nat} (hk : k < 6) (x y : Option Nat) (c : t11 k x y = true) : okF' (a11 k (oM x) (oM y) (oM (btw x y)) (lM (boN k x y))) P11 = true := by
  unfold okF'
  rw [Bool.and_eq_true]
  refine ⟨?_, ?_⟩
  · show (true && (true && (true && (noRef (mny k) && (true && (noRef (oM x) && (noRef (oM y) && (true && (true && (noRef (oM (btw x y)) && (noRefs ((boN k x y).map cd) && _))))))))))) = true
    rw [noRef_o, noRef_o, noRef_o, noRefs_cd]; rfl
  · have e : P11 (a11 k (oM x) (oM y) (oM (btw x y)) (lM (boN k x y))) [] = some (.ok (.bl (!eqN (inO k (btw x y)) (boN k x y) || (false || !((btw x y).isNone == (x.isNone || y.isNone))))) []) := by
      refine or_is (mB_is (bin_is (x := lM (inO k (btw x y))) (y := lM (boN k x y)) ?_ rfl (neS_l _ _ _))) fun _ => or_is (mB_is (bin_is (x := oM (btw x y)) (y := oM (btw x y)) ?_ rfl (ne_o _ _))) fun _ => mB_is (bin_is (x := .bl (btw x y).isNone) (y := .bl (x.isNone || y.isNone)) ?_ ?_ (ne_b _ _ _))
      · exact call_is (xs := [oM (btw x y), mny k]) rfl (insideO hk _)
      · exact call_is (xs := [oM y, oM x]) rfl (btw_is x y)
      · show (some (MV.bl (isN (oM (btw x y))))).map (fun d => RS.ok d []) = _
        rw [isN_o]; rfl
      · refine or_is ?_ fun _ => ?_
        · show (some (MV.bl (isN (oM x)))).map (fun d => RS.ok d []) = _
          rw [isN_o]; rfl
        · show (some (MV.bl (isN (oM y)))).map (fun d => RS.ok d []) = _
          rw [isN_o]; rfl
    rw [e]
    unfold t11 at c
    rw [c]
    cases x <;> cases y <;> rfl
def lotN (found : List (List Nat)) : List Nat → Option (List (List Nat))
  | [] => some found
  | m :: ms =>
    let new := (found.filter fun l => (l.filter fun o => apN o m).isEmpty).map fun l => l ++ [m]
    if Nat.ble (found.length + new.length) 1000 && (found.all fun l => Nat.ble l.length 100) then lotN (found ++ new) ms else none
theorem isE (xs : List Nat) : eqN xs [] = xs.isEmpty := by cases xs <;> rfl
def lotM (ls : List (List Nat)) : MV := .lst (ls.map tM)
def lotBody : MS := mSet 1 (mBin addOp (mVar 1) (mComp (mItems (mVar 1)) (tgN 3) (mB (mBin eqOpS (mComp (mItems (mVar 3)) (tgN 4) (mB (mCallD D__law_is_apart (mCons (mVar 4) (mCons (mVar 2) mNil)))) (mVar 4) [4]) (mLst mNil))) (mBin addOp (mVar 3) (mTup (mCons (mVar 2) mNil))) [3]))
theorem lot_step (s0 s2 s3 s4 : Option MV) (found : List (List Nat)) (m : Nat) (h1 : found.length + ((found.filter fun l => (l.filter fun o => apN o m).isEmpty).map fun l => l ++ [m]).length ≤ 1000) (h2 : ∀ l ∈ found, l.length ≤ 100) :
    lotBody [s0, some (lotM found), some (cd m), s3, s4] [] = some (.nx [s0, some (lotM (found ++ (found.filter fun l => (l.filter fun o => apN o m).isEmpty).map fun l => l ++ [m])), some (cd m), s3, s4] []) := by
  have hf : found.length ≤ 16777215 := by omega
  have e1 : (mComp (mItems (mVar 1)) (tgN 3) (mB (mBin eqOpS (mComp (mItems (mVar 3)) (tgN 4) (mB (mCallD D__law_is_apart (mCons (mVar 4) (mCons (mVar 2) mNil)))) (mVar 4) [4]) (mLst mNil))) (mBin addOp (mVar 3) (mTup (mCons (mVar 2) mNil))) [3]) [s0, some (lotM found), some (cd m), s3, s4] [] =
      some (.ok (.lst ((found.filter fun l => (l.filter fun o => apN o m).isEmpty).map fun l => tM (l ++ [m]))) []) := by
    refine comp_is (g := tM) (xs := found) rfl hf fun l hl => ⟨_, rfl, ?_, fun _ => ?_⟩
    · rw [← isE]
      refine mB_is (bin_is (x := lM (l.filter fun o => apN o m)) (y := lM []) ?_ rfl (eqS_l _ _ _))
      refine comp_is (g := cd) (xs := l) (f := cd) rfl (Nat.le_trans (h2 l hl) (by decide)) fun o _ => ⟨_, rfl, mB_is (apart_is o m), fun _ => rfl⟩
    · refine bin_is (x := tM l) (y := .tup [cd m]) rfl rfl ?_
      show (if (l.map cd).length + 1 ≤ 16777216 then some (MV.tup (l.map cd ++ [cd m])) else none) = _
      have := h2 l hl
      rw [if_pos (by rw [List.length_map]; omega)]
      show some (MV.tup (l.map cd ++ [cd m])) = some (MV.tup ((l ++ [m]).map cd))
      rw [List.map_append]; rfl
  unfold lotBody
  refine set_is (d := lotM (found ++ (found.filter fun l => (l.filter fun o => apN o m).isEmpty).map fun l => l ++ [m])) ?_
  refine bin_is (x := lotM found) rfl e1 ?_
  show (if (found.map tM).length + ((found.filter fun l => (l.filter fun o => apN o m).isEmpty).map fun l => tM (l ++ [m])).length ≤ 16777216 then some (MV.lst (found.map tM ++ (found.filter fun l => (l.filter fun o => apN o m).isEmpty).map fun l => tM (l ++ [m]))) else none) = _
  rw [List.length_map] at h1
  rw [if_pos (by rw [List.length_map, List.length_map]; omega)]
  unfold lotM
  rw [List.map_append, List.map_map]; rfl
theorem lot_go (s0 s3 s4 : Option MV) : ∀ (ms : List Nat) (found ls : List (List Nat)) (s2 : Option MV), lotN found ms = some ls → ∃ s2', forGo (tgN 2) lotBody (ms.map cd) [s0, some (lotM found), s2, s3, s4] [] = some (.nx [s0, some (lotM ls), s2', s3, s4] [])
  | [], found, ls, s2, e => by cases e; exact ⟨s2, rfl⟩
  | m :: ms, found, ls, s2, e => by
    unfold lotN at e
    dsimp only at e
    split at e
    · rename_i hc
      rw [Bool.and_eq_true] at hc
      obtain ⟨s2', q⟩ := lot_go s0 s3 s4 ms _ ls (some (cd m)) e
      refine ⟨s2', ?_⟩
      rw [List.map_cons]
      unfold forGo
      show (match lotBody [s0, some (lotM found), some (cd m), s3, s4] [] with
      | some (.nx ms2 h2) => forGo (tgN 2) lotBody (ms.map cd) ms2 h2
      | some (.ct ms2 h2) => forGo (tgN 2) lotBody (ms.map cd) ms2 h2
      | some (.bk ms2 h2) => some (.nx ms2 h2)
      | some (.rt d h2) => some (.rt d h2)
      | some (.ex c a ms2 h2) => some (.ex c a ms2 h2)
      | none => none) = _
      rw [lot_step s0 s2 s3 s4 found m (Nat.le_of_ble_eq_true hc.1) fun l hl => Nat.le_of_ble_eq_true (List.all_eq_true.mp hc.2 l hl)]
      exact q
    · cases e
theorem lots_is (ms : List Nat) (ls : List (List Nat)) (e : lotN [[]] ms = some ls) : D__law_lots [lM ms] [] = some (.ok (lotM ls) []) := by
  obtain ⟨s2', q⟩ := lot_go (some (lM ms)) none none ms [[]] ls none e
  refine runM_rt rfl ?_
  show mSeq (mSet 1 (mLst (mCons (mTup mNil) mNil))) (mSeq (mFor (mItems (mVar 0)) (tgN 2) lotBody) (mRet (mVar 1))) [some (lM ms), none, none, none, none] [] = _
  rw [mSeq_nx (ms1 := [some (lM ms), some (lotM [[]]), none, none, none]) (h1 := []) rfl]
  have q2 : mFor (mItems (mVar 0)) (tgN 2) lotBody [some (lM ms), some (lotM [[]]), none, none, none] [] = some (.nx [some (lM ms), some (lotM ls), s2', none, none] []) := q
  rw [mSeq_nx q2]; rfl
def lessN (lot o : List Nat) : Bool := (lot.filter fun m => !(o.any fun z => Nat.beq z m)).isEmpty
def mostN (ls : List (List Nat)) : List (List Nat) := ls.filter fun lot => (ls.filter fun o => !eqN o lot && lessN lot o).isEmpty
theorem eqS_ones (h : Hm) (n : Nat) : eqOpS h (.lst (List.replicate n (.int 1))) (.lst []) = some (.bl (n == 0)) := by
  show (if (okF 64 (.lst (List.replicate n (.int 1))) && okF 64 (.lst [])) = true then some (MV.bl (eqM 64 (.lst (List.replicate n (.int 1))) (.lst []))) else none) = _
  have e1 : okF 64 (.lst (List.replicate n (.int 1))) = true := by
    show (List.replicate n (MV.int 1)).all (okF 63) = true
    rw [List.all_eq_true]
    intro x hx
    rw [List.eq_of_mem_replicate hx]; rfl
  rw [e1]
  cases n <;> rfl
theorem p5 (ls : List (List Nat)) (h1 : ls.length ≤ 1000) (h2 : ∀ l ∈ ls, l.length ≤ 100) : P5 (b14 (lotM ls)) [] = some (.ok (lotM (mostN ls)) []) := by
  refine comp_is (g := tM) (xs := ls) (f := tM) rfl (by omega) fun lot hlot => ⟨_, rfl, ?_, fun _ => rfl⟩
  have e : ∀ zs : List (List Nat), (zs.length == 0) = zs.isEmpty := fun zs => by cases zs <;> rfl
  rw [← e]
  refine mB_is (bin_is (x := .lst (List.replicate (ls.filter fun o => !eqN o lot && lessN lot o).length (.int 1))) (y := .lst []) ?_ rfl (eqS_ones _ _))
  have e2 : ∀ zs : List (List Nat), List.replicate zs.length (MV.int 1) = zs.map fun _ => MV.int 1 := fun zs => by
    induction zs with
    | nil => rfl
    | cons z zs ih => rw [List.length_cons, List.replicate_succ, ih]; rfl
  rw [e2]
  refine comp_is (g := tM) (xs := ls) (f := fun _ => MV.int 1) rfl (by omega) fun o ho => ⟨_, rfl, ?_, fun _ => rfl⟩
  refine and_is (mB_is (bin_is (x := tM o) (y := tM lot) rfl rfl (neS_t _ _ _))) fun _ => ?_
  unfold lessN
  rw [← isE]
  refine mB_is (bin_is (x := lM (lot.filter fun m => !(o.any fun z => Nat.beq z m))) (y := lM []) ?_ rfl (eqS_l _ _ _))
  exact comp_is (g := cd) (xs := lot) (f := cd) rfl (Nat.le_trans (h2 lot hlot) (by decide)) fun m _ => ⟨_, rfl, mB_is (bin_is (x := cd m) (y := tM o) rfl rfl (nin_t _ _ _)), fun _ => rfl⟩
end K16
namespace K16
open PySem L2 Mx

def onesO (k : Nat) : List (Option Nat) := (rN k).map some ++ [none]
theorem p19 : ∀ k, k < 6 → P19 (a3 k) [] = some (.ok (lM (rN k)) [])
  | 0, _ => by kernel_rfl
  | 1, _ => by kernel_rfl
  | 2, _ => by kernel_rfl
  | 3, _ => by kernel_rfl
  | 4, _ => by kernel_rfl
  | 5, _ => by kernel_rfl
  | n + 6, h => absurd h (by omega)
theorem p15 : ∀ k, k < 6 → P15 (a3 k) [] = some (.ok (lM (rN k)) [])
  | 0, _ => by kernel_rfl
  | 1, _ => by kernel_rfl
  | 2, _ => by kernel_rfl
  | 3, _ => by kernel_rfl
  | 4, _ => by kernel_rfl
  | 5, _ => by kernel_rfl
  | n + 6, h => absurd h (by omega)
theorem p17 : ∀ k, k < 6 → P17 (a4 (lM (rN k))) [] = some (.ok (.lst ((onesO k).map oM)) [])
  | 0, _ => by kernel_rfl
  | 1, _ => by kernel_rfl
  | 2, _ => by kernel_rfl
  | 3, _ => by kernel_rfl
  | 4, _ => by kernel_rfl
  | 5, _ => by kernel_rfl
  | n + 6, h => absurd h (by omega)
theorem p18 : ∀ k, k < 6 → P18 (a4 (lM (rN k))) [] = some (.ok (.lst ((onesO k).map oM)) [])
  | 0, _ => by kernel_rfl
  | 1, _ => by kernel_rfl
  | 2, _ => by kernel_rfl
  | 3, _ => by kernel_rfl
  | 4, _ => by kernel_rfl
  | 5, _ => by kernel_rfl
  | n + 6, h => absurd h (by omega)
theorem rpos : ∀ k, k < 6 → 1 ≤ (rN k).length
  | 0, _ => by decide
  | 1, _ => by decide
  | 2, _ => by decide
  | 3, _ => by decide
  | 4, _ => by decide
  | 5, _ => by decide
  | n + 6, h => absurd h (by omega)
theorem marks_is : ∀ k, k < 6 → D_marks_of [mny k] [] = some (.ok (tM (rN k)) [])
  | 0, _ => by kernel_rfl
  | 1, _ => by kernel_rfl
  | 2, _ => by kernel_rfl
  | 3, _ => by kernel_rfl
  | 4, _ => by kernel_rfl
  | 5, _ => by kernel_rfl
  | n + 6, h => absurd h (by omega)
theorem rshort : ∀ k, k < 6 → nodes (tM (rN k)) ≤ 8000
  | 0, _ => by decide +kernel
  | 1, _ => by decide +kernel
  | 2, _ => by decide +kernel
  | 3, _ => by decide +kernel
  | 4, _ => by decide +kernel
  | 5, _ => by decide +kernel
  | n + 6, h => absurd h (by omega)
theorem chains_a : ∀ k, k < 4 → D_chains_of [mny k] [] = some (.ok (.tup ((chN k).map tM)) (List.replicate (2 * k) none))
  | 0, _ => by kernel_rfl
  | 1, _ => by kernel_rfl
  | 2, _ => by kernel_rfl
  | 3, _ => by kernel_rfl
  | n + 4, h => absurd h (by omega)
theorem chains_b : ∀ k, k < 4 → D_chains_of [mny k] (List.replicate (2 * k) none) = some (.ok (.tup ((chN k).map tM)) (List.replicate (4 * k) none))
  | 0, _ => by kernel_rfl
  | 1, _ => by kernel_rfl
  | 2, _ => by kernel_rfl
  | 3, _ => by kernel_rfl
  | n + 4, h => absurd h (by omega)
theorem chains_c : ∀ k, k < 4 → D_chains_of [mny k] (List.replicate (4 * k) none) = some (.ok (.tup ((chN k).map tM)) (List.replicate (6 * k) none))
  | 0, _ => by kernel_rfl
  | 1, _ => by kernel_rfl
  | 2, _ => by kernel_rfl
  | 3, _ => by kernel_rfl
  | n + 4, h => absurd h (by omega)
theorem most_sort : ∀ k, k < 4 → ∀ g, (mCall tupF (mCons (mCall sortF (mCons (mVar 15) mNil)) mNil)) (b4 k (lotM (moN k))) g = some (.ok (.tup ((chN k).map tM)) g)
  | 0, _ => by intro g; kernel_rfl
  | 1, _ => by intro g; kernel_rfl
  | 2, _ => by intro g; kernel_rfl
  | 3, _ => by intro g; kernel_rfl
  | n + 4, h => absurd h (by omega)
theorem c4a : ∀ k, k < 4 → okF 60 (.tup ((chN k).map tM)) = true ∧ noS (.tup ((chN k).map tM)) = true ∧ nodes (.tup ((chN k).map tM)) ≤ 8000 ∧ noRef (lotM (moN k)) = true
  | 0, _ => by decide +kernel
  | 1, _ => by decide +kernel
  | 2, _ => by decide +kernel
  | 3, _ => by decide +kernel
  | n + 4, h => absurd h (by omega)
theorem c4b : ∀ k, k < 4 → ∀ g, neOpS g (.tup ((chN k).map tM)) (.tup ((chN k).map tM)) = some (.bl false)
  | 0, _ => by intro g; kernel_rfl
  | 1, _ => by intro g; kernel_rfl
  | 2, _ => by intro g; kernel_rfl
  | 3, _ => by intro g; kernel_rfl
  | n + 4, h => absurd h (by omega)
theorem noSs_cd : ∀ xs : List Nat, (∀ x ∈ xs, x < 1000) → noSs (xs.map cd) = true
  | [], _ => rfl
  | x :: xs, h => by
    have hx := h x (by simp)
    rw [List.map_cons]
    have e : noS (cd x) = true := by
      show (decide ((((x / 8 : Nat) : Int)).natAbs < 1000000) && (decide ((((x % 8 : Nat) : Int)).natAbs < 1000000) && true)) = true
      rw [decide_eq_true (by omega), decide_eq_true (by omega)]; rfl
    unfold noSs
    rw [e, noSs_cd xs fun y hy => h y (by simp [hy])]; rfl
theorem rsmall : ∀ k, k < 6 → ∀ x ∈ rN k, x < 1000
  | 0, _ => by decide
  | 1, _ => by decide
  | 2, _ => by decide
  | 3, _ => by decide
  | 4, _ => by decide
  | 5, _ => by decide
  | n + 6, h => absurd h (by omega)
theorem c16 {k : Nat} (hk : k < 6) : okF' (a34 k (lM (rN k))) P16 = true := by
  unfold okF'
  rw [Bool.and_eq_true]
  refine ⟨?_, ?_⟩
  · show (true && (true && (true && (noRef (mny k) && (noRefs ((rN k).map cd) && _))))) = true
    rw [noRefs_cd]; rfl
  · have c0 : isSeq (tM (rN k)) = true := rfl
    have c1 : okF 60 (tM (rN k)) = true := ok_cds 58 _
    have c2 : noS (tM (rN k)) = true := noSs_cd _ (rsmall k hk)
    have e1 : (mCallD D_marks_of (mCons (mVar 3) mNil)) (a34 k (lM (rN k))) [] = some (.ok (tM (rN k)) []) := call_is (xs := [mny k]) rfl (marks_is k hk)
    have e2 : (mCallD (fun zs => D_marks_of (pick [0] zs)) (mCons (mVar 3) mNil)) (a34 k (lM (rN k))) [] = some (.ok (tM (rN k)) []) := call_is (xs := [mny k]) rfl (marks_is k hk)
    have e3 : (mCall tupF (mCons (mVar 4) mNil)) (a34 k (lM (rN k))) [] = some (.ok (tM (rN k)) []) := rfl
    have e : P16 (a34 k (lM (rN k))) [] = some (.ok (.bl (false || false)) []) := or_is (mB_is (ne_repr e1 e3 c0 c1 c2 (rshort k hk))) fun _ => mB_is (ne_repr e2 e3 c0 c1 c2 (rshort k hk))
    rw [e]; rfl
theorem c4 {k : Nat} (hk : k < 4) : okF' (b4 k (lotM (moN k))) P4 = true := by
  obtain ⟨c1, c2, c3, c5⟩ := c4a k hk
  unfold okF'
  rw [Bool.and_eq_true]
  refine ⟨?_, ?_⟩
  · show (true && (true && (true && (true && (true && (true && (true && (true && (true && (true && (true && (true && (true && (noRef (mny k) && (true && (noRef (lotM (moN k)) && _)))))))))))))))) = true
    rw [c5]; rfl
  · have e1 : (mCallD D_chains_of (mCons (mVar 13) mNil)) (b4 k (lotM (moN k))) [] = some (.ok (.tup ((chN k).map tM)) (List.replicate (2 * k) none)) := call_is (xs := [mny k]) rfl (chains_a k hk)
    have e2 : (mCallD (fun zs => D_chains_of (pick [0] zs)) (mCons (mVar 13) mNil)) (b4 k (lotM (moN k))) (List.replicate (2 * k) none) = some (.ok (.tup ((chN k).map tM)) (List.replicate (4 * k) none)) := call_is (xs := [mny k]) rfl (chains_b k hk)
    have e3 : (mCallD D_chains_of (mCons (mVar 13) mNil)) (b4 k (lotM (moN k))) (List.replicate (4 * k) none) = some (.ok (.tup ((chN k).map tM)) (List.replicate (6 * k) none)) := call_is (xs := [mny k]) rfl (chains_c k hk)
    have e : P4 (b4 k (lotM (moN k))) [] = some (.ok (.bl false) (List.replicate (6 * k) none)) := or2_is (mB2_is (ne_repr e1 (most_sort k hk _) rfl c1 c2 c3)) (mB2_is (bin2_is e2 e3 (c4b k hk _)))
    rw [e]; rfl
theorem c14 : ((List.range 6).all fun k => (onesO k).all fun x => (rN k).all fun r => t14 k x r) = true := by decide +kernel
theorem c11 : ((List.range 6).all fun k => (onesO k).all fun x => (onesO k).all fun y => !ordO x y || t11 k x y) = true := by decide +kernel
def odds (k : Nat) : List MV := lstOf (valOf (P9 (a3 k) []))
def due (k : Nat) (d : MV) : MV := valOf (P8 (a8 k d) [])
theorem c9 : ((List.range 6).all fun k => okL (a3 k) P9) = true := by decide +kernel
theorem c8 : ((List.range 6).all fun k => (odds k).all fun d => okA (a8 k d) P8 && okF' (a7 k d (due k d)) P7) = true := by decide +kernel
def lsN (k : Nat) : List (List Nat) := (lotN [[]] (rN k)).getD []
theorem c6 : ((List.range 4).all fun k => (lotN [[]] (rN k)).isSome && Nat.ble (lsN k).length 1000 && (lsN k).all fun l => Nat.ble l.length 100) = true := by decide +kernel
theorem c5 : ((List.range 4).all fun k => decide (mostN (lsN k) = moN k)) = true := by decide +kernel
theorem p6a : ∀ k, k < 4 → (mCons (mCall listF (mCons (mCallD D_marks_of (mCons (mVar 13) mNil)) mNil)) mNil) (b13 k) [] = some (.ok [lM (rN k)] [])
  | 0, _ => by kernel_rfl
  | 1, _ => by kernel_rfl
  | 2, _ => by kernel_rfl
  | 3, _ => by kernel_rfl
  | n + 4, h => absurd h (by omega)
def chns (k : Nat) : MV := valOf (P3 (c3 k) [])
def ck6 (k : Nat) : Bool := okA (c3 k) P3 && okF' (c2 k (chns k)) P2 && okF' (c1 (chns k)) P1
theorem ck6_5 : ck6 5 = true := by decide +kernel
theorem ck6_6 : ck6 6 = true := by decide +kernel
theorem ck7 : okT' nil0 P0 = true := by decide +kernel
end K16
namespace K16
open PySem L2 Mx
theorem draw_eq : D__law_draw = runM 2 2 (wDraw 8105 42925) := rfl
theorem one_eq : D__law_one = runM 2 2 (wOne (runM 2 2 (wDraw 8105 42925))) := rfl
theorem well_eq : D__law_well = runM 3 1 (wWell 50613) := rfl
/-- the state of the law: 22 names -/
abbrev S (x0 x1 x2 x3 x4 x5 x6 x7 x8 x9 x10 x11 x12 x13 x14 x15 : Option MV) : Sl := [x0, x1, x2, x3, x4, x5, x6, x7, x8, x9, x10, x11, x12, x13, x14, x15, none, none, none, none, none, none]
abbrev W (ns : List Int) (p s : Int) : Hm := [some (Wl ns p s)]
abbrev wl : Option MV := some (.ref 0)
section
variable (ns : List Int)
/-- a draw of one of some -/
theorem one_run {p s : Int} (hp : 0 ≤ p) (xs : List MV) (hx : 1 ≤ xs.length) : ∃ d p' s', d ∈ xs ∧ 0 ≤ p' ∧ D__law_one [.ref 0, .lst xs] (W ns p s) = some (.ok d (W ns p' s')) := by
  obtain ⟨k, d, p', s', h1, h2, h3, e⟩ := one_is 8105 42925 ns p s [] (by decide) (by decide) xs hx hp
  exact ⟨d, p', s', List.mem_of_getElem? h2, h3, by rw [one_eq]; exact e⟩
theorem draw_run {p s : Int} (hp : 0 ≤ p) (n : Nat) (hn : 1 ≤ n) : ∃ (k : Nat) (p' s' : Int), k < n ∧ 0 ≤ p' ∧ D__law_draw [.ref 0, .int n] (W ns p s) = some (.ok (.int k) (W ns p' s')) := by
  obtain ⟨x, p', s', h1, h2, h3, e⟩ := draw_is 8105 42925 ns p s n [] (by decide) (by decide) (by omega) hp
  obtain ⟨k, rfl⟩ : ∃ k : Nat, x = k := ⟨x.toNat, by omega⟩
  exact ⟨k, p', s', by omega, h3, by rw [draw_eq]; exact e⟩
theorem turn (x0 : Option MV) (t : MV) (p s : Int) (hp : 0 ≤ p) : ∃ p' s', 0 ≤ p' ∧
    (mTidy [false, true, false, false, false, false, false, false, false, false, false, false, false, true, true, true, false, false, true, true, true, true] (mSeq L68 (mSeq L67 (mSeq L64 (mSeq L59 (mSeq L55 (mSeq L52 (mSeq L48 (mSeq L35 (mSeq L32 L29))))))))))
      (S x0 wl (some t) none none none none none none none none none none none none none) (W ns p s) = some (.nx (S none wl none none none none none none none none none none none none none none) (W ns p' s')) := by
  -- how many rows
  obtain ⟨k, p1, s1, hk, hp1, e68⟩ := draw_run ns (s := s) hp 6 (by decide)
  have E68 : L68 (S x0 wl (some t) none none none none none none none none none none none none none) (W ns p s) = some (.nx (S x0 wl (some t) (some (mny k)) none none none none none none none none none none none none) (W ns p1 s1)) :=
    set_is (bin2_is (x := .int 1) (y := .int (k : Int)) (h1 := W ns p s) rfl (call_is (xs := [.ref 0, .int 6]) rfl e68) rfl)
  have E67 : L67 (S x0 wl (some t) (some (mny k)) none none none none none none none none none none none none) (W ns p1 s1) = some (.nx (S x0 wl (some t) (some (mny k)) (some (lM (rN k))) none none none none none none none none none none none) (W ns p1 s1)) :=
    set_is (pure_of (k := a3 k) rfl rfl (p19 k hk) (noRefs_cd _))
  -- one, other
  have lo : 1 ≤ ((onesO k).map oM).length := by rw [List.length_map]; unfold onesO; rw [List.length_append]; exact Nat.le_add_left _ _
  obtain ⟨d1, p2, s2, hd1, hp2, e1⟩ := one_run ns (s := s1) hp1 ((onesO k).map oM) lo
  obtain ⟨x, hx, rfl⟩ := List.mem_map.mp hd1
  obtain ⟨d2, p3, s3, hd2, hp3, e2⟩ := one_run ns (s := s2) hp2 ((onesO k).map oM) lo
  obtain ⟨y, hy, rfl⟩ := List.mem_map.mp hd2
  have hn : noRefs ((onesO k).map oM) = true := by
    have : ∀ zs : List (Option Nat), noRefs (zs.map oM) = true := fun zs => by
      induction zs with
      | nil => rfl
      | cons z zs ih => rw [List.map_cons]; unfold noRefs; rw [noRef_o, ih]; rfl
    exact this _
  have cm4 : (a4 (lM (rN k))).all noRefO = true := by
    show (true && (true && (true && (true && (noRefs ((rN k).map cd) && _))))) = true
    rw [noRefs_cd]; rfl
  have E64 : L64 (S x0 wl (some t) (some (mny k)) (some (lM (rN k))) none none none none none none none none none none none) (W ns p1 s1) = some (.nx (S x0 wl (some t) (some (mny k)) (some (lM (rN k))) (some (oM x)) (some (oM y)) none none none none none none none none none) (W ns p3 s3)) := by
    refine setT_is (d := .tup [oM x, oM y]) (tup_is (cons_is (h1 := W ns p2 s2) ?_ (cons_is (h1 := W ns p3 s3) ?_ rfl)) (by show 2 ≤ 16777216; decide)) rfl
    · exact call_is (xs := [.ref 0, .lst ((onesO k).map oM)]) (cons_is (h1 := W ns p1 s1) rfl (cons_is (pure_of (k := a4 (lM (rN k))) rfl cm4 (p18 k hk) hn) rfl)) e1
    · exact call_is (xs := [.ref 0, .lst ((onesO k).map oM)]) (cons_is (h1 := W ns p2 s2) rfl (cons_is (pure_of (k := a4 (lM (rN k))) rfl cm4 (p17 k hk) hn) rfl)) e2
  have E59 : L59 (S x0 wl (some t) (some (mny k)) (some (lM (rN k))) (some (oM x)) (some (oM y)) none none none none none none none none none) (W ns p3 s3) = some (.nx (S x0 wl (some t) (some (mny k)) (some (lM (rN k))) (some (oM x)) (some (oM y)) none none none none none none none none none) (W ns p3 s3)) :=
    if_nx (pure_F (k := a34 k (lM (rN k))) rfl (c16 hk))
  -- first, last
  obtain ⟨d3, p4, s4, hd3, hp4, e3⟩ := one_run ns (s := s3) hp3 ((rN k).map cd) (by rw [List.length_map]; exact rpos k hk)
  obtain ⟨r, hr, rfl⟩ := List.mem_map.mp hd3
  have E55 : L55 (S x0 wl (some t) (some (mny k)) (some (lM (rN k))) (some (oM x)) (some (oM y)) none none none none none none none none none) (W ns p3 s3) = some (.nx (S x0 wl (some t) (some (mny k)) (some (lM (rN k))) (some (oM x)) (some (oM y)) (some (.int ((r / 8 : Nat) : Int))) (some (.int ((r % 8 : Nat) : Int))) none none none none none none none) (W ns p4 s4)) := by
    refine setT_is (d := cd r) ?_ rfl
    exact call_is (xs := [.ref 0, .lst ((rN k).map cd)]) (cons_is (h1 := W ns p3 s3) rfl (cons_is (pure_of (k := a3 k) rfl rfl (p15 k hk) (noRefs_cd _)) rfl)) e3
  have E52 : L52 (S x0 wl (some t) (some (mny k)) (some (lM (rN k))) (some (oM x)) (some (oM y)) (some (.int ((r / 8 : Nat) : Int))) (some (.int ((r % 8 : Nat) : Int))) none none none none none none none) (W ns p4 s4) = some (.nx (S x0 wl (some t) (some (mny k)) (some (lM (rN k))) (some (oM x)) (some (oM y)) (some (.int ((r / 8 : Nat) : Int))) (some (.int ((r % 8 : Nat) : Int))) none none none none none none none) (W ns p4 s4)) :=
    if_nx (pure_F (k := a14 k (oM x) (.int ((r / 8 : Nat) : Int)) (.int ((r % 8 : Nat) : Int))) rfl (p14 hk x r (all_of (all_of (all_range c14 hk) hx) hr)))
  -- told, both
  have E48 : ∃ t9 t10, L48 (S x0 wl (some t) (some (mny k)) (some (lM (rN k))) (some (oM x)) (some (oM y)) (some (.int ((r / 8 : Nat) : Int))) (some (.int ((r % 8 : Nat) : Int))) none none none none none none none) (W ns p4 s4) = some (.nx (S x0 wl (some t) (some (mny k)) (some (lM (rN k))) (some (oM x)) (some (oM y)) (some (.int ((r / 8 : Nat) : Int))) (some (.int ((r % 8 : Nat) : Int))) t9 t10 none none none none none) (W ns p4 s4)) := by
    have cm10 : (a10 (oM x) (oM y)).all noRefO = true := by
      show (true && (true && (true && (true && (true && (noRef (oM x) && (noRef (oM y) && _))))))) = true
      rw [noRef_o, noRef_o]; rfl
    have cm12 : (a12 k (oM x) (oM y)).all noRefO = true := by
      show (true && (true && (true && (noRef (mny k) && (true && (noRef (oM x) && (noRef (oM y) && _))))))) = true
      rw [noRef_o, noRef_o]; rfl
    have q : (mPure P10k P10) (S x0 wl (some t) (some (mny k)) (some (lM (rN k))) (some (oM x)) (some (oM y)) (some (.int ((r / 8 : Nat) : Int))) (some (.int ((r % 8 : Nat) : Int))) none none none none none none none) (W ns p4 s4) = some (.ok (.bl (ordO x y)) (W ns p4 s4)) := pure_of (k := a10 (oM x) (oM y)) rfl cm10 (p10 x y) rfl
    cases ho : ordO x y with
    | false =>
      rw [ho] at q
      exact ⟨none, none, if_nx q⟩
    | true =>
      rw [ho] at q
      have c := all_of (all_of (all_range c11 hk) hx) hy
      rw [ho] at c
      refine ⟨some (oM (btw x y)), some (lM (boN k x y)), ?_⟩
      unfold L48
      rw [mIfS_t q]
      have E47 : L47 (S x0 wl (some t) (some (mny k)) (some (lM (rN k))) (some (oM x)) (some (oM y)) (some (.int ((r / 8 : Nat) : Int))) (some (.int ((r % 8 : Nat) : Int))) none none none none none none none) (W ns p4 s4) = some (.nx (S x0 wl (some t) (some (mny k)) (some (lM (rN k))) (some (oM x)) (some (oM y)) (some (.int ((r / 8 : Nat) : Int))) (some (.int ((r % 8 : Nat) : Int))) (some (oM (btw x y))) none none none none none none) (W ns p4 s4)) :=
        set_is (pure_of (k := a10 (oM x) (oM y)) rfl cm10 (call_is (xs := [oM x, oM y]) rfl (btw_is x y)) (noRef_o _))
      rw [mSeq_nx E47]
      have E44 : L44 (S x0 wl (some t) (some (mny k)) (some (lM (rN k))) (some (oM x)) (some (oM y)) (some (.int ((r / 8 : Nat) : Int))) (some (.int ((r % 8 : Nat) : Int))) (some (oM (btw x y))) none none none none none none) (W ns p4 s4) = some (.nx (S x0 wl (some t) (some (mny k)) (some (lM (rN k))) (some (oM x)) (some (oM y)) (some (.int ((r / 8 : Nat) : Int))) (some (.int ((r % 8 : Nat) : Int))) (some (oM (btw x y))) (some (lM (boN k x y))) none none none none none) (W ns p4 s4)) :=
        set_is (pure_of (k := a12 k (oM x) (oM y)) rfl cm12 (p12 hk x y) (noRefs_cd _))
      rw [mSeq_nx E44]
      exact if_nx (pure_F (k := a11 k (oM x) (oM y) (oM (btw x y)) (lM (boN k x y))) rfl (p11 hk x y c))
  obtain ⟨t9, t10, E48⟩ := E48
  -- odd, due
  have o9 := okL_of (all_range c9 hk)
  obtain ⟨d4, p5, s5, hd4, hp5, e4⟩ := one_run ns (s := s4) hp4 (odds k) o9.2.2
  have c8k := all_of (all_range c8 hk) hd4
  rw [Bool.and_eq_true] at c8k
  have E35 : L35 (S x0 wl (some t) (some (mny k)) (some (lM (rN k))) (some (oM x)) (some (oM y)) (some (.int ((r / 8 : Nat) : Int))) (some (.int ((r % 8 : Nat) : Int))) t9 t10 none none none none none) (W ns p4 s4) = some (.nx (S x0 wl (some t) (some (mny k)) (some (lM (rN k))) (some (oM x)) (some (oM y)) (some (.int ((r / 8 : Nat) : Int))) (some (.int ((r % 8 : Nat) : Int))) t9 t10 (some d4) none none none none) (W ns p5 s5)) := by
    refine set_is ?_
    refine call_is (xs := [.ref 0, .lst (odds k)]) (cons_is (h1 := W ns p4 s4) rfl (cons_is (h1 := W ns p4 s4) (h2 := W ns p4 s4) ?_ rfl)) e4
    have z := pure_is (mask := P9k) (ms := S x0 wl (some t) (some (mny k)) (some (lM (rN k))) (some (oM x)) (some (oM y)) (some (.int ((r / 8 : Nat) : Int))) (some (.int ((r % 8 : Nat) : Int))) t9 t10 none none none none none) (k := a3 k) (h := W ns p4 s4) rfl o9.1
    rw [o9.2.1] at z
    exact z
  have E32 : L32 (S x0 wl (some t) (some (mny k)) (some (lM (rN k))) (some (oM x)) (some (oM y)) (some (.int ((r / 8 : Nat) : Int))) (some (.int ((r % 8 : Nat) : Int))) t9 t10 (some d4) none none none none) (W ns p5 s5) = some (.nx (S x0 wl (some t) (some (mny k)) (some (lM (rN k))) (some (oM x)) (some (oM y)) (some (.int ((r / 8 : Nat) : Int))) (some (.int ((r % 8 : Nat) : Int))) t9 t10 (some d4) (some (due k d4)) none none none) (W ns p5 s5)) :=
    set_is (pure_is (k := a8 k d4) rfl c8k.1)
  have E29 : L29 (S x0 wl (some t) (some (mny k)) (some (lM (rN k))) (some (oM x)) (some (oM y)) (some (.int ((r / 8 : Nat) : Int))) (some (.int ((r % 8 : Nat) : Int))) t9 t10 (some d4) (some (due k d4)) none none none) (W ns p5 s5) = some (.nx (S x0 wl (some t) (some (mny k)) (some (lM (rN k))) (some (oM x)) (some (oM y)) (some (.int ((r / 8 : Nat) : Int))) (some (.int ((r % 8 : Nat) : Int))) t9 t10 (some d4) (some (due k d4)) none none none) (W ns p5 s5)) :=
    if_nx (pure_F (k := a7 k d4 (due k d4)) rfl c8k.2)
  refine ⟨p5, s5, hp5, ?_⟩
  refine tidy_nx (ms1 := S x0 wl (some t) (some (mny k)) (some (lM (rN k))) (some (oM x)) (some (oM y)) (some (.int ((r / 8 : Nat) : Int))) (some (.int ((r % 8 : Nat) : Int))) t9 t10 (some d4) (some (due k d4)) none none none) ?_
  rw [mSeq_nx E68, mSeq_nx E67, mSeq_nx E64, mSeq_nx E59, mSeq_nx E55, mSeq_nx E52, mSeq_nx E48, mSeq_nx E35, mSeq_nx E32]
  exact E29
theorem turns (x0 : Option MV) (p s : Int) (hp : 0 ≤ p) : ∃ x0' p' s', 0 ≤ p' ∧ L69 (S x0 wl none none none none none none none none none none none none none none) (W ns p s) = some (.nx (S x0' wl none none none none none none none none none none none none none none) (W ns p' s')) := by
  let P : Sl → Hm → Prop := fun ms h => ∃ x0 p s, 0 ≤ p ∧ ms = S x0 wl none none none none none none none none none none none none none none ∧ h = W ns p s
  obtain ⟨ms', h', e, x0', p', s', hp', rfl, rfl⟩ := for_go (P := P) (rangeM 0 12) (tm := tgN 2) (body := mTidy [false, true, false, false, false, false, false, false, false, false, false, false, false, true, true, true, false, false, true, true, true, true] (mSeq L68 (mSeq L67 (mSeq L64 (mSeq L59 (mSeq L55 (mSeq L52 (mSeq L48 (mSeq L35 (mSeq L32 L29))))))))))
    (fun x hx ms h ⟨x0, p, s, hp, ems, eh⟩ => by
      subst ems; subst eh
      obtain ⟨p', s', hp', e⟩ := turn ns x0 x p s hp
      exact ⟨_, _, _, rfl, e, none, p', s', hp', rfl, rfl⟩) _ _ ⟨x0, p, s, hp, rfl, rfl⟩
  exact ⟨x0', p', s', hp', (for_is (xs := rangeM 0 12) rfl).trans e⟩
theorem lots_run {k : Nat} (hk : k < 4) : P6 (b13 k) [] = some (.ok (lotM (lsN k)) []) ∧ P5 (b14 (lotM (lsN k))) [] = some (.ok (lotM (moN k)) []) ∧ noRef (lotM (lsN k)) = true := by
  have c := all_range c6 hk
  rw [Bool.and_eq_true, Bool.and_eq_true] at c
  obtain ⟨⟨c1, c2⟩, c3⟩ := c
  have e : lotN [[]] (rN k) = some (lsN k) := by
    unfold lsN
    cases q : lotN [[]] (rN k) with
    | none => rw [q] at c1; cases c1
    | some ls => rfl
  refine ⟨call_is (xs := [lM (rN k)]) (p6a k hk) (lots_is _ _ e), ?_, ?_⟩
  · rw [← of_decide_eq_true (all_range c5 hk)]
    exact p5 _ (Nat.le_of_ble_eq_true c2) fun l hl => Nat.le_of_ble_eq_true (all_of c3 hl)
  · have : ∀ ls : List (List Nat), noRefs (ls.map tM) = true := fun ls => by
      induction ls with
      | nil => rfl
      | cons l ls ih =>
        rw [List.map_cons]
        unfold noRefs
        rw [ih]
        have : noRef (tM l) = true := noRefs_cd l
        rw [this]; rfl
    exact this _
theorem moN_ref {k : Nat} : noRef (lotM (moN k)) = true := by
  have : ∀ ls : List (List Nat), noRefs (ls.map tM) = true := fun ls => by
    induction ls with
    | nil => rfl
    | cons l ls ih =>
      rw [List.map_cons]
      unfold noRefs
      rw [ih]
      have : noRef (tM l) = true := noRefs_cd l
      rw [this]; rfl
  exact this _
theorem last (ms : Sl) (h : Hm) (q : keepM P0k ms = nil0) : L2 ms h = some (.rt (.bl true) h) := ret_is (pure_T (k := nil0) q ck7)
theorem five (k : Nat) (c : ck6 k = true) (x0 x1 x2 x3 x4 x5 x6 x7 x8 x9 x10 x11 x12 x13 x14 x15 : Option MV) (h : Hm) :
    ∃ ms, (mSeq L13 (mSeq L10 L6)) (S x0 x1 x2 (some (.int (k : Int))) x4 x5 x6 x7 x8 x9 x10 x11 x12 x13 x14 x15) h = some (.nx ms h) ∧ ms.length = 22 := by
  unfold ck6 at c
  rw [Bool.and_eq_true, Bool.and_eq_true] at c
  refine ⟨S x0 x1 x2 (some (.int (k : Int))) x4 x5 x6 x7 x8 (some (chns k)) x10 x11 x12 x13 x14 x15, ?_, rfl⟩
  have E13 : L13 (S x0 x1 x2 (some (.int (k : Int))) x4 x5 x6 x7 x8 x9 x10 x11 x12 x13 x14 x15) h = some (.nx (S x0 x1 x2 (some (.int (k : Int))) x4 x5 x6 x7 x8 (some (chns k)) x10 x11 x12 x13 x14 x15) h) := set_is (pure_is (k := c3 k) rfl c.1.1)
  have E10 : L10 (S x0 x1 x2 (some (.int (k : Int))) x4 x5 x6 x7 x8 (some (chns k)) x10 x11 x12 x13 x14 x15) h = some (.nx (S x0 x1 x2 (some (.int (k : Int))) x4 x5 x6 x7 x8 (some (chns k)) x10 x11 x12 x13 x14 x15) h) := if_nx (pure_F (k := c2 k (chns k)) rfl c.1.2)
  rw [mSeq_nx E13, mSeq_nx E10]
  exact if_nx (pure_F (k := c1 (chns k)) rfl c.2)
theorem plain (h63 : ns.length ≤ 63) : ∃ h, D_law [.scr (ns.map MV.int)] [] = some (.ok (.bl true) h) := by
  obtain ⟨s, ew⟩ := well_is 50613 ns h63
  have E70 : L70 (S (some (.scr (ns.map MV.int))) none none none none none none none none none none none none none none none) [] = some (.nx (S (some (.scr (ns.map MV.int))) wl none none none none none none none none none none none none none none) (W ns 0 s)) :=
    set_is (call_is (xs := [.scr (ns.map MV.int)]) rfl (by rw [well_eq]; exact ew))
  obtain ⟨x0, p1, s1, hp1, E69⟩ := turns ns (some (.scr (ns.map MV.int))) 0 s (Int.le_refl 0)
  obtain ⟨k, p2, s2, hk, hp2, e25⟩ := draw_run ns (s := s1) hp1 4 (by decide)
  obtain ⟨l1, l2, l3⟩ := lots_run hk
  have E25 : L25 (S x0 wl none none none none none none none none none none none none none none) (W ns p1 s1) = some (.nx (S x0 wl none none none none none none none none none none none (some (mny k)) none none) (W ns p2 s2)) :=
    set_is (bin2_is (x := .int 1) (y := .int (k : Int)) (h1 := W ns p1 s1) rfl (call_is (xs := [.ref 0, .int 4]) rfl e25) rfl)
  have E24 : L24 (S x0 wl none none none none none none none none none none none (some (mny k)) none none) (W ns p2 s2) = some (.nx (S x0 wl none none none none none none none none none none none (some (mny k)) (some (lotM (lsN k))) none) (W ns p2 s2)) :=
    set_is (pure_of (k := b13 k) rfl rfl l1 l3)
  have cm : (b14 (lotM (lsN k))).all noRefO = true := by
    show (true && (true && (true && (true && (true && (true && (true && (true && (true && (true && (true && (true && (true && (true && (noRef (lotM (lsN k)) && _))))))))))))))) = true
    rw [l3]; rfl
  have E21 : L21 (S x0 wl none none none none none none none none none none none (some (mny k)) (some (lotM (lsN k))) none) (W ns p2 s2) = some (.nx (S x0 wl none none none none none none none none none none none (some (mny k)) (some (lotM (lsN k))) (some (lotM (moN k)))) (W ns p2 s2)) :=
    set_is (pure_of (k := b14 (lotM (lsN k))) rfl cm l2 moN_ref)
  have E18 : L18 (S x0 wl none none none none none none none none none none none (some (mny k)) (some (lotM (lsN k))) (some (lotM (moN k)))) (W ns p2 s2) = some (.nx (S x0 wl none none none none none none none none none none none (some (mny k)) (some (lotM (lsN k))) (some (lotM (moN k)))) (W ns p2 s2)) :=
    if_nx (pure_F (k := b4 k (lotM (moN k))) rfl (c4 hk))
  -- five and six rows
  have go : ∀ (k : Nat), ck6 k = true → ∀ x0 x1 x2 x3 x4 x5 x6 x7 x8 x9 x10 x11 x12 x13 x14 x15 : Option MV, ∃ ms1 ms, tgN 3 (.int (k : Int)) (S x0 x1 x2 x3 x4 x5 x6 x7 x8 x9 x10 x11 x12 x13 x14 x15) = some ms1 ∧
      mTidy [false, false, false, false, false, false, false, false, false, false, false, false, false, false, false, false, false, false, false, false, false, false] (mSeq L13 (mSeq L10 L6)) ms1 (W ns p2 s2) = some (.nx ms (W ns p2 s2)) ∧ ms = S none none none none none none none none none none none none none none none none := by
    intro k c x0 x1 x2 x3 x4 x5 x6 x7 x8 x9 x10 x11 x12 x13 x14 x15
    obtain ⟨ms, e, hl⟩ := five k c x0 x1 x2 x3 x4 x5 x6 x7 x8 x9 x10 x11 x12 x13 x14 x15 (W ns p2 s2)
    refine ⟨_, _, rfl, tidy_nx e, ?_⟩
    match ms, hl with
    | [_, _, _, _, _, _, _, _, _, _, _, _, _, _, _, _, _, _, _, _, _, _], _ => rfl
  obtain ⟨m1, m2, t1, t2, rfl⟩ := go 5 ck6_5 x0 wl none none none none none none none none none none none (some (mny k)) (some (lotM (lsN k))) (some (lotM (moN k)))
  obtain ⟨m3, m4, t3, t4, rfl⟩ := go 6 ck6_6 none none none none none none none none none none none none none none none none
  have E14 : L14 (S x0 wl none none none none none none none none none none none (some (mny k)) (some (lotM (lsN k))) (some (lotM (moN k)))) (W ns p2 s2) = some (.nx (S none none none none none none none none none none none none none none none none) (W ns p2 s2)) := by
    refine (for_is (xs := [.int 5, .int 6]) (h1 := W ns p2 s2) rfl).trans ?_
    unfold forGo
    rw [show tgN 3 (.int 5) _ = _ from t1]
    dsimp only
    rw [t2]
    dsimp only
    unfold forGo
    rw [show tgN 3 (.int 6) _ = _ from t3]
    dsimp only
    rw [t4]
    rfl
  refine ⟨W ns p2 s2, runM_rt rfl ?_⟩
  show mSeq L70 (mSeq L69 (mSeq L25 (mSeq L24 (mSeq L21 (mSeq L18 (mSeq L14 L2)))))) (S (some (.scr (ns.map MV.int))) none none none none none none none none none none none none none none none) [] = _
  rw [mSeq_nx E70, mSeq_nx E69, mSeq_nx E25, mSeq_nx E24, mSeq_nx E21, mSeq_nx E18, mSeq_nx E14]
  exact last _ _ rfl
end
end K16
namespace K16
open PySem PySem.Spec PyProof.Rows L2 Mx
theorem isiT_ok {K : PySem.W.Frag} : IsiT K isiT := by
  intro a b c e
  unfold isiT at e
  split at e
  · rename_i h
    subst h
    cases e
    unfold PySem.W.kitOne
    rw [if_pos (by exact beq_self_eq_true _)]
  · split at e
    · rename_i h
      obtain ⟨rfl, rfl⟩ := h
      cases e
      rfl
    · split at e
      · rename_i hn hb h
        cases e
        obtain ⟨h1, h2⟩ := h
        simp only [List.mem_cons, List.not_mem_nil, or_false] at h1 h2
        rcases h1 with rfl | rfl | rfl | rfl | rfl | rfl | rfl <;> rcases h2 with rfl | rfl | rfl | rfl <;> first | rfl | (exfalso; exact hn rfl) | (exfalso; exact hb ⟨rfl, rfl⟩)
      · cases e
section
def h_is_integer : He.DefD := ⟨("is_integer", none), "is_integer", "is_integer", defArgs (top 1), defBody (top 1), defScope (top 1), [], []⟩
def h_is_within : He.DefD := ⟨("is_within", none), "is_within", "is_within", defArgs (top 2), defBody (top 2), defScope (top 2), [], []⟩
def h_is_row : He.DefD := ⟨("is_row", none), "is_row", "is_row", defArgs (top 3), defBody (top 3), defScope (top 3), [], []⟩
def h_between : He.DefD := ⟨("between", none), "between", "between", defArgs (top 5), defBody (top 5), defScope (top 5), [], []⟩
def h_is_in : He.DefD := ⟨("is_in", none), "is_in", "is_in", defArgs (top 6), defBody (top 6), defScope (top 6), [], []⟩
def h_marks_of : He.DefD := ⟨("marks_of", none), "marks_of", "marks_of", defArgs (top 7), defBody (top 7), defScope (top 7), [], []⟩
def h_is_mark : He.DefD := ⟨("is_mark", none), "is_mark", "is_mark", defArgs (top 8), defBody (top 8), defScope (top 8), [], []⟩
def h_chains_of : He.DefD := ⟨("chains_of", none), "chains_of", "chains_of", defArgs (top 9), defBody (top 9), defScope (top 9), [], []⟩
def h__law_well : He.DefD := ⟨("_law_well", none), "_law_well", "_law_well", defArgs (top 11), defBody (top 11), defScope (top 11), [], []⟩
def h__law_draw : He.DefD := ⟨("_law_draw", none), "_law_draw", "_law_draw", defArgs (top 12), defBody (top 12), defScope (top 12), [], []⟩
def h__law_one : He.DefD := ⟨("_law_one", none), "_law_one", "_law_one", defArgs (top 13), defBody (top 13), defScope (top 13), [], []⟩
def h__law_ranges : He.DefD := ⟨("_law_ranges", none), "_law_ranges", "_law_ranges", defArgs (top 14), defBody (top 14), defScope (top 14), [], []⟩
def h__law_is_apart : He.DefD := ⟨("_law_is_apart", none), "_law_is_apart", "_law_is_apart", defArgs (top 15), defBody (top 15), defScope (top 15), [], []⟩
def h__law_inside : He.DefD := ⟨("_law_inside", none), "_law_inside", "_law_inside", defArgs (top 16), defBody (top 16), defScope (top 16), [], []⟩
def h__law_lots : He.DefD := ⟨("_law_lots", none), "_law_lots", "_law_lots", defArgs (top 17), defBody (top 17), defScope (top 17), [], []⟩
def h_law : He.DefD := ⟨("law", none), "law", "law", defArgs (top 18), defBody (top 18), defScope (top 18), [], []⟩
def fn : List He.DefD := [h_is_integer, h_is_within, h_is_row, h_between, h_is_in, h_marks_of, h_is_mark, h_chains_of, h__law_well, h__law_draw, h__law_one, h__law_ranges, h__law_is_apart, h__law_inside, h__law_lots, h_law]
def fa : List He.Fa := [.glo "is_integer", .glo "is_within", .glo "is_row", .glo "between", .glo "is_in", .glo "marks_of", .glo "is_mark", .glo "chains_of", .glo "_law_well", .glo "_law_draw", .glo "_law_one", .glo "_law_ranges", .glo "_law_is_apart", .glo "_law_inside", .glo "_law_lots", .glo "law", .free "bool", .free "enumerate", .free "int", .free "isinstance", .free "len", .free "list", .free "range", .free "repr", .free "set", .free "sorted", .free "sum", .free "tuple"]
abbrev R : PySem.W.OpenRow := PySem.W.OpenLaw.row PySem.Challenge.rw_elasticsheets_k16_marks_and_chains
abbrev hk : PySem.W.Hook := He.hookD 19 fa fn
def ob (s : PySem.W.SharedT) : He.AlD := He.obsDG 19 fa fn (HandSHeadRun.getT s)
theorem ob_eq (s : PySem.W.SharedT) : ob s = hk.obs s.abs := He.obsDG_eq (HandSHeadRun.getT_eq s)
theorem run (w : World) : HandSHeadRun.RunEq R (PySem.W.view R.prog [18]) hk ob 700 ["is_integer", "is_within", "is_row", "between", "is_in", "marks_of", "is_mark", "chains_of", "_law_well", "_law_draw", "_law_one", "_law_ranges", "_law_is_apart", "_law_inside", "_law_lots"] w := by
  intro os
  kernel_rfl
theorem env_of {K : PySem.W.Frag} {h : Heap} {mg : Str → Option Value} (X : K.In h) (G : h.Ns mainGlobals mg) (c : He.SaysD fa fn K) : Nonempty (Env K mg) := by
  obtain ⟨d_is_integer, F_is_integer⟩ := c.def_ 0 (d := h_is_integer) rfl
  obtain ⟨d_is_within, F_is_within⟩ := c.def_ 1 (d := h_is_within) rfl
  obtain ⟨d_is_row, F_is_row⟩ := c.def_ 2 (d := h_is_row) rfl
  obtain ⟨d_between, F_between⟩ := c.def_ 3 (d := h_between) rfl
  obtain ⟨d_is_in, F_is_in⟩ := c.def_ 4 (d := h_is_in) rfl
  obtain ⟨d_marks_of, F_marks_of⟩ := c.def_ 5 (d := h_marks_of) rfl
  obtain ⟨d_is_mark, F_is_mark⟩ := c.def_ 6 (d := h_is_mark) rfl
  obtain ⟨d_chains_of, F_chains_of⟩ := c.def_ 7 (d := h_chains_of) rfl
  obtain ⟨d__law_well, F__law_well⟩ := c.def_ 8 (d := h__law_well) rfl
  obtain ⟨d__law_draw, F__law_draw⟩ := c.def_ 9 (d := h__law_draw) rfl
  obtain ⟨d__law_one, F__law_one⟩ := c.def_ 10 (d := h__law_one) rfl
  obtain ⟨d__law_ranges, F__law_ranges⟩ := c.def_ 11 (d := h__law_ranges) rfl
  obtain ⟨d__law_is_apart, F__law_is_apart⟩ := c.def_ 12 (d := h__law_is_apart) rfl
  obtain ⟨d__law_inside, F__law_inside⟩ := c.def_ 13 (d := h__law_inside) rfl
  obtain ⟨d__law_lots, F__law_lots⟩ := c.def_ 14 (d := h__law_lots) rfl
  obtain ⟨d_law, F_law⟩ := c.def_ 15 (d := h_law) rfl
  exact ⟨{
    hT := isiT_ok
    b_bool := He.free_ok X G (c.fact 16 (f := .free "bool") rfl)
    b_enumerate := He.free_ok X G (c.fact 17 (f := .free "enumerate") rfl)
    b_int := He.free_ok X G (c.fact 18 (f := .free "int") rfl)
    b_isinstance := He.free_ok X G (c.fact 19 (f := .free "isinstance") rfl)
    b_len := He.free_ok X G (c.fact 20 (f := .free "len") rfl)
    b_list := He.free_ok X G (c.fact 21 (f := .free "list") rfl)
    b_range := He.free_ok X G (c.fact 22 (f := .free "range") rfl)
    b_repr := He.free_ok X G (c.fact 23 (f := .free "repr") rfl)
    b_set := He.free_ok X G (c.fact 24 (f := .free "set") rfl)
    b_sorted := He.free_ok X G (c.fact 25 (f := .free "sorted") rfl)
    b_sum := He.free_ok X G (c.fact 26 (f := .free "sum") rfl)
    b_tuple := He.free_ok X G (c.fact 27 (f := .free "tuple") rfl)
    f_is_integer := _, d_is_integer := d_is_integer, F_is_integer := F_is_integer, g_is_integer := He.glo_ok X G (c.fact 0 (f := .glo "is_integer") rfl)
    f_is_within := _, d_is_within := d_is_within, F_is_within := F_is_within, g_is_within := He.glo_ok X G (c.fact 1 (f := .glo "is_within") rfl)
    f_is_row := _, d_is_row := d_is_row, F_is_row := F_is_row, g_is_row := He.glo_ok X G (c.fact 2 (f := .glo "is_row") rfl)
    f_between := _, d_between := d_between, F_between := F_between, g_between := He.glo_ok X G (c.fact 3 (f := .glo "between") rfl)
    f_is_in := _, d_is_in := d_is_in, F_is_in := F_is_in, g_is_in := He.glo_ok X G (c.fact 4 (f := .glo "is_in") rfl)
    f_marks_of := _, d_marks_of := d_marks_of, F_marks_of := F_marks_of, g_marks_of := He.glo_ok X G (c.fact 5 (f := .glo "marks_of") rfl)
    f_is_mark := _, d_is_mark := d_is_mark, F_is_mark := F_is_mark, g_is_mark := He.glo_ok X G (c.fact 6 (f := .glo "is_mark") rfl)
    f_chains_of := _, d_chains_of := d_chains_of, F_chains_of := F_chains_of, g_chains_of := He.glo_ok X G (c.fact 7 (f := .glo "chains_of") rfl)
    f__law_well := _, d__law_well := d__law_well, F__law_well := F__law_well, g__law_well := He.glo_ok X G (c.fact 8 (f := .glo "_law_well") rfl)
    f__law_draw := _, d__law_draw := d__law_draw, F__law_draw := F__law_draw, g__law_draw := He.glo_ok X G (c.fact 9 (f := .glo "_law_draw") rfl)
    f__law_one := _, d__law_one := d__law_one, F__law_one := F__law_one, g__law_one := He.glo_ok X G (c.fact 10 (f := .glo "_law_one") rfl)
    f__law_ranges := _, d__law_ranges := d__law_ranges, F__law_ranges := F__law_ranges, g__law_ranges := He.glo_ok X G (c.fact 11 (f := .glo "_law_ranges") rfl)
    f__law_is_apart := _, d__law_is_apart := d__law_is_apart, F__law_is_apart := F__law_is_apart, g__law_is_apart := He.glo_ok X G (c.fact 12 (f := .glo "_law_is_apart") rfl)
    f__law_inside := _, d__law_inside := d__law_inside, F__law_inside := F__law_inside, g__law_inside := He.glo_ok X G (c.fact 13 (f := .glo "_law_inside") rfl)
    f__law_lots := _, d__law_lots := d__law_lots, F__law_lots := F__law_lots, g__law_lots := He.glo_ok X G (c.fact 14 (f := .glo "_law_lots") rfl)
    f_law := _, d_law := d_law, F_law := F_law, g_law := He.glo_ok X G (c.fact 15 (f := .glo "law") rfl)
  }⟩
end
end K16
open PySem PySem.W PySem.Calls PyProof.Rows
set_option maxRecDepth 100000 in
set_option maxHeartbeats 8000000 in
theorem PySem.Challenge.cw_elasticsheets_k16_marks_and_chains_holds : PySem.Challenge.rw_elasticsheets_k16_marks_and_chains.Holds := by
  w_on; o_law
  refine HandSHeadRun.head_any (r := OpenLaw.row PySem.Challenge.rw_elasticsheets_k16_marks_and_chains) (q := view (OpenLaw.row PySem.Challenge.rw_elasticsheets_k16_marks_and_chains).prog [18]) (H := K16.hk) (ob := K16.ob) (M := 700) (loose := ["is_integer", "is_within", "is_row", "between", "is_in", "marks_of", "is_mark", "chains_of", "_law_well", "_law_draw", "_law_one", "_law_ranges", "_law_is_apart", "_law_inside", "_law_lots"]) (d := HandSHeadRun.topDef (OpenLaw.row PySem.Challenge.rw_elasticsheets_k16_marks_and_chains).prog 18) (kwd := []) K16.ob_eq
    (by kernel_rfl) (fun s => by kernel_rfl) K16.run (by kernel_rfl) (by kernel_rfl) (by kernel_rfl) (by rfl) (by first | assumption | decide +kernel) (by decide +kernel) ⟨rfl, rfl, rfl, rfl, rfl, by decide +kernel⟩ ?hw ?hc
  case hw => w_witness2
  case hc =>
    refine Att.attach_call (l := PySem.Challenge.rw_elasticsheets_k16_marks_and_chains) (n := 63) rfl (by kernel_rfl) fun w s₀ s₁ mg mb fa ob pm cd doc a vs ns G Y ho hd hcd hmg0 hobj hints hlen hg => ?_
    obtain ⟨K, KX, c⟩ := Y
    have hmg : mg ("law" : PySem.Str) = some (.ref fa) := by
      have e : (HandSHeadRun.topDef (OpenLaw.row PySem.Challenge.rw_elasticsheets_k16_marks_and_chains).prog 18).name = ("law" : PySem.Str) := by kernel_rfl
      rw [← e]
      exact hmg0
    obtain ⟨e⟩ := K16.env_of KX G.T.g c
    have ef : fa = e.f_law := Value.ref.inj (Option.some.inj (hmg.symm.trans e.g_law))
    subst ef
    refine Mx.law_at KX G.T.g G.T.b G.T.builtins G.T.nolimit hg hobj hints (Nat.le_trans hlen (by decide)) fun base H hK hbase hS e0 => ?_
    refine Mx.call_at e.F_law K16.sc_law (k := 4) (us := [.ref a]) (vs := [.ref a]) (n := K16.n_law) (p := 1) (m := K16.M_law) rfl rfl (by decide) ⟨rfl, by decide, by decide⟩ e0
      (L2.FunD.bindsA e.F_law (fun _ _ _ _ _ _ us hl => match us, hl with | [_], _ => rfl) _ _ rfl) (.cons rfl .nil) (Mx.start_sp hS (K16.plain ns hlen).choose_spec) fun cdv hr tk => K16.body_law e s₁ H _ cdv hr tk
