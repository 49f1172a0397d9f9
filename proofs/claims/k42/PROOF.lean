import PyProof.Rows.All
import Wide.All
import OpenK.AllK
import Wide.FinOn
import HandS.ForMost
import HandS.IsInst
import HandS.Deep
import HandS.SortInts
import HandS.Conv
import HandS.TupAny
import HandS.Style
import HandS.Defaults
import HandS.Codes
import HandS.WideBits
import HandS.TupSets
import HandS.Small
import HandS.TupMul
import HandS.SetKeys
import KE.GoesEnum
import PyProof.ReprRoads
import KE.KIndexOf
import HandS.Zip
import HandS.Strs
import KE.KStateDown
import HandS.Ends
import HandS.More
import HandS.Words
import HandS.WordsExc
import HandS.Head0
import HandS.Head1
import HandS.Head2
import HandS.HeadEnd
import HandS.HeadHook1
import HandS.HeadHook2
import PySem.Challenge.RW_caterpillars_k42_whole_even_or_claw
set_option Elab.async false
set_option linter.all false
set_option maxRecDepth 100000
set_option autoImplicit false
namespace Pd
open PySem PySem.Spec PyProof.Rows L2

theorem sqK {K : PySem.W.Frag} {H : Hp} {a : Addr} {xs : List V} (h : SqL K (fun _ => none) a xs) : SqL K H a xs := by
  rcases h with (h | ⟨o, h⟩) | h
  · cases h
  · cases h
  · exact .inr h
theorem sqOf {K : PySem.W.Frag} {H : Hp} {O : Addr → Prop} {a : Addr} {xs : List V} (h : (Rd H a (.lst xs) ∧ ¬ O a) ∨ SqL K (fun _ => none) a xs) : SqL K H a xs := h.elim (fun h => .inl h.1) sqK
/-! data over the abstract heap -/
def kD : Key → PyData
  | .inl i => .int i
  | .inr x => .str x

mutual
def Rp (K : PySem.W.Frag) (H : Hp) (O : Addr → Prop) : PyData → V → Prop
  | .none, v => v = .non
  | .bool b, v => v = .bl b
  | .int i, v => v = .int i
  | .str x, v => v = .str x
  | .list ds, v => ∃ a xs, v = .ref a ∧ ((Rd H a (.lst xs) ∧ ¬ O a) ∨ SqL K (fun _ => none) a xs) ∧ Rps K H O ds xs
  | .tuple ds, v => ∃ a xs, v = .ref a ∧ SqT K H a xs ∧ Rps K H O ds xs
  | .dict kvs, v => ∃ a ks vs, v = .ref a ∧ H a = some (.dK (List.zip ks vs)) ∧ ¬ O a ∧ Rpk K H O kvs ks vs
def Rps (K : PySem.W.Frag) (H : Hp) (O : Addr → Prop) : List PyData → List V → Prop
  | [], xs => xs = []
  | d :: ds, xs => ∃ v vs, xs = v :: vs ∧ Rp K H O d v ∧ Rps K H O ds vs
def Rpk (K : PySem.W.Frag) (H : Hp) (O : Addr → Prop) : List (PyData × PyData) → List Key → List V → Prop
  | [], ks, vs => ks = [] ∧ vs = []
  | (kd, d) :: r, ks, vs => ∃ k ks' v vs', ks = k :: ks' ∧ vs = v :: vs' ∧ kd = kD k ∧ Rp K H O d v ∧ Rpk K H O r ks' vs'
end

/-- owned data: tpd: a tuple of shared data that bears no attributes; sh: shared (nothing in it is ever written); ls, dc: a list, a dict of shared data that is ours alone; lst, tup, dic: the same with owned things in it -/
inductive OT where
  | sh (d : PyData)
  | ls (ds : List PyData)
  | dc (kvs : List (Key × PyData))
  | lst (xs : List OT)
  | tup (xs : List OT)
  | dic (ks : List Key) (xs : List OT)
  | tpd (ds : List PyData)

mutual
/-- frozen: as shared data -/
def OT.frz : OT → PyData
  | .sh d => d
  | .ls ds => .list ds
  | .dc kvs => .dict (kvs.map fun p => (kD p.1, p.2))
  | .lst xs => .list (frzs xs)
  | .tup xs => .tuple (frzs xs)
  | .dic ks xs => .dict ((ks.map kD).zip (frzs xs))
  | .tpd ds => .tuple ds
def frzs : List OT → List PyData
  | [] => []
  | x :: xs => x.frz :: frzs xs
end
theorem frzs_eq : ∀ xs : List OT, frzs xs = xs.map OT.frz
  | [] => rfl
  | x :: xs => by show x.frz :: frzs xs = _; rw [frzs_eq xs]; rfl
theorem frzs_sh : ∀ ds : List PyData, frzs (ds.map OT.sh) = ds
  | [] => rfl
  | d :: ds => by show d :: frzs (ds.map OT.sh) = _; rw [frzs_sh ds]

mutual
def RepO (K : PySem.W.Frag) (H : Hp) (O : Addr → Prop) : OT → V → List Addr → Prop
  | .sh d, v, F => F = [] ∧ Rp K H O d v
  | .ls ds, v, F => ∃ a xs, v = .ref a ∧ H a = some (.lst xs) ∧ Rps K H O ds xs ∧ F = [a]
  | .dc kvs, v, F => ∃ a xs, v = .ref a ∧ H a = some (.dK (List.zip (kvs.map (·.1)) xs)) ∧ Rps K H O (kvs.map (·.2)) xs ∧ F = [a]
  | .lst os, v, F => ∃ a xs F', v = .ref a ∧ H a = some (.lst xs) ∧ RepOs K H O os xs F' ∧ F = a :: F'
  | .tup os, v, F => ∃ a xs, v = .ref a ∧ H a = some (.tup xs) ∧ RepOs K H O os xs F
  | .dic ks os, v, F => ∃ a xs F', v = .ref a ∧ H a = some (.dK (List.zip ks xs)) ∧ ks.length = os.length ∧ RepOs K H O os xs F' ∧ F = a :: F'
  | .tpd ds, v, F => F = [] ∧ ∃ a ob xs, v = .ref a ∧ H a = some (.frz ob (.tup xs)) ∧ ob.dict = none ∧ Rps K H O ds xs
def RepOs (K : PySem.W.Frag) (H : Hp) (O : Addr → Prop) : List OT → List V → List Addr → Prop
  | [], xs, F => xs = [] ∧ F = []
  | o :: os, xs, F => ∃ v vs F1 F2, xs = v :: vs ∧ RepO K H O o v F1 ∧ RepOs K H O os vs F2 ∧ F = F1 ++ F2
end

/-! what stands -/
/-- what stood, but at M, stands -/
def Stn (M : Addr → Prop) (H H' : Hp) : Prop := ∀ a u, H a = some u → ¬ M a → H' a = some u
/-- M bears but what may be written -/
def MutAt (M : Addr → Prop) (H : Hp) : Prop := ∀ a, M a → ∀ xs, H a ≠ some (.tup xs) ∧ ∀ o u, H a ≠ some (.frz o u)

theorem Rd.stn {M : Addr → Prop} {H H' : Hp} {a : Addr} {u : HO} (h : Rd H a u) (s : Stn M H H') (n : ¬ M a) : Rd H' a u := by
  rcases h with h | ⟨o, h⟩
  · exact .inl (s _ _ h n)
  · exact .inr ⟨o, s _ _ h n⟩
theorem Rd.some {H : Hp} {a : Addr} {u : HO} (h : Rd H a u) : H a ≠ none := by
  rcases h with h | ⟨o, h⟩ <;> (rw [h]; exact fun z => nomatch z)
theorem SqT.stn {K : PySem.W.Frag} {M : Addr → Prop} {H H' : Hp} {a : Addr} {xs : List V} (h : SqT K H a xs) (s : Stn M H H') (m : MutAt M H) : SqT K H' a xs := by
  rcases h with (h | ⟨o, h⟩) | h
  · exact .inl (.inl (s _ _ h fun z => (m a z xs).1 h))
  · exact .inl (.inr ⟨o, s _ _ h fun z => (m a z xs).2 _ _ h⟩)
  · exact .inr h

section
variable {K : PySem.W.Frag} {H H' : Hp} {O O' M : Addr → Prop}
mutual
theorem Rp.stn (s : Stn M H H') (m : MutAt M H) (hm : ∀ a, M a → O a) (ho : ∀ a, O' a → O a ∨ H a = none) : ∀ (d : PyData) (v : V), Rp K H O d v → Rp K H' O' d v
  | .none, _, h => h
  | .bool _, _, h => h
  | .int _, _, h => h
  | .str _, _, h => h
  | .list ds, v, ⟨a, xs, e, r, q⟩ =>
    ⟨a, xs, e, r.imp (fun ⟨r, n⟩ => ⟨Rd.stn r s fun z => n (hm a z), fun z => (ho a z).elim n (Rd.some r)⟩) id, Rps.stn s m hm ho ds xs q⟩
  | .tuple ds, v, ⟨a, xs, e, r, q⟩ => ⟨a, xs, e, SqT.stn r s m, Rps.stn s m hm ho ds xs q⟩
  | .dict kvs, v, ⟨a, ks, vs, e, r, n, q⟩ =>
    ⟨a, ks, vs, e, s _ _ r fun z => n (hm a z), fun z => (ho a z).elim n (by rw [r]; exact fun q => nomatch q), Rpk.stn s m hm ho kvs ks vs q⟩
theorem Rps.stn (s : Stn M H H') (m : MutAt M H) (hm : ∀ a, M a → O a) (ho : ∀ a, O' a → O a ∨ H a = none) : ∀ (ds : List PyData) (vs : List V), Rps K H O ds vs → Rps K H' O' ds vs
  | [], _, h => h
  | d :: ds, _, ⟨v, vs, e, h1, h2⟩ => ⟨v, vs, e, Rp.stn s m hm ho d v h1, Rps.stn s m hm ho ds vs h2⟩
theorem Rpk.stn (s : Stn M H H') (m : MutAt M H) (hm : ∀ a, M a → O a) (ho : ∀ a, O' a → O a ∨ H a = none) : ∀ (kvs : List (PyData × PyData)) (ks : List Key) (vs : List V), Rpk K H O kvs ks vs → Rpk K H' O' kvs ks vs
  | [], _, _, h => h
  | (kd, d) :: r, _, _, ⟨k, ks', v, vs', e1, e2, e3, h1, h2⟩ => ⟨k, ks', v, vs', e1, e2, e3, Rp.stn s m hm ho d v h1, Rpk.stn s m hm ho r ks' vs' h2⟩
end
mutual
theorem RepO.stn (s : Stn M H H') (m : MutAt M H) (hm : ∀ a, M a → O a) (ho : ∀ a, O' a → O a ∨ H a = none) : ∀ (o : OT) (v : V) (F : List Addr), (∀ a ∈ F, ¬ M a) → RepO K H O o v F → RepO K H' O' o v F
  | .sh d, v, F, _, ⟨e, h⟩ => ⟨e, Rp.stn s m hm ho d v h⟩
  | .ls ds, v, F, n, ⟨a, xs, e, h, q, ef⟩ => ⟨a, xs, e, s _ _ h (n a (by rw [ef]; exact List.mem_cons_self)), Rps.stn s m hm ho ds xs q, ef⟩
  | .dc kvs, v, F, n, ⟨a, xs, e, h, q, ef⟩ => ⟨a, xs, e, s _ _ h (n a (by rw [ef]; exact List.mem_cons_self)), Rps.stn s m hm ho _ xs q, ef⟩
  | .lst os, v, F, n, ⟨a, xs, F', e, h, q, ef⟩ =>
    ⟨a, xs, F', e, s _ _ h (n a (by rw [ef]; exact List.mem_cons_self)), RepOs.stn s m hm ho os xs F' (fun b hb => n b (by rw [ef]; exact List.mem_cons_of_mem _ hb)) q, ef⟩
  | .tup os, v, F, n, ⟨a, xs, e, h, q⟩ => ⟨a, xs, e, s _ _ h fun z => (m a z xs).1 h, RepOs.stn s m hm ho os xs F n q⟩
  | .dic ks os, v, F, n, ⟨a, xs, F', e, h, l, q, ef⟩ =>
    ⟨a, xs, F', e, s _ _ h (n a (by rw [ef]; exact List.mem_cons_self)), l, RepOs.stn s m hm ho os xs F' (fun b hb => n b (by rw [ef]; exact List.mem_cons_of_mem _ hb)) q, ef⟩
  | .tpd ds, v, F, n, ⟨ef, a, ob, xs, e, h, hd, q⟩ => ⟨ef, a, ob, xs, e, s _ _ h fun z => (m a z xs).2 _ _ h, hd, Rps.stn s m hm ho ds xs q⟩
theorem RepOs.stn (s : Stn M H H') (m : MutAt M H) (hm : ∀ a, M a → O a) (ho : ∀ a, O' a → O a ∨ H a = none) : ∀ (os : List OT) (vs : List V) (F : List Addr), (∀ a ∈ F, ¬ M a) → RepOs K H O os vs F → RepOs K H' O' os vs F
  | [], _, _, _, h => h
  | o :: os, _, F, n, ⟨v, vs, F1, F2, e, h1, h2, ef⟩ =>
    ⟨v, vs, F1, F2, e, RepO.stn s m hm ho o v F1 (fun b hb => n b (by rw [ef]; exact List.mem_append_left _ hb)) h1,
      RepOs.stn s m hm ho os vs F2 (fun b hb => n b (by rw [ef]; exact List.mem_append_right _ hb)) h2, ef⟩
end
/-! footprints stand in the heap -/
mutual
theorem RepO.live : ∀ (o : OT) (v : V) (F : List Addr), RepO K H O o v F → ∀ a ∈ F, ∃ u, H a = some u ∧ Mut (some u)
  | .sh d, v, F, ⟨e, _⟩, a, ha => by rw [e] at ha; exact nomatch ha
  | .ls ds, v, F, ⟨b, xs, _, h, _, ef⟩, a, ha => by
    rw [ef] at ha
    have e : a = b := by simpa using ha
    exact ⟨.lst xs, by rw [e]; exact h, True.intro⟩
  | .dc kvs, v, F, ⟨b, xs, _, h, _, ef⟩, a, ha => by
    rw [ef] at ha
    have e : a = b := by simpa using ha
    exact ⟨.dK (List.zip (kvs.map (·.1)) xs), by rw [e]; exact h, True.intro⟩
  | .lst os, v, F, ⟨b, xs, F', _, h, q, ef⟩, a, ha => by
    rw [ef] at ha
    rcases List.mem_cons.mp ha with e | ha
    · exact ⟨.lst xs, by rw [e]; exact h, True.intro⟩
    · exact RepOs.live os xs F' q a ha
  | .tup os, v, F, ⟨b, xs, _, _, q⟩, a, ha => RepOs.live os xs F q a ha
  | .dic ks os, v, F, ⟨b, xs, F', _, h, _, q, ef⟩, a, ha => by
    rw [ef] at ha
    rcases List.mem_cons.mp ha with e | ha
    · exact ⟨.dK (List.zip ks xs), by rw [e]; exact h, True.intro⟩
    · exact RepOs.live os xs F' q a ha
  | .tpd ds, v, F, ⟨e, _⟩, a, ha => by rw [e] at ha; exact nomatch ha
theorem RepOs.live : ∀ (os : List OT) (vs : List V) (F : List Addr), RepOs K H O os vs F → ∀ a ∈ F, ∃ u, H a = some u ∧ Mut (some u)
  | [], _, _, ⟨_, e⟩, a, ha => by rw [e] at ha; exact nomatch ha
  | o :: os, _, F, ⟨v, vs, F1, F2, _, h1, h2, ef⟩, a, ha => by
    rw [ef] at ha
    rcases List.mem_append.mp ha with ha | ha
    · exact RepO.live o v F1 h1 a ha
    · exact RepOs.live os vs F2 h2 a ha
end
theorem Rps.len0 : ∀ {ds : List PyData} {vs : List V}, Rps K H O ds vs → vs.length = ds.length
  | [], _, e => by rw [show _ = [] from e]; rfl
  | d :: ds, _, ⟨v, vs, e, h1, h2⟩ => by rw [e, List.length_cons, Rps.len0 h2]; rfl
theorem Rpk.of : ∀ {kvs : List (Key × PyData)} {xs : List V}, Rps K H O (kvs.map (·.2)) xs → Rpk K H O (kvs.map fun p => (kD p.1, p.2)) (kvs.map (·.1)) xs
  | [], _, e => ⟨rfl, e⟩
  | (k, d) :: r, _, ⟨v, vs, e, h1, h2⟩ => ⟨k, r.map (·.1), v, vs, rfl, e, rfl, h1, Rpk.of h2⟩
/-! freezing: the footprint is no longer owned -/
mutual
theorem RepO.freeze (hO : ∀ a, O' a → O a) : ∀ (o : OT) (v : V) (F : List Addr), (∀ a ∈ F, ¬ O' a) → RepO K H O o v F → Rp K H O' o.frz v
  | .sh d, v, F, _, ⟨_, h⟩ => Rp.stn (M := fun _ => False) (fun _ _ e _ => e) (fun _ z => z.elim) (fun _ z => z.elim) (fun a z => .inl (hO a z)) d v h
  | .ls ds, v, F, n, ⟨a, xs, e, h, q, ef⟩ => ⟨a, xs, e, .inl ⟨.inl h, n a (by rw [ef]; exact List.mem_cons_self)⟩, Rps.stn (M := fun _ => False) (fun _ _ e _ => e) (fun _ z => z.elim) (fun _ z => z.elim) (fun a z => .inl (hO a z)) ds xs q⟩
  | .dc kvs, v, F, n, ⟨a, xs, e, h, q, ef⟩ => ⟨a, kvs.map (·.1), xs, e, h, n a (by rw [ef]; exact List.mem_cons_self),
      Rpk.of (Rps.stn (M := fun _ => False) (fun _ _ e _ => e) (fun _ z => z.elim) (fun _ z => z.elim) (fun a z => .inl (hO a z)) _ xs q)⟩
  | .lst os, v, F, n, ⟨a, xs, F', e, h, q, ef⟩ =>
    ⟨a, xs, e, .inl ⟨.inl h, n a (by rw [ef]; exact List.mem_cons_self)⟩, RepOs.freeze hO os xs F' (fun b hb => n b (by rw [ef]; exact List.mem_cons_of_mem _ hb)) q⟩
  | .tup os, v, F, n, ⟨a, xs, e, h, q⟩ => ⟨a, xs, e, SqT.of h, RepOs.freeze hO os xs F n q⟩
  | .dic ks os, v, F, n, ⟨a, xs, F', e, h, l, q, ef⟩ =>
    ⟨a, ks, xs, e, h, n a (by rw [ef]; exact List.mem_cons_self), RepOs.freezeK hO ks os xs F' l (fun b hb => n b (by rw [ef]; exact List.mem_cons_of_mem _ hb)) q⟩
  | .tpd ds, v, F, n, ⟨_, a, ob, xs, e, h, hd, q⟩ => ⟨a, xs, e, .inl (.inr ⟨ob, h⟩), Rps.stn (M := fun _ => False) (fun _ _ e _ => e) (fun _ z => z.elim) (fun _ z => z.elim) (fun a z => .inl (hO a z)) ds xs q⟩
theorem RepOs.freeze (hO : ∀ a, O' a → O a) : ∀ (os : List OT) (vs : List V) (F : List Addr), (∀ a ∈ F, ¬ O' a) → RepOs K H O os vs F → Rps K H O' (frzs os) vs
  | [], _, _, _, ⟨e, _⟩ => e
  | o :: os, _, F, n, ⟨v, vs, F1, F2, e, h1, h2, ef⟩ =>
    ⟨v, vs, e, RepO.freeze hO o v F1 (fun b hb => n b (by rw [ef]; exact List.mem_append_left _ hb)) h1,
      RepOs.freeze hO os vs F2 (fun b hb => n b (by rw [ef]; exact List.mem_append_right _ hb)) h2⟩
theorem RepOs.freezeK (hO : ∀ a, O' a → O a) : ∀ (ks : List Key) (os : List OT) (vs : List V) (F : List Addr), ks.length = os.length → (∀ a ∈ F, ¬ O' a) → RepOs K H O os vs F → Rpk K H O' ((ks.map kD).zip (frzs os)) ks vs
  | [], [], _, _, _, _, ⟨e, _⟩ => ⟨rfl, e⟩
  | k :: ks, o :: os, _, F, l, n, ⟨v, vs, F1, F2, e, h1, h2, ef⟩ =>
    ⟨k, ks, v, vs, rfl, e, rfl, RepO.freeze hO o v F1 (fun b hb => n b (by rw [ef]; exact List.mem_append_left _ hb)) h1,
      RepOs.freezeK hO ks os vs F2 (Nat.succ.inj l) (fun b hb => n b (by rw [ef]; exact List.mem_append_right _ hb)) h2⟩
end
end
end Pd
set_option Elab.async false
set_option linter.all false
set_option maxRecDepth 100000
set_option autoImplicit false
namespace Pd
open PySem PySem.Spec PyProof.Rows L2

/-- a slot: not known; data of ours; the k-th thing lent to us -/
inductive Slot where
  | un
  | val (o : OT)
  | bor (k : Nat) (o : OT)

/-- around one activation: the heap at its entry, what callers own, what they lend (roots, footprint) -/
structure Gx where
  H0 : Hp
  Oo : Addr → Prop
  B : List Addr
  bs : List Addr

abbrev ownd (G : Gx) (F : List Addr) : Addr → Prop := fun a => G.Oo a ∨ a ∈ F

section
variable (K : PySem.W.Frag) (G : Gx) (H : Hp) (O : Addr → Prop)
def SlRep : Slot → Option V → List Addr → Prop
  | .un, _, F => F = []
  | .val o, w, F => ∃ v, w = some v ∧ RepO K H O o v F
  | .bor k o, w, F => ∃ a, G.bs[k]? = some a ∧ w = some (.ref a) ∧ RepO K H O o (.ref a) F
def EnRep : List Slot → L2.St → List Addr → Prop
  | [], σ, F => σ = [] ∧ F = []
  | s :: ρ, σ, F => ∃ w σ' F1 F2, σ = w :: σ' ∧ SlRep K G H O s w F1 ∧ EnRep ρ σ' F2 ∧ F = F1 ++ F2
def TmRep : List (V × OT) → List Addr → Prop
  | [], F => F = []
  | t :: τ, F => ∃ F1 F2, RepO K H O t.2 t.1 F1 ∧ TmRep τ F2 ∧ F = F1 ++ F2
end

/-- the state: slots by ρ, temporary values by τ -/
structure StX (K : PySem.W.Frag) (G : Gx) (ρ : List Slot) (τ : List (V × OT)) (σ : L2.St) (H : Hp) (Fe Ft : List Addr) : Prop where
  en : EnRep K G H (ownd G (Fe ++ Ft)) ρ σ Fe
  tm : TmRep K H (ownd G (Fe ++ Ft)) τ Ft
  nd : (Fe ++ Ft).Nodup
  fr : ∀ a ∈ Fe ++ Ft, ¬ G.Oo a ∧ (G.H0 a = none ∨ a ∈ G.B)
  oo : ∀ a, G.Oo a → H a ≠ none
  sm : ∀ a u, G.H0 a = some u → a ∉ G.B → H a = some u
def State (K : PySem.W.Frag) (G : Gx) (ρ : List Slot) (τ : List (V × OT)) (σ : L2.St) (H : Hp) : Prop := ∃ Fe Ft, StX K G ρ τ σ H Fe Ft

section
variable {K : PySem.W.Frag} {G : Gx} {H H' : Hp} {O O' M : Addr → Prop} {ρ ρ' : List Slot} {τ : List (V × OT)} {σ : L2.St}

theorem SlRep.stn (s : Stn M H H') (m : MutAt M H) (hm : ∀ a, M a → O a) (ho : ∀ a, O' a → O a ∨ H a = none) : ∀ (x : Slot) (w : Option V) (F : List Addr), (∀ a ∈ F, ¬ M a) → SlRep K G H O x w F → SlRep K G H' O' x w F
  | .un, _, _, _, h => h
  | .val o, w, F, n, ⟨v, e, h⟩ => ⟨v, e, RepO.stn s m hm ho o v F n h⟩
  | .bor k o, w, F, n, ⟨a, e1, e2, h⟩ => ⟨a, e1, e2, RepO.stn s m hm ho o _ F n h⟩
theorem EnRep.stn (s : Stn M H H') (m : MutAt M H) (hm : ∀ a, M a → O a) (ho : ∀ a, O' a → O a ∨ H a = none) : ∀ (ρ : List Slot) (σ : L2.St) (F : List Addr), (∀ a ∈ F, ¬ M a) → EnRep K G H O ρ σ F → EnRep K G H' O' ρ σ F
  | [], _, _, _, h => h
  | x :: ρ, _, F, n, ⟨w, σ', F1, F2, e, h1, h2, ef⟩ =>
    ⟨w, σ', F1, F2, e, SlRep.stn s m hm ho x w F1 (fun b hb => n b (by rw [ef]; exact List.mem_append_left _ hb)) h1,
      EnRep.stn s m hm ho ρ σ' F2 (fun b hb => n b (by rw [ef]; exact List.mem_append_right _ hb)) h2, ef⟩
theorem TmRep.stn (s : Stn M H H') (m : MutAt M H) (hm : ∀ a, M a → O a) (ho : ∀ a, O' a → O a ∨ H a = none) : ∀ (τ : List (V × OT)) (F : List Addr), (∀ a ∈ F, ¬ M a) → TmRep K H O τ F → TmRep K H' O' τ F
  | [], _, _, h => h
  | t :: τ, F, n, ⟨F1, F2, h1, h2, ef⟩ =>
    ⟨F1, F2, RepO.stn s m hm ho t.2 t.1 F1 (fun b hb => n b (by rw [ef]; exact List.mem_append_left _ hb)) h1,
      TmRep.stn s m hm ho τ F2 (fun b hb => n b (by rw [ef]; exact List.mem_append_right _ hb)) h2, ef⟩
/-- only the owned set shrinks -/
theorem shr {O O' : Addr → Prop} (h : ∀ a, O' a → O a) : (Stn (fun _ => False) H H) ∧ (MutAt (fun _ => False) H) ∧ (∀ a, False → O a) ∧ (∀ a, O' a → O a ∨ H a = none) :=
  ⟨fun _ _ e _ => e, fun _ z => z.elim, fun _ z => z.elim, fun a z => .inl (h a z)⟩
theorem RepO.shr (h : ∀ a, O' a → O a) {o : OT} {v : V} {F : List Addr} (r : RepO K H O o v F) : RepO K H O' o v F :=
  RepO.stn (M := fun _ => False) (fun _ _ e _ => e) (fun _ z => z.elim) (fun _ z => z.elim) (fun a z => .inl (h a z)) o v F (fun _ _ z => z) r
theorem RepOs.shr (h : ∀ a, O' a → O a) {o : List OT} {v : List V} {F : List Addr} (r : RepOs K H O o v F) : RepOs K H O' o v F :=
  RepOs.stn (M := fun _ => False) (fun _ _ e _ => e) (fun _ z => z.elim) (fun _ z => z.elim) (fun a z => .inl (h a z)) o v F (fun _ _ z => z) r
theorem EnRep.shr (h : ∀ a, O' a → O a) {F : List Addr} (r : EnRep K G H O ρ σ F) : EnRep K G H O' ρ σ F :=
  EnRep.stn (M := fun _ => False) (fun _ _ e _ => e) (fun _ z => z.elim) (fun _ z => z.elim) (fun a z => .inl (h a z)) ρ σ F (fun _ _ z => z) r
theorem TmRep.shr (h : ∀ a, O' a → O a) {F : List Addr} (r : TmRep K H O τ F) : TmRep K H O' τ F :=
  TmRep.stn (M := fun _ => False) (fun _ _ e _ => e) (fun _ z => z.elim) (fun _ z => z.elim) (fun a z => .inl (h a z)) τ F (fun _ _ z => z) r
theorem Rp.shr (h : ∀ a, O' a → O a) {d : PyData} {v : V} (r : Rp K H O d v) : Rp K H O' d v :=
  Rp.stn (M := fun _ => False) (fun _ _ e _ => e) (fun _ z => z.elim) (fun _ z => z.elim) (fun a z => .inl (h a z)) d v r

theorem RepO.livenn {o : OT} {v : V} {F : List Addr} (r : RepO K H O o v F) {a : Addr} (h : a ∈ F) : H a ≠ none := by
  obtain ⟨u, e, _⟩ := RepO.live o v F r a h
  rw [e]; exact fun z => nomatch z
theorem EnRep.live : ∀ (ρ : List Slot) (σ : L2.St) (F : List Addr), EnRep K G H O ρ σ F → ∀ a ∈ F, ∃ u, H a = some u ∧ Mut (some u)
  | [], _, _, ⟨_, e⟩, a, ha => by rw [e] at ha; exact nomatch ha
  | x :: ρ, _, F, ⟨w, σ', F1, F2, _, h1, h2, ef⟩, a, ha => by
    rw [ef] at ha
    rcases List.mem_append.mp ha with ha | ha
    · cases x with
      | un => have e : F1 = [] := h1; rw [e] at ha; exact nomatch ha
      | val o => obtain ⟨v, _, r⟩ := h1; exact RepO.live o v F1 r a ha
      | bor k o => obtain ⟨b, _, _, r⟩ := h1; exact RepO.live o _ F1 r a ha
    · exact EnRep.live ρ σ' F2 h2 a ha
theorem TmRep.live : ∀ (τ : List (V × OT)) (F : List Addr), TmRep K H O τ F → ∀ a ∈ F, ∃ u, H a = some u ∧ Mut (some u)
  | [], _, e, a, ha => by rw [show _ = [] from e] at ha; exact nomatch ha
  | t :: τ, F, ⟨F1, F2, h1, h2, ef⟩, a, ha => by
    rw [ef] at ha
    rcases List.mem_append.mp ha with ha | ha
    · exact RepO.live t.2 t.1 F1 h1 a ha
    · exact TmRep.live τ F2 h2 a ha
theorem StX.live {Fe Ft : List Addr} (x : StX K G ρ τ σ H Fe Ft) : ∀ a ∈ Fe ++ Ft, ∃ u, H a = some u ∧ Mut (some u) := fun a ha =>
  (List.mem_append.mp ha).elim (EnRep.live ρ σ Fe x.en a) (TmRep.live τ Ft x.tm a)

/-! steps of the state -/
theorem ownd_sub {F F' : List Addr} (h : ∀ a ∈ F', a ∈ F) : ∀ a, ownd G F' a → ownd G F a := fun a z => z.elim .inl fun q => .inr (h a q)

/-- fewer temporaries -/
theorem State.drop {t : V × OT} (x : State K G ρ (t :: τ) σ H) : State K G ρ τ σ H := by
  obtain ⟨Fe, Ft, x⟩ := x
  obtain ⟨F1, F2, h1, h2, ef⟩ := x.tm
  subst ef
  have sub : ∀ a ∈ Fe ++ F2, a ∈ Fe ++ (F1 ++ F2) := fun a h => (List.mem_append.mp h).elim (List.mem_append_left _) fun q => List.mem_append_right _ (List.mem_append_right _ q)
  refine ⟨Fe, F2, EnRep.shr (ownd_sub sub) x.en, TmRep.shr (ownd_sub sub) h2, ?_, fun a h => x.fr a (sub a h), x.oo, x.sm⟩
  exact x.nd.sublist (List.Sublist.append (List.Sublist.refl _) (List.sublist_append_right _ _))
/-- a value without a footprint comes -/
theorem State.push {v : V} {d : PyData} (x : State K G ρ τ σ H) (h : ∀ O, (∀ a, O a → H a ≠ none ∧ True) → (∀ Fe Ft, StX K G ρ τ σ H Fe Ft → (∀ a, O a ↔ ownd G (Fe ++ Ft) a) → Rp K H O d v)) : State K G ρ ((v, .sh d) :: τ) σ H := by
  obtain ⟨Fe, Ft, x⟩ := x
  have live : ∀ a, ownd G (Fe ++ Ft) a → H a ≠ none := fun a z => z.elim (x.oo a) fun q => by
    obtain ⟨u, e, _⟩ := x.live a q
    rw [e]; exact fun z => nomatch z
  exact ⟨Fe, Ft, x.en, ⟨[], Ft, ⟨rfl, h _ (fun a z => ⟨live a z, True.intro⟩) Fe Ft x fun _ => Iff.rfl⟩, x.tm, rfl⟩, x.nd, x.fr, x.oo, x.sm⟩
theorem State.pushC {v : V} {d : PyData} (x : State K G ρ τ σ H) (h : ∀ O, Rp K H O d v) : State K G ρ ((v, .sh d) :: τ) σ H := x.push fun O _ _ _ _ _ => h O
/-- the head's data, with the set it keeps out of -/
theorem State.head {v : V} {o : OT} (x : State K G ρ ((v, o) :: τ) σ H) : ∃ O F, RepO K H O o v F := by
  obtain ⟨Fe, Ft, x⟩ := x
  obtain ⟨F1, F2, h1, h2, ef⟩ := x.tm
  exact ⟨_, F1, h1⟩
theorem State.headS {v : V} {d : PyData} (x : State K G ρ ((v, .sh d) :: τ) σ H) : ∃ O, Rp K H O d v := by
  obtain ⟨O, F, _, h⟩ := x.head
  exact ⟨O, h⟩
theorem State.swap {s t : V × OT} (x : State K G ρ (s :: t :: τ) σ H) : State K G ρ (t :: s :: τ) σ H := by
  obtain ⟨Fe, Ft, x⟩ := x
  obtain ⟨F1, F2, h1, ⟨F3, F4, h3, h4, ef2⟩, ef⟩ := x.tm
  subst ef2 ef
  have mem : ∀ a, a ∈ Fe ++ (F3 ++ (F1 ++ F4)) ↔ a ∈ Fe ++ (F1 ++ (F3 ++ F4)) := fun a => by
    simp only [List.mem_append]
    constructor <;> (intro h; rcases h with h | h | h | h <;> simp [h])
  have sub : ∀ a ∈ Fe ++ (F3 ++ (F1 ++ F4)), a ∈ Fe ++ (F1 ++ (F3 ++ F4)) := fun a h => (mem a).mp h
  refine ⟨Fe, F3 ++ (F1 ++ F4), EnRep.shr (ownd_sub sub) x.en, ⟨F3, F1 ++ F4, RepO.shr (ownd_sub sub) h3, ⟨F1, F4, RepO.shr (ownd_sub sub) h1, TmRep.shr (ownd_sub sub) h4, rfl⟩, rfl⟩, ?_, fun a h => x.fr a (sub a h), x.oo, x.sm⟩
  have p : (Fe ++ (F3 ++ (F1 ++ F4))).Perm (Fe ++ (F1 ++ (F3 ++ F4))) := by
    refine List.Perm.append (List.Perm.refl _) ?_
    rw [← List.append_assoc, ← List.append_assoc]
    exact List.Perm.append List.perm_append_comm (List.Perm.refl _)
  exact p.nodup_iff.mpr x.nd
end
end Pd
set_option Elab.async false
set_option linter.all false
set_option maxRecDepth 100000
set_option autoImplicit false
namespace Pd
open PySem PySem.Spec PyProof.Rows L2

section
variable {K : PySem.W.Frag} {G : Gx} {H H' : Hp} {O O' M : Addr → Prop} {ρ ρ' : List Slot} {τ : List (V × OT)} {σ : L2.St}

theorem EnRep.len : ∀ {ρ : List Slot} {σ : L2.St} {F : List Addr}, EnRep K G H O ρ σ F → σ.length = ρ.length
  | [], _, _, ⟨e, _⟩ => by rw [e]; rfl
  | x :: ρ, _, _, ⟨w, σ', F1, F2, e, _, h2, _⟩ => by rw [e, List.length_cons, EnRep.len h2]; rfl
/-- the i-th slot, and the rest with another in its place -/
theorem EnRep.at : ∀ {ρ : List Slot} {i : Nat} {x : Slot} {σ : L2.St} {F : List Addr}, EnRep K G H O ρ σ F → ρ[i]? = some x →
    ∃ w A Fi B, F = A ++ (Fi ++ B) ∧ σ[i]? = some w ∧ SlRep K G H O x w Fi ∧
      ∀ (H' : Hp) (O' M : Addr → Prop), Stn M H H' → MutAt M H → (∀ a, M a → O a) → (∀ a, O' a → O a ∨ H a = none) → (∀ a ∈ A ++ B, ¬ M a) →
        ∀ x' w' Fi', SlRep K G H' O' x' w' Fi' → EnRep K G H' O' (ρ.set i x') (σ.set i w') (A ++ (Fi' ++ B))
  | [], i, x, _, _, _, h => by simp at h
  | y :: ρ, 0, x, _, F, ⟨w, σ', F1, F2, e, h1, h2, ef⟩, h => by
    have hx : y = x := by simpa using h
    subst hx e
    refine ⟨w, [], F1, F2, ef, rfl, h1, fun H' O' M s m hm ho n x' w' Fi' r => ⟨w', σ', Fi', F2, rfl, r, EnRep.stn s m hm ho ρ σ' F2 n h2, rfl⟩⟩
  | y :: ρ, i + 1, x, _, F, ⟨w, σ', F1, F2, e, h1, h2, ef⟩, h => by
    have hx : ρ[i]? = some x := by simpa using h
    obtain ⟨w0, A, Fi, B, e2, e3, r0, nx⟩ := EnRep.at h2 hx
    subst e
    refine ⟨w0, F1 ++ A, Fi, B, by rw [ef, e2, List.append_assoc], by simpa using e3, r0, fun H' O' M s m hm ho n x' w' Fi' r => ?_⟩
    refine ⟨w, σ'.set i w', F1, A ++ (Fi' ++ B), rfl, SlRep.stn s m hm ho y w F1 (fun a ha => n a (by simp [ha])) h1, nx H' O' M s m hm ho (fun a ha => n a (by
      rw [List.mem_append] at ha
      rcases ha with ha | ha <;> simp [ha])) x' w' Fi' r, by rw [List.append_assoc]⟩
theorem set_self {α : Type} : ∀ {l : List α} {i : Nat} {x : α}, l[i]? = some x → l.set i x = l
  | [], _, _, h => by simp at h
  | a :: l, 0, x, h => by
    have e : a = x := by simpa using h
    subst e
    rfl
  | a :: l, i + 1, x, h => by show a :: l.set i x = _; rw [set_self (by simpa using h)]

theorem State.len (x : State K G ρ τ σ H) : σ.length = ρ.length := by
  obtain ⟨Fe, Ft, x⟩ := x
  exact EnRep.len x.en
theorem noM {H : Hp} {O : Addr → Prop} : Stn (fun _ => False) H H ∧ MutAt (fun _ => False) H ∧ (∀ a, False → O a) := ⟨fun _ _ e _ => e, fun _ z => z.elim, fun _ z => z.elim⟩

/-- permutations of four pieces -/
theorem perm_in {α : Type} (A Fi B F1 F2 : List α) : ((A ++ (F1 ++ B)) ++ F2 ++ Fi).Perm ((A ++ (Fi ++ B)) ++ (F1 ++ F2)) := by
  have p1 : ((A ++ (F1 ++ B)) ++ F2 ++ Fi).Perm (Fi ++ ((A ++ (F1 ++ B)) ++ F2)) := List.perm_append_comm
  have p2 : ((A ++ (Fi ++ B)) ++ (F1 ++ F2)).Perm (Fi ++ ((A ++ B) ++ (F1 ++ F2))) := by
    rw [← List.append_assoc Fi]
    refine List.Perm.append ?_ (List.Perm.refl _)
    rw [← List.append_assoc Fi A B]
    rw [← List.append_assoc A Fi B]
    exact List.Perm.append List.perm_append_comm (List.Perm.refl _)
  have p3 : ((A ++ (F1 ++ B)) ++ F2).Perm ((A ++ B) ++ (F1 ++ F2)) := by
    rw [List.append_assoc, List.append_assoc A B]
    refine List.Perm.append (List.Perm.refl _) ?_
    rw [← List.append_assoc B F1 F2]
    exact List.Perm.append List.perm_append_comm (List.Perm.refl _)
  exact p1.trans ((List.Perm.append (List.Perm.refl _) p3).trans p2.symm)

/-- the head goes into slot i -/
theorem State.set {i : Nat} {v : V} {o : OT} (x : State K G ρ ((v, o) :: τ) σ H) (hi : i < ρ.length) : State K G (ρ.set i (.val o)) τ (σ.set i (some v)) H := by
  obtain ⟨Fe, Ft, x⟩ := x
  obtain ⟨F1, F2, h1, h2, ef⟩ := x.tm
  have en := x.en
  have nd := x.nd
  have fr := x.fr
  subst ef
  obtain ⟨w, A, Fi, B, eF, eσ, r0, nx⟩ := EnRep.at en (List.getElem?_eq_getElem hi)
  subst eF
  have pm := perm_in A Fi B F1 F2
  have sub : ∀ a ∈ (A ++ (F1 ++ B)) ++ F2, a ∈ (A ++ (Fi ++ B)) ++ (F1 ++ F2) := fun a h => pm.mem_iff.mp (List.mem_append_left _ h)
  refine ⟨A ++ (F1 ++ B), F2, EnRep.shr (ownd_sub sub) ?_, TmRep.shr (ownd_sub sub) h2, ?_, fun a h => fr a (sub a h), x.oo, x.sm⟩
  · obtain ⟨s1, s2, s3⟩ := noM (H := H) (O := ownd G ((A ++ (Fi ++ B)) ++ (F1 ++ F2)))
    exact nx H _ _ s1 s2 s3 (fun a z => .inl z) (fun _ _ z => z) (.val o) (some v) F1 ⟨v, rfl, h1⟩
  · exact (pm.nodup_iff.mpr nd).sublist (List.sublist_append_left _ _)

/-- a slot's data, copied -/
theorem State.copy {i : Nat} {d : PyData} (x : State K G ρ τ σ H) (hi : ρ[i]? = some (.val (.sh d))) : ∃ v, σ[i]? = some (some v) ∧ State K G ρ ((v, .sh d) :: τ) σ H := by
  obtain ⟨Fe, Ft, x⟩ := x
  obtain ⟨w, A, Fi, B, eF, eσ, ⟨v, ew, e0, r0⟩, nx⟩ := EnRep.at x.en hi
  subst ew
  exact ⟨v, eσ, Fe, Ft, x.en, ⟨[], Ft, ⟨rfl, r0⟩, x.tm, rfl⟩, x.nd, x.fr, x.oo, x.sm⟩

/-- a slot frozen -/
theorem State.frzSlot {i : Nat} {o : OT} (x : State K G ρ τ σ H) (hi : ρ[i]? = some (.val o)) : State K G (ρ.set i (.val (.sh o.frz))) τ σ H := by
  obtain ⟨Fe, Ft, x⟩ := x
  have en := x.en
  have nd := x.nd
  have fr := x.fr
  obtain ⟨w, A, Fi, B, eF, eσ, ⟨v, ew, r0⟩, nx⟩ := EnRep.at en hi
  subst ew eF
  have sub : ∀ a ∈ (A ++ ([] ++ B)) ++ Ft, a ∈ (A ++ (Fi ++ B)) ++ Ft := fun a h => by
    simp only [List.nil_append, List.mem_append] at h ⊢
    rcases h with (h | h) | h <;> simp [h]
  have dj : ∀ a ∈ Fi, ¬ ownd G ((A ++ ([] ++ B)) ++ Ft) a := fun a ha z => by
    rcases z with z | z
    · exact (fr a (by simp [ha])).1 z
    · have nd' := nd
      simp only [List.nil_append, List.mem_append] at z
      rw [List.append_assoc, List.append_assoc] at nd'
      rw [List.nodup_append, List.nodup_append] at nd'
      obtain ⟨n1, ⟨n2, n3, n4⟩, n5⟩ := nd'
      rcases z with (z | z) | z
      · exact n5 a z a (by simp [ha]) rfl
      · exact n4 a ha a (by simp [z]) rfl
      · exact n4 a ha a (by simp [z]) rfl
  refine ⟨A ++ ([] ++ B), Ft, ?_, TmRep.shr (ownd_sub sub) x.tm, ?_, fun a h => fr a (sub a h), x.oo, x.sm⟩
  · have q := nx H (ownd G ((A ++ ([] ++ B)) ++ Ft)) (fun _ => False) (fun _ _ e _ => e) (fun _ z => z.elim) (fun _ z => z.elim) (fun a z => .inl (ownd_sub sub a z)) (fun _ _ z => z) (.val (.sh o.frz)) (some v) []
      ⟨v, rfl, rfl, RepO.freeze (ownd_sub sub) o v Fi dj r0⟩
    rw [set_self eσ] at q
    exact q
  · refine nd.sublist (List.Sublist.append (List.Sublist.append (List.Sublist.refl _) ?_) (List.Sublist.refl _))
    rw [List.nil_append]
    exact List.sublist_append_right _ _
/-- the head frozen -/
theorem State.frzHead {v : V} {o : OT} (x : State K G ρ ((v, o) :: τ) σ H) : State K G ρ ((v, .sh o.frz) :: τ) σ H := by
  obtain ⟨Fe, Ft, x⟩ := x
  obtain ⟨F1, F2, h1, h2, ef⟩ := x.tm
  have nd := x.nd
  have fr := x.fr
  subst ef
  have sub : ∀ a ∈ Fe ++ F2, a ∈ Fe ++ (F1 ++ F2) := fun a h => (List.mem_append.mp h).elim (List.mem_append_left _) fun q => List.mem_append_right _ (List.mem_append_right _ q)
  have dj : ∀ a ∈ F1, ¬ ownd G (Fe ++ F2) a := fun a ha z => by
    rcases z with z | z
    · exact (fr a (by simp [ha])).1 z
    · have nd' := nd
      rw [List.nodup_append, List.nodup_append] at nd'
      obtain ⟨n1, ⟨n2, n3, n4⟩, n5⟩ := nd'
      rcases List.mem_append.mp z with z | z
      · exact n5 a z a (by simp [ha]) rfl
      · exact n4 a ha a z rfl
  refine ⟨Fe, F2, EnRep.shr (ownd_sub sub) x.en, ⟨[], F2, ⟨rfl, RepO.freeze (ownd_sub sub) o v F1 dj h1⟩, TmRep.shr (ownd_sub sub) h2, rfl⟩, ?_, fun a h => fr a (sub a h), x.oo, x.sm⟩
  exact nd.sublist (List.Sublist.append (List.Sublist.refl _) (List.sublist_append_right _ _))

theorem TmRep.split : ∀ {os : List OT} {vs : List V} {τ : List (V × OT)} {F : List Addr}, vs.length = os.length → TmRep K H O (vs.zip os ++ τ) F → ∃ F1 F2, RepOs K H O os vs F1 ∧ TmRep K H O τ F2 ∧ F = F1 ++ F2
  | [], [], τ, F, _, h => ⟨[], F, ⟨rfl, rfl⟩, h, rfl⟩
  | o :: os, v :: vs, τ, F, l, ⟨F1, F2, h1, h2, ef⟩ => by
    obtain ⟨F3, F4, h3, h4, e⟩ := TmRep.split (Nat.succ.inj l) h2
    exact ⟨F1 ++ F3, F4, ⟨v, vs, F1, F3, rfl, h1, h3, rfl⟩, h4, by rw [ef, e, List.append_assoc]⟩
theorem upd_stn {p : Addr} {o : HO} (hp : H p = none) : Stn (fun _ => False) H (upd H p o) := fun a u e _ => by
  rw [upd_ne (ne_of_none e hp)]; exact e
/-- a new object of the head values (one, or none, of which is owned by it alone): o is what it is there -/
theorem State.new {os : List OT} {vs : List V} {p : Addr} {u : HO} {o : OT} (x : State K G ρ (vs.zip os ++ τ) σ H) (hl : vs.length = os.length) (hp : H p = none)
    (h : ∀ O F, RepOs K (upd H p u) O os vs F → RepO K (upd H p u) O o (.ref p) (p :: F) ∨ RepO K (upd H p u) O o (.ref p) F) : State K G ρ ((.ref p, o) :: τ) σ (upd H p u) := by
  obtain ⟨Fe, Ft, x⟩ := x
  have tm := x.tm
  obtain ⟨F1, F2, h1, h2, ef⟩ := TmRep.split hl tm
  have nd := x.nd
  have fr := x.fr
  have live := x.live
  have en := x.en
  subst ef
  have pn : p ∉ Fe ++ (F1 ++ F2) := fun z => by
    obtain ⟨w, e, _⟩ := live p z
    rw [hp] at e; cases e
  have po : ¬ G.Oo p := fun z => x.oo p z hp
  have pB : G.H0 p = none ∨ p ∈ G.B := by
    by_cases b : p ∈ G.B
    · exact .inr b
    · cases e : G.H0 p with
      | none => exact .inl rfl
      | some w => exact absurd (x.sm p w e b) (by rw [hp]; exact fun z => nomatch z)
  have s1 := upd_stn (o := u) hp
  have oo : ∀ a, G.Oo a → upd H p u a ≠ none := fun a z => by
    by_cases e : a = p
    · subst e; rw [upd_same]; exact fun z => nomatch z
    · rw [upd_ne e]; exact x.oo a z
  have sm : ∀ a w, G.H0 a = some w → a ∉ G.B → upd H p u a = some w := fun a w e b => s1 a w (x.sm a w e b) fun z => z
  -- over the larger owned set
  have big : ∀ a, ownd G (Fe ++ ((p :: F1) ++ F2)) a → ownd G (Fe ++ (F1 ++ F2)) a ∨ H a = none := fun a z => by
    rcases z with z | z
    · exact .inl (.inl z)
    · simp only [List.mem_append, List.mem_cons] at z
      rcases z with z | (z | z) | z
      · exact .inl (.inr (by simp [z]))
      · rw [z]; exact .inr hp
      · exact .inl (.inr (by simp [z]))
      · exact .inl (.inr (by simp [z]))
  have m0 : MutAt (fun _ => False) H := fun _ z => z.elim
  have no : ∀ {F : List Addr}, ∀ a ∈ F, ¬ (fun _ : Addr => False) a := fun _ _ z => z
  have r1 : RepOs K (upd H p u) (ownd G (Fe ++ ((p :: F1) ++ F2))) os vs F1 := RepOs.stn s1 m0 (fun _ z => z.elim) big os vs F1 no h1
  have e1 : EnRep K G (upd H p u) (ownd G (Fe ++ ((p :: F1) ++ F2))) ρ σ Fe := EnRep.stn s1 m0 (fun _ z => z.elim) big ρ σ Fe no en
  have t1 : TmRep K (upd H p u) (ownd G (Fe ++ ((p :: F1) ++ F2))) τ F2 := TmRep.stn s1 m0 (fun _ z => z.elim) big τ F2 no h2
  have pm : (Fe ++ ((p :: F1) ++ F2)).Perm (p :: (Fe ++ (F1 ++ F2))) := List.perm_middle
  have ndb : (Fe ++ ((p :: F1) ++ F2)).Nodup := pm.nodup_iff.mpr (List.nodup_cons.mpr ⟨pn, nd⟩)
  have frb : ∀ a ∈ Fe ++ ((p :: F1) ++ F2), ¬ G.Oo a ∧ (G.H0 a = none ∨ a ∈ G.B) := fun a ha => by
    rcases List.mem_cons.mp (pm.mem_iff.mp ha) with e | ha
    · rw [e]; exact ⟨po, pB⟩
    · exact fr a ha
  rcases h _ F1 r1 with r | r
  · exact ⟨Fe, (p :: F1) ++ F2, e1, ⟨p :: F1, F2, r, t1, rfl⟩, ndb, frb, oo, sm⟩
  · have sub : ∀ a ∈ Fe ++ (F1 ++ F2), a ∈ Fe ++ ((p :: F1) ++ F2) := fun a h => pm.mem_iff.mpr (List.mem_cons_of_mem _ h)
    exact ⟨Fe, F1 ++ F2, EnRep.shr (ownd_sub sub) e1, ⟨F1, F2, RepO.shr (ownd_sub sub) r, TmRep.shr (ownd_sub sub) t1, rfl⟩, nd, fr, oo, sm⟩
theorem State.newLst {os : List OT} {vs : List V} {p : Addr} (x : State K G ρ (vs.zip os ++ τ) σ H) (hl : vs.length = os.length) (hp : H p = none) : State K G ρ ((.ref p, .lst os) :: τ) σ (upd H p (.lst vs)) :=
  x.new hl hp fun O F r => .inl ⟨p, vs, F, rfl, upd_same, r, rfl⟩
theorem State.newTup {os : List OT} {vs : List V} {p : Addr} (x : State K G ρ (vs.zip os ++ τ) σ H) (hl : vs.length = os.length) (hp : H p = none) : State K G ρ ((.ref p, .tup os) :: τ) σ (upd H p (.tup vs)) :=
  x.new hl hp fun O F r => .inr ⟨p, vs, rfl, upd_same, r⟩
theorem TmRep.shs : ∀ {ds : List PyData} {xs : List V} {F : List Addr}, Rps K H O ds xs → TmRep K H O τ F → TmRep K H O (xs.zip (ds.map .sh) ++ τ) F
  | [], _, _, e, h => by rw [show _ = [] from e]; exact h
  | d :: ds, _, F, ⟨v, vs, e, h1, h2⟩, h => by
    subst e
    exact ⟨[], F, ⟨rfl, h1⟩, TmRep.shs h2 h, rfl⟩
theorem RepOs.sh : ∀ {ds : List PyData} {vs : List V} {F : List Addr}, RepOs K H O (ds.map .sh) vs F → Rps K H O ds vs ∧ F = []
  | [], _, _, ⟨e, f⟩ => ⟨e, f⟩
  | d :: ds, _, F, ⟨v, vs, F1, F2, e, ⟨e1, h1⟩, h2, ef⟩ => by
    obtain ⟨r, e2⟩ := RepOs.sh h2
    subst e1 e2
    exact ⟨⟨v, vs, e, h1, r⟩, ef⟩
theorem Rps.os : ∀ {ds : List PyData} {vs : List V}, Rps K H O ds vs → RepOs K H O (ds.map .sh) vs []
  | [], _, e => ⟨e, rfl⟩
  | d :: ds, _, ⟨v, vs, e, h1, h2⟩ => ⟨v, vs, [], [], e, ⟨rfl, h1⟩, Rps.os h2, rfl⟩
theorem State.newLs {ds : List PyData} {vs : List V} {p : Addr} (x : State K G ρ (vs.zip (ds.map .sh) ++ τ) σ H) (hl : vs.length = ds.length) (hp : H p = none) : State K G ρ ((.ref p, .ls ds) :: τ) σ (upd H p (.lst vs)) :=
  x.new (by rw [List.length_map]; exact hl) hp fun O F r => .inl ⟨p, vs, rfl, upd_same, (RepOs.sh r).1, by rw [(RepOs.sh r).2]⟩
theorem State.newTs {ds : List PyData} {vs : List V} {p : Addr} (x : State K G ρ (vs.zip (ds.map .sh) ++ τ) σ H) (hl : vs.length = ds.length) (hp : H p = none) : State K G ρ ((.ref p, .sh (.tuple ds)) :: τ) σ (upd H p (.tup vs)) :=
  x.new (by rw [List.length_map]; exact hl) hp fun O F r => .inr ⟨(RepOs.sh r).2, p, vs, rfl, SqT.of upd_same, (RepOs.sh r).1⟩
end
end Pd
set_option Elab.async false
set_option linter.all false
set_option maxRecDepth 100000
set_option autoImplicit false
namespace Pd
open PySem PySem.Spec PyProof.Rows L2

/-- a context: N the names by slot, vi the slots to be read, li those to be stored, gs the global names, bs those of built-ins -/
structure Cn (X : Cx) (N : List Str) (sc : Scope) (vi li : List Nat) (gs bs : List Str) (k : Nat) : Prop where
  nn : X.N = N
  nd : N.Nodup
  nb : ∀ x ∈ N, (x == ("__debug__" : Str)) = false ∧ (x == ("__classdict__" : Str)) = false
  cm : X.calm = true
  se : X.env.scope = sc
  vis : ∀ i, vi.elem i = true → ∀ x, N[i]? = some x → Vis sc x
  loc : ∀ i, li.elem i = true → ∀ x, N[i]? = some x → L2.Loc sc x ∧ (X.fn x = true ∨ sc.names.lookup x = some .local)
  gl : ∀ x ∈ gs, sc.names.lookup x = some .globalImplicit
  bl : ∀ x ∈ bs, sc.names.lookup x = some .globalImplicit ∧ X.mg x = none
  rm : Room k X.A
  gd : X.A.guards = some []
  po : PassesOwn (model X.prog X.w) X.A X.env X.xe

/-! judgements: whatever comes of it is as Ψ says -/
abbrev Post := OT → List Slot → Prop
abbrev PostB := Bool → List Slot → Prop
abbrev PostL := List OT → List Slot → Prop
def TEv (K : PySem.W.Frag) (G : Gx) (ρ : List Slot) (Ψ : Post) : TE := fun σ H Q =>
  ∃ τ, State K G ρ τ σ H ∧ ∀ o ρ', Ψ o ρ' → ∀ v H', State K G ρ' ((v, o) :: τ) σ H' → Q v H'
def TTv (K : PySem.W.Frag) (G : Gx) (ρ : List Slot) (Ψ : PostB) : TT := fun σ H Q =>
  ∃ τ, State K G ρ τ σ H ∧ ∀ b ρ', Ψ b ρ' → ∀ H', State K G ρ' τ σ H' → Q b H'
def TAv (K : PySem.W.Frag) (G : Gx) (ρ : List Slot) (Ψ : PostL) : TA := fun σ H Q =>
  ∃ τ, State K G ρ τ σ H ∧ ∀ os ρ', Ψ os ρ' → ∀ vs H', vs.length = os.length → State K G ρ' (vs.zip os ++ τ) σ H' → Q vs H'
def TPv (K : PySem.W.Frag) (G : Gx) (ρ : List Slot) (Ψ : Post) : TE := fun σ H Q =>
  ∃ τ, State K G ρ τ σ H ∧ ∀ o ρ', Ψ o ρ' → ∀ v H' Fe Ft F, StX K G ρ' τ σ H' Fe Ft → RepO K H' (ownd G (Fe ++ Ft)) o v F → Q v H'
def Ev (X : Cx) (G : Gx) (ρ : List Slot) (e : Expr) (Ψ : Post) : Prop := PE X e (TEv X.K G ρ Ψ)
def Tv (X : Cx) (G : Gx) (ρ : List Slot) (e : Expr) (Ψ : PostB) : Prop := PT X e (TTv X.K G ρ Ψ)
def Wv (X : Cx) (G : Gx) (ρ : List Slot) (e : Expr) (Ψ : PostB) : Prop := PW X e (TTv X.K G ρ Ψ)
def Av (X : Cx) (G : Gx) (ρ : List Slot) (es : List Expr) (Ψ : PostL) : Prop := PA X es (TAv X.K G ρ Ψ)
def Pv (X : Cx) (G : Gx) (ρ : List Slot) (e : Expr) (Ψ : Post) : Prop := PE X e (TPv X.K G ρ Ψ)
/-- any such judgement, chosen when it is come to -/
def TDe (X : Cx) (G : Gx) (e : Expr) : TE := fun σ H Q => ∃ ρ Ψ, Ev X G ρ e Ψ ∧ TEv X.K G ρ Ψ σ H Q
def TDt (X : Cx) (G : Gx) (e : Expr) : TT := fun σ H Q => ∃ ρ Ψ, Tv X G ρ e Ψ ∧ TTv X.K G ρ Ψ σ H Q
def TDw (X : Cx) (G : Gx) (e : Expr) : TT := fun σ H Q => ∃ ρ Ψ, Wv X G ρ e Ψ ∧ TTv X.K G ρ Ψ σ H Q
def TDa (X : Cx) (G : Gx) (es : List Expr) : TA := fun σ H Q => ∃ ρ Ψ, Av X G ρ es Ψ ∧ TAv X.K G ρ Ψ σ H Q
theorem pe_dyn {X : Cx} {G : Gx} {e : Expr} : PE X e (TDe X G e) := ⟨fun pins s σ H Q I ⟨ρ, Ψ, h, q⟩ => PE.run h pins s σ H Q I q⟩
theorem pt_dyn {X : Cx} {G : Gx} {e : Expr} : PT X e (TDt X G e) := ⟨fun pins s σ H Q I ⟨ρ, Ψ, h, q⟩ => PT.run h pins s σ H Q I q⟩
theorem pw_dyn {X : Cx} {G : Gx} {e : Expr} : PW X e (TDw X G e) := ⟨fun wh pins s σ H Q I ⟨ρ, Ψ, h, q⟩ => PW.run h wh pins s σ H Q I q⟩
theorem pa_dyn {X : Cx} {G : Gx} {e : List Expr} : PA X e (TDa X G e) := ⟨fun p pins s σ H Q I ⟨ρ, Ψ, h, q⟩ => PA.run h p pins s σ H Q I q⟩

theorem pe_imp {X : Cx} {e : Expr} {t t' : TE} (h : PE X e t) (hi : ∀ σ H Q, t' σ H Q → t σ H Q) : PE X e t' := ⟨fun pins s σ H Q I q => h.run pins s σ H Q I (hi σ H Q q)⟩
theorem pt_imp {X : Cx} {e : Expr} {t t' : TT} (h : PT X e t) (hi : ∀ σ H Q, t' σ H Q → t σ H Q) : PT X e t' := ⟨fun pins s σ H Q I q => h.run pins s σ H Q I (hi σ H Q q)⟩
theorem pw_imp {X : Cx} {e : Expr} {t t' : TT} (h : PW X e t) (hi : ∀ σ H Q, t' σ H Q → t σ H Q) : PW X e t' := ⟨fun wh pins s σ H Q I q => h.run wh pins s σ H Q I (hi σ H Q q)⟩
theorem pa_imp {X : Cx} {e : List Expr} {t t' : TA} (h : PA X e t) (hi : ∀ σ H Q, t' σ H Q → t σ H Q) : PA X e t' := ⟨fun p pins s σ H Q I q => h.run p pins s σ H Q I (hi σ H Q q)⟩
theorem ps_imp {X : Cx} {e : Stmt} {t t' : TS} (h : PS X e t) (hi : ∀ D σ H, t' D σ H → t D σ H) : PS X e t' := ⟨fun pins s σ H D I q => h.run pins s σ H D I (hi D σ H q)⟩
theorem pss_imp {X : Cx} {e : List Stmt} {t t' : TS} (h : PSs X e t) (hi : ∀ D σ H, t' D σ H → t D σ H) : PSs X e t' := ⟨fun pins s σ H D I q => h.run pins s σ H D I (hi D σ H q)⟩

abbrev oI (i : Int) : OT := .sh (.int i)
abbrev oB (b : Bool) : OT := .sh (.bool b)
abbrev oS (s : Str) : OT := .sh (.str s)
abbrev oN : OT := .sh .none
def isI (Ψ : Int → List Slot → Prop) : Post := fun o ρ => ∃ i, o = oI i ∧ Ψ i ρ
def isB (Ψ : Bool → List Slot → Prop) : Post := fun o ρ => ∃ b, o = oB b ∧ Ψ b ρ
def isS (Ψ : Str → List Slot → Prop) : Post := fun o ρ => ∃ b, o = oS b ∧ Ψ b ρ
def isSh (Ψ : PyData → List Slot → Prop) : Post := fun o ρ => ∃ d, o = .sh d ∧ Ψ d ρ
theorem is_I {Ψ : Int → List Slot → Prop} {i : Int} {ρ : List Slot} (h : Ψ i ρ) : isI Ψ (oI i) ρ := ⟨i, rfl, h⟩
theorem is_B {Ψ : Bool → List Slot → Prop} {i : Bool} {ρ : List Slot} (h : Ψ i ρ) : isB Ψ (oB i) ρ := ⟨i, rfl, h⟩
theorem is_S {Ψ : Str → List Slot → Prop} {i : Str} {ρ : List Slot} (h : Ψ i ρ) : isS Ψ (oS i) ρ := ⟨i, rfl, h⟩
theorem is_Sh {Ψ : PyData → List Slot → Prop} {i : PyData} {ρ : List Slot} (h : Ψ i ρ) : isSh Ψ (.sh i) ρ := ⟨i, rfl, h⟩

section
variable {K : PySem.W.Frag} {G : Gx} {H : Hp} {ρ ρ1 ρ2 ρ3 : List Slot} {τ : List (V × OT)} {σ : L2.St} {v : V}
theorem State.headI {i : Int} (x : State K G ρ ((v, oI i) :: τ) σ H) : v = .int i := by obtain ⟨O, h⟩ := x.headS; exact h
theorem State.headB {b : Bool} (x : State K G ρ ((v, oB b) :: τ) σ H) : v = .bl b := by obtain ⟨O, h⟩ := x.headS; exact h
theorem State.headStr {b : Str} (x : State K G ρ ((v, oS b) :: τ) σ H) : v = .str b := by obtain ⟨O, h⟩ := x.headS; exact h
theorem State.headN (x : State K G ρ ((v, oN) :: τ) σ H) : v = .non := by obtain ⟨O, h⟩ := x.headS; exact h
theorem State.pI (x : State K G ρ τ σ H) (i : Int) : State K G ρ ((.int i, oI i) :: τ) σ H := x.pushC fun _ => rfl
theorem State.pB (x : State K G ρ τ σ H) (b : Bool) : State K G ρ ((.bl b, oB b) :: τ) σ H := x.pushC fun _ => rfl
theorem State.pS (x : State K G ρ τ σ H) (b : Str) : State K G ρ ((.str b, oS b) :: τ) σ H := x.pushC fun _ => rfl
theorem State.pN (x : State K G ρ τ σ H) : State K G ρ ((.non, oN) :: τ) σ H := x.pushC fun _ => rfl

/-- what slot i holds, whoever owns it -/
inductive Holds : Slot → OT → Prop
  | val (o : OT) : Holds (.val o) o
  | bor (k : Nat) (o : OT) : Holds (.bor k o) o
def HAt (ρ : List Slot) (j : Nat) (o : OT) : Prop := ∃ s, ρ[j]? = some s ∧ Holds s o
theorem hat {ρ : List Slot} {j : Nat} {s : Slot} {o : OT} (h : ρ[j]? = some s) (hh : Holds s o) : HAt ρ j o := ⟨s, h, hh⟩
theorem State.slotRep {i : Nat} {o : OT} {Fe Ft : List Addr} (x : StX K G ρ τ σ H Fe Ft) (h : HAt ρ i o) : ∃ v F, σ[i]? = some (some v) ∧ RepO K H (ownd G (Fe ++ Ft)) o v F := by
  obtain ⟨s, hi, hh⟩ := h
  obtain ⟨u, A, Fi, B, eF, eσ, r0, nx⟩ := EnRep.at x.en hi
  cases hh with
  | val o => obtain ⟨w', ew, r⟩ := r0; subst ew; exact ⟨w', Fi, eσ, r⟩
  | bor k o => obtain ⟨w', _, ew, r⟩ := r0; subst ew; exact ⟨_, Fi, eσ, r⟩
theorem State.slotV {i : Nat} {o : OT} (x : State K G ρ τ σ H) (h : HAt ρ i o) : ∃ v, σ[i]? = some (some v) := by
  obtain ⟨Fe, Ft, x⟩ := x
  obtain ⟨v, _, e, _⟩ := State.slotRep x h
  exact ⟨v, e⟩
theorem StX.st {Fe Ft : List Addr} (x : StX K G ρ τ σ H Fe Ft) : State K G ρ τ σ H := ⟨Fe, Ft, x⟩
theorem StX.pushR {Fe Ft : List Addr} {v : V} {d : PyData} (x : StX K G ρ τ σ H Fe Ft) (r : Rp K H (ownd G (Fe ++ Ft)) d v) : State K G ρ ((v, .sh d) :: τ) σ H :=
  ⟨Fe, Ft, x.en, ⟨[], Ft, ⟨rfl, r⟩, x.tm, rfl⟩, x.nd, x.fr, x.oo, x.sm⟩
theorem State.drop2 {s t : V × OT} (x : State K G ρ (s :: t :: τ) σ H) : State K G ρ (s :: τ) σ H := x.swap.drop
end

section
variable {X : Cx} {N : List Str} {sc : Scope} {vi li : List Nat} {gs bs : List Str} {k : Nat} {G : Gx} {ρ : List Slot} {a b c e : Expr} {pos : Pos} {Ψ Ψ' : Post} {Θ Θ' : PostB}
theorem Cn.gl' (c : Cn X N sc vi li gs bs k) {x : Str} (j : Nat) (h : gs[j]? = some x) : Gl X x := by
  show X.env.scope.names.lookup x = some .globalImplicit
  rw [c.se]; exact c.gl x (List.mem_of_getElem? h)
theorem Cn.vis' (c : Cn X N sc vi li gs bs k) {i : Nat} {x : Str} (h : vi.elem i = true) (hx : N[i]? = some x) : Vis X.env.scope x := by rw [c.se]; exact c.vis i h x hx
theorem Cn.loc' (c : Cn X N sc vi li gs bs k) {i : Nat} {x : Str} (h : li.elem i = true) (hx : N[i]? = some x) : L2.Loc X.env.scope x ∧ (X.fn x = true ∨ X.env.scope.names.lookup x = some .local) := by rw [c.se]; exact c.loc i h x hx
theorem Cn.bg (c : Cn X N sc vi li gs bs k) {x : Str} (j : Nat) (h : bs[j]? = some x) : Gl X x := by
  show X.env.scope.names.lookup x = some .globalImplicit
  rw [c.se]; exact (c.bl x (List.mem_of_getElem? h)).1
theorem Cn.bm (c : Cn X N sc vi li gs bs k) {x : Str} (j : Nat) (h : bs[j]? = some x) : X.mg x = none := (c.bl x (List.mem_of_getElem? h)).2
def NoStar (e : Expr) : Prop := ∀ es env, starEach (e :: es) env = (false, eval e env) :: starEach es env

theorem ev_mono (h : Ev X G ρ e Ψ) (hi : ∀ o ρ, Ψ o ρ → Ψ' o ρ) : Ev X G ρ e Ψ' := pe_imp h fun σ H Q ⟨τ, x, q⟩ => ⟨τ, x, fun o ρ' z => q o ρ' (hi _ _ z)⟩
theorem tv_mono (h : Tv X G ρ e Θ) (hi : ∀ o ρ, Θ o ρ → Θ' o ρ) : Tv X G ρ e Θ' := pt_imp h fun σ H Q ⟨τ, x, q⟩ => ⟨τ, x, fun o ρ' z => q o ρ' (hi _ _ z)⟩

/-! constants, names -/
theorem ev_int {i : Int} {p : Pos} {z} (h : Ψ (oI i) ρ) : Ev X G ρ (.Constant (.int i) z p) Ψ := pe_imp pe_int fun σ H Q ⟨τ, x, q⟩ => q _ _ h _ H (x.pI i)
theorem ev_bl {i : Bool} {p : Pos} {z} (h : Ψ (oB i) ρ) : Ev X G ρ (.Constant (.bool i) z p) Ψ := pe_imp pe_bl fun σ H Q ⟨τ, x, q⟩ => q _ _ h _ H (x.pB i)
theorem ev_str {i : Str} {p : Pos} {z} (h : Ψ (oS i) ρ) : Ev X G ρ (.Constant (.str i) z p) Ψ := pe_imp pe_str fun σ H Q ⟨τ, x, q⟩ => q _ _ h _ H (x.pS i)
theorem ev_non {p : Pos} {z} (h : Ψ oN ρ) : Ev X G ρ (.Constant .none z p) Ψ := pe_imp pe_non fun σ H Q ⟨τ, x, q⟩ => q _ _ h _ H x.pN
theorem pe_slot (c : Cn X N sc vi li gs bs k) (i : Nat) {x : Str} (hx : N[i]? = some x) (hv : vi.elem i = true) : PE X (.Name x pos) (tVar i) :=
  pe_var (by rw [c.nn]; exact hx) (c.vis' hv hx) (c.nb x (List.mem_of_getElem? hx)).1 (c.nb x (List.mem_of_getElem? hx)).2
section
variable {x : Str} {d : PyData} {o : OT}
/-- a name that holds shared data -/
theorem ev_nm (c : Cn X N sc vi li gs bs k) (i : Nat) (h : Ψ (.sh d) ρ) (hρ : ρ[i]? = some (.val (.sh d)) := by rfl) (hx : N[i]? = some x := by rfl) (hv : vi.elem i = true := by rfl) : Ev X G ρ (.Name x pos) Ψ :=
  pe_imp (pe_slot c i hx hv) fun σ H Q ⟨τ, x, q⟩ => by
    obtain ⟨v, e, y⟩ := x.copy hρ
    exact ⟨v, e, q _ _ h v H y⟩
/-- a name that holds owned data, from now on shared -/
theorem ev_nmF (c : Cn X N sc vi li gs bs k) (i : Nat) (h : Ψ (.sh o.frz) (ρ.set i (.val (.sh o.frz)))) (hρ : ρ[i]? = some (.val o) := by rfl) (hx : N[i]? = some x := by rfl) (hv : vi.elem i = true := by rfl) : Ev X G ρ (.Name x pos) Ψ := by
  refine pe_imp (pe_slot c i hx hv) fun σ H Q ⟨τ, x, q⟩ => ?_
  have hi : i < ρ.length := (List.getElem?_eq_some_iff.mp hρ).1
  obtain ⟨v, e, y⟩ := (x.frzSlot hρ).copy (i := i) (by rw [List.getElem?_set_self hi])
  exact ⟨v, e, q _ _ h v H y⟩
/-- shared from now on -/
theorem ev_frz (h : Ev X G ρ e fun o ρ1 => Ψ (.sh o.frz) ρ1) : Ev X G ρ e Ψ := pe_imp h fun σ H Q ⟨τ, x, q⟩ => ⟨τ, x, fun o ρ' z v H' y => q _ _ z v H' y.frzHead⟩
end
/-- a global constant -/
theorem ev_gl (c : Cn X N sc vi li gs bs k) (j : Nat) {x : Str} {u : Value} {d : PyData} {v : V} (hm : X.mg x = some u) (hr : RelV v u) (hd : ∀ H O, Rp X.K H O d v) (h : Ψ (.sh d) ρ) (hj : gs[j]? = some x := by rfl) (hdb : (x == ("__debug__" : Str)) = false := by decide) : Ev X G ρ (.Name x pos) Ψ :=
  pe_imp (pe_glob (c.gl' j hj) hm hr hdb) fun σ H Q ⟨τ, x, q⟩ => q _ _ h _ H (x.pushC fun O => hd H O)

/-! operations on two values -/
theorem ev_bin {op : Operator} {r : R2} {C : OT → OT → List Slot → Prop} (ho : OpR X (binaryOp op) r) (ha : Ev X G ρ a fun oa ρ1 => Ev X G ρ1 b fun ob ρ2 => C oa ob ρ2)
    (h : ∀ oa ob ρ2 τ σ H x y, C oa ob ρ2 → State X.K G ρ2 ((y, ob) :: (x, oa) :: τ) σ H → ∀ Q : VK, (∀ o ρ', Ψ o ρ' → ∀ v H', State X.K G ρ' ((v, o) :: τ) σ H' → Q v H') → r x y H Q) : Ev X G ρ (.BinOp a op b pos) Ψ :=
  pe_imp (pe_op ho ha (pe_dyn (G := G))) fun σ H Q ⟨τ, x, q⟩ => ⟨τ, x, fun oa ρ1 z v H1 y => ⟨ρ1, _, z, _, y, fun ob ρ2 hc u H2 w => h oa ob ρ2 τ σ H2 v u hc w Q q⟩⟩
theorem ev_cmp {op : CmpOp} {r : R2} {C : OT → OT → List Slot → Prop} (ho : OpR X (compareOp op) r) (hm : behindInMarks op b = false) (ha : Ev X G ρ a fun oa ρ1 => Ev X G ρ1 b fun ob ρ2 => C oa ob ρ2)
    (h : ∀ oa ob ρ2 τ σ H x y, C oa ob ρ2 → State X.K G ρ2 ((y, ob) :: (x, oa) :: τ) σ H → ∀ Q : VK, (∀ o ρ', Ψ o ρ' → ∀ v H', State X.K G ρ' ((v, o) :: τ) σ H' → Q v H') → r x y H Q) : Ev X G ρ (.Compare a [op] [b] pos) Ψ :=
  pe_imp (pe_cmpR ho ha (pe_dyn (G := G)) hm) fun σ H Q ⟨τ, x, q⟩ => ⟨τ, x, fun oa ρ1 z v H1 y => ⟨ρ1, _, z, _, y, fun ob ρ2 hc u H2 w => h oa ob ρ2 τ σ H2 v u hc w Q q⟩⟩
theorem ints2 {K : PySem.W.Frag} {τ : List (V × OT)} {σ : L2.St} {H : Hp} {x y : V} {i j : Int} (s : State K G ρ ((y, oI j) :: (x, oI i) :: τ) σ H) : x = .int i ∧ y = .int j ∧ State K G ρ τ σ H := ⟨s.drop.headI, s.headI, s.drop.drop⟩
theorem ev_i2 {op : Operator} {C : Int → Int → Prop} {g : Int → Int → Int} (ho : OpR X (binaryOp op) (rI C fun i j => .int (g i j))) (h : Ev X G ρ a (isI fun i ρ1 => Ev X G ρ1 b (isI fun j ρ2 => C i j ∧ Ψ (oI (g i j)) ρ2))) : Ev X G ρ (.BinOp a op b pos) Ψ :=
  ev_bin (C := fun oa ob ρ2 => ∃ i j, oa = oI i ∧ ob = oI j ∧ C i j ∧ Ψ (oI (g i j)) ρ2) ho (ev_mono h fun oa ρ1 ⟨i, e, z⟩ => ev_mono z fun ob ρ2 ⟨j, e2, z⟩ => ⟨i, j, e, e2, z⟩) fun oa ob ρ2 τ σ H x y ⟨i, j, e1, e2, hc, hp⟩ s Q q => by
    subst e1 e2
    obtain ⟨rfl, rfl, s2⟩ := ints2 s
    exact ⟨i, j, rfl, rfl, hc, q _ _ hp _ H (s2.pI _)⟩
theorem ev_c2 {op : CmpOp} {g : Int → Int → Bool} (ho : OpR X (compareOp op) (rI0 fun i j => .bl (g i j))) (hm : behindInMarks op b = false) (h : Ev X G ρ a (isI fun i ρ1 => Ev X G ρ1 b (isI fun j ρ2 => Ψ (oB (g i j)) ρ2))) : Ev X G ρ (.Compare a [op] [b] pos) Ψ :=
  ev_cmp (C := fun oa ob ρ2 => ∃ i j, oa = oI i ∧ ob = oI j ∧ Ψ (oB (g i j)) ρ2) ho hm (ev_mono h fun oa ρ1 ⟨i, e, z⟩ => ev_mono z fun ob ρ2 ⟨j, e2, z⟩ => ⟨i, j, e, e2, z⟩) fun oa ob ρ2 τ σ H x y ⟨i, j, e1, e2, hp⟩ s Q q => by
    subst e1 e2
    obtain ⟨rfl, rfl, s2⟩ := ints2 s
    exact ⟨i, j, rfl, rfl, q _ _ hp _ H (s2.pB _)⟩
theorem op_add' : OpR X (binaryOp .Add) (rI (fun _ _ => True) fun i j => .int (i + j)) := opI fun _ _ _ _ _ _ _ _ q => add_int q
theorem op_sub' : OpR X (binaryOp .Sub) (rI (fun _ _ => True) fun i j => .int (i - j)) := opI fun _ _ _ _ _ _ _ _ q => sub_int q
theorem ev_add (h : Ev X G ρ a (isI fun i ρ1 => Ev X G ρ1 b (isI fun j ρ2 => Ψ (oI (i + j)) ρ2))) : Ev X G ρ (.BinOp a .Add b pos) Ψ :=
  ev_i2 op_add' (ev_mono h fun oa ρ1 ⟨i, e, z⟩ => ⟨i, e, ev_mono z fun ob ρ2 ⟨j, e2, z⟩ => ⟨j, e2, True.intro, z⟩⟩)
theorem ev_sub (h : Ev X G ρ a (isI fun i ρ1 => Ev X G ρ1 b (isI fun j ρ2 => Ψ (oI (i - j)) ρ2))) : Ev X G ρ (.BinOp a .Sub b pos) Ψ :=
  ev_i2 op_sub' (ev_mono h fun oa ρ1 ⟨i, e, z⟩ => ⟨i, e, ev_mono z fun ob ρ2 ⟨j, e2, z⟩ => ⟨j, e2, True.intro, z⟩⟩)
theorem ev_mul (h : Ev X G ρ a (isI fun i ρ1 => Ev X G ρ1 b (isI fun j ρ2 => CMul i j ∧ Ψ (oI (i * j)) ρ2))) : Ev X G ρ (.BinOp a .Mult b pos) Ψ := ev_i2 op_mul h
theorem ev_mod (h : Ev X G ρ a (isI fun i ρ1 => Ev X G ρ1 b (isI fun j ρ2 => 0 < j ∧ Ψ (oI (i % j)) ρ2))) : Ev X G ρ (.BinOp a .Mod b pos) Ψ := ev_i2 op_mod h
theorem ev_fdiv (h : Ev X G ρ a (isI fun i ρ1 => Ev X G ρ1 b (isI fun j ρ2 => CDiv i j ∧ Ψ (oI (i / j)) ρ2))) : Ev X G ρ (.BinOp a .FloorDiv b pos) Ψ := ev_i2 op_fdiv h
theorem ev_pow (h : Ev X G ρ a (isI fun i ρ1 => Ev X G ρ1 b (isI fun j ρ2 => CPow i j ∧ Ψ (oI (i ^ j.toNat)) ρ2))) : Ev X G ρ (.BinOp a .Pow b pos) Ψ := ev_i2 op_pow h
theorem ev_lt (h : Ev X G ρ a (isI fun i ρ1 => Ev X G ρ1 b (isI fun j ρ2 => Ψ (oB (decide (i < j))) ρ2))) : Ev X G ρ (.Compare a [.Lt] [b] pos) Ψ := ev_c2 op_lt (nomark _) h
theorem ev_le (h : Ev X G ρ a (isI fun i ρ1 => Ev X G ρ1 b (isI fun j ρ2 => Ψ (oB (decide (i ≤ j))) ρ2))) : Ev X G ρ (.Compare a [.LtE] [b] pos) Ψ := ev_c2 op_le (nomark _) h
theorem ev_gt (h : Ev X G ρ a (isI fun i ρ1 => Ev X G ρ1 b (isI fun j ρ2 => Ψ (oB (decide (j < i))) ρ2))) : Ev X G ρ (.Compare a [.Gt] [b] pos) Ψ := ev_c2 op_gt (nomark _) h
theorem ev_ge (h : Ev X G ρ a (isI fun i ρ1 => Ev X G ρ1 b (isI fun j ρ2 => Ψ (oB (decide (j ≤ i))) ρ2))) : Ev X G ρ (.Compare a [.GtE] [b] pos) Ψ := ev_c2 op_ge (nomark _) h
theorem ev_neg (h : Ev X G ρ a (isI fun i ρ1 => Ψ (oI (-i)) ρ1)) : Ev X G ρ (.UnaryOp .USub a pos) Ψ :=
  pe_imp (pe_un un_neg h) fun σ H Q ⟨τ, x, q⟩ => ⟨τ, x, fun o ρ' ⟨i, e, z⟩ v H' y => by
    subst e
    exact ⟨i, y.headI, q _ _ z _ H' (y.drop.pI _)⟩⟩
/-- a < b < c -/
theorem ev_chainI {op op' : CmpOp} {g g' : Int → Int → Bool} {p : Pos} (ho : OpR X (compareOp op) (rI0 fun i j => .bl (g i j))) (ho' : OpR X (compareOp op') (rI0 fun i j => .bl (g' i j)))
    (hm : lastMarks [op, op'] [b, c] = false)
    (h : Ev X G ρ a (isI fun i ρ1 => Ev X G ρ1 b (isI fun j ρ2 => (g i j = true → Ev X G ρ2 c (isI fun l ρ3 => Ψ (oB (g' j l)) ρ3)) ∧ (g i j = false → Ψ (oB false) ρ2)))) : Ev X G ρ (.Compare a [op, op'] [b, c] pos) Ψ := by
  refine pe_imp (pe_chain ho ho' h (pe_dyn (G := G)) (pe_dyn (G := G)) hm) fun σ H Q ⟨τ, x, q⟩ => ⟨τ, x, fun oa ρ1 ⟨i, e1, z⟩ v H1 y => ⟨ρ1, _, z, _, y, fun ob ρ2 ⟨j, e2, h1, h2⟩ u H2 w => ?_⟩⟩
  subst e1 e2
  obtain ⟨rfl, rfl, s⟩ := ints2 w
  refine ⟨i, j, rfl, rfl, g i j, rfl, ?_⟩
  cases hg : g i j with
  | true =>
    refine iteT ⟨ρ2, _, h1 hg, _, s, fun oc ρ3 ⟨l, e3, hp⟩ w' H4 t => ?_⟩
    subst e3
    exact ⟨j, l, rfl, t.headI, q _ _ hp _ H4 (t.drop.pB _)⟩
  | false => exact iteF (q _ _ (h2 hg) _ H2 (s.pB _))
end
end Pd
set_option Elab.async false
set_option linter.all false
set_option maxRecDepth 100000
set_option autoImplicit false
namespace Pd
open PySem PySem.Spec PyProof.Rows L2

section
variable {K : PySem.W.Frag} {G : Gx} {H : Hp} {O : Addr → Prop} {ρ : List Slot} {τ : List (V × OT)} {σ : L2.St}
/-! lists and tuples of shared data -/
inductive SeqV : OT → List PyData → Prop
  | shl {ds : List PyData} : SeqV (.sh (.list ds)) ds
  | sht {ds : List PyData} : SeqV (.sh (.tuple ds)) ds
  | ls {ds : List PyData} : SeqV (.ls ds) ds
  | tpd {ds : List PyData} : SeqV (.tpd ds) ds
theorem Rps.len {ds : List PyData} {vs : List V} (r : Rps K H O ds vs) : vs.length = ds.length := Rps.len0 r
theorem Rps.get : ∀ {ds : List PyData} {vs : List V} {j : Nat} {d : PyData}, Rps K H O ds vs → ds[j]? = some d → ∃ v, vs[j]? = some v ∧ Rp K H O d v
  | [], _, _, _, _, h => by simp at h
  | d :: ds, _, 0, d', ⟨v, vs, e, h1, h2⟩, h => by
    have ed : d = d' := by simpa using h
    subst ed e
    exact ⟨v, rfl, h1⟩
  | d :: ds, _, j + 1, d', ⟨v, vs, e, h1, h2⟩, h => by
    subst e
    obtain ⟨w, hw, r⟩ := Rps.get (j := j) h2 (by simpa using h)
    exact ⟨w, by simpa using hw, r⟩
theorem RepOs.len : ∀ {os : List OT} {vs : List V} {F : List Addr}, RepOs K H O os vs F → vs.length = os.length
  | [], _, _, ⟨e, _⟩ => by rw [e]; rfl
  | o :: os, _, _, ⟨v, vs, F1, F2, e, _, h2, _⟩ => by rw [e, List.length_cons, RepOs.len h2]; rfl
theorem SeqV.view {o : OT} {ds : List PyData} {v : V} {F : List Addr} (s : SeqV o ds) (r : RepO K H O o v F) : ∃ p xs, v = .ref p ∧ (SqL K H p xs ∨ SqT K H p xs) ∧ Rps K H O ds xs := by
  cases s with
  | shl => obtain ⟨_, a, xs, e, h, q⟩ := r; exact ⟨a, xs, e, .inl (sqOf h), q⟩
  | sht => obtain ⟨_, a, xs, e, h, q⟩ := r; exact ⟨a, xs, e, .inr h, q⟩
  | ls => obtain ⟨a, xs, e, h, q, _⟩ := r; exact ⟨a, xs, e, .inl (SqL.of h), q⟩
  | tpd => obtain ⟨_, a, ob, xs, e, h, _, q⟩ := r; exact ⟨a, xs, e, .inr (.inl (.inr ⟨ob, h⟩)), q⟩
theorem Rps.atI {ds : List PyData} {vs : List V} {i : Int} {d : PyData} (r : Rps K H O ds vs) (h : L2.atI ds i = some d) : ∃ v, L2.atI vs i = some v ∧ Rp K H O d v := by
  unfold L2.atI at h ⊢
  rw [r.len]
  cases e : ixN ds.length i with
  | none => rw [e] at h; cases h
  | some j =>
    rw [e] at h
    exact r.get (j := j) h
theorem Rps.app : ∀ {ds es : List PyData} {vs ws : List V}, Rps K H O ds vs → Rps K H O es ws → Rps K H O (ds ++ es) (vs ++ ws)
  | [], _, _, _, e, h => by rw [show _ = [] from e]; exact h
  | d :: ds, _, _, _, ⟨v, vs, e, h1, h2⟩, h => by rw [e]; exact ⟨v, vs ++ _, rfl, h1, Rps.app h2 h⟩
theorem Rps.take : ∀ (n : Nat) {ds : List PyData} {vs : List V}, Rps K H O ds vs → Rps K H O (ds.take n) (vs.take n)
  | 0, _, _, _ => by simp [Rps]
  | n + 1, [], _, e => by rw [show _ = [] from e]; exact rfl
  | n + 1, d :: ds, _, ⟨v, vs, e, h1, h2⟩ => by rw [e]; exact ⟨v, vs.take n, rfl, h1, Rps.take n h2⟩
theorem Rps.drop : ∀ (n : Nat) {ds : List PyData} {vs : List V}, Rps K H O ds vs → Rps K H O (ds.drop n) (vs.drop n)
  | 0, _, _, h => h
  | n + 1, [], _, e => by rw [show _ = [] from e]; exact rfl
  | n + 1, d :: ds, _, ⟨v, vs, e, h1, h2⟩ => by rw [e]; exact Rps.drop n h2
theorem Rps.rev : ∀ {ds : List PyData} {vs : List V}, Rps K H O ds vs → Rps K H O ds.reverse vs.reverse
  | [], _, e => by rw [show _ = [] from e]; exact rfl
  | d :: ds, _, ⟨v, vs, e, h1, h2⟩ => by
    rw [e, List.reverse_cons, List.reverse_cons]
    exact Rps.app (Rps.rev h2) ⟨v, [], rfl, h1, rfl⟩
/-- an item of the head -/
theorem State.elem {v : V} {o : OT} {ds : List PyData} {i : Int} {d : PyData} (x : State K G ρ ((v, o) :: τ) σ H) (hs : SeqV o ds) (hi : L2.atI ds i = some d) :
    ∃ p xs w, v = .ref p ∧ (SqL K H p xs ∨ SqT K H p xs) ∧ L2.atI xs i = some w ∧ State K G ρ ((w, .sh d) :: (v, o) :: τ) σ H := by
  obtain ⟨Fe, Ft, x⟩ := x
  obtain ⟨F1, F2, h1, h2, ef⟩ := x.tm
  obtain ⟨p, xs, ev, sq, rs⟩ := hs.view h1
  obtain ⟨w, hw, rw'⟩ := rs.atI hi
  exact ⟨p, xs, w, ev, sq, hw, Fe, Ft, x.en, ⟨[], Ft, ⟨rfl, rw'⟩, x.tm, rfl⟩, x.nd, x.fr, x.oo, x.sm⟩
/-- an item of a slot's -/
theorem State.elemS {j : Nat} {o : OT} {ds : List PyData} {i : Int} {d : PyData} (x : State K G ρ τ σ H) (hj : HAt ρ j o) (hs : SeqV o ds) (hi : L2.atI ds i = some d) :
    ∃ p xs w, σ[j]? = some (some (.ref p)) ∧ (SqL K H p xs ∨ SqT K H p xs) ∧ L2.atI xs i = some w ∧ State K G ρ ((w, .sh d) :: τ) σ H := by
  obtain ⟨Fe, Ft, x⟩ := x
  obtain ⟨v, F, eσ, r⟩ := State.slotRep x hj
  obtain ⟨p, xs, ev, sq, rs⟩ := hs.view r
  obtain ⟨w, hw, rw'⟩ := rs.atI hi
  subst ev
  exact ⟨p, xs, w, eσ, sq, hw, x.pushR rw'⟩
theorem ix_fin {x y : V} {Q : VK} {p : Addr} {xs : List V} {i : Int} {w : V} (ev : x = .ref p) (eu : y = .int i) (sq : SqL K H p xs ∨ SqT K H p xs) (hw : L2.atI xs i = some w) (q : Q w H) : rIx K x y H Q := by
  rcases sq with sq | sq
  · exact .inl ⟨p, xs, i, w, ev, eu, sq, hw, q⟩
  · exact .inr (.inl ⟨p, xs, i, w, ev, eu, sq, hw, q⟩)
theorem TmRep.perm1 {H : Hp} {O : Addr → Prop} {t : V × OT} : ∀ {l : List (V × OT)} {F : List Addr}, TmRep K H O (l ++ t :: τ) F → ∃ F', TmRep K H O (t :: (l ++ τ)) F' ∧ F'.Perm F
  | [], F, h => ⟨F, h, .refl _⟩
  | s :: l, F, ⟨F1, F2, h1, h2, ef⟩ => by
    obtain ⟨F', ⟨F3, F4, h3, h4, e4⟩, p⟩ := TmRep.perm1 h2
    refine ⟨F3 ++ (F1 ++ F4), ⟨F3, F1 ++ F4, h3, ⟨F1, F4, h1, h4, rfl⟩, rfl⟩, ?_⟩
    rw [ef]
    refine List.Perm.trans ?_ (List.Perm.append (List.Perm.refl F1) p)
    rw [e4, ← List.append_assoc, ← List.append_assoc]
    exact List.Perm.append List.perm_append_comm (List.Perm.refl _)
theorem State.permT {τ τ' : List (V × OT)} (x : State K G ρ τ σ H) (h : ∀ O F, TmRep K H O τ F → ∃ F', TmRep K H O τ' F' ∧ F'.Perm F) : State K G ρ τ' σ H := by
  obtain ⟨Fe, Ft, x⟩ := x
  obtain ⟨F', t, p⟩ := h _ Ft x.tm
  have pm : (Fe ++ F').Perm (Fe ++ Ft) := List.Perm.append (List.Perm.refl _) p
  have sub : ∀ a ∈ Fe ++ F', a ∈ Fe ++ Ft := fun a h => pm.mem_iff.mp h
  exact ⟨Fe, F', EnRep.shr (ownd_sub sub) x.en, TmRep.shr (ownd_sub sub) t, pm.nodup_iff.mpr x.nd, fun a h => x.fr a (sub a h), x.oo, x.sm⟩
theorem State.front {t : V × OT} {l : List (V × OT)} (x : State K G ρ (l ++ t :: τ) σ H) : State K G ρ (t :: (l ++ τ)) σ H := x.permT fun _ _ h => TmRep.perm1 h
theorem StX.newL {Fe Ft : List Addr} {ds : List PyData} {xs : List V} {p : Addr} (x : StX K G ρ τ σ H Fe Ft) (r : Rps K H (ownd G (Fe ++ Ft)) ds xs) (hp : H p = none) :
    State K G ρ ((.ref p, .ls ds) :: τ) σ (upd H p (.lst xs)) :=
  State.newLs (vs := xs) ⟨Fe, Ft, x.en, TmRep.shs r x.tm, x.nd, x.fr, x.oo, x.sm⟩ r.len hp
theorem StX.newT {Fe Ft : List Addr} {ds : List PyData} {xs : List V} {p : Addr} (x : StX K G ρ τ σ H Fe Ft) (r : Rps K H (ownd G (Fe ++ Ft)) ds xs) (hp : H p = none) :
    State K G ρ ((.ref p, .sh (.tuple ds)) :: τ) σ (upd H p (.tup xs)) :=
  State.newTs (vs := xs) ⟨Fe, Ft, x.en, TmRep.shs r x.tm, x.nd, x.fr, x.oo, x.sm⟩ r.len hp
end

section
variable {X : Cx} {N : List Str} {sc : Scope} {vi li : List Nat} {gs bs : List Str} {k : Nat} {G : Gx} {ρ : List Slot} {a b c e : Expr} {pos : Pos} {Ψ Ψ' : Post} {Θ Θ' : PostB} {Λ : PostL} {x : Str} {px p : Pos}

theorem pv_ev (h : Ev X G ρ e Ψ) : Pv X G ρ e Ψ := pe_imp h fun σ H Q ⟨τ, x, q⟩ => ⟨τ, x, fun o ρ' hp v H' y => by
  obtain ⟨Fe, Ft, y⟩ := y
  obtain ⟨F1, F2, h1, h2, ef⟩ := y.tm
  have fr := y.fr
  have nd := y.nd
  subst ef
  have sub : ∀ a ∈ Fe ++ F2, a ∈ Fe ++ (F1 ++ F2) := fun a h => (List.mem_append.mp h).elim (List.mem_append_left _) fun q => List.mem_append_right _ (List.mem_append_right _ q)
  exact q _ _ hp v H' Fe F2 F1 ⟨EnRep.shr (ownd_sub sub) y.en, TmRep.shr (ownd_sub sub) h2, nd.sublist (List.Sublist.append (List.Sublist.refl _) (List.sublist_append_right _ _)), fun a h => fr a (sub a h), y.oo, y.sm⟩ (RepO.shr (ownd_sub sub) h1)⟩
/-- a name looked at -/
theorem pv_nm (c : Cn X N sc vi li gs bs k) (i : Nat) {s : Slot} {o : OT} (h : Ψ o ρ) (hρ : ρ[i]? = some s := by rfl) (hh : Holds s o := by constructor) (hx : N[i]? = some x := by rfl) (hv : vi.elem i = true := by rfl) : Pv X G ρ (.Name x pos) Ψ :=
  pe_imp (pe_slot c i hx hv) fun σ H Q ⟨τ, y, q⟩ => by
    obtain ⟨Fe, Ft, y⟩ := y
    obtain ⟨v, F, e, r⟩ := State.slotRep y (hat hρ hh)
    exact ⟨v, e, q _ _ h v H Fe Ft F y r⟩
theorem pv_mono (h : Pv X G ρ e Ψ) (hi : ∀ o ρ, Ψ o ρ → Ψ' o ρ) : Pv X G ρ e Ψ' := pe_imp h fun σ H Q ⟨τ, x, q⟩ => ⟨τ, x, fun o ρ' z => q o ρ' (hi _ _ z)⟩

/-! subscripts -/
theorem ev_ix (h : Ev X G ρ a fun oa ρ1 => ∃ ds, SeqV oa ds ∧ Ev X G ρ1 b (isI fun i ρ2 => ∃ d, L2.atI ds i = some d ∧ Ψ (.sh d) ρ2)) (pl : PlainIx b := by exact fun _ _ => rfl) : Ev X G ρ (.Subscript a b pos) Ψ :=
  pe_imp (pe_ix ix_seq h (pe_dyn (G := G)) pl) fun σ H Q ⟨τ, y, q⟩ => ⟨τ, y, fun oa ρ1 ⟨ds, hs, z⟩ v H1 y => ⟨ρ1, _, z, (v, oa) :: τ, y, fun ob ρ2 ⟨i, eb, d, hi, hp⟩ u H2 w => by
    subst eb
    obtain ⟨p, xs, w', ev, sq, hw, z2⟩ := State.elem w.drop hs hi
    exact ix_fin ev w.headI sq hw (q _ _ hp w' H2 z2.drop2)⟩⟩
/-- NAME[..] -/
theorem ev_ixN (c : Cn X N sc vi li gs bs k) (j : Nat) {s0 : Slot} {o0 : OT} (h : Ev X G ρ b (isI fun i ρ1 => ∃ o ds d, HAt ρ1 j o ∧ SeqV o ds ∧ L2.atI ds i = some d ∧ Ψ (.sh d) ρ1))
    (h0 : ρ[j]? = some s0 := by rfl) (hh0 : Holds s0 o0 := by constructor) (hx : N[j]? = some x := by rfl) (hv : vi.elem j = true := by rfl) (pl : PlainIx b := by exact fun _ _ => rfl) : Ev X G ρ (.Subscript (.Name x px) b pos) Ψ :=
  pe_imp (pe_ix ix_seq (pe_slot c j hx hv) h pl) fun σ H Q ⟨τ, y, q⟩ => by
    obtain ⟨v, ev⟩ := y.slotV (hat h0 hh0)
    refine ⟨v, ev, τ, y, fun ob ρ1 ⟨i, eb, o, ds, d, hj, hs, hi, hp⟩ u H2 z => ?_⟩
    subst eb
    obtain ⟨p, xs, w, ew, sq, hw, z2⟩ := State.elemS z.drop hj hs hi
    rw [ev] at ew
    exact ix_fin (by injection ew with e1; injection e1) z.headI sq hw (q _ _ hp w H2 z2)

/-! arguments, displays -/
theorem av_nil (h : Λ [] ρ) : Av X G ρ [] Λ := pa_imp pa_nil fun σ H Q ⟨τ, x, q⟩ => q [] ρ h [] H rfl x
theorem av_cons {es : List Expr} (h : Ev X G ρ e fun o ρ1 => Av X G ρ1 es fun os ρ2 => Λ (o :: os) ρ2) (hs : NoStar e := by exact fun _ _ => rfl) : Av X G ρ (e :: es) Λ :=
  pa_imp (pa_cons h (pa_dyn (G := G)) (hs _ _)) fun σ H Q ⟨τ, x, q⟩ => ⟨τ, x, fun o ρ1 z v H1 y => ⟨ρ1, _, z, (v, o) :: τ, y, fun os ρ2 hp vs H2 l w => q _ _ hp (v :: vs) H2 (by rw [List.length_cons, List.length_cons, l]) w.front⟩⟩
theorem av_mono {es : List Expr} {Λ' : PostL} (h : Av X G ρ es Λ) (hi : ∀ o ρ, Λ o ρ → Λ' o ρ) : Av X G ρ es Λ' := pa_imp h fun σ H Q ⟨τ, x, q⟩ => ⟨τ, x, fun o ρ' z => q o ρ' (hi _ _ z)⟩
theorem line1000 : 1000 ≤ sizeLine := by decide
theorem ev_tup {es : List Expr} {x1} (h : Av X G ρ es fun os ρ1 => os.length ≤ 1000 ∧ Ψ (.tup os) ρ1) : Ev X G ρ (.Tuple es x1 pos) Ψ :=
  pe_imp (pe_tup h) fun σ H Q ⟨τ, x, q⟩ => ⟨τ, x, fun os ρ1 ⟨hz, hp⟩ vs H1 l y => ⟨by rw [l]; exact Nat.le_trans hz line1000, fun p hn => q _ _ hp _ _ (y.newTup l hn)⟩⟩
theorem ev_lst {es : List Expr} (h : Av X G ρ es fun os ρ1 => os.length ≤ 1000 ∧ Ψ (.lst os) ρ1) : Ev X G ρ (.List es pos) Ψ :=
  pe_imp (pe_lst h) fun σ H Q ⟨τ, x, q⟩ => ⟨τ, x, fun os ρ1 ⟨hz, hp⟩ vs H1 l y => ⟨by rw [l]; exact Nat.le_trans hz line1000, fun p hn => q _ _ hp _ _ (y.newLst l hn)⟩⟩
/-- of shared data alone -/
theorem ev_tupS {es : List Expr} {x1} (h : Av X G ρ es fun os ρ1 => ∃ ds, os = ds.map .sh ∧ ds.length ≤ 1000 ∧ Ψ (.sh (.tuple ds)) ρ1) : Ev X G ρ (.Tuple es x1 pos) Ψ :=
  pe_imp (pe_tup h) fun σ H Q ⟨τ, x, q⟩ => ⟨τ, x, fun os ρ1 ⟨ds, e, hz, hp⟩ vs H1 l y => by
    subst e
    rw [List.length_map] at l
    exact ⟨by rw [l]; exact Nat.le_trans hz line1000, fun p hn => q _ _ hp _ _ (y.newTs l hn)⟩⟩
theorem ev_lstS {es : List Expr} (h : Av X G ρ es fun os ρ1 => ∃ ds, os = ds.map .sh ∧ ds.length ≤ 1000 ∧ Ψ (.ls ds) ρ1) : Ev X G ρ (.List es pos) Ψ :=
  pe_imp (pe_lst h) fun σ H Q ⟨τ, x, q⟩ => ⟨τ, x, fun os ρ1 ⟨ds, e, hz, hp⟩ vs H1 l y => by
    subst e
    rw [List.length_map] at l
    exact ⟨by rw [l]; exact Nat.le_trans hz line1000, fun p hn => q _ _ hp _ _ (y.newLs l hn)⟩⟩

/-! calls of built-ins by one value -/
theorem ev_cb1 {r : List V → Hp → VK → Prop} {id : String} (c : Cn X N sc vi li gs bs k) (hc : CallR X (.builtin id) r) (j : Nat) (hv : bootBuiltins x = some (.builtin id)) {Ψ' : Post} (ha : Pv X G ρ e Ψ')
    (h : ∀ o ρ1 τ σ H v Fe Ft F, Ψ' o ρ1 → StX X.K G ρ1 τ σ H Fe Ft → RepO X.K H (ownd G (Fe ++ Ft)) o v F → ∀ Q : VK, (∀ o' ρ', Ψ o' ρ' → ∀ w H', State X.K G ρ' ((w, o') :: τ) σ H' → Q w H') → r [v] H Q)
    (hj : bs[j]? = some x) (he : NoStar e) (hn : x ≠ "__name__") (hdb : (x == ("__debug__" : Str)) = false) : Ev X G ρ (.Call (.Name x p) [e] [] pos) Ψ :=
  pe_imp (pe_callB hc (c.bg j hj) (c.bm j hj) hv (pa_cons ha pa_nil (he _ _)) hn hdb (he _ _) rfl) fun σ H Q ⟨τ, y, q⟩ => ⟨τ, y, fun o ρ1 hp v H' Fe Ft F z rep => h o ρ1 τ σ H' v Fe Ft F hp z rep Q q⟩
theorem ev_ct1 {r : List V → Hp → VK → Prop} {id : String} (c : Cn X N sc vi li gs bs k) (hc : CallR X (.type id) r) (j : Nat) (hv : bootBuiltins x = some (.type id)) {Ψ' : Post} (ha : Pv X G ρ e Ψ')
    (h : ∀ o ρ1 τ σ H v Fe Ft F, Ψ' o ρ1 → StX X.K G ρ1 τ σ H Fe Ft → RepO X.K H (ownd G (Fe ++ Ft)) o v F → ∀ Q : VK, (∀ o' ρ', Ψ o' ρ' → ∀ w H', State X.K G ρ' ((w, o') :: τ) σ H' → Q w H') → r [v] H Q)
    (hj : bs[j]? = some x) (he : NoStar e) (hn : x ≠ "__name__") (hdb : (x == ("__debug__" : Str)) = false) : Ev X G ρ (.Call (.Name x p) [e] [] pos) Ψ :=
  pe_imp (pe_callTy hc (c.bg j hj) (c.bm j hj) hv (pa_cons ha pa_nil (he _ _)) hn hdb (he _ _) rfl) fun σ H Q ⟨τ, y, q⟩ => ⟨τ, y, fun o ρ1 hp v H' Fe Ft F z rep => h o ρ1 τ σ H' v Fe Ft F hp z rep Q q⟩
def isSeq (Φ : List PyData → List Slot → Prop) : Post := fun o ρ => ∃ ds, SeqV o ds ∧ Φ ds ρ
theorem is_sl {Φ : List PyData → List Slot → Prop} {ds : List PyData} (h : Φ ds ρ) : isSeq Φ (.sh (.list ds)) ρ := ⟨ds, .shl, h⟩
theorem is_st {Φ : List PyData → List Slot → Prop} {ds : List PyData} (h : Φ ds ρ) : isSeq Φ (.sh (.tuple ds)) ρ := ⟨ds, .sht, h⟩
theorem is_ls {Φ : List PyData → List Slot → Prop} {ds : List PyData} (h : Φ ds ρ) : isSeq Φ (.ls ds) ρ := ⟨ds, .ls, h⟩
theorem ev_len (c : Cn X N sc vi li gs bs k) (j : Nat) (h : Pv X G ρ e (isSeq fun ds ρ1 => Ψ (oI ds.length) ρ1)) (hj : bs[j]? = some ("len" : Str) := by rfl) (he : NoStar e := by exact fun _ _ => rfl) : Ev X G ρ (.Call (.Name "len" p) [e] [] pos) Ψ :=
  ev_cb1 c call_len_seq j PySem.boot_len h (fun o ρ1 τ σ H v Fe Ft F ⟨ds, hs, hp⟩ x r Q q => by
    obtain ⟨a, xs, ev, sq, rs⟩ := hs.view r
    exact ⟨a, xs, by rw [ev], sq, by rw [rs.len]; exact q _ _ hp _ H (x.st.pI _)⟩) hj he (by decide) (by decide)
theorem ev_list (c : Cn X N sc vi li gs bs k) (j : Nat) (h : Pv X G ρ e (isSeq fun ds ρ1 => Ψ (.ls ds) ρ1)) (hj : bs[j]? = some ("list" : Str) := by rfl) (he : NoStar e := by exact fun _ _ => rfl) : Ev X G ρ (.Call (.Name "list" p) [e] [] pos) Ψ :=
  ev_ct1 c call_list_of j boot_list h (fun o ρ1 τ σ H v Fe Ft F ⟨ds, hs, hp⟩ x r Q q => by
    obtain ⟨a, xs, ev, sq, rs⟩ := hs.view r
    exact ⟨a, xs, by rw [ev], sq, fun l hl => q _ _ hp _ _ (x.newL rs hl)⟩) hj he (by decide) (by decide)
theorem ev_tuple (c : Cn X N sc vi li gs bs k) (j : Nat) (h : Pv X G ρ e (isSeq fun ds ρ1 => Ψ (.sh (.tuple ds)) ρ1)) (hj : bs[j]? = some ("tuple" : Str) := by rfl) (he : NoStar e := by exact fun _ _ => rfl) : Ev X G ρ (.Call (.Name "tuple" p) [e] [] pos) Ψ :=
  ev_ct1 c call_tuple_of j boot_tuple h (fun o ρ1 τ σ H v Fe Ft F ⟨ds, hs, hp⟩ x r Q q => by
    obtain ⟨a, xs, ev, sq, rs⟩ := hs.view r
    refine ⟨a, xs, by rw [ev], ?_⟩
    rcases sq with sq | sq
    · exact .inl ⟨sq, fun l hl => q _ _ hp _ _ (x.newT rs hl)⟩
    · exact .inr ⟨sq, q _ _ hp _ _ (x.pushR ⟨a, xs, rfl, sq, rs⟩)⟩) hj he (by decide) (by decide)
end
end Pd
set_option Elab.async false
set_option linter.all false
set_option maxRecDepth 100000
set_option autoImplicit false
namespace Pd
open PySem PySem.Spec PyProof.Rows L2

def isN : PyData → Bool
  | .none => true
  | _ => false
/-- how a statement ends -/
inductive Out where
  | nx (ρ : List Slot)
  | bk (ρ : List Slot)
  | ct (ρ : List Slot)
  | rt (o : OT) (ρ : List Slot)

def TSx (K : PySem.W.Frag) (G : Gx) (ρ : List Slot) (Φ : Out → Prop) : TS := fun D σ H => ∃ τ, State K G ρ τ σ H ∧
  (∀ ρ', Φ (.nx ρ') → ∀ σ' H', State K G ρ' τ σ' H' → D.nx σ' H') ∧ (∀ ρ', Φ (.bk ρ') → ∀ σ' H', State K G ρ' τ σ' H' → D.bk σ' H') ∧
  (∀ ρ', Φ (.ct ρ') → ∀ σ' H', State K G ρ' τ σ' H' → D.ct σ' H') ∧ (∀ o ρ', Φ (.rt o ρ') → ∀ v σ' H', State K G ρ' ((v, o) :: τ) σ' H' → D.rt v H')
def Ex (X : Cx) (G : Gx) (ρ : List Slot) (st : Stmt) (Φ : Out → Prop) : Prop := PS X st (TSx X.K G ρ Φ)
def Exs (X : Cx) (G : Gx) (ρ : List Slot) (sts : List Stmt) (Φ : Out → Prop) : Prop := PSs X sts (TSx X.K G ρ Φ)
/-- behind a statement the rest of the block -/
def Thn (X : Cx) (G : Gx) (rest : List Stmt) (Φ : Out → Prop) : Out → Prop
  | .nx ρ => Exs X G ρ rest Φ
  | .bk ρ => Φ (.bk ρ)
  | .ct ρ => Φ (.ct ρ)
  | .rt o ρ => Φ (.rt o ρ)
def TDs (X : Cx) (G : Gx) (sts : List Stmt) : TS := fun D σ H => ∃ ρ Φ, Exs X G ρ sts Φ ∧ TSx X.K G ρ Φ D σ H
theorem pss_dyn {X : Cx} {G : Gx} {sts : List Stmt} : PSs X sts (TDs X G sts) := ⟨fun pins s σ H D I ⟨ρ, Φ, h, q⟩ => PSs.run h pins s σ H D I q⟩

section
variable {X : Cx} {N : List Str} {sc : Scope} {vi li : List Nat} {gs bs : List Str} {k : Nat} {G : Gx} {ρ : List Slot} {a b c e : Expr} {pos : Pos} {st : Stmt} {sts : List Stmt} {Φ Φ' : Out → Prop} {Ψ Ψ' : Post} {Θ Θ' : PostB} {x : Str} {px : Pos}

theorem TSx.mono {K : PySem.W.Frag} {D : Ends} {σ : L2.St} {H : Hp} (h : ∀ x, Φ x → Φ' x) (t : TSx K G ρ Φ' D σ H) : TSx K G ρ Φ D σ H := by
  obtain ⟨τ, s, h1, h2, h3, h4⟩ := t
  exact ⟨τ, s, fun ρ' q => h1 ρ' (h _ q), fun ρ' q => h2 ρ' (h _ q), fun ρ' q => h3 ρ' (h _ q), fun o ρ' q => h4 o ρ' (h _ q)⟩
theorem exs_mono (h : Exs X G ρ sts Φ) (hi : ∀ x, Φ x → Φ' x) : Exs X G ρ sts Φ' := pss_imp h fun D σ H t => TSx.mono hi t
theorem ex_mono (h : Ex X G ρ st Φ) (hi : ∀ x, Φ x → Φ' x) : Ex X G ρ st Φ' := ps_imp h fun D σ H t => TSx.mono hi t
theorem exs_nil (h : Φ (.nx ρ)) : Exs X G ρ [] Φ := pss_imp pss_nil fun D σ H ⟨τ, x, h1, _⟩ => h1 ρ h σ H x
theorem exs_cons (h : Ex X G ρ st (Thn X G sts Φ)) : Exs X G ρ (st :: sts) Φ := by
  refine pss_imp (pss_cons h (pss_dyn (G := G))) ?_
  rintro D σ H ⟨τ, x, h1, h2, h3, h4⟩
  exact ⟨τ, x, fun ρ' hp σ' H' y => ⟨ρ', _, hp, τ, y, h1, h2, h3, h4⟩, h2, h3, h4⟩
theorem exs_one (h : Ex X G ρ st Φ) : Exs X G ρ [st] Φ := pss_imp (pss_one h) fun D σ H t => t
theorem ex_pass (h : Φ (.nx ρ)) : Ex X G ρ (.Pass pos) Φ := ps_imp ps_pass fun D σ H ⟨τ, x, h1, _⟩ => h1 ρ h σ H x
theorem ex_break (h : Φ (.bk ρ)) : Ex X G ρ (.Break pos) Φ := ps_imp ps_break fun D σ H ⟨τ, x, _, h1, _⟩ => h1 ρ h σ H x
theorem ex_cont (h : Φ (.ct ρ)) : Ex X G ρ (.Continue pos) Φ := ps_imp ps_continue fun D σ H ⟨τ, x, _, _, h1, _⟩ => h1 ρ h σ H x
theorem ex_ret (he : Ev X G ρ e fun o ρ1 => Φ (.rt o ρ1)) : Ex X G ρ (.Return (some e) pos) Φ :=
  ps_imp (ps_ret he) fun D σ H ⟨τ, x, _, _, _, h4⟩ => ⟨τ, x, fun o ρ1 h v H' y => h4 o ρ1 h v σ H' y⟩
theorem ex_retN (h : Φ (.rt oN ρ)) : Ex X G ρ (.Return none pos) Φ :=
  ps_imp ps_retN fun D σ H ⟨τ, x, _, _, _, h4⟩ => h4 oN ρ h .non σ H x.pN
theorem ex_if {body els : List Stmt} (hb : Tv X G ρ c fun b ρ1 => (b = true → Exs X G ρ1 body Φ) ∧ (b = false → Exs X G ρ1 els Φ)) : Ex X G ρ (.If c body els pos) Φ := by
  refine ps_imp (ps_if hb (pss_dyn (G := G)) (pss_dyn (G := G))) ?_
  rintro D σ H ⟨τ, x, hs⟩
  refine ⟨τ, x, fun b ρ1 ⟨h1, h2⟩ H' y => ?_⟩
  cases b with
  | true => exact iteT ⟨ρ1, _, h1 rfl, τ, y, hs⟩
  | false => exact iteF ⟨ρ1, _, h2 rfl, τ, y, hs⟩
/-- the value dropped -/
theorem ex_expr (he : Ev X G ρ e fun _ ρ1 => Φ (.nx ρ1)) (hs : swapsWith e none pos.line X.env = pure false := by rfl) : Ex X G ρ (.Expr e pos) Φ :=
  ps_imp (ps_expr he hs) fun D σ H ⟨τ, x, h1, _⟩ => ⟨τ, x, fun o ρ1 h v H' y => h1 ρ1 h σ H' y.drop⟩

/-! tests -/
theorem tv_val (h : Ev X G ρ e (isB Θ)) (he : ∀ whole, isTrue e X.env whole = (do let v ← whole; standAt e.pos; holding [v] (truthy v)) := by intro _; rfl) : Tv X G ρ e Θ :=
  pt_imp (pt_val h he) fun σ H Q ⟨τ, x, q⟩ => ⟨τ, x, fun o ρ' ⟨b, eo, hp⟩ v H' y => by subst eo; exact ⟨b, y.headB, q _ _ hp H' y.drop⟩⟩
theorem tv_not (h : Tv X G ρ e fun b ρ1 => Θ (!b) ρ1) : Tv X G ρ (.UnaryOp .Not e pos) Θ := pt_imp (pt_not h) fun σ H Q ⟨τ, x, q⟩ => ⟨τ, x, fun b ρ' hp => q _ _ hp⟩
theorem tv_w (h : Wv X G ρ e Θ) : Tv X G ρ e Θ := PW.pt h
theorem wv_and1 (h : Tv X G ρ a Θ) : Wv X G ρ (.BoolOp .And [a] pos) Θ := pw_and1 h
theorem wv_or1 (h : Tv X G ρ a Θ) : Wv X G ρ (.BoolOp .Or [a] pos) Θ := pw_or1 h
theorem wv_and {rest : List Expr} (h : Tv X G ρ a fun b1 ρ1 => (b1 = true → Wv X G ρ1 (.BoolOp .And (b :: rest) pos) Θ) ∧ (b1 = false → Θ false ρ1)) : Wv X G ρ (.BoolOp .And (a :: b :: rest) pos) Θ :=
  pw_imp (pw_and h (pw_dyn (G := G))) fun σ H Q ⟨τ, x, q⟩ => ⟨τ, x, fun b1 ρ1 ⟨h1, h2⟩ H' y => by
    cases b1 with
    | true => exact iteT ⟨ρ1, _, h1 rfl, τ, y, q⟩
    | false => exact iteF (q _ _ (h2 rfl) H' y)⟩
theorem wv_or {rest : List Expr} (h : Tv X G ρ a fun b1 ρ1 => (b1 = true → Θ true ρ1) ∧ (b1 = false → Wv X G ρ1 (.BoolOp .Or (b :: rest) pos) Θ)) : Wv X G ρ (.BoolOp .Or (a :: b :: rest) pos) Θ :=
  pw_imp (pw_or h (pw_dyn (G := G))) fun σ H Q ⟨τ, x, q⟩ => ⟨τ, x, fun b1 ρ1 ⟨h1, h2⟩ H' y => by
    cases b1 with
    | true => exact iteT (q _ _ (h1 rfl) H' y)
    | false => exact iteF ⟨ρ1, _, h2 rfl, τ, y, q⟩⟩

/-! and, or, not as values (bools) -/
theorem ev_one {op} (h : Ev X G ρ a Ψ) : Ev X G ρ (.BoolOp op [a] pos) Ψ := pe_one h
theorem ev_and {rest : List Expr} (h : Ev X G ρ a (isB fun b1 ρ1 => (b1 = true → Ev X G ρ1 (.BoolOp .And (b :: rest) pos) Ψ) ∧ (b1 = false → Ψ (oB false) ρ1))) : Ev X G ρ (.BoolOp .And (a :: b :: rest) pos) Ψ :=
  pe_imp (pe_and h (pe_dyn (G := G))) fun σ H Q ⟨τ, x, q⟩ => ⟨τ, x, fun o ρ1 ⟨b1, eo, h1, h2⟩ v H' y => by
    subst eo
    refine ⟨b1, y.headB, ?_⟩
    cases b1 with
    | true => exact iteT ⟨ρ1, _, h1 rfl, τ, y.drop, q⟩
    | false => exact iteF (q _ _ (h2 rfl) _ H' (y.drop.pB _))⟩
theorem ev_or {rest : List Expr} (h : Ev X G ρ a (isB fun b1 ρ1 => (b1 = true → Ψ (oB true) ρ1) ∧ (b1 = false → Ev X G ρ1 (.BoolOp .Or (b :: rest) pos) Ψ))) : Ev X G ρ (.BoolOp .Or (a :: b :: rest) pos) Ψ :=
  pe_imp (pe_or h (pe_dyn (G := G))) fun σ H Q ⟨τ, x, q⟩ => ⟨τ, x, fun o ρ1 ⟨b1, eo, h1, h2⟩ v H' y => by
    subst eo
    refine ⟨b1, y.headB, ?_⟩
    cases b1 with
    | true => exact iteT (q _ _ (h1 rfl) _ H' (y.drop.pB _))
    | false => exact iteF ⟨ρ1, _, h2 rfl, τ, y.drop, q⟩⟩
theorem ev_not (h : Ev X G ρ a (isB fun b1 ρ1 => Ψ (oB (!b1)) ρ1)) : Ev X G ρ (.UnaryOp .Not a pos) Ψ :=
  pe_imp (pe_not h) fun σ H Q ⟨τ, x, q⟩ => ⟨τ, x, fun o ρ1 ⟨b1, eo, hp⟩ v H' y => by subst eo; exact ⟨b1, y.headB, q _ _ hp _ H' (y.drop.pB _)⟩⟩
theorem ev_ife (h : Tv X G ρ c fun b1 ρ1 => (b1 = true → Ev X G ρ1 a Ψ) ∧ (b1 = false → Ev X G ρ1 b Ψ)) : Ev X G ρ (.IfExp c a b pos) Ψ :=
  pe_imp (pe_ifExp h (pe_dyn (G := G)) (pe_dyn (G := G))) fun σ H Q ⟨τ, x, q⟩ => ⟨τ, x, fun b1 ρ1 ⟨h1, h2⟩ H' y => by
    cases b1 with
    | true => exact iteT ⟨ρ1, _, h1 rfl, τ, y, q⟩
    | false => exact iteF ⟨ρ1, _, h2 rfl, τ, y, q⟩⟩
theorem rp_isN {K : PySem.W.Frag} {H : Hp} {O : Addr → Prop} : ∀ {d : PyData} {v : V}, Rp K H O d v → decide (v = V.non) = isN d
  | .none, _, r => by rw [show _ = V.non from r]; rfl
  | .bool b, _, r => by rw [show _ = V.bl b from r]; rfl
  | .int b, _, r => by rw [show _ = V.int b from r]; rfl
  | .str b, _, r => by rw [show _ = V.str b from r]; rfl
  | .list b, _, ⟨_, _, e, _⟩ => by rw [e]; rfl
  | .tuple b, _, ⟨_, _, e, _⟩ => by rw [e]; rfl
  | .dict b, _, ⟨_, _, _, e, _⟩ => by rw [e]; rfl
theorem ev_isN {j p'} (h : Ev X G ρ a (isSh fun d ρ1 => Ψ (oB (isN d)) ρ1)) : Ev X G ρ (.Compare a [.Is] [.Constant .none j p'] pos) Ψ :=
  pe_imp (pe_cmp (pc_isN h) rfl) fun σ H Q ⟨τ, x, q⟩ => ⟨τ, x, fun o ρ1 ⟨d, eo, hp⟩ v H' y => by
    subst eo
    obtain ⟨O, r⟩ := y.headS
    rw [rp_isN r]
    exact q _ _ hp _ H' (y.drop.pB _)⟩
theorem ev_notN {j p'} (h : Ev X G ρ a (isSh fun d ρ1 => Ψ (oB (!isN d)) ρ1)) : Ev X G ρ (.Compare a [.IsNot] [.Constant .none j p'] pos) Ψ :=
  pe_imp (pe_cmp (pc_notN h) rfl) fun σ H Q ⟨τ, x, q⟩ => ⟨τ, x, fun o ρ1 ⟨d, eo, hp⟩ v H' y => by
    subst eo
    obtain ⟨O, r⟩ := y.headS
    rw [rp_isN r]
    exact q _ _ hp _ H' (y.drop.pB _)⟩

/-! targets -/
abbrev PostR := List Slot → Prop
def TGx (K : PySem.W.Frag) (G : Gx) (ρ : List Slot) (o : OT) (R : PostR) : TG := fun v σ H Q => ∃ τ, State K G ρ ((v, o) :: τ) σ H ∧ ∀ ρ', R ρ' → ∀ σ' H', State K G ρ' τ σ' H' → Q σ' H'
def TGsx (K : PySem.W.Frag) (G : Gx) (ρ : List Slot) (os : List OT) (R : PostR) : TGs := fun vs σ H Q => ∃ τ, vs.length = os.length ∧ State K G ρ (vs.zip os ++ τ) σ H ∧ ∀ ρ', R ρ' → ∀ σ' H', State K G ρ' τ σ' H' → Q σ' H'
def Tg (X : Cx) (G : Gx) (ρ : List Slot) (tg : Expr) (o : OT) (R : PostR) : Prop := PG X tg (TGx X.K G ρ o R)
def Tgs (X : Cx) (G : Gx) (ρ : List Slot) (tgs : List Expr) (os : List OT) (R : PostR) : Prop := PGs X tgs (TGsx X.K G ρ os R)
def TDg (X : Cx) (G : Gx) (tg : Expr) : TG := fun v σ H Q => ∃ ρ o R, Tg X G ρ tg o R ∧ TGx X.K G ρ o R v σ H Q
def TDgs (X : Cx) (G : Gx) (tg : List Expr) : TGs := fun v σ H Q => ∃ ρ o R, Tgs X G ρ tg o R ∧ TGsx X.K G ρ o R v σ H Q
theorem pg_dyn {tg : Expr} : PG X tg (TDg X G tg) := ⟨fun pins s σ H v u Q I r ⟨ρ, o, R, h, q⟩ => PG.run h pins s σ H v u Q I r q⟩
theorem pgs_dyn {tg : List Expr} : PGs X tg (TDgs X G tg) := ⟨fun pins s σ H v u Q I r ⟨ρ, o, R, h, q⟩ => PGs.run h pins s σ H v u Q I r q⟩
theorem pg_imp {tg : Expr} {t t' : TG} (h : PG X tg t) (hi : ∀ v σ H Q, t' v σ H Q → t v σ H Q) : PG X tg t' := ⟨fun pins s σ H v u Q I r q => h.run pins s σ H v u Q I r (hi v σ H Q q)⟩
theorem pgs_imp {tg : List Expr} {t t' : TGs} (h : PGs X tg t) (hi : ∀ v σ H Q, t' v σ H Q → t v σ H Q) : PGs X tg t' := ⟨fun pins s σ H v u Q I r q => h.run pins s σ H v u Q I r (hi v σ H Q q)⟩
theorem of_blt {i n : Nat} (h : Nat.blt i n = true) : i < n := Nat.le_of_ble_eq_true h
section
variable {o : OT} {R : PostR}
theorem tg_nm (c : Cn X N sc vi li gs bs k) (i : Nat) (h : R (ρ.set i (.val o))) (hx : N[i]? = some x := by rfl) (hv : li.elem i = true := by rfl) (hl : Nat.blt i ρ.length = true := by rfl) : Tg X G ρ (.Name x pos) o R :=
  pg_imp (pg_name (by rw [c.nn]; exact c.nd) (by rw [c.nn]; exact hx) (c.loc' hv hx).1 (c.loc' hv hx).2) fun v σ H Q ⟨τ, y, q⟩ => q _ h _ _ (y.set (of_blt hl))
theorem tgs_nil (h : R ρ) : Tgs X G ρ [] [] R := pgs_imp pgs_nil fun v σ H Q ⟨τ, l, y, q⟩ => by
  have e : v = [] := List.length_eq_zero_iff.mp l
  subst e
  exact ⟨rfl, q _ h σ H y⟩
theorem tgs_cons {es : List Expr} {os : List OT} (h : Tg X G ρ e o fun ρ1 => Tgs X G ρ1 es os R) (hs : (assignEach (e :: es) X.env).map (·.2) = assign e X.env :: (assignEach es X.env).map (·.2) := by rfl) : Tgs X G ρ (e :: es) (o :: os) R :=
  pgs_imp (pgs_cons h (pgs_dyn (G := G)) hs) fun v σ H Q ⟨τ, l, y, q⟩ => by
    match v, l with
    | v :: vs, l => exact ⟨v, vs, rfl, vs.zip os ++ τ, y, fun ρ1 z σ' H' w => ⟨ρ1, os, R, z, τ, Nat.succ.inj l, w, q⟩⟩
theorem TmRep.ofOs {K : PySem.W.Frag} {H : Hp} {O : Addr → Prop} : ∀ {os : List OT} {xs : List V} {F1 : List Addr}, RepOs K H O os xs F1 → ∀ {τ : List (V × OT)} {F2 : List Addr}, TmRep K H O τ F2 → TmRep K H O (xs.zip os ++ τ) (F1 ++ F2)
  | [], _, _, ⟨e1, e2⟩, τ, F2, h => by subst e1 e2; exact h
  | o :: os, _, _, ⟨v, vs, F3, F4, e1, r1, r2, e2⟩, τ, F2, h => by
    subst e1 e2
    exact ⟨F3, F4 ++ F2, r1, TmRep.ofOs r2 h, by rw [List.append_assoc]⟩
theorem tg_tup {es : List Expr} {os : List OT} {kk : Nat} (c : Cn X N sc vi li gs bs k) (h : Tgs X G ρ es os R) (hn : (assignEach es X.env).length = os.length := by rfl) (hst : (assignEach es X.env).findIdx? (·.1) = none := by rfl) : Tg X G ρ (.Tuple es kk pos) (.tup os) R :=
  pg_imp (pg_tup c.cm h hn hst) fun v σ H Q ⟨τ, y, q⟩ => by
    obtain ⟨Fe, Ft, y⟩ := y
    obtain ⟨F1, F2, ⟨a, xs, ev, hq, rs⟩, h2, ef⟩ := y.tm
    refine ⟨a, xs, ev, SqT.of hq, rs.len, τ, rs.len, ⟨Fe, Ft, y.en, ?_, y.nd, y.fr, y.oo, y.sm⟩, q⟩
    have z := TmRep.ofOs rs h2
    rw [← ef] at z
    exact z
theorem tg_tupS {es : List Expr} {ds : List PyData} {kk : Nat} (c : Cn X N sc vi li gs bs k) (h : Tgs X G ρ es (ds.map .sh) R) (hn : (assignEach es X.env).length = ds.length := by rfl) (hst : (assignEach es X.env).findIdx? (·.1) = none := by rfl) : Tg X G ρ (.Tuple es kk pos) (.sh (.tuple ds)) R :=
  pg_imp (pg_tup c.cm h hn hst) fun v σ H Q ⟨τ, y, q⟩ => by
    obtain ⟨Fe, Ft, y⟩ := y
    obtain ⟨F1, F2, ⟨e0, a, xs, ev, hq, rs⟩, h2, ef⟩ := y.tm
    have h3 : TmRep X.K H (ownd G (Fe ++ Ft)) (xs.zip (ds.map .sh) ++ τ) F2 := TmRep.shs rs h2
    refine ⟨a, xs, ev, hq, rs.len, τ, by rw [List.length_map]; exact rs.len, ⟨Fe, Ft, y.en, ?_, y.nd, y.fr, y.oo, y.sm⟩, q⟩
    have e : Ft = F2 := by rw [ef, e0]; rfl
    rw [← e] at h3
    exact h3
end

/-! assignments -/
theorem swS_scope (ts : List Expr) (v : Expr) (env env' : Env) (h : env.scope = env'.scope) : swappedStores ts v env = swappedStores ts v env' := by
  have k : env.kindOf = env'.kindOf := by funext x; simp only [Env.kindOf, h]
  have b : env.blockKind = env'.blockKind := by simp only [Env.blockKind, h]
  unfold swappedStores
  rw [k, b]
theorem swW_scope (v : Expr) (t : Option Expr) (l : Nat) (env env' : Env) (h : env.scope = env'.scope) : swapsWith v t l env = swapsWith v t l env' := by
  have k : env.kindOf = env'.kindOf := by funext x; simp only [Env.kindOf, h]
  have b : env.blockKind = env'.blockKind := by simp only [Env.blockKind, h]
  unfold swapsWith
  rw [k, b, h]
/-- an environment of a scope, for looks that read the scope alone -/
def env0 (sc : Scope) : Env := PyProof.Rows.envOfC "" sc 0 0 .none
theorem ex_asg {tg : Expr} (c : Cn X N sc vi li gs bs k) (h : Ev X G ρ e fun o ρ1 => Tg X G ρ1 tg o fun ρ2 => Φ (.nx ρ2)) (hs : swapsWith e (some tg) pos.line (env0 sc) = pure false := by rfl) (hw : swappedStores [tg] e (env0 sc) = pure none := by rfl)
    (h1 : (assignEach [tg] X.env).map (·.2) = [assign tg X.env] := by rfl) : Ex X G ρ (.Assign [tg] e pos) Φ :=
  ps_imp (ps_asg h (pg_dyn (G := G)) (by show swapsWith e (some tg) pos.line X.env = _; rw [swW_scope _ _ _ X.env (env0 sc) c.se]; exact hs) (by rw [swS_scope _ _ X.env (env0 sc) c.se]; exact hw) h1) fun D σ H ⟨τ, x, h1, _⟩ =>
    ⟨τ, x, fun o ρ1 z v H' y => ⟨ρ1, o, _, z, τ, y, fun ρ2 hp σ' H2 w => h1 ρ2 hp σ' H2 w⟩⟩
theorem ex_set (c : Cn X N sc vi li gs bs k) (i : Nat) (h : Ev X G ρ e fun o ρ1 => Nat.blt i ρ1.length = true ∧ Φ (.nx (ρ1.set i (.val o)))) (hx : N[i]? = some x := by rfl) (hv : li.elem i = true := by rfl)
    (hs : swapsWith e (some (.Name x px)) pos.line (env0 sc) = pure false := by rfl) : Ex X G ρ (.Assign [.Name x px] e pos) Φ :=
  ps_imp (ps_set (i := i) (by rw [c.nn]; exact c.nd) (by rw [c.nn]; exact hx) (c.loc' hv hx).1 h (by rw [swW_scope _ _ _ X.env (env0 sc) c.se]; exact hs) (c.loc' hv hx).2) fun D σ H ⟨τ, x, h1, _⟩ => ⟨τ, x, fun o ρ1 ⟨hl, hp⟩ v H' y => h1 _ hp _ _ (y.set (of_blt hl))⟩
/-- x, y = a, b, both names local -/
theorem ex_par (c : Cn X N sc vi li gs bs k) (i j : Nat) {x y : Str} {px py pt : Pos} {kt k2 pt2} (h : Av X G ρ [a, b] fun os ρ1 => ∃ o o', os = [o, o'] ∧ Nat.blt i ρ1.length = true ∧ Nat.blt j ρ1.length = true ∧ Φ (.nx ((ρ1.set i (.val o)).set j (.val o'))))
    (hij : i ≠ j := by decide) (hx : N[i]? = some x := by rfl) (hy : N[j]? = some y := by rfl) (lx : sc.names.lookup x = some .local := by rfl) (ly : sc.names.lookup y = some .local := by rfl)
    (hw : swappedStores [.Tuple [.Name x px, .Name y py] kt pt] (.Tuple [a, b] k2 pt2) (env0 sc) = pure (some [x, y]) := by rfl) : Ex X G ρ (.Assign [.Tuple [.Name x px, .Name y py] kt pt] (.Tuple [a, b] k2 pt2) pos) Φ :=
  ps_imp (ps_par (i := i) (j := j) c.cm (by rw [c.nn]; exact c.nd) (by rw [c.nn]; exact hx) (by rw [c.nn]; exact hy) hij (by rw [c.se]; exact lx) (by rw [c.se]; exact ly) h (by rw [swS_scope _ _ X.env (env0 sc) c.se]; exact hw) rfl) fun D σ H ⟨τ, z, h1, _⟩ =>
    ⟨τ, z, fun os ρ1 ⟨o, o', eo, hl, hl2, hp⟩ vs H' l w => by
      subst eo
      match vs, l with
      | [v, v'], _ =>
        have w2 := (State.set (i := i) w (of_blt hl))
        exact ⟨v, v', rfl, h1 _ hp _ _ (w2.set (by rw [List.length_set]; exact of_blt hl2))⟩⟩
end
end Pd
set_option Elab.async false
set_option linter.all false
set_option maxRecDepth 100000
set_option autoImplicit false
namespace Pd
open PySem PySem.Spec PyProof.Rows L2

/-! contexts, by a look at the scope -/
def visB (sc : Scope) (x : Str) : Bool := match sc.names.lookup x with
  | some .local => true | some .cell => true | some .free => true | _ => false
def locB (raw sc : Scope) (x : Str) : Bool := match sc.names.lookup x with
  | some .local => true | some .cell => (raw.names.lookup x == some .cell) | _ => false
def giB (sc : Scope) (x : Str) : Bool := match sc.names.lookup x with
  | some .globalImplicit => true | _ => false
def cnC (N : List Str) (raw sc : Scope) (vi li : List Nat) (gs bs : List Str) : Bool :=
  N.all (fun x => !(x == ("__debug__" : Str)) && !(x == ("__classdict__" : Str))) && vi.all (fun i => match N[i]? with | some x => visB sc x | none => true) &&
  li.all (fun i => match N[i]? with | some x => locB raw sc x | none => true) && gs.all (giB sc) && bs.all (giB sc)
theorem giB_of {sc : Scope} {x : Str} (h : giB sc x = true) : sc.names.lookup x = some .globalImplicit := by
  unfold giB at h
  split at h
  · assumption
  · cases h
theorem visB_of {sc : Scope} {x : Str} (h : visB sc x = true) : Vis sc x := by
  unfold visB at h
  split at h
  · exact .inl (by assumption)
  · exact .inr (.inl (by assumption))
  · exact .inr (.inr (by assumption))
  · cases h
theorem locB_of {raw sc : Scope} {x : Str} (h : locB raw sc x = true) : L2.Loc sc x ∧ ((raw.names.lookup x == some .cell) = true ∨ sc.names.lookup x = some .local) := by
  unfold locB at h
  split at h
  · exact ⟨.inl (by assumption), .inr (by assumption)⟩
  · exact ⟨.inr (by assumption), .inl h⟩
  · cases h
theorem Cn.by {X : Cx} {N : List Str} {raw sc : Scope} {vi li : List Nat} {gs bs : List Str} {k : Nat} (h : cnC N raw sc vi li gs bs = true) (nn : X.N = N) (nd : N.Nodup) (cm : X.calm = true) (se : X.env.scope = sc)
    (fn : ∀ x, (raw.names.lookup x == some .cell) = true → X.fn x = true) (mg : ∀ x ∈ bs, X.mg x = none) (rm : Room k X.A) (gd : X.A.guards = some []) (po : PassesOwn (model X.prog X.w) X.A X.env X.xe) : Cn X N sc vi li gs bs k := by
  unfold cnC at h
  simp only [Bool.and_eq_true, List.all_eq_true, Bool.not_eq_true'] at h
  obtain ⟨⟨⟨⟨h1, h2⟩, h3⟩, h4⟩, h5⟩ := h
  refine ⟨nn, nd, h1, cm, se, fun i hi x hx => ?_, fun i hi x hx => ?_, fun x hx => giB_of (h4 x hx), fun x hx => ⟨giB_of (h5 x hx), mg x hx⟩, rm, gd, po⟩
  · have q := h2 i (List.elem_iff.mp hi)
    rw [hx] at q
    exact visB_of q
  · have q := h3 i (List.elem_iff.mp hi)
    rw [hx] at q
    obtain ⟨a, b⟩ := locB_of q
    exact ⟨a, b.imp (fn x) id⟩
/-- the context of a comprehension's block -/
abbrev BX (X : Cx) (scope : Scope) (s : Shared) (H : Hp) (C : Addr) (cl : List (Str × Addr)) (fp : List Addr) : Cx := X.blk s H scope (compEnvC scope cl C X.env) fp
theorem Cn.blk {X : Cx} {N : List Str} {sc scope : Scope} {vi li vi' li' : List Nat} {gs bs gs' bs' : List Str} {k : Nat} (c : Cn X N sc vi li gs bs k) (h : cnC N scope (relS scope sc) vi' li' gs' bs' = true) (hb : ∀ x ∈ bs', X.mg x = none)
    (s : Shared) (H : Hp) (C : Addr) (cl : List (Str × Addr)) (fp : List Addr) : Cn (BX X scope s H C cl fp) N (relS scope sc) vi' li' gs' bs' k :=
  Cn.by (X := BX X scope s H C cl fp) h c.nn c.nd c.cm (by rw [← c.se]; rfl) (fun x hx => hx) hb c.rm c.gd .never

/-! iteration: its the items -/
abbrev PostI := List OT → List Slot → Prop
def TIv (K : PySem.W.Frag) (G : Gx) (ρ : List Slot) (Ξ : PostI) : TI := fun σ H R => ∃ τ, State K G ρ τ σ H ∧
  ∀ its ρ1, Ξ its ρ1 → ∀ J H1 α, State K G ρ1 (α ++ τ) σ H1 → (∀ i ρ' τ' σ' H', State K G ρ' (α ++ τ') σ' H' → (its[i]? = none → J.stop i H') ∧
    (∀ o, its[i]? = some o → J.go i H' ∧ ∀ x H'', J.yld i H' x H'' → State K G ρ' ((x, o) :: (α ++ τ')) σ' H'')) → R J H1
def Iv (X : Cx) (G : Gx) (ρ : List Slot) (tg iter : Expr) (Ξ : PostI) : Prop := PI X tg iter (TIv X.K G ρ Ξ)
theorem pi_imp {X : Cx} {tg e : Expr} {t t' : TI} (h : PI X tg e t) (hi : ∀ σ H Q, t' σ H Q → t σ H Q) : PI X tg e t' := ⟨fun pins s σ H Q I q => h.run pins s σ H Q I (hi σ H Q q)⟩

def LoopO (I : List Slot → Prop) (Φ : Out → Prop) : Out → Prop
  | .nx ρ => I ρ
  | .ct ρ => I ρ
  | .bk ρ => Φ (.nx ρ)
  | .rt o ρ => Φ (.rt o ρ)

section
variable {X : Cx} {N : List Str} {sc : Scope} {vi li : List Nat} {gs bs : List Str} {k : Nat} {G : Gx} {ρ ρ1 ρ2 ρ3 : List Slot} {a b c e tg iter : Expr} {o oa ob : OT} {pos : Pos} {st : Stmt} {sts body : List Stmt} {Φ : Out → Prop} {Ψ : Post} {Ξ Ξ' : PostI}
variable {K : PySem.W.Frag} {H : Hp} {O : Addr → Prop} {τ : List (V × OT)} {σ : L2.St}
theorem iv_mono (h : Iv X G ρ tg iter Ξ) (hi : ∀ its ρ, Ξ its ρ → Ξ' its ρ) : Iv X G ρ tg iter Ξ' := pi_imp h fun σ H R ⟨τ, x, q⟩ => ⟨τ, x, fun its ρ1 z => q its ρ1 (hi _ _ z)⟩

theorem TmRep.dropL : ∀ {α : List (V × OT)} {F : List Addr}, TmRep K H O (α ++ τ) F → ∃ F', TmRep K H O τ F' ∧ F'.Sublist F
  | [], F, h => ⟨F, h, .refl _⟩
  | t :: α, F, ⟨F1, F2, h1, h2, ef⟩ => by
    obtain ⟨F', h, s⟩ := TmRep.dropL h2
    exact ⟨F', h, by rw [ef]; exact s.trans (List.sublist_append_right _ _)⟩
theorem State.subT {τ τ' : List (V × OT)} (x : State K G ρ τ σ H) (h : ∀ O F, TmRep K H O τ F → ∃ F', TmRep K H O τ' F' ∧ F'.Sublist F) : State K G ρ τ' σ H := by
  obtain ⟨Fe, Ft, x⟩ := x
  obtain ⟨F', t, p⟩ := h _ Ft x.tm
  have pm : (Fe ++ F').Sublist (Fe ++ Ft) := List.Sublist.append (List.Sublist.refl _) p
  have sub : ∀ a ∈ Fe ++ F', a ∈ Fe ++ Ft := fun a h => pm.subset h
  exact ⟨Fe, F', EnRep.shr (ownd_sub sub) x.en, TmRep.shr (ownd_sub sub) t, x.nd.sublist pm, fun a h => x.fr a (sub a h), x.oo, x.sm⟩
theorem State.dropA {α : List (V × OT)} (x : State K G ρ (α ++ τ) σ H) : State K G ρ τ σ H := x.subT fun _ _ h => TmRep.dropL h
theorem State.dropA1 {α : List (V × OT)} {t : V × OT} (x : State K G ρ (t :: (α ++ τ)) σ H) : State K G ρ (t :: τ) σ H := x.subT fun _ _ ⟨F1, F2, h1, h2, ef⟩ => by
  obtain ⟨F', h, s⟩ := TmRep.dropL h2
  exact ⟨F1 ++ F', ⟨F1, F', h1, h, rfl⟩, by rw [ef]; exact List.Sublist.append (.refl _) s⟩
def TDgx (X : Cx) (G : Gx) (tg : Expr) : TG := TDg X G tg

/-- for: I says what holds with these items still to come -/
theorem ex_for (cn : Cn X N sc vi li gs bs k) (I : List OT → List Slot → Prop) (hi : Iv X G ρ tg iter I)
    (hs : ∀ x rest ρ, I (x :: rest) ρ → Tg X G ρ tg x fun ρ2 => Exs X G ρ2 body (LoopO (I rest) Φ)) (hd : ∀ ρ, I [] ρ → Φ (.nx ρ))
    (hf : ∀ x, foldedSetIterable iter X.env x = pure x := by intro _; rfl) : Ex X G ρ (.For tg iter body [] pos) Φ := by
  refine ps_imp (ps_for cn.po cn.cm hi (pg_dyn (G := G)) (pss_dyn (G := G)) hf) ?_
  rintro D σ H ⟨τ, x, e1, e2, e3, e4⟩
  refine ⟨τ, x, fun its ρ1 z J H1 α y hJ => ⟨fun i m σ H => m = its.length - i ∧ i ≤ its.length ∧ ∃ ρ, I (its.drop i) ρ ∧ State X.K G ρ (α ++ τ) σ H, ⟨its.length, by simp, Nat.zero_le _, ρ1, z, y⟩, ?_⟩⟩
  rintro i m σ H ⟨rfl, hin, ρ, hI, z⟩
  obtain ⟨j1, j2⟩ := hJ i ρ τ σ H z
  cases e : its[i]? with
  | none =>
    rw [List.drop_eq_nil_of_le (List.getElem?_eq_none_iff.mp e)] at hI
    exact .inl ⟨j1 e, e1 ρ (hd ρ hI) σ H z.dropA⟩
  | some o =>
    obtain ⟨lt, eo⟩ := List.getElem?_eq_some_iff.mp e
    obtain ⟨go, yl⟩ := j2 o e
    rw [List.drop_eq_getElem_cons lt, eo] at hI
    refine .inr ⟨go, fun σ' H' => i + 1 ≤ its.length ∧ ∃ ρ, I (its.drop (i + 1)) ρ ∧ State X.K G ρ (α ++ τ) σ' H', fun σ' H' ⟨l, q⟩ => ⟨its.length - (i + 1), by omega, rfl, l, q⟩, fun x H' yy => ?_⟩
    refine ⟨ρ, o, _, hs o _ ρ hI, α ++ τ, yl x H' yy, fun ρ2 hb σ2 H2 w => ⟨ρ2, _, hb, α ++ τ, w, fun ρ' q σ' H' r => ⟨lt, ρ', q, r⟩, fun ρ' q σ' H' r => e1 ρ' q σ' H' r.dropA, fun ρ' q σ' H' r => ⟨lt, ρ', q, r⟩, fun o ρ' q v σ' H' r => e4 o ρ' q v σ' H' r.dropA1⟩⟩

/-- while: I holds ahead of each test, m falls -/
theorem ex_while (cn : Cn X N sc vi li gs bs k) (I : Nat → List Slot → Prop) (h0 : ∃ m, I m ρ)
    (hs : ∀ m ρ, I m ρ → Tv X G ρ c fun bb ρ1 => (bb = true → Exs X G ρ1 body (LoopO (fun ρ' => ∃ m', m' < m ∧ I m' ρ') Φ)) ∧ (bb = false → Φ (.nx ρ1))) : Ex X G ρ (.While c body [] pos) Φ := by
  refine ps_imp (ps_while cn.po (pt_dyn (G := G)) (pss_dyn (G := G))) ?_
  rintro D σ H ⟨τ, x, e1, e2, e3, e4⟩
  obtain ⟨m, h0⟩ := h0
  refine ⟨fun m σ H => ∃ ρ, I m ρ ∧ State X.K G ρ τ σ H, ⟨m, ρ, h0, x⟩, ?_⟩
  rintro m σ H ⟨ρ, hI, y⟩
  refine ⟨ρ, _, hs m ρ hI, τ, y, fun bb ρ1 ⟨h1, h2⟩ H' z => ?_⟩
  cases bb with
  | true =>
    refine iteT ⟨fun σ' H' => ∃ m', m' < m ∧ ∃ ρ, I m' ρ ∧ State X.K G ρ τ σ' H', fun σ' H' q => q, ρ1, _, h1 rfl, τ, z, fun ρ' ⟨m', l, q⟩ σ' H' r => ⟨m', l, ρ', q, r⟩, fun ρ' q σ' H' r => e1 ρ' q σ' H' r, fun ρ' ⟨m', l, q⟩ σ' H' r => ⟨m', l, ρ', q, r⟩, e4⟩
  | false => exact iteF (e1 ρ1 (h2 rfl) σ H' z)

/-! what may be walked -/
theorem State.headX {v : V} {o : OT} (x : State K G ρ ((v, o) :: τ) σ H) : ∃ Fe Ft F, StX K G ρ ((v, o) :: τ) σ H Fe Ft ∧ RepO K H (ownd G (Fe ++ Ft)) o v F := by
  obtain ⟨Fe, Ft, x⟩ := x
  obtain ⟨F1, F2, h1, h2, ef⟩ := x.tm
  exact ⟨Fe, Ft, F1, x, h1⟩
theorem Rps.get_none {ds : List PyData} {vs : List V} {j : Nat} (r : Rps K H O ds vs) (h : ds[j]? = none) : vs[j]? = none := by
  rw [List.getElem?_eq_none_iff] at h ⊢
  rw [r.len]; exact h
def shs (ds : List PyData) : List OT := ds.map .sh
theorem shs_none {ds : List PyData} {i : Nat} (h : (shs ds)[i]? = none) : ds[i]? = none := by simpa [shs] using h
theorem shs_some {ds : List PyData} {i : Nat} {o : OT} (h : (shs ds)[i]? = some o) : ∃ d, ds[i]? = some d ∧ o = .sh d := by
  obtain ⟨d, hd, e⟩ := List.getElem?_map .. ▸ h |> Option.map_eq_some_iff.mp
  exact ⟨d, hd, e.symm⟩
/-- a list or a tuple of shared data, in a temporary value -/
theorem lv_seq {v : V} {o : OT} {ds : List PyData} (hs : SeqV o ds) (z : State K G ρ ((v, o) :: τ) σ H) : ∃ p xs, v = .ref p ∧ (SqL K H p xs ∨ SqT K H p xs) ∧ ∃ Fe Ft, StX K G ρ ((v, o) :: τ) σ H Fe Ft ∧ Rps K H (ownd G (Fe ++ Ft)) ds xs := by
  obtain ⟨Fe, Ft, F, z, r⟩ := z.headX
  obtain ⟨p, xs, ev, sq, rs⟩ := hs.view r
  exact ⟨p, xs, ev, sq, Fe, Ft, z, rs⟩
theorem lv_list {v : V} {o : OT} {ds : List PyData} (hs : o = .sh (.list ds) ∨ o = .ls ds) (z : State K G ρ ((v, o) :: τ) σ H) : ∃ p xs, v = .ref p ∧ SqL K H p xs ∧ ∃ Fe Ft, StX K G ρ ((v, o) :: τ) σ H Fe Ft ∧ Rps K H (ownd G (Fe ++ Ft)) ds xs := by
  obtain ⟨Fe, Ft, F, z, r⟩ := z.headX
  rcases hs with rfl | rfl
  · obtain ⟨_, p, xs, ev, hr, rs⟩ := r
    exact ⟨p, xs, ev, sqOf hr, Fe, Ft, z, rs⟩
  · obtain ⟨p, xs, ev, hr, rs, _⟩ := r
    exact ⟨p, xs, ev, SqL.of hr, Fe, Ft, z, rs⟩
theorem lv_tup {v : V} {ds : List PyData} (z : State K G ρ ((v, .sh (.tuple ds)) :: τ) σ H) : ∃ p xs, v = .ref p ∧ SqT K H p xs ∧ ∃ Fe Ft, StX K G ρ ((v, .sh (.tuple ds)) :: τ) σ H Fe Ft ∧ Rps K H (ownd G (Fe ++ Ft)) ds xs := by
  obtain ⟨Fe, Ft, F, z, _, p, xs, ev, hr, rs⟩ := z.headX
  exact ⟨p, xs, ev, hr, Fe, Ft, z, rs⟩
def isL (Φ : List PyData → List Slot → Prop) : Post := fun o ρ => ∃ ds, (o = .sh (.list ds) ∨ o = .ls ds) ∧ Φ ds ρ
def isT (Φ : List PyData → List Slot → Prop) : Post := fun o ρ => ∃ ds, o = .sh (.tuple ds) ∧ Φ ds ρ
theorem is_L1 {Φ : List PyData → List Slot → Prop} {ds : List PyData} (h : Φ ds ρ) : isL Φ (.sh (.list ds)) ρ := ⟨ds, .inl rfl, h⟩
theorem is_L2 {Φ : List PyData → List Slot → Prop} {ds : List PyData} (h : Φ ds ρ) : isL Φ (.ls ds) ρ := ⟨ds, .inr rfl, h⟩
theorem is_T {Φ : List PyData → List Slot → Prop} {ds : List PyData} (h : Φ ds ρ) : isT Φ (.sh (.tuple ds)) ρ := ⟨ds, rfl, h⟩
theorem iv_list (h : Ev X G ρ e (isL fun ds ρ1 => Ξ (shs ds) ρ1)) : Iv X G ρ tg e Ξ :=
  pi_imp (pi_list h) fun σ H R ⟨τ, x, q⟩ => ⟨τ, x, fun o ρ1 ⟨ds, hs, hp⟩ v H1 y => by
    obtain ⟨p, xs, ev, sq, _⟩ := lv_list hs y
    refine ⟨p, ev, ⟨xs, sq⟩, q _ _ hp (Itl X.K p) H1 [(v, o)] y fun i ρ' τ' σ' H' z => ?_⟩
    obtain ⟨p', xs', ev', sq', Fe, Ft, z', rs⟩ := lv_list (τ := τ') hs z
    have ep : p' = p := by rw [ev] at ev'; cases ev'; rfl
    subst ep
    refine ⟨fun hn => ⟨xs', sq', by rw [rs.len]; exact List.getElem?_eq_none_iff.mp (shs_none hn)⟩, fun o' ho' => ?_⟩
    obtain ⟨d, hd, rfl⟩ := shs_some ho'
    obtain ⟨w, hw, rw'⟩ := rs.get hd
    refine ⟨⟨xs', w, sq', hw⟩, fun x H'' ⟨eH, hx⟩ => ?_⟩
    subst eH
    have ex := hx xs' sq'
    rw [hw] at ex; cases ex
    exact z'.pushR rw'⟩
theorem iv_tup (h : Ev X G ρ e (isT fun ds ρ1 => Ξ (shs ds) ρ1)) : Iv X G ρ tg e Ξ :=
  pi_imp (pi_tup h) fun σ H R ⟨τ, x, q⟩ => ⟨τ, x, fun o ρ1 ⟨ds, hs, hp⟩ v H1 y => by
    subst hs
    obtain ⟨p, xs, ev, sq, _⟩ := lv_tup y
    refine ⟨p, ev, ⟨xs, sq⟩, q _ _ hp (Itt X.K p) H1 [(v, .sh (.tuple ds))] y fun i ρ' τ' σ' H' z => ?_⟩
    obtain ⟨p', xs', ev', sq', Fe, Ft, z', rs⟩ := lv_tup (τ := τ') z
    have ep : p' = p := by rw [ev] at ev'; cases ev'; rfl
    subst ep
    refine ⟨fun hn => ⟨xs', sq', by rw [rs.len]; exact List.getElem?_eq_none_iff.mp (shs_none hn)⟩, fun o' ho' => ?_⟩
    obtain ⟨d, hd, rfl⟩ := shs_some ho'
    obtain ⟨w, hw, rw'⟩ := rs.get hd
    refine ⟨⟨xs', w, sq', hw⟩, fun x H'' ⟨eH, hx⟩ => ?_⟩
    subst eH
    have ex := hx xs' sq'
    rw [hw] at ex; cases ex
    exact z'.pushR rw'⟩
/-- range -/
def rngL (lo : Int) : Nat → List OT
  | 0 => []
  | n + 1 => oI lo :: rngL (lo + 1) n
theorem rngL_get : ∀ (n : Nat) (lo : Int) (i : Nat), (rngL lo n)[i]? = if i < n then some (oI (lo + i)) else none
  | 0, lo, i => by simp [rngL]
  | n + 1, lo, 0 => by simp [rngL]
  | n + 1, lo, i + 1 => by
    have := rngL_get n (lo + 1) i
    simp only [rngL, List.getElem?_cons_succ, this, Nat.add_lt_add_iff_right]
    split
    · rw [show lo + 1 + (i : Int) = lo + ((i + 1 : Nat) : Int) by omega]
    · rfl
theorem iv_rngJ {lo : Int} {n : Nat} {R : It → Hp → Prop} (x : State K G ρ τ σ H) (q : ∀ J H1 α, State K G ρ (α ++ τ) σ H1 → (∀ i ρ' τ' σ' H', State K G ρ' (α ++ τ') σ' H' → ((rngL lo n)[i]? = none → J.stop i H') ∧
    (∀ o, (rngL lo n)[i]? = some o → J.go i H' ∧ ∀ x H'', J.yld i H' x H'' → State K G ρ' ((x, o) :: (α ++ τ')) σ' H'')) → R J H1) : R (Itr lo n) H := by
  refine q (Itr lo n) H [] x fun i ρ' τ' σ' H' z => ⟨fun hn => ?_, fun o ho => ?_⟩
  · rw [rngL_get] at hn
    split at hn
    · cases hn
    · show n ≤ i; omega
  · rw [rngL_get] at ho
    split at ho
    · cases ho
      refine ⟨by assumption, fun x H'' ⟨e1, e2⟩ => ?_⟩
      subst e1 e2
      exact z.pI _
    · cases ho
def R62 (z : Int) : Prop := -(2 ^ 62) ≤ z ∧ z < 2 ^ 62
theorem iv_range (cn : Cn X N sc vi li gs bs k) (j : Nat) {p : Pos} (h : Ev X G ρ e (isI fun z ρ1 => R62 z ∧ Ξ (rngL 0 z.toNat) ρ1)) (hj : bs[j]? = some ("range" : Str) := by rfl) (he : NoStar e := by exact fun _ _ => rfl) :
    Iv X G ρ tg (.Call (.Name "range" p) [e] [] pos) Ξ :=
  pi_imp (pi_range1 (cn.bg j hj) (cn.bm j hj) (pa_cons h pa_nil (he _ _)) (he _ _)) fun σ H R ⟨τ, x, q⟩ => ⟨τ, x, fun o ρ1 ⟨z, eo, hz, hp⟩ v H1 y => by
    subst eo
    exact ⟨z, by rw [y.headI], hz.1, hz.2, iv_rngJ y.drop (q _ _ hp)⟩⟩
theorem iv_range2 (cn : Cn X N sc vi li gs bs k) (j : Nat) {p : Pos} (h : Ev X G ρ a (isI fun y ρ1 => Ev X G ρ1 b (isI fun z ρ2 => R62 y ∧ R62 z ∧ Ξ (rngL y (z - y).toNat) ρ2))) (hj : bs[j]? = some ("range" : Str) := by rfl) (he : NoStar a := by exact fun _ _ => rfl) (hb' : NoStar b := by exact fun _ _ => rfl) :
    Iv X G ρ tg (.Call (.Name "range" p) [a, b] [] pos) Ξ :=
  pi_imp (pi_range2 (cn.bg j hj) (cn.bm j hj) (pa_cons h (pa_cons (pe_dyn (G := G)) pa_nil (hb' _ _)) (he _ _)) (by rw [he, hb']; rfl) (hb' _ _)) fun σ H R ⟨τ, x, q⟩ => ⟨τ, x, fun o ρ1 ⟨y, eo, hb⟩ v H1 w => by
    subst eo
    exact ⟨ρ1, _, hb, _, w, fun o2 ρ2 ⟨z, eo2, hy, hz, hp⟩ u H2 w2 => by
      subst eo2
      exact ⟨y, z, by rw [w2.headI, w2.drop.headI], ⟨hy.1, hy.2, hz.1, hz.2⟩, iv_rngJ w2.drop.drop (q _ _ hp)⟩⟩⟩
end
end Pd
set_option Elab.async false
set_option linter.all false
set_option maxRecDepth 100000
set_option autoImplicit false
namespace Pd
open PySem PySem.Spec PyProof.Rows L2

def Slot.put : Slot → OT → Slot
  | .un, _ => .un
  | .val _, o => .val o
  | .bor k _, o => .bor k o
def SubP (F F' : List Addr) : Prop := ∃ p, F.Sublist p ∧ p.Perm F'
theorem SubP.mem {F F' : List Addr} (h : SubP F F') : ∀ a ∈ F, a ∈ F' := fun a m => by
  obtain ⟨p, s, q⟩ := h
  exact q.mem_iff.mp (s.subset m)
theorem SubP.nodup {F F' : List Addr} (h : SubP F F') (n : F'.Nodup) : F.Nodup := by
  obtain ⟨p, s, q⟩ := h
  exact (q.nodup_iff.mpr n).sublist s
theorem SubP.refl (F : List Addr) : SubP F F := ⟨F, .refl _, .refl _⟩
theorem SubP.of {F F' : List Addr} (h : F.Sublist F') : SubP F F' := ⟨F', h, .refl _⟩
theorem SubP.perm {F F' : List Addr} (h : F.Perm F') : SubP F F' := ⟨F, .refl _, h⟩

theorem perm_swap3 {α : Type} (A B C : List α) : (A ++ (B ++ C)).Perm (B ++ (A ++ C)) := by
  rw [← List.append_assoc, ← List.append_assoc]
  exact List.Perm.append List.perm_append_comm (.refl _)
/-! a node that is written: a list, a dict -/
def hoN : Option (List Key) → List V → HO
  | none, xs => .lst xs
  | some ks, xs => .dK (List.zip ks xs)
def lnN : Option (List Key) → Nat → Prop
  | none, _ => True
  | some ks, n => ks.length = n
inductive IsN : OT → Option (List Key) → List OT → Prop
  | ls (ds : List PyData) : IsN (.ls ds) none (ds.map .sh)
  | dc (kvs : List (Key × PyData)) : IsN (.dc kvs) (some (kvs.map (·.1))) ((kvs.map (·.2)).map .sh)
  | lst (os : List OT) : IsN (.lst os) none os
  | dic (ks : List Key) (os : List OT) : IsN (.dic ks os) (some ks) os

section
variable {K : PySem.W.Frag} {G : Gx} {H H' : Hp} {O O' M : Addr → Prop} {ρ : List Slot} {τ : List (V × OT)} {σ : L2.St}
theorem IsN.rep {o : OT} {kd : Option (List Key)} {os : List OT} {v : V} {F : List Addr} (n : IsN o kd os) (r : RepO K H O o v F) : ∃ a xs F', v = .ref a ∧ H a = some (hoN kd xs) ∧ lnN kd os.length ∧ RepOs K H O os xs F' ∧ F = a :: F' := by
  cases n with
  | ls ds => obtain ⟨a, xs, e, h, q, ef⟩ := r; exact ⟨a, xs, [], e, h, True.intro, Rps.os q, ef⟩
  | dc kvs => obtain ⟨a, xs, e, h, q, ef⟩ := r; exact ⟨a, xs, [], e, h, by show (kvs.map (·.1)).length = _; simp, Rps.os q, ef⟩
  | lst os => obtain ⟨a, xs, F', e, h, q, ef⟩ := r; exact ⟨a, xs, F', e, h, True.intro, q, ef⟩
  | dic ks os => obtain ⟨a, xs, F', e, h, l, q, ef⟩ := r; exact ⟨a, xs, F', e, h, l, q, ef⟩
theorem IsN.of {o : OT} {kd : Option (List Key)} {os : List OT} {F : List Addr} {a : Addr} {xs : List V} (n : IsN o kd os) (h : H a = some (hoN kd xs)) (l : lnN kd os.length) (q : RepOs K H O os xs F) : RepO K H O o (.ref a) (a :: F) := by
  cases n with
  | ls ds => obtain ⟨q, e⟩ := RepOs.sh q; exact ⟨a, xs, rfl, h, q, by rw [e]⟩
  | dc kvs => obtain ⟨q, e⟩ := RepOs.sh q; exact ⟨a, xs, rfl, h, q, by rw [e]⟩
  | lst os => exact ⟨a, xs, F, rfl, h, q, rfl⟩
  | dic ks os => exact ⟨a, xs, F, rfl, h, l, q, rfl⟩
theorem upd_stnM {a : Addr} {u : HO} : Stn (fun b => b = a) H (upd H a u) := fun b w e n => by rw [upd_ne n]; exact e
theorem mut_at {a : Addr} {kd : Option (List Key)} {xs : List V} (h : H a = some (hoN kd xs)) : MutAt (fun b => b = a) H := fun b e ys => by
  have e : b = a := e
  rw [e, h]
  cases kd <;> exact ⟨(fun z => nomatch z), fun _ _ z => nomatch z⟩
/-- the j-th item, and the rest with another in its place -/
theorem RepOs.at : ∀ {os : List OT} {j : Nat} {o : OT} {xs : List V} {F : List Addr}, RepOs K H O os xs F → os[j]? = some o →
    ∃ w A Fj B, F = A ++ (Fj ++ B) ∧ xs[j]? = some w ∧ RepO K H O o w Fj ∧
      ∀ (H' : Hp) (O' M : Addr → Prop), Stn M H H' → MutAt M H → (∀ a, M a → O a) → (∀ a, O' a → O a ∨ H a = none) → (∀ a ∈ A ++ B, ¬ M a) →
        ∀ o' w' Fj', RepO K H' O' o' w' Fj' → RepOs K H' O' (os.set j o') (xs.set j w') (A ++ (Fj' ++ B))
  | [], j, o, _, _, _, h => by simp at h
  | y :: os, 0, o, _, F, ⟨w, xs, F1, F2, e, h1, h2, ef⟩, h => by
    have hx : y = o := by simpa using h
    subst hx e
    exact ⟨w, [], F1, F2, ef, rfl, h1, fun H' O' M s m hm ho n o' w' Fj' r => ⟨w', xs, Fj', F2, rfl, r, RepOs.stn s m hm ho os xs F2 n h2, rfl⟩⟩
  | y :: os, j + 1, o, _, F, ⟨w, xs, F1, F2, e, h1, h2, ef⟩, h => by
    have hx : os[j]? = some o := by simpa using h
    obtain ⟨w0, A, Fj, B, e2, e3, r0, nx⟩ := RepOs.at h2 hx
    subst e
    refine ⟨w0, F1 ++ A, Fj, B, by rw [ef, e2, List.append_assoc], by simpa using e3, r0, fun H' O' M s m hm ho n o' w' Fj' r => ?_⟩
    refine ⟨w, xs.set j w', F1, A ++ (Fj' ++ B), rfl, RepO.stn s m hm ho y w F1 (fun a ha => n a (by simp [ha])) h1, nx H' O' M s m hm ho (fun a ha => n a (by
      rw [List.mem_append] at ha
      rcases ha with ha | ha <;> simp [ha])) o' w' Fj' r, by rw [List.append_assoc]⟩
/-- n stands within o, re puts another in its place; pth: how it is found -/
def HoleV (o n : OT) (re : OT → OT) (pth : Hp → List Addr → V → V → Prop) : Prop := ∀ (K : PySem.W.Frag) (H : Hp) (O : Addr → Prop) (v : V) (F : List Addr), RepO K H O o v F →
  ∃ w A Fj B, F = A ++ (Fj ++ B) ∧ RepO K H O n w Fj ∧ pth H F v w ∧ ∀ (H' : Hp) (O' M : Addr → Prop), Stn M H H' → MutAt M H → (∀ a, M a → O a) → (∀ a, O' a → O a ∨ H a = none) → (∀ a ∈ A ++ B, ¬ M a) →
    ∀ n' F', RepO K H' O' n' w F' → RepO K H' O' (re n') v (A ++ (F' ++ B))
theorem hole_id {o : OT} : HoleV o o (fun n => n) (fun _ _ v w => v = w) := fun K H O v F r => ⟨v, [], F, [], by simp, r, rfl, fun H' O' M s m hm ho n n' F' r' => by simpa using r'⟩
def AtJ (j n : Nat) (H : Hp) (F : List Addr) (v w : V) : Prop := ∃ a xs, v = .ref a ∧ ((H a = some (.lst xs) ∧ a ∈ F) ∨ H a = some (.tup xs)) ∧ xs.length = n ∧ xs[j]? = some w
theorem hole_lst {os : List OT} {j : Nat} {n : OT} (h : os[j]? = some n) : HoleV (.lst os) n (fun n' => .lst (os.set j n')) (AtJ j os.length) := fun K H O v F ⟨a, xs, F', e, hh, q, ef⟩ => by
  obtain ⟨w, A, Fj, B, e2, hw, r, nx⟩ := q.at h
  refine ⟨w, a :: A, Fj, B, by rw [ef, e2]; rfl, r, ⟨a, xs, e, .inl ⟨hh, by rw [ef]; exact List.mem_cons_self⟩, q.len, hw⟩, fun H' O' M s m hm ho n n' F' r' => ⟨a, xs, A ++ (F' ++ B), e, s a _ hh (n a (by simp)), ?_, rfl⟩⟩
  have z := nx H' O' M s m hm ho (fun b hb => n b (by simp at hb ⊢; rcases hb with hb | hb <;> simp [hb])) n' w F' r'
  rw [set_self hw] at z
  exact z
theorem hole_tup {os : List OT} {j : Nat} {n : OT} (h : os[j]? = some n) : HoleV (.tup os) n (fun n' => .tup (os.set j n')) (AtJ j os.length) := fun K H O v F ⟨a, xs, e, hh, q⟩ => by
  obtain ⟨w, A, Fj, B, e2, hw, r, nx⟩ := q.at h
  refine ⟨w, A, Fj, B, e2, r, ⟨a, xs, e, .inr hh, q.len, hw⟩, fun H' O' M s m hm ho n n' F' r' => ⟨a, xs, e, s _ _ hh fun z => (m a z xs).1 hh, ?_⟩⟩
  have z := nx H' O' M s m hm ho n n' w F' r'
  rw [set_self hw] at z
  exact z
theorem SlRep.holds {s : Slot} {o : OT} {w : Option V} {Fi : List Addr} (hh : Holds s o) (r0 : SlRep K G H O s w Fi) : ∃ v, w = some v ∧ RepO K H O o v Fi ∧ (∀ (H' : Hp) (O' : Addr → Prop) (o' : OT) (F' : List Addr), RepO K H' O' o' v F' → SlRep K G H' O' (s.put o') w F') := by
  cases hh with
  | val o =>
    obtain ⟨v, ew, r⟩ := r0
    subst ew
    exact ⟨v, rfl, r, fun H' O' o' F' r' => ⟨_, rfl, r'⟩⟩
  | bor k o =>
    obtain ⟨a, e1, ew, r⟩ := r0
    subst ew
    exact ⟨_, rfl, r, fun H' O' o' F' r' => ⟨a, e1, rfl, r'⟩⟩

/-- a node within slot i is written, out of its items and the head values -/
theorem State.mutH {i : Nat} {s : Slot} {o n : OT} {re : OT → OT} {pth : Hp → List Addr → V → V → Prop} {kd : Option (List Key)} {os0 os : List OT} {vs : List V} (x : State K G ρ (vs.zip os ++ τ) σ H) (hl : vs.length = os.length) (hi : ρ[i]? = some s) (hh : Holds s o) (hv : HoleV o n re pth) (n0 : IsN n kd os0) :
    ∃ v a xs Fi, σ[i]? = some (some v) ∧ pth H Fi v (.ref a) ∧ H a = some (hoN kd xs) ∧ lnN kd os0.length ∧ (∃ O F, RepOs K H O os0 xs F) ∧ ∀ (kd' : Option (List Key)) (n1 : OT) (os1 : List OT) (ys : List V), IsN n1 kd' os1 → lnN kd' os1.length →
      (∀ O F Fc, RepOs K (upd H a (hoN kd' ys)) O os0 xs F → RepOs K (upd H a (hoN kd' ys)) O os vs Fc → ∃ F1, RepOs K (upd H a (hoN kd' ys)) O os1 ys F1 ∧ SubP F1 (F ++ Fc)) →
      State K G (ρ.set i (s.put (re n1))) τ σ (upd H a (hoN kd' ys)) := by
  obtain ⟨Fe, Ft, x⟩ := x
  have tm := x.tm
  obtain ⟨Fc, F2, h1, h2, ef⟩ := TmRep.split hl tm
  have en := x.en
  have nd := x.nd
  have fr := x.fr
  have live := x.live
  subst ef
  obtain ⟨w, A0, Fi, B0, eF, eσ, r0, nx⟩ := EnRep.at en hi
  subst eF
  obtain ⟨v, ew, r, back⟩ := SlRep.holds hh r0
  subst ew
  obtain ⟨w, A1, Fj, B1, eFi, rn, hp, nx1⟩ := hv _ _ _ _ _ r
  obtain ⟨a, xs, F', ea, ha, ln, rs, ef⟩ := n0.rep rn
  subst ea ef eFi
  refine ⟨v, a, xs, _, eσ, hp, ha, ln, ⟨_, F', rs⟩, fun kd' n1 os1 ys hn1 l1 hr => ?_⟩
  -- a is in no other footprint
  have eAll : (A0 ++ ((A1 ++ ((a :: F') ++ B1)) ++ B0)) ++ (Fc ++ F2) = (A0 ++ A1) ++ ((a :: F') ++ ((B1 ++ B0) ++ (Fc ++ F2))) := by simp [List.append_assoc]
  have nd' : ((A0 ++ A1) ++ ((a :: F') ++ ((B1 ++ B0) ++ (Fc ++ F2)))).Nodup := by rw [← eAll]; exact nd
  have pm0 : ((A0 ++ A1) ++ ((a :: F') ++ ((B1 ++ B0) ++ (Fc ++ F2)))).Perm (a :: ((A0 ++ A1) ++ (F' ++ ((B1 ++ B0) ++ (Fc ++ F2))))) := List.perm_middle
  have na : a ∉ (A0 ++ A1) ++ (F' ++ ((B1 ++ B0) ++ (Fc ++ F2))) := (List.nodup_cons.mp (pm0.nodup_iff.mp nd')).1
  simp only [List.mem_append, not_or] at na
  obtain ⟨⟨nA0, nA1⟩, nF, ⟨nB1, nB0⟩, nC, n2⟩ := na
  have st := upd_stnM (H := H) (a := a) (u := hoN kd' ys)
  have mt := mut_at ha
  have memA : a ∈ (A0 ++ ((A1 ++ ((a :: F') ++ B1)) ++ B0)) ++ (Fc ++ F2) := by simp
  have hm : ∀ b, (fun b => b = a) b → ownd G ((A0 ++ ((A1 ++ ((a :: F') ++ B1)) ++ B0)) ++ (Fc ++ F2)) b := fun b e => .inr (by rw [show b = a from e]; exact memA)
  have rs' := RepOs.stn (O' := ownd G ((A0 ++ ((A1 ++ ((a :: F') ++ B1)) ++ B0)) ++ (Fc ++ F2))) st mt hm (fun b z => .inl z) os0 xs F' (fun b hb (e : b = a) => nF (e ▸ hb)) rs
  have rc' := RepOs.stn (O' := ownd G ((A0 ++ ((A1 ++ ((a :: F') ++ B1)) ++ B0)) ++ (Fc ++ F2))) st mt hm (fun b z => .inl z) os vs Fc (fun b hb (e : b = a) => nC (e ▸ hb)) h1
  obtain ⟨F1, r1, sp⟩ := hr _ F' Fc rs' rc'
  have sp2 : SubP ((A0 ++ ((A1 ++ ((a :: F1) ++ B1)) ++ B0)) ++ F2) ((A0 ++ ((A1 ++ ((a :: F') ++ B1)) ++ B0)) ++ (Fc ++ F2)) := by
    obtain ⟨p, s1, p1⟩ := sp
    refine ⟨(A0 ++ ((A1 ++ ((a :: p) ++ B1)) ++ B0)) ++ F2, ?_, ?_⟩
    · exact List.Sublist.append (List.Sublist.append (.refl _) (List.Sublist.append (List.Sublist.append (.refl _) (List.Sublist.append (List.Sublist.cons_cons _ s1) (.refl _))) (.refl _))) (.refl _)
    · have e1 : (A0 ++ ((A1 ++ ((a :: p) ++ B1)) ++ B0)) ++ F2 = ((A0 ++ A1) ++ [a]) ++ (p ++ ((B1 ++ B0) ++ F2)) := by simp [List.append_assoc]
      have e2 : (A0 ++ ((A1 ++ ((a :: F') ++ B1)) ++ B0)) ++ (Fc ++ F2) = ((A0 ++ A1) ++ [a]) ++ (F' ++ ((B1 ++ B0) ++ (Fc ++ F2))) := by simp [List.append_assoc]
      rw [e1, e2]
      refine List.Perm.append (.refl _) ?_
      refine (List.Perm.append p1 (.refl _)).trans ?_
      rw [List.append_assoc]
      exact List.Perm.append (.refl _) (perm_swap3 _ _ _)
  have sub := sp2.mem
  refine ⟨A0 ++ ((A1 ++ ((a :: F1) ++ B1)) ++ B0), F2, ?_, ?_, sp2.nodup nd, fun b hb => fr b (sub b hb), fun b hb => ?_, fun b u e hB => ?_⟩
  · have rn' := nx1 (upd H a (hoN kd' ys)) (ownd G ((A0 ++ ((A1 ++ ((a :: F1) ++ B1)) ++ B0)) ++ F2)) (fun b => b = a) st mt hm (fun b z => .inl (ownd_sub sub b z)) (fun b hb (e : b = a) => by
      rw [List.mem_append] at hb
      exact hb.elim (fun z => nA1 (e ▸ z)) fun z => nB1 (e ▸ z)) n1 (a :: F1) (hn1.of upd_same l1 (RepOs.shr (ownd_sub sub) r1))
    have z := nx (upd H a (hoN kd' ys)) (ownd G ((A0 ++ ((A1 ++ ((a :: F1) ++ B1)) ++ B0)) ++ F2)) (fun b => b = a) st mt hm (fun b z => .inl (ownd_sub sub b z)) (fun b hb (e : b = a) => by
      rw [List.mem_append] at hb
      exact hb.elim (fun z => nA0 (e ▸ z)) fun z => nB0 (e ▸ z)) (s.put (re n1)) (some v) _ (back _ _ _ _ rn')
    rw [set_self eσ] at z
    exact z
  · exact TmRep.stn st mt hm (fun b z => .inl (ownd_sub sub b z)) τ F2 (fun b hb (e : b = a) => n2 (e ▸ hb)) h2
  · by_cases e : b = a
    · rw [e, upd_same]; exact fun z => nomatch z
    · rw [upd_ne e]; exact x.oo b hb
  · by_cases e2 : b = a
    · rcases (fr a memA).2 with z | z
      · rw [e2, z] at e; cases e
      · exact absurd (e2 ▸ z) hB
    · rw [upd_ne e2]; exact x.sm b u e hB
/-- a node at the head is written -/
theorem State.mutT {n : OT} {v : V} {kd : Option (List Key)} {os0 os : List OT} {vs : List V} (x : State K G ρ (vs.zip os ++ (v, n) :: τ) σ H) (hl : vs.length = os.length) (n0 : IsN n kd os0) :
    ∃ a xs, v = .ref a ∧ H a = some (hoN kd xs) ∧ lnN kd os0.length ∧ (∃ O F, RepOs K H O os0 xs F) ∧ ∀ (kd' : Option (List Key)) (n1 : OT) (os1 : List OT) (ys : List V), IsN n1 kd' os1 → lnN kd' os1.length →
      (∀ O F Fc, RepOs K (upd H a (hoN kd' ys)) O os0 xs F → RepOs K (upd H a (hoN kd' ys)) O os vs Fc → ∃ F1, RepOs K (upd H a (hoN kd' ys)) O os1 ys F1 ∧ SubP F1 (F ++ Fc)) →
      State K G ρ ((v, n1) :: τ) σ (upd H a (hoN kd' ys)) := by
  obtain ⟨Fe, Ft, x⟩ := x
  have tm := x.tm
  obtain ⟨Fc, F2, h1, ⟨Fj, F3, rn, h3, ef3⟩, ef⟩ := TmRep.split hl tm
  have en := x.en
  have nd := x.nd
  have fr := x.fr
  have live := x.live
  obtain ⟨a, xs, F', ea, ha, ln, rs, ef4⟩ := n0.rep rn
  subst ea ef4 ef3 ef
  refine ⟨a, xs, rfl, ha, ln, ⟨_, F', rs⟩, fun kd' n1 os1 ys hn1 l1 hr => ?_⟩
  have eAll : Fe ++ (Fc ++ ((a :: F') ++ F3)) = (Fe ++ Fc) ++ ((a :: F') ++ F3) := by simp [List.append_assoc]
  have nd' : ((Fe ++ Fc) ++ ((a :: F') ++ F3)).Nodup := by rw [← eAll]; exact nd
  have pm0 : ((Fe ++ Fc) ++ ((a :: F') ++ F3)).Perm (a :: ((Fe ++ Fc) ++ (F' ++ F3))) := List.perm_middle
  have na : a ∉ (Fe ++ Fc) ++ (F' ++ F3) := (List.nodup_cons.mp (pm0.nodup_iff.mp nd')).1
  simp only [List.mem_append, not_or] at na
  obtain ⟨⟨nE, nC⟩, nF, n3⟩ := na
  have st := upd_stnM (H := H) (a := a) (u := hoN kd' ys)
  have mt := mut_at ha
  have memA : a ∈ Fe ++ (Fc ++ ((a :: F') ++ F3)) := by simp
  have hm : ∀ b, (fun b => b = a) b → ownd G (Fe ++ (Fc ++ ((a :: F') ++ F3))) b := fun b e => .inr (by rw [show b = a from e]; exact memA)
  have rs' := RepOs.stn (O' := ownd G (Fe ++ (Fc ++ ((a :: F') ++ F3)))) st mt hm (fun b z => .inl z) os0 xs F' (fun b hb (e : b = a) => nF (e ▸ hb)) rs
  have rc' := RepOs.stn (O' := ownd G (Fe ++ (Fc ++ ((a :: F') ++ F3)))) st mt hm (fun b z => .inl z) os vs Fc (fun b hb (e : b = a) => nC (e ▸ hb)) h1
  obtain ⟨F1, r1, sp⟩ := hr _ F' Fc rs' rc'
  have sp2 : SubP (Fe ++ ((a :: F1) ++ F3)) (Fe ++ (Fc ++ ((a :: F') ++ F3))) := by
    obtain ⟨p, s1, p1⟩ := sp
    refine ⟨Fe ++ ((a :: p) ++ F3), List.Sublist.append (.refl _) (List.Sublist.append (List.Sublist.cons_cons _ s1) (.refl _)), List.Perm.append (.refl _) ?_⟩
    have e2 : (Fc ++ ((a :: F') ++ F3)) = ((Fc ++ (a :: F')) ++ F3) := by simp [List.append_assoc]
    rw [e2]
    refine List.Perm.append ?_ (.refl _)
    exact ((List.Perm.cons a p1).trans (List.Perm.cons a List.perm_append_comm)).trans (List.perm_middle.symm)
  have sub := sp2.mem
  refine ⟨Fe, (a :: F1) ++ F3, ?_, ⟨a :: F1, F3, hn1.of upd_same l1 (RepOs.shr (ownd_sub sub) r1), ?_, rfl⟩, sp2.nodup nd, fun b hb => fr b (sub b hb), fun b hb => ?_, fun b u e hB => ?_⟩
  · exact EnRep.stn st mt hm (fun b z => .inl (ownd_sub sub b z)) ρ σ Fe (fun b hb (e : b = a) => nE (e ▸ hb)) en
  · exact TmRep.stn st mt hm (fun b z => .inl (ownd_sub sub b z)) τ F3 (fun b hb (e : b = a) => n3 (e ▸ hb)) h3
  · by_cases e : b = a
    · rw [e, upd_same]; exact fun z => nomatch z
    · rw [upd_ne e]; exact x.oo b hb
  · by_cases e2 : b = a
    · rcases (fr a memA).2 with z | z
      · rw [e2, z] at e; cases e
      · exact absurd (e2 ▸ z) hB
    · rw [upd_ne e2]; exact x.sm b u e hB

theorem RepOs.app : ∀ {os os' : List OT} {xs ys : List V} {F F' : List Addr}, RepOs K H O os xs F → RepOs K H O os' ys F' → RepOs K H O (os ++ os') (xs ++ ys) (F ++ F')
  | [], _, _, _, _, _, ⟨e1, e2⟩, h => by subst e1 e2; exact h
  | o :: os, _, _, ys, _, F', ⟨v, vs, F1, F2, e1, r1, r2, e2⟩, h => by
    subst e1 e2
    exact ⟨v, vs ++ ys, F1, F2 ++ F', rfl, r1, RepOs.app r2 h, by rw [List.append_assoc]⟩
theorem RepOs.erase : ∀ {os : List OT} {xs : List V} {F : List Addr} (j : Nat), RepOs K H O os xs F → ∃ F', RepOs K H O (os.eraseIdx j) (xs.eraseIdx j) F' ∧ F'.Sublist F
  | [], _, _, j, ⟨e1, e2⟩ => by subst e1 e2; exact ⟨[], ⟨by simp, by simp⟩, .refl _⟩
  | o :: os, _, _, 0, ⟨v, vs, F1, F2, e1, r1, r2, e2⟩ => by
    subst e1 e2
    exact ⟨F2, r2, List.sublist_append_right _ _⟩
  | o :: os, _, _, j + 1, ⟨v, vs, F1, F2, e1, r1, r2, e2⟩ => by
    subst e1 e2
    obtain ⟨F', r, s⟩ := RepOs.erase j r2
    exact ⟨F1 ++ F', ⟨v, vs.eraseIdx j, F1, F', rfl, r1, r, rfl⟩, List.Sublist.append (.refl _) s⟩
/-- the j-th item exchanged -/
theorem RepOs.put {os : List OT} {xs : List V} {F F1 : List Addr} {j : Nat} {o : OT} {w : V} (r : RepOs K H O os xs F) (hj : j < os.length) (r1 : RepO K H O o w F1) : ∃ F', RepOs K H O (os.set j o) (xs.set j w) F' ∧ SubP F' (F ++ F1) := by
  obtain ⟨w0, A, Fj, B, ef, _, _, nx⟩ := r.at (List.getElem?_eq_getElem hj)
  refine ⟨A ++ (F1 ++ B), nx H O (fun _ => False) (fun _ _ e _ => e) (fun _ z => z.elim) (fun _ z => z.elim) (fun a z => .inl z) (fun _ _ z => z) o w F1 r1, ?_⟩
  rw [ef]
  refine ⟨A ++ (F1 ++ (Fj ++ B)), List.Sublist.append (.refl _) (List.Sublist.append (.refl _) (List.sublist_append_right _ _)), ?_⟩
  rw [List.append_assoc]
  exact List.Perm.append (.refl _) List.perm_append_comm

/-! frames: slot i set aside while something else is reckoned -/
def Gx.frame (G : Gx) (H : Hp) (Fi B : List Addr) : Gx := ⟨H, fun a => G.Oo a ∨ a ∈ Fi, B, G.bs⟩
theorem SlRep.gx {G' : Gx} (h : G'.bs = G.bs) {s : Slot} {w : Option V} {F : List Addr} (r : SlRep K G H O s w F) : SlRep K G' H O s w F := by
  cases s with
  | un => exact r
  | val o => exact r
  | bor k o => obtain ⟨a, e, q⟩ := r; exact ⟨a, by rw [h]; exact e, q⟩
theorem EnRep.gx {G' : Gx} (h : G'.bs = G.bs) : ∀ {ρ : List Slot} {σ : L2.St} {F : List Addr}, EnRep K G H O ρ σ F → EnRep K G' H O ρ σ F
  | [], _, _, r => r
  | s :: ρ, _, _, ⟨w, σ', F1, F2, e, r, r2, ef⟩ => ⟨w, σ', F1, F2, e, r.gx h, EnRep.gx h r2, ef⟩
theorem perm_mid {α : Type} (A Fi B Ft : List α) : ((A ++ (Fi ++ B)) ++ Ft).Perm (Fi ++ ((A ++ ([] ++ B)) ++ Ft)) := by
  rw [← List.append_assoc Fi]
  refine List.Perm.append ?_ (.refl _)
  rw [List.nil_append, ← List.append_assoc, ← List.append_assoc]
  exact List.Perm.append List.perm_append_comm (.refl _)
theorem State.frame {i : Nat} {s : Slot} (x : State K G ρ τ σ H) (hi : ρ[i]? = some s) : ∃ (G' : Gx) (O : Addr → Prop) (Fi : List Addr) (w : Option V), G'.bs = G.bs ∧ State K G' (ρ.set i .un) τ σ H ∧ σ[i]? = some w ∧ SlRep K G H O s w Fi ∧
    ∀ ρ1 τ1 H1, State K G' ρ1 τ1 σ H1 → ρ1[i]? = some .un → State K G (ρ1.set i s) τ1 σ H1 ∧ (∀ a ∈ Fi, H1 a = H a) ∧ ∀ a u, H a = some u → ¬ Mut (some u) → H1 a = some u := by
  obtain ⟨Fe, Ft, x⟩ := x
  have en := x.en
  have nd := x.nd
  have fr := x.fr
  have live := x.live
  have liveF := x.live
  obtain ⟨w, A, Fi, B, eF, eσ, r0, nx⟩ := EnRep.at en hi
  subst eF
  have pm := perm_mid A Fi B Ft
  have nd2 := pm.nodup_iff.mp nd
  rw [List.nodup_append] at nd2
  obtain ⟨ndi, ndr, dj⟩ := nd2
  have sub : ∀ a ∈ (A ++ ([] ++ B)) ++ Ft, a ∈ (A ++ (Fi ++ B)) ++ Ft := fun a h => pm.mem_iff.mpr (List.mem_append_right _ h)
  have subi : ∀ a ∈ Fi, a ∈ (A ++ (Fi ++ B)) ++ Ft := fun a h => by simp [h]
  have own : ∀ a, ownd (G.frame H Fi ((A ++ ([] ++ B)) ++ Ft)) ((A ++ ([] ++ B)) ++ Ft) a ↔ ownd G ((A ++ (Fi ++ B)) ++ Ft) a := fun a => by
    constructor
    · rintro ((z | z) | z)
      · exact .inl z
      · exact .inr (subi a z)
      · exact .inr (sub a z)
    · rintro (z | z)
      · exact .inl (.inl z)
      · rcases List.mem_append.mp (pm.mem_iff.mp z) with z | z
        · exact .inl (.inr z)
        · exact .inr z
  refine ⟨G.frame H Fi ((A ++ ([] ++ B)) ++ Ft), _, Fi, w, rfl, ⟨A ++ ([] ++ B), Ft, ?_, TmRep.shr (fun a z => (own a).mp z) x.tm, ndr, fun a h => ⟨?_, .inr h⟩, fun a z => ?_, fun a u e _ => e⟩, eσ, r0, ?_⟩
  · have q := nx H (ownd (G.frame H Fi ((A ++ ([] ++ B)) ++ Ft)) ((A ++ ([] ++ B)) ++ Ft)) (fun _ => False) (fun _ _ e _ => e) (fun _ z => z.elim) (fun _ z => z.elim) (fun a z => .inl ((own a).mp z)) (fun _ _ z => z) .un w [] rfl
    rw [set_self eσ] at q
    exact EnRep.gx (G := G) (G' := G.frame H Fi _) rfl q
  · rintro (z | z)
    · exact (fr a (sub a h)).1 z
    · exact dj a z a h rfl
  · rcases z with z | z
    · exact x.oo a z
    · obtain ⟨u, e, _⟩ := live a (subi a z)
      rw [e]; exact fun q => nomatch q
  · rintro ρ1 τ1 H1 ⟨Fe1, Ft1, y⟩ h1
    have keep : ∀ a ∈ Fi, H1 a = H a := fun a ha => by
      obtain ⟨u, e, _⟩ := live a (subi a ha)
      rw [e]
      exact y.sm a u e fun z => dj a ha a z rfl
    have en1 := y.en
    have nd1 := y.nd
    have fr1 := y.fr
    obtain ⟨w1, A1, Fi1, B1, eF1, eσ1, r1, nx1⟩ := EnRep.at en1 h1
    have e0 : Fi1 = [] := r1
    subst e0 eF1
    have pm1 := perm_mid A1 Fi B1 Ft1
    have st : Stn (fun a => a ∈ (A ++ ([] ++ B)) ++ Ft) H H1 := fun a u e n => y.sm a u e n
    have mt : MutAt (fun a => a ∈ (A ++ ([] ++ B)) ++ Ft) H := fun a ha ys => by
      obtain ⟨u, e, m⟩ := live a (sub a ha)
      rw [e]
      exact ⟨fun z => by cases z; exact m, fun o u' z => by cases z; exact m⟩
    have ho : ∀ a, ownd G ((A1 ++ (Fi ++ B1)) ++ Ft1) a → ownd G ((A ++ (Fi ++ B)) ++ Ft) a ∨ H a = none := fun a z => by
      rcases z with z | z
      · exact .inl (.inl z)
      · rcases List.mem_append.mp (pm1.mem_iff.mp z) with z | z
        · exact .inl (.inr (subi a z))
        · rcases (fr1 a z).2 with q | q
          · exact .inr q
          · exact .inl (.inr (sub a q))
    have own1 : ∀ a, ownd G ((A1 ++ (Fi ++ B1)) ++ Ft1) a → ownd (G.frame H Fi ((A ++ ([] ++ B)) ++ Ft)) ((A1 ++ ([] ++ B1)) ++ Ft1) a := fun a z => by
      rcases z with z | z
      · exact .inl (.inl z)
      · rcases List.mem_append.mp (pm1.mem_iff.mp z) with z | z
        · exact .inl (.inr z)
        · exact .inr z
    have rs : SlRep K G H1 (ownd G ((A1 ++ (Fi ++ B1)) ++ Ft1)) s w Fi := SlRep.stn st mt (fun a z => .inr (sub a z)) ho s w Fi (fun a ha z => dj a ha a z rfl) r0
    have ew : w1 = w := by rw [eσ] at eσ1; cases eσ1; rfl
    subst ew
    refine ⟨⟨A1 ++ (Fi ++ B1), Ft1, ?_, TmRep.shr own1 y.tm, ?_, fun a ha => ?_, fun a z => y.oo a (.inl z), fun a u e n => ?_⟩, keep, fun a u e nm => y.sm a u e fun z => ?_⟩
    · have q := nx1 H1 (ownd G ((A1 ++ (Fi ++ B1)) ++ Ft1)) (fun _ => False) (fun _ _ e _ => e) (fun _ z => z.elim) (fun _ z => z.elim) (fun a z => .inl (own1 a z)) (fun _ _ z => z) s w1 Fi (SlRep.gx (G := G) (G' := G.frame H Fi _) rfl rs)
      rw [set_self eσ1] at q
      exact EnRep.gx (G := G.frame H Fi _) (G' := G) rfl q
    · refine pm1.nodup_iff.mpr ?_
      rw [List.nodup_append]
      exact ⟨ndi, nd1, fun a ha b hb e => (fr1 b hb).1 (.inr (e ▸ ha))⟩
    · rcases List.mem_append.mp (pm1.mem_iff.mp ha) with z | z
      · exact fr a (subi a z)
      · refine ⟨fun q => (fr1 a z).1 (.inl q), ?_⟩
        rcases (fr1 a z).2 with q | q
        · have q : H a = none := q
          by_cases hb : a ∈ G.B
          · exact .inr hb
          · cases e0 : G.H0 a with
            | none => exact .inl rfl
            | some u => exact absurd (x.sm a u e0 hb) (by rw [q]; exact fun z => nomatch z)
        · exact (fr a (sub a q)).2
    · have e1 := x.sm a u e n
      by_cases hb : a ∈ (A ++ ([] ++ B)) ++ Ft
      · rcases (fr a (sub a hb)).2 with q | q
        · rw [q] at e; cases e
        · exact absurd q n
      · exact y.sm a u e1 hb
    · obtain ⟨u', e', m⟩ := live a (sub a z)
      rw [e] at e'; cases e'
      exact nm m
end
end Pd
set_option Elab.async false
set_option linter.all false
set_option maxRecDepth 100000
set_option autoImplicit false
namespace Pd
open PySem PySem.Spec PyProof.Rows L2

def wipeS (ρ : List Slot) : List Nat → List Slot
  | [] => ρ
  | v :: vs => (wipeS ρ vs).set v .un
def unwS : List Slot → List Nat → List Slot
  | ρ, [] => ρ
  | ρ, v :: vs => unwS (ρ.set v .un) vs
theorem wipe_get {σ : L2.St} {j : Nat} : ∀ {vs : List Nat}, (wipe σ vs)[j]? = if j ∈ vs then (if j < σ.length then some none else none) else σ[j]?
  | [] => by simp [wipe]
  | v :: vs => by
    have ih := @wipe_get σ j vs
    unfold wipe
    by_cases e : v = j
    · subst e
      rw [List.getElem?_set]
      simp [wipe_length]
    · rw [List.getElem?_set_ne e, ih]
      have : (j ∈ v :: vs) ↔ j ∈ vs := by simp [Ne.symm e]
      simp only [this]
theorem wipe_set {σ : L2.St} {i : Nat} {x : Option V} {vs : List Nat} (h : i ∈ vs) : wipe (σ.set i x) vs = wipe σ vs := by
  apply List.ext_getElem?
  intro j
  rw [wipe_get, wipe_get]
  by_cases hj : j ∈ vs
  · simp [hj]
  · have : i ≠ j := fun e => hj (e ▸ h)
    simp [hj, List.getElem?_set_ne this]

section
variable {K : PySem.W.Frag} {G : Gx} {H H' : Hp} {O : Addr → Prop} {ρ : List Slot} {τ : List (V × OT)} {σ : L2.St}
theorem State.forget1 {i : Nat} {w' : Option V} (x : State K G ρ τ σ H) : State K G (ρ.set i .un) τ (σ.set i w') H := by
  by_cases hi : i < ρ.length
  · obtain ⟨Fe, Ft, x⟩ := x
    have en := x.en
    have nd := x.nd
    have fr := x.fr
    obtain ⟨w, A, Fi, B, eF, eσ, r0, nx⟩ := EnRep.at en (List.getElem?_eq_getElem hi)
    subst eF
    have pm := perm_mid A Fi B Ft
    have sub : ∀ a ∈ (A ++ ([] ++ B)) ++ Ft, a ∈ (A ++ (Fi ++ B)) ++ Ft := fun a h => pm.mem_iff.mpr (List.mem_append_right _ h)
    refine ⟨A ++ ([] ++ B), Ft, nx H _ (fun _ => False) (fun _ _ e _ => e) (fun _ z => z.elim) (fun _ z => z.elim) (fun a z => .inl (ownd_sub sub a z)) (fun _ _ z => z) .un w' [] rfl, TmRep.shr (ownd_sub sub) x.tm, ?_, fun a h => fr a (sub a h), x.oo, x.sm⟩
    exact (pm.nodup_iff.mp nd).sublist (List.sublist_append_right _ _)
  · rw [List.set_eq_of_length_le (by omega), List.set_eq_of_length_le (by rw [x.len]; omega)]
    exact x
theorem State.wipe (x : State K G ρ τ σ H) : ∀ vs : List Nat, State K G (wipeS ρ vs) τ (wipe σ vs) H
  | [] => x
  | v :: vs => (State.wipe x vs).forget1
theorem State.unw : ∀ {vs : List Nat} {ρ : List Slot}, State K G ρ τ (L2.wipe σ vs) H → State K G (unwS ρ vs) τ σ H
  | [], _, x => x
  | v :: vs, ρ, x => by
    have e : ((L2.wipe σ vs).set v none).set v ((L2.wipe σ vs)[v]?.getD none) = L2.wipe σ vs := by
      rw [List.set_set]
      cases hv : (L2.wipe σ vs)[v]? with
      | none => exact List.set_eq_of_length_le (by simpa using hv)
      | some u => exact set_self (by rw [hv]; rfl)
    have y := State.forget1 (i := v) (w' := (L2.wipe σ vs)[v]?.getD none) (show State K G ρ τ ((L2.wipe σ vs).set v none) H from x)
    rw [e] at y
    exact State.unw (vs := vs) (ρ := ρ.set v .un) y
theorem TmRep.perm {l l' : List (V × OT)} (p : l.Perm l') : ∀ {F : List Addr}, TmRep K H O l F → ∃ F', TmRep K H O l' F' ∧ F'.Perm F := by
  induction p with
  | nil => exact fun {F} h => ⟨F, h, .refl _⟩
  | cons t p ih =>
    rintro F ⟨F1, F2, h1, h2, ef⟩
    obtain ⟨F', h, q⟩ := ih h2
    exact ⟨F1 ++ F', ⟨F1, F', h1, h, rfl⟩, by rw [ef]; exact List.Perm.append (.refl _) q⟩
  | swap s t l =>
    rintro F ⟨F1, _, h1, ⟨F3, F4, h3, h4, e2⟩, e⟩
    subst e2 e
    exact ⟨F3 ++ (F1 ++ F4), ⟨F3, F1 ++ F4, h3, ⟨F1, F4, h1, h4, rfl⟩, rfl⟩, perm_swap3 _ _ _⟩
  | trans p q ih1 ih2 =>
    intro F h
    obtain ⟨F1, h1, p1⟩ := ih1 h
    obtain ⟨F2, h2, p2⟩ := ih2 h1
    exact ⟨F2, h2, p2.trans p1⟩
theorem State.perm {τ' : List (V × OT)} (x : State K G ρ τ σ H) (p : τ.Perm τ') : State K G ρ τ' σ H := x.permT fun _ _ h => TmRep.perm p h
theorem RepO.lsOf {ds : List PyData} {v : V} {F : List Addr} (r : RepO K H O (.lst (ds.map .sh)) v F) : RepO K H O (.ls ds) v F := by
  obtain ⟨a, xs, F', e, h, q, ef⟩ := r
  obtain ⟨q, e2⟩ := RepOs.sh q
  exact ⟨a, xs, e, h, q, by rw [ef, e2]⟩
theorem State.lsHead {ds : List PyData} {v : V} (x : State K G ρ ((v, .lst (ds.map .sh)) :: τ) σ H) : State K G ρ ((v, .ls ds) :: τ) σ H := by
  obtain ⟨Fe, Ft, x⟩ := x
  obtain ⟨F1, F2, h1, h2, ef⟩ := x.tm
  exact ⟨Fe, Ft, x.en, ⟨F1, F2, h1.lsOf, h2, ef⟩, x.nd, x.fr, x.oo, x.sm⟩
end

/-! targets of a comprehension: they store in its own slots alone -/
def TGw (K : PySem.W.Frag) (G : Gx) (vs : List Nat) (ρ : List Slot) (o : OT) (R : PostR) : TG := fun v σ H Q => ∃ τ, State K G ρ ((v, o) :: τ) σ H ∧ ∀ ρ', R ρ' → ∀ σ' H', wipe σ' vs = wipe σ vs → State K G ρ' τ σ' H' → Q σ' H'
def TGsw (K : PySem.W.Frag) (G : Gx) (vs : List Nat) (ρ : List Slot) (os : List OT) (R : PostR) : TGs := fun ws σ H Q => ∃ τ, ws.length = os.length ∧ State K G ρ (ws.zip os ++ τ) σ H ∧ ∀ ρ', R ρ' → ∀ σ' H', wipe σ' vs = wipe σ vs → State K G ρ' τ σ' H' → Q σ' H'
def Tw (X : Cx) (G : Gx) (vs : List Nat) (ρ : List Slot) (tg : Expr) (o : OT) (R : PostR) : Prop := PG X tg (TGw X.K G vs ρ o R)
def Tws (X : Cx) (G : Gx) (vs : List Nat) (ρ : List Slot) (tgs : List Expr) (os : List OT) (R : PostR) : Prop := PGs X tgs (TGsw X.K G vs ρ os R)
section
variable {X : Cx} {N : List Str} {sc : Scope} {vi li vs : List Nat} {gs bs : List Str} {k : Nat} {G : Gx} {ρ ρ1 : List Slot} {e tg iter elt : Expr} {o : OT} {pos : Pos} {R : PostR} {x : Str}
theorem pgsw_dyn {tg : List Expr} : PGs X tg (fun v σ H Q => ∃ ρ o R, Tws X G vs ρ tg o R ∧ TGsw X.K G vs ρ o R v σ H Q) := ⟨fun pins s σ H v u Q I r ⟨ρ, o, R, h, q⟩ => PGs.run h pins s σ H v u Q I r q⟩
theorem tw_nm (c : Cn X N sc vi li gs bs k) (i : Nat) (h : R (ρ.set i (.val o))) (hx : N[i]? = some x := by rfl) (hv : li.elem i = true := by rfl) (hl : Nat.blt i ρ.length = true := by rfl) (hi : vs.elem i = true := by rfl) : Tw X G vs ρ (.Name x pos) o R :=
  pg_imp (pg_name (by rw [c.nn]; exact c.nd) (by rw [c.nn]; exact hx) (c.loc' hv hx).1 (c.loc' hv hx).2) fun v σ H Q ⟨τ, y, q⟩ => q _ h _ _ (wipe_set (List.elem_iff.mp hi)) (y.set (of_blt hl))
theorem tws_nil (h : R ρ) : Tws X G vs ρ [] [] R := pgs_imp pgs_nil fun v σ H Q ⟨τ, l, y, q⟩ => by
  have e : v = [] := List.length_eq_zero_iff.mp l
  subst e
  exact ⟨rfl, q _ h σ H rfl y⟩
theorem tws_cons {es : List Expr} {os : List OT} (h : Tw X G vs ρ e o fun ρ1 => Tws X G vs ρ1 es os R) (hs : (assignEach (e :: es) X.env).map (·.2) = assign e X.env :: (assignEach es X.env).map (·.2) := by rfl) : Tws X G vs ρ (e :: es) (o :: os) R :=
  pgs_imp (pgs_cons h (pgsw_dyn (G := G) (vs := vs)) hs) fun v σ H Q ⟨τ, l, y, q⟩ => by
    match v, l with
    | v :: ws, l => exact ⟨v, ws, rfl, ws.zip os ++ τ, y, fun ρ1 z σ' H' e1 w => ⟨ρ1, os, R, z, τ, Nat.succ.inj l, w, fun ρ2 r σ2 H2 e2 w2 => q ρ2 r σ2 H2 (e2.trans e1) w2⟩⟩
theorem tw_tup {es : List Expr} {os : List OT} {kk : Nat} (c : Cn X N sc vi li gs bs k) (h : Tws X G vs ρ es os R) (hn : (assignEach es X.env).length = os.length := by rfl) (hst : (assignEach es X.env).findIdx? (·.1) = none := by rfl) : Tw X G vs ρ (.Tuple es kk pos) (.tup os) R :=
  pg_imp (pg_tup c.cm h hn hst) fun v σ H Q ⟨τ, y, q⟩ => by
    obtain ⟨Fe, Ft, y⟩ := y
    obtain ⟨F1, F2, ⟨a, xs, ev, hq, rs⟩, h2, ef⟩ := y.tm
    refine ⟨a, xs, ev, SqT.of hq, rs.len, τ, rs.len, ⟨Fe, Ft, y.en, ?_, y.nd, y.fr, y.oo, y.sm⟩, q⟩
    have z := TmRep.ofOs rs h2
    rw [← ef] at z
    exact z
theorem tw_tupS {es : List Expr} {ds : List PyData} {kk : Nat} (c : Cn X N sc vi li gs bs k) (h : Tws X G vs ρ es (ds.map .sh) R) (hn : (assignEach es X.env).length = ds.length := by rfl) (hst : (assignEach es X.env).findIdx? (·.1) = none := by rfl) : Tw X G vs ρ (.Tuple es kk pos) (.sh (.tuple ds)) R :=
  pg_imp (pg_tup c.cm h hn hst) fun v σ H Q ⟨τ, y, q⟩ => by
    obtain ⟨Fe, Ft, y⟩ := y
    obtain ⟨F1, F2, ⟨e0, a, xs, ev, hq, rs⟩, h2, ef⟩ := y.tm
    have h3 : TmRep X.K H (ownd G (Fe ++ Ft)) (xs.zip (ds.map .sh) ++ τ) F2 := TmRep.shs rs h2
    refine ⟨a, xs, ev, hq, rs.len, τ, by rw [List.length_map]; exact rs.len, ⟨Fe, Ft, y.en, ?_, y.nd, y.fr, y.oo, y.sm⟩, q⟩
    have e : Ft = F2 := by rw [ef, e0]; rfl
    rw [← e] at h3
    exact h3

/-! tests of a comprehension -/
def Ts (X : Cx) (G : Gx) (ρ : List Slot) (ifs : List Expr) (Θ : PostB) : Prop := PTs X ifs (TTv X.K G ρ Θ)
theorem ts_nil {Θ : PostB} (h : Θ true ρ) : Ts X G ρ [] Θ := ⟨fun pins s σ H Q I ⟨τ, x, q⟩ => pts_nil.run pins s σ H Q I (q true ρ h H x)⟩
theorem ts_one {Θ : PostB} (h : Tv X G ρ e Θ) : Ts X G ρ [e] Θ := pts_one h

/-! comprehensions -/
section
variable {scope : Scope} {own : List (Str × Nat)} {ifs : List Expr} {Ψ : Post}
def TgB (X : Cx) (scope : Scope) (G : Gx) (vs : List Nat) (ρ : List Slot) (tg : Expr) (o : OT) (R : PostR) : Prop := ∀ s H C cl fp, Tw (BX X scope s H C cl fp) G vs ρ tg o R
def TsB (X : Cx) (scope : Scope) (G : Gx) (ρ : List Slot) (ifs : List Expr) (Θ : PostB) : Prop := ∀ s H C cl fp, Ts (BX X scope s H C cl fp) G ρ ifs Θ
def EvB (X : Cx) (scope : Scope) (G : Gx) (ρ : List Slot) (e : Expr) (Ψ : Post) : Prop := ∀ s H C cl fp, Ev (BX X scope s H C cl fp) G ρ e Ψ
def gB (X : Cx) (scope : Scope) (G : Gx) (vs : List Nat) (tg : Expr) : TG := fun v σ H Q => ∃ ρ o R, TgB X scope G vs ρ tg o R ∧ TGw X.K G vs ρ o R v σ H Q
def tB (X : Cx) (scope : Scope) (G : Gx) (ifs : List Expr) : TT := fun σ H Q => ∃ ρ Θ, TsB X scope G ρ ifs Θ ∧ TTv X.K G ρ Θ σ H Q
def eB (X : Cx) (scope : Scope) (G : Gx) (e : Expr) : TE := fun σ H Q => ∃ ρ Ψ, EvB X scope G ρ e Ψ ∧ TEv X.K G ρ Ψ σ H Q
/-- a turn: I says what holds with these items still to come and these made -/
def Turn1 (X : Cx) (scope : Scope) (G : Gx) (vs : List Nat) (tg elt : Expr) (ifs : List Expr) (I : List OT → List OT → List Slot → Prop) : Prop :=
  ∀ x rest acc ρ, I (x :: rest) acc ρ → TgB X scope G vs ρ tg x fun ρ2 => TsB X scope G ρ2 ifs fun b ρ3 => (b = true → EvB X scope G ρ3 elt fun o ρ4 => I rest (acc ++ [o]) (wipeS ρ4 vs)) ∧ (b = false → I rest acc (wipeS ρ3 vs))
theorem lc_wp {vs : List Nat} {I : List OT → List OT → List Slot → Prop} (ht : Turn1 X scope G vs tg elt ifs I) (hd : ∀ acc ρ, I [] acc ρ → Ψ (.lst acc) (unwS ρ vs)) {σ : L2.St} {H : Hp} {Q : VK} (h : TEv X.K G ρ Ψ σ H Q) :
    tLc (TIv X.K G ρ fun its ρ1 => its.length < 16777216 ∧ I its [] (wipeS ρ1 vs)) (gB X scope G vs tg) (tB X scope G ifs) (eB X scope G elt) vs σ H Q := by
  obtain ⟨τ, x, q⟩ := h
  refine ⟨τ, x, fun its ρ1 ⟨hz, hI⟩ J H1 α y hJ D hD => ?_⟩
  have y1 : State X.K G ρ1 (α ++ (.ref D, .lst []) :: τ) σ (upd H1 D (.lst [])) := (State.newLst (os := []) (vs := []) y rfl hD).perm (List.perm_middle.symm)
  refine ⟨fun i m H => m = its.length - i ∧ i ≤ its.length ∧ ∃ acc ρ, acc.length ≤ i ∧ I (its.drop i) acc ρ ∧ State X.K G ρ (α ++ (.ref D, .lst acc) :: τ) (wipe σ vs) H, ⟨its.length, rfl, Nat.zero_le _, [], _, Nat.le_refl _, hI, y1.wipe vs⟩, ?_⟩
  rintro i m H ⟨rfl, hin, acc, ρ, hl, hI, z⟩
  obtain ⟨j1, j2⟩ := hJ i ρ _ _ H z
  cases e : its[i]? with
  | none =>
    rw [List.drop_eq_nil_of_le (List.getElem?_eq_none_iff.mp e)] at hI
    exact .inl ⟨j1 e, q _ _ (hd acc ρ hI) _ H (State.unw z.dropA)⟩
  | some o =>
    obtain ⟨lt, eo⟩ := List.getElem?_eq_some_iff.mp e
    obtain ⟨go, yl⟩ := j2 o e
    rw [List.drop_eq_getElem_cons lt, eo] at hI
    have hsz : sizeLine = 16777216 := by rfl
    refine .inr ⟨go, fun H' => i + 1 ≤ its.length ∧ ∃ acc ρ, acc.length ≤ i + 1 ∧ I (its.drop (i + 1)) acc ρ ∧ State X.K G ρ (α ++ (.ref D, .lst acc) :: τ) (wipe σ vs) H', fun H' ⟨l, q⟩ => ⟨its.length - (i + 1), by omega, rfl, l, q⟩, fun x H' yy => ?_⟩
    refine ⟨ρ, o, _, ht o _ acc ρ hI, _, yl x H' yy, fun ρ2 hb σ2 H2 ew w => ⟨by rw [ew]; apply List.ext_getElem?; intro j; rw [wipe_get, wipe_get, wipe_length]; by_cases hj : j ∈ vs <;> simp [hj, wipe_get], ρ2, _, hb, _, w, fun b ρ3 ⟨h1, h2⟩ H3 w3 => ?_⟩⟩
    have ew2 : wipe σ2 vs = wipe σ vs := by rw [ew]; apply List.ext_getElem?; intro j; rw [wipe_get, wipe_get, wipe_length]; by_cases hj : j ∈ vs <;> simp [hj, wipe_get]
    cases b with
    | false =>
      simp only [Bool.false_eq_true, if_false]
      have z4 := w3.wipe vs
      rw [ew2] at z4
      exact ⟨lt, acc, _, by omega, h2 rfl, z4⟩
    | true =>
      simp only [if_true]
      refine ⟨ρ3, _, h1 rfl, _, w3, fun o4 ρ4 hp v H4 w4 => ?_⟩
      have w5 : State X.K G ρ4 ([v].zip [o4] ++ (.ref D, .lst acc) :: (α ++ τ)) σ2 H4 := w4.perm (List.Perm.cons _ List.perm_middle)
      obtain ⟨a, xs, ea, ha, _, ⟨_, _, rs⟩, fin⟩ := State.mutT w5 rfl (IsN.lst acc)
      cases ea
      have lx := rs.len
      refine ⟨xs, ha, by rw [lx, hsz]; omega, lt, acc ++ [o4], _, by simp; omega, hp, ?_⟩
      have w6 := (fin none (.lst (acc ++ [o4])) (acc ++ [o4]) (xs ++ [v]) (.lst _) True.intro fun O F Fc r1 r2 => ⟨F ++ Fc, RepOs.app r1 r2, SubP.refl _⟩)
      have w7 := (w6.perm (τ' := α ++ (.ref D, .lst (acc ++ [o4])) :: τ) List.perm_middle.symm).wipe vs
      rw [ew2] at w7
      exact w7
theorem ev_lc (c : Cn X N sc vi li gs bs k) (own : List (Str × Nat)) (I : List OT → List OT → List Slot → Prop) (hi : Iv X G ρ tg iter fun its ρ1 => its.length < 16777216 ∧ I its [] (wipeS ρ1 (own.map (·.2))))
    (ht : Turn1 X scope G (own.map (·.2)) tg elt ifs I) (hd : ∀ acc ρ, I [] acc ρ → Ψ (.lst acc) (unwS ρ (own.map (·.2)))) (hok : blkC N sc scope own = true) (hs : ∀ x, foldedSetIterable iter X.env x = pure x := by intro _; rfl) : Ev X G ρ (.ListComp elt [⟨tg, iter, ifs, 0⟩] scope pos) Ψ :=
  pe_imp (pe_lc c.cm (by rw [c.nn]; exact c.nd) hi (blkOk_by (by rw [c.nn, c.se]; exact hok)) (g := gB X scope G (own.map (·.2)) tg) (tt := tB X scope G ifs) (te := eB X scope G elt)
    (fun s H C cl fp => ⟨fun pins s' σ H' v u Q I r ⟨ρ, o, R, h, q⟩ => PG.run (h s H C cl fp) pins s' σ H' v u Q I r q⟩)
    (fun s H C cl fp => ⟨fun pins s' σ H' Q I ⟨ρ, Θ, h, q⟩ => PTs.run (h s H C cl fp) pins s' σ H' Q I q⟩)
    (fun s H C cl fp => ⟨fun pins s' σ H' Q I ⟨ρ, Θ, h, q⟩ => PE.run (h s H C cl fp) pins s' σ H' Q I q⟩) hs) fun σ H Q h => lc_wp ht hd h
/-- name = [..] on one line -/
theorem ex_setLc {y : Str} {py spos : Pos} {Φ : Out → Prop} (c : Cn X N sc vi li gs bs k) (i : Nat) (own : List (Str × Nat)) (I : List OT → List OT → List Slot → Prop) (hi : Iv X G ρ tg iter fun its ρ1 => its.length < 16777216 ∧ I its [] (wipeS ρ1 (own.map (·.2))))
    (ht : Turn1 X scope G (own.map (·.2)) tg elt ifs I) (hd : ∀ acc ρ, I [] acc ρ → Nat.blt i (unwS ρ (own.map (·.2))).length = true ∧ ∃ o, (o = .lst acc ∨ ∃ ds, acc = ds.map .sh ∧ o = .ls ds) ∧ Φ (.nx ((unwS ρ (own.map (·.2))).set i (.val o)))) (hok : blkC N sc scope own = true)
    (hy : N[i]? = some y := by rfl) (hyl : sc.names.lookup y = some .local := by rfl) (hsw : swapsWith (.ListComp elt [⟨tg, iter, ifs, 0⟩] scope pos) (some (.Name y py)) spos.line (env0 sc) = pure true := by rfl)
    (hs : ∀ x, foldedSetIterable iter X.env x = pure x := by intro _; rfl) : Ex X G ρ (.Assign [.Name y py] (.ListComp elt [⟨tg, iter, ifs, 0⟩] scope pos) spos) Φ := by
  refine ps_imp (ps_setLc c.cm (by rw [c.nn]; exact c.nd) (i := i) (by rw [c.nn]; exact hy) (by rw [c.se]; exact hyl) (by rw [swW_scope _ _ _ X.env (env0 sc) c.se]; exact hsw) hi (blkOk_by (by rw [c.nn, c.se]; exact hok)) (g := gB X scope G (own.map (·.2)) tg) (tt := tB X scope G ifs) (te := eB X scope G elt)
    (fun s H C cl fp => ⟨fun pins s' σ H' v u Q I r ⟨ρ, o, R, h, q⟩ => PG.run (h s H C cl fp) pins s' σ H' v u Q I r q⟩)
    (fun s H C cl fp => ⟨fun pins s' σ H' Q I ⟨ρ, Θ, h, q⟩ => PTs.run (h s H C cl fp) pins s' σ H' Q I q⟩)
    (fun s H C cl fp => ⟨fun pins s' σ H' Q I ⟨ρ, Θ, h, q⟩ => PE.run (h s H C cl fp) pins s' σ H' Q I q⟩) hs) ?_
  rintro D σ H ⟨τ, x, h1, _⟩
  refine lc_wp (Ψ := fun o ρ' => ∃ acc, o = .lst acc ∧ Nat.blt i ρ'.length = true ∧ ∃ o, (o = .lst acc ∨ ∃ ds, acc = ds.map .sh ∧ o = .ls ds) ∧ Φ (.nx (ρ'.set i (.val o)))) ht (fun acc ρ h => ⟨acc, rfl, hd acc ρ h⟩) ⟨τ, x, fun o ρ' ⟨acc, eo, hl, o2, ho2, hp⟩ v H' w => ?_⟩
  subst eo
  rcases ho2 with rfl | ⟨ds, rfl, rfl⟩
  · exact h1 _ hp _ _ (w.set (of_blt hl))
  · exact h1 _ hp _ _ (w.lsHead.set (of_blt hl))
/-- of shared data -/
theorem ev_lsOf (h : Ev X G ρ e fun o ρ1 => ∃ ds : List PyData, o = .lst (ds.map .sh) ∧ Ψ (.ls ds) ρ1) : Ev X G ρ e Ψ := pe_imp h fun σ H Q ⟨τ, x, q⟩ => ⟨τ, x, fun o ρ' ⟨ds, eo, z⟩ v H' y => by
  subst eo
  exact q _ _ z v H' y.lsHead⟩
end
end
end Pd
set_option Elab.async false
set_option linter.all false
set_option maxRecDepth 100000
set_option autoImplicit false
namespace Pd
open PySem PySem.Spec PyProof.Rows L2

/-- n and behind it o -/
inductive AppR : OT → OT → OT → Prop
  | ls {ds : List PyData} {d : PyData} (h : ds.length < 16777216) : AppR (.ls ds) (.sh d) (.ls (ds ++ [d]))
  | lst {os : List OT} {o : OT} (h : os.length < 16777216) : AppR (.lst os) o (.lst (os ++ [o]))
theorem AppR.node {n o n' : OT} (h : AppR n o n') : ∃ os0 os1, IsN n none os0 ∧ IsN n' none os1 ∧ os1 = os0 ++ [o] ∧ os0.length < 16777216 := by
  cases h with
  | ls h => exact ⟨_, _, .ls _, .ls _, by simp, by simpa using h⟩
  | lst h => exact ⟨_, _, .lst _, .lst _, rfl, h⟩
/-- what a list has -/
inductive LIt : OT → List OT → Prop
  | ls (ds : List PyData) : LIt (.ls ds) (ds.map .sh)
  | lst (os : List OT) : LIt (.lst os) os
/-- n and behind it what o has -/
inductive ExtR : OT → OT → OT → Prop
  | ls {ds es : List PyData} (h : ds.length + es.length ≤ 16777216) : ExtR (.ls ds) (.ls es) (.ls (ds ++ es))
  | lst {os ps : List OT} (h : os.length + ps.length ≤ 16777216) : ExtR (.lst os) (.lst ps) (.lst (os ++ ps))
theorem ExtR.node {n o n' : OT} (h : ExtR n o n') : ∃ os0 ps os1, IsN n none os0 ∧ LIt o ps ∧ IsN n' none os1 ∧ os1 = os0 ++ ps ∧ os0.length + ps.length ≤ 16777216 := by
  cases h with
  | ls h => exact ⟨_, _, _, .ls _, .ls _, .ls _, by simp, by simpa using h⟩
  | lst h => exact ⟨_, _, _, .lst _, .lst _, .lst _, rfl, h⟩
/-- n without its j-th item d -/
inductive PopR : OT → Nat → OT → OT → Prop
  | ls {ds : List PyData} {j : Nat} {d : PyData} (hj : ds[j]? = some d) (h : ds.length < 16777216) : PopR (.ls ds) j (.sh d) (.ls (ds.eraseIdx j))
/-- n with o in the j-th place -/
inductive SetR : OT → Nat → OT → OT → Prop
  | ls {ds : List PyData} {j : Nat} {d : PyData} (hj : j < ds.length) : SetR (.ls ds) j (.sh d) (.ls (ds.set j d))
  | lst {os : List OT} {j : Nat} {o : OT} (hj : j < os.length) : SetR (.lst os) j o (.lst (os.set j o))
theorem SetR.node {n o n' : OT} {j : Nat} (h : SetR n j o n') : ∃ os0 os1, IsN n none os0 ∧ IsN n' none os1 ∧ os1 = os0.set j o ∧ j < os0.length := by
  cases h with
  | ls h => exact ⟨_, _, .ls _, .ls _, by rw [List.map_set], by simpa using h⟩
  | lst h => exact ⟨_, _, .lst _, .lst _, rfl, h⟩
/-- an item of a list or tuple that is ours -/
inductive ItemH : OT → Nat → Nat → OT → (OT → OT) → Prop
  | lst {os : List OT} {j : Nat} {n : OT} (h : os[j]? = some n) : ItemH (.lst os) os.length j n (fun n' => .lst (os.set j n'))
  | tup {os : List OT} {j : Nat} {n : OT} (h : os[j]? = some n) : ItemH (.tup os) os.length j n (fun n' => .tup (os.set j n'))
theorem ItemH.view {o n : OT} {l j : Nat} {re : OT → OT} (h : ItemH o l j n re) : HoleV o n re (AtJ j l) := by
  cases h with
  | lst h => exact hole_lst h
  | tup h => exact hole_tup h

section
variable {X : Cx} {N : List Str} {sc : Scope} {vi li : List Nat} {gs bs : List Str} {k : Nat} {G : Gx} {ρ : List Slot} {a b c e e1 : Expr} {pos : Pos} {Φ : Out → Prop} {Ψ : Post}
variable {K : PySem.W.Frag} {H : Hp} {O : Addr → Prop} {τ : List (V × OT)} {σ : L2.St}

def TDeG (X : Cx) (e : Expr) : TE := fun σ H Q => ∃ G ρ Ψ, Ev X G ρ e Ψ ∧ TEv X.K G ρ Ψ σ H Q
theorem pe_dynG {e : Expr} : PE X e (TDeG X e) := ⟨fun pins s σ H Q I ⟨G, ρ, Ψ, h, q⟩ => PE.run h pins s σ H Q I q⟩
theorem mt_extendR : MtR X "list.extend" (fun x vs H Q => ∃ l b xs zs, x = .ref l ∧ vs = [.ref b] ∧ H l = some (.lst xs) ∧ Rd H b (.lst zs) ∧ xs.length + zs.length ≤ sizeLine ∧ Q .non (upd H l (.lst (xs ++ zs)))) := by
  intro pins s σ H x vs v us Q I rx rv h
  obtain ⟨l, b, xs, zs, e1, e2, hH, hB, hz, q⟩ := h
  subst e1 e2
  cases rx
  obtain ⟨u, e3, ru⟩ := rv.one
  subst e3
  cases ru
  obtain ⟨z, its, n, r, hl, e⟩ := I.lstM hH
  obtain ⟨z2, its2, n2, r2, e2⟩ := Rd.ok hB I.hok
  have hl2 := r2.length
  have a1 : its.toArray.size = its.length := by simp
  have a2 : its2.toArray.size = its2.length := by simp
  have hsz : its.toArray.size + its2.toArray.size ≤ sizeLine := by rw [a1, a2]; omega
  have hlong : ¬ (!its.toArray.isEmpty && Builtin.List.listTooLong (its.toArray.size + its2.toArray.size)) = true := by
    rw [notLongL hsz, Bool.and_false]
    exact fun z => nomatch z
  have s1 : its.toArray.size ≤ sizeLine := by rw [a1]; omega
  have s2 : its2.toArray.size ≤ sizeLine := by rw [a2]; omega
  refine call_meets PySem.F.slot_list_extend ⟨_, e, rfl⟩ PySem.F.entry_list_extend (PySem.F.args_list_extend_2 _ _)
    (AutoSeq1.list_extend_list_list_0 l its.toArray n b its2.toArray n2 hlong (by first | exact s1 | exact s2 | omega)
      (by first | exact s1 | exact s2 | omega)) ⟨e, e2, ?_⟩
  exact ⟨.non, _, I.lset (its' := its ++ its2) hH e (by simp) (r.append r2) (by rw [List.length_append]; omega), rfl, q⟩
/-- a list's items as temporary values -/
theorem State.items {w : V} {o : OT} {ps : List OT} (z : State K G ρ ((w, o) :: τ) σ H) (h : LIt o ps) : ∃ b zs, w = .ref b ∧ H b = some (.lst zs) ∧ zs.length = ps.length ∧ State K G ρ (zs.zip ps ++ τ) σ H := by
  obtain ⟨Fe, Ft, z⟩ := z
  obtain ⟨F1, F2, r, h2, ef⟩ := z.tm
  cases h with
  | lst os =>
    obtain ⟨b, zs, F3, ew, hb, rz, ef1⟩ := r
    refine ⟨b, zs, ew, hb, rz.len, Fe, F3 ++ F2, ?_⟩
    have sub : ∀ a ∈ Fe ++ (F3 ++ F2), a ∈ Fe ++ Ft := fun a ha => by
      rw [ef, ef1]
      simp only [List.mem_append, List.mem_cons] at ha ⊢
      rcases ha with ha | ha | ha <;> simp [ha]
    refine ⟨EnRep.shr (ownd_sub sub) z.en, TmRep.shr (ownd_sub sub) (TmRep.ofOs rz h2), ?_, fun a h => z.fr a (sub a h), z.oo, z.sm⟩
    have nd := z.nd
    rw [ef, ef1] at nd
    exact nd.sublist (List.Sublist.append (.refl _) (List.sublist_cons_self _ _))
  | ls ds =>
    obtain ⟨b, zs, ew, hb, rz, ef1⟩ := r
    have sub : ∀ a ∈ Fe ++ F2, a ∈ Fe ++ Ft := fun a ha => by
      rw [ef]
      simp only [List.mem_append] at ha ⊢
      rcases ha with ha | ha <;> simp [ha]
    refine ⟨b, zs, ew, hb, by rw [List.length_map]; exact rz.len, Fe, F2, EnRep.shr (ownd_sub sub) z.en, TmRep.shr (ownd_sub sub) (TmRep.shs rz h2), ?_, fun a h => z.fr a (sub a h), z.oo, z.sm⟩
    have nd := z.nd
    rw [ef] at nd
    exact nd.sublist (List.Sublist.append (.refl _) (List.sublist_append_right _ _))
theorem ty_list {i : Nat} {s0 : Slot} {n0 : OT} {os0 : List OT} {v : V} (y : State K G ρ τ σ H) (h0 : ρ[i]? = some s0) (hh0 : Holds s0 n0) (hn : IsN n0 none os0) (hv : σ[i]? = some (some v)) : tyV K "list" v H := by
  obtain ⟨Fe, Ft, y⟩ := y
  obtain ⟨w, F, ew, r⟩ := State.slotRep y (hat h0 hh0)
  obtain ⟨a, xs, F', e, h, _⟩ := hn.rep r
  rw [hv] at ew; cases ew
  rw [e]
  exact .inl ⟨rfl, xs, SqL.of h⟩
abbrev FewA (X : Cx) (pos : Pos) (e : Expr) : Prop := ((backTo pos (starEach [e] X.env)).all (fun x => !x.1) && (backToKw pos (keywordEach [] X.env)).all (fun x => x.1.isSome) && decide ((e :: []).length + ([] : List Keyword).length + (if ([] : List Keyword).isEmpty then 0 else 1) < 30)) = true
section
variable {x : Str} {px ap : Pos} {s0 : Slot} {n0 : OT} {os0 : List OT}
/-- NAME.append(e) -/
theorem ev_append (cn : Cn X N sc vi li gs bs k) (i : Nat) (he : Ev X G ρ e fun o ρ1 => ∃ s n n', ρ1[i]? = some s ∧ Holds s n ∧ AppR n o n' ∧ Ψ oN (ρ1.set i (s.put n')))
    (h0 : ρ[i]? = some s0 := by rfl) (hh0 : Holds s0 n0 := by constructor) (hn0 : IsN n0 none os0 := by constructor) (hx : N[i]? = some x := by rfl) (hv : vi.elem i = true := by rfl) (ns : NoStar e := by exact fun _ _ => rfl)
    (hline : (ap.endLine == pos.line) = true := by rfl) (hfew : FewA X pos e := by rfl) : Ev X G ρ (.Call (.Attribute (.Name x px) "append" ap) [e] [] pos) Ψ :=
  pe_imp (pe_bm PySem.F.plainAttrs_list PySem.F.slot_list_append PySem.F.type_list_append mt_append (pe_slot cn i hx hv) (pa_cons he pa_nil (ns _ _)) rfl hfew hline (ns _ _) rfl) fun σ H Q ⟨τ, y, q⟩ => by
    obtain ⟨v, ev⟩ := y.slotV (hat h0 hh0)
    refine ⟨v, ev, ty_list y h0 hh0 hn0 ev, τ, y, fun o ρ1 ⟨s, n, n', hρ, hh, ar, hp⟩ w H1 z => ?_⟩
    obtain ⟨os0', os1, hn, hn', e1, hz⟩ := ar.node
    obtain ⟨v', a, xs, Fi, ea, ep, ha, _, ⟨_, _, rs⟩, fin⟩ := State.mutH (os := [o]) (vs := [w]) z rfl hρ hh hole_id hn
    rw [ev] at ea; cases ea
    subst ep
    exact ⟨a, xs, w, rfl, rfl, ha, by rw [rs.len]; exact hz, q _ _ hp _ _ ((fin none n' os1 (xs ++ [w]) hn' True.intro fun O F Fc r1 r2 => ⟨F ++ Fc, by rw [e1]; exact RepOs.app r1 r2, SubP.refl _⟩).pN)⟩
/-- NAME.extend(e) -/
theorem ev_extend (cn : Cn X N sc vi li gs bs k) (i : Nat) (he : Ev X G ρ e fun o ρ1 => ∃ s n n', ρ1[i]? = some s ∧ Holds s n ∧ ExtR n o n' ∧ Ψ oN (ρ1.set i (s.put n')))
    (h0 : ρ[i]? = some s0 := by rfl) (hh0 : Holds s0 n0 := by constructor) (hn0 : IsN n0 none os0 := by constructor) (hx : N[i]? = some x := by rfl) (hv : vi.elem i = true := by rfl) (ns : NoStar e := by exact fun _ _ => rfl)
    (hline : (ap.endLine == pos.line) = true := by rfl) (hfew : FewA X pos e := by rfl) : Ev X G ρ (.Call (.Attribute (.Name x px) "extend" ap) [e] [] pos) Ψ :=
  pe_imp (pe_bm PySem.F.plainAttrs_list PySem.F.slot_list_extend PySem.F.type_list_extend mt_extendR (pe_slot cn i hx hv) (pa_cons he pa_nil (ns _ _)) rfl hfew hline (ns _ _) rfl) fun σ H Q ⟨τ, y, q⟩ => by
    obtain ⟨v, ev⟩ := y.slotV (hat h0 hh0)
    refine ⟨v, ev, ty_list y h0 hh0 hn0 ev, τ, y, fun o ρ1 ⟨s, n, n', hρ, hh, ar, hp⟩ w H1 z => ?_⟩
    obtain ⟨os0', ps, os1, hn, hl, hn', e1, hz⟩ := ar.node
    obtain ⟨b, zs, ew, hb, lz, z1⟩ := z.items hl
    obtain ⟨v', a, xs, Fi, ea, ep, ha, _, ⟨_, _, rs⟩, fin⟩ := State.mutH (os := ps) (vs := zs) z1 lz hρ hh hole_id hn
    rw [ev] at ea; cases ea
    subst ep
    exact ⟨a, b, xs, zs, rfl, by rw [ew], ha, .inl hb, by rw [rs.len, lz]; exact hz, q _ _ hp _ _ ((fin none n' os1 (xs ++ zs) hn' True.intro fun O F Fc r1 r2 => ⟨F ++ Fc, by rw [e1]; exact RepOs.app r1 r2, SubP.refl _⟩).pN)⟩
/-- NAME.pop(e) -/
theorem ev_popAt (cn : Cn X N sc vi li gs bs k) (i : Nat) (he : Ev X G ρ e (isI fun z ρ1 => ∃ (s : Slot) (n n' o : OT) (j : Nat), ρ1[i]? = some s ∧ Holds s n ∧ z = (j : Int) ∧ PopR n j o n' ∧ Ψ o (ρ1.set i (s.put n'))))
    (h0 : ρ[i]? = some s0 := by rfl) (hh0 : Holds s0 n0 := by constructor) (hn0 : IsN n0 none os0 := by constructor) (hx : N[i]? = some x := by rfl) (hv : vi.elem i = true := by rfl) (ns : NoStar e := by exact fun _ _ => rfl)
    (hline : (ap.endLine == pos.line) = true := by rfl) (hfew : FewA X pos e := by rfl) : Ev X G ρ (.Call (.Attribute (.Name x px) "pop" ap) [e] [] pos) Ψ :=
  pe_imp (pe_bm PySem.F.plainAttrs_list PySem.F.slot_list_pop PySem.F.type_list_pop mt_popAt (pe_slot cn i hx hv) (pa_cons he pa_nil (ns _ _)) rfl hfew hline (ns _ _) rfl) fun σ H Q ⟨τ, y, q⟩ => by
    obtain ⟨v, ev⟩ := y.slotV (hat h0 hh0)
    refine ⟨v, ev, ty_list y h0 hh0 hn0 ev, τ, y, fun o ρ1 ⟨z, eo, s, n, n', o2, j, hρ, hh, hj, pr, hp⟩ w H1 z1 => ?_⟩
    subst eo
    have ew := z1.headI
    have z2 := z1.drop
    cases pr with
    | @ls ds j d hd' hz =>
      have z3 : ∃ a xs u, σ[i]? = some (some (.ref a)) ∧ H1 a = some (.lst xs) ∧ xs[j]? = some u ∧ xs.length = ds.length ∧ State X.K G ρ1 ((u, .sh d) :: τ) σ H1 := by
        obtain ⟨Fe, Ft, z2⟩ := z2
        obtain ⟨v', F, eσ, a, xs, e1, ha, rs, _⟩ := State.slotRep z2 (hat hρ hh)
        obtain ⟨u, hu, ru⟩ := rs.get hd'
        subst e1
        exact ⟨a, xs, u, eσ, ha, hu, rs.len, z2.pushR ru⟩
      obtain ⟨a, xs, u, ea, ha, hu, lx, z3⟩ := z3
      obtain ⟨v', a', xs', Fi, ea', ep, ha', _, _, fin⟩ := State.mutH (os := []) (vs := []) (τ := (u, .sh d) :: τ) z3 rfl hρ hh hole_id (.ls ds)
      rw [ea] at ea'; cases ea'
      cases ep
      rw [ha] at ha'; cases ha'
      rw [ev] at ea; cases ea
      have hjl : j < xs.length := (List.getElem?_eq_some_iff.mp hu).1
      refine ⟨a, xs, z, j, u, rfl, by rw [ew], ha, by omega, by omega, ?_, hu, ?_⟩
      · rw [hj]
        exact (ixN_seq (n := xs.length) (i := (j : Int)) (j := j) (by unfold ixN; rw [if_pos (by omega), if_pos (by omega)]; simp)).1
      · refine q _ _ hp _ _ (fin none (.ls (ds.eraseIdx j)) _ (xs.eraseIdx j) (.ls _) True.intro fun O F Fc r1 r2 => ?_)
        obtain ⟨F', r, s⟩ := r1.erase j
        refine ⟨F', ?_, SubP.of (s.trans (List.sublist_append_left _ _))⟩
        have em : (ds.map OT.sh).eraseIdx j = (ds.eraseIdx j).map OT.sh := by
          rw [List.eraseIdx_eq_take_drop_succ, List.eraseIdx_eq_take_drop_succ, List.map_append, List.map_take, List.map_drop]
        rw [em] at r
        exact r

/-! an item of NAME is written -/
/-- where slot i's item stands, kept while something else is reckoned -/
theorem State.item {i : Nat} {s : Slot} {o n : OT} {l j : Nat} {re : OT → OT} {kd : Option (List Key)} {os0 : List OT} (x : State K G ρ τ σ H) (hi : ρ[i]? = some s) (hh : Holds s o) (hv : ItemH o l j n re) (hn : IsN n kd os0) :
    ∃ (G' : Gx) (p : Addr) (ws : List V) (a : Addr) (xs : List V), σ[i]? = some (some (.ref p)) ∧ (SqL K H p ws ∨ SqT K H p ws) ∧ ws.length = l ∧ ws[j]? = some (.ref a) ∧ H a = some (hoN kd xs) ∧ State K G' (ρ.set i .un) τ σ H ∧
      ∀ ρ1 (os : List OT) (vs : List V) τ1 H1, State K G' ρ1 (vs.zip os ++ τ1) σ H1 → vs.length = os.length → ρ1[i]? = some .un → ∃ xs, H1 a = some (hoN kd xs) ∧ xs.length = os0.length ∧ ∀ (kd' : Option (List Key)) (n1 : OT) (os1 : List OT) (ys : List V), IsN n1 kd' os1 → lnN kd' os1.length →
        (∀ O F Fc, RepOs K (upd H1 a (hoN kd' ys)) O os0 xs F → RepOs K (upd H1 a (hoN kd' ys)) O os vs Fc → ∃ F1, RepOs K (upd H1 a (hoN kd' ys)) O os1 ys F1 ∧ SubP F1 (F ++ Fc)) →
        State K G (ρ1.set i (s.put (re n1))) τ1 σ (upd H1 a (hoN kd' ys)) := by
  obtain ⟨G', O, Fi, w, _, x', eσ, r0, back⟩ := x.frame hi
  obtain ⟨v, ew, r, _⟩ := SlRep.holds hh r0
  subst ew
  obtain ⟨w0, A, Fj, B, ef, rn, ⟨p, ws, ev, hws, hl, hj⟩, _⟩ := hv.view _ _ _ _ _ r
  obtain ⟨a, xs, F', ea, ha, _, rs, _⟩ := hn.rep rn
  subst ev ea
  refine ⟨G', p, ws, a, xs, eσ, hws.imp (fun q => SqL.of q.1) SqT.of, hl, hj, ha, x', fun ρ1 os vs τ1 H1 y hlv h1 => ?_⟩
  obtain ⟨y1, k1, k2⟩ := back ρ1 _ H1 y h1
  have hi1 : i < ρ1.length := (List.getElem?_eq_some_iff.mp h1).1
  obtain ⟨v', a', xs', Fi', eσ', ⟨p', ws', ev', hws', hl', hj'⟩, ha', _, ⟨_, _, rs'⟩, fin⟩ := State.mutH (i := i) (s := s) y1 hlv (by rw [List.getElem?_set_self hi1]) hh hv.view hn
  rw [eσ] at eσ'; cases eσ'
  cases ev'
  have ews : ws' = ws := by
    rcases hws with ⟨q1, q2⟩ | q1
    · have q3 := k1 p q2
      rw [q1] at q3
      rcases hws' with ⟨q4, _⟩ | q4 <;> (rw [q3] at q4; cases q4; try rfl)
    · have q3 := k2 p _ q1 (fun z => z)
      rcases hws' with ⟨q4, _⟩ | q4 <;> (rw [q3] at q4; cases q4; try rfl)
  subst ews
  rw [hj] at hj'; cases hj'
  refine ⟨xs', ha', rs'.len, fun kd' n1 os1 ys q1 q2 q3 => ?_⟩
  have z := fin kd' n1 os1 ys q1 q2 q3
  rw [List.set_set] at z
  exact z
/-- NAME[e1].append(e) -/
theorem ev_appendAt (cn : Cn X N sc vi li gs bs k) (i : Nat) {pp : Pos} (h1 : Ev X G ρ e1 (isI fun z ρ1 => ∃ (s : Slot) (o n : OT) (l j : Nat) (re : OT → OT) (os0 : List OT), ρ1[i]? = some s ∧ Holds s o ∧ ItemH o l j n re ∧ ixN l z = some j ∧ IsN n none os0 ∧
      ∀ G', Ev X G' (ρ1.set i .un) e fun o2 ρ2 => ∃ n', ρ2[i]? = some .un ∧ AppR n o2 n' ∧ Ψ oN (ρ2.set i (s.put (re n')))))
    (h0 : ρ[i]? = some s0 := by rfl) (hh0 : Holds s0 n0 := by constructor) (hx : N[i]? = some x := by rfl) (hv : vi.elem i = true := by rfl) (ns : NoStar e := by exact fun _ _ => rfl) (pl : PlainIx e1 := by exact fun _ _ => rfl)
    (hbase : attributeBase (.Subscript (.Name x px) e1 pp) "append" X.env (eval (.Subscript (.Name x px) e1 pp) X.env) = eval (.Subscript (.Name x px) e1 pp) X.env := by rfl)
    (hline : (ap.endLine == pos.line) = true := by rfl) (hfew : FewA X pos e := by rfl) : Ev X G ρ (.Call (.Attribute (.Subscript (.Name x px) e1 pp) "append" ap) [e] [] pos) Ψ :=
  pe_imp (pe_bm PySem.F.plainAttrs_list PySem.F.slot_list_append PySem.F.type_list_append mt_append (pe_ix ix_seq (pe_slot cn i hx hv) h1 pl) (pa_cons pe_dynG pa_nil (ns _ _)) hbase hfew hline (ns _ _) rfl) fun σ H Q ⟨τ, y, q⟩ => by
    obtain ⟨v, ev⟩ := y.slotV (hat h0 hh0)
    refine ⟨v, ev, τ, y, fun oi ρ1 ⟨z, eo, s, o, n, l, j, re, os0, hρ, hh, ih, hj, hn, he⟩ u H1 y1 => ?_⟩
    subst eo
    obtain ⟨G', p, ws, a, xs, eσ, hws, hl, hwj, ha, y2, fin⟩ := y1.drop.item hρ hh ih hn
    rw [ev] at eσ; cases eσ
    refine ix_fin rfl y1.headI hws (w := .ref a) (by unfold L2.atI; rw [hl, hj]; exact hwj) ⟨.inl ⟨rfl, xs, SqL.of ha⟩, G', _, _, he G', τ, y2, fun o2 ρ2 ⟨n', hu, ar, hp⟩ w H2 y3 => ?_⟩
    obtain ⟨os0', os1, hn2, hn', e2, hz⟩ := ar.node
    have eq0 : os0' = os0 := by cases hn <;> cases hn2 <;> rfl
    subst eq0
    obtain ⟨xs2, ha2, lx, fin2⟩ := fin ρ2 [o2] [w] τ H2 y3 rfl hu
    exact ⟨a, xs2, w, rfl, rfl, ha2, by rw [lx]; exact hz, q _ _ hp _ _ ((fin2 none n' os1 (xs2 ++ [w]) hn' True.intro fun O F Fc r1 r2 => ⟨F ++ Fc, by rw [e2]; exact RepOs.app r1 r2, SubP.refl _⟩).pN)⟩
/-- NAME[e1].extend(e) -/
theorem ev_extendAt (cn : Cn X N sc vi li gs bs k) (i : Nat) {pp : Pos} (h1 : Ev X G ρ e1 (isI fun z ρ1 => ∃ (s : Slot) (o n : OT) (l j : Nat) (re : OT → OT) (os0 : List OT), ρ1[i]? = some s ∧ Holds s o ∧ ItemH o l j n re ∧ ixN l z = some j ∧ IsN n none os0 ∧
      ∀ G', Ev X G' (ρ1.set i .un) e fun o2 ρ2 => ∃ n', ρ2[i]? = some .un ∧ ExtR n o2 n' ∧ Ψ oN (ρ2.set i (s.put (re n')))))
    (h0 : ρ[i]? = some s0 := by rfl) (hh0 : Holds s0 n0 := by constructor) (hx : N[i]? = some x := by rfl) (hv : vi.elem i = true := by rfl) (ns : NoStar e := by exact fun _ _ => rfl) (pl : PlainIx e1 := by exact fun _ _ => rfl)
    (hbase : attributeBase (.Subscript (.Name x px) e1 pp) "extend" X.env (eval (.Subscript (.Name x px) e1 pp) X.env) = eval (.Subscript (.Name x px) e1 pp) X.env := by rfl)
    (hline : (ap.endLine == pos.line) = true := by rfl) (hfew : FewA X pos e := by rfl) : Ev X G ρ (.Call (.Attribute (.Subscript (.Name x px) e1 pp) "extend" ap) [e] [] pos) Ψ :=
  pe_imp (pe_bm PySem.F.plainAttrs_list PySem.F.slot_list_extend PySem.F.type_list_extend mt_extendR (pe_ix ix_seq (pe_slot cn i hx hv) h1 pl) (pa_cons pe_dynG pa_nil (ns _ _)) hbase hfew hline (ns _ _) rfl) fun σ H Q ⟨τ, y, q⟩ => by
    obtain ⟨v, ev⟩ := y.slotV (hat h0 hh0)
    refine ⟨v, ev, τ, y, fun oi ρ1 ⟨z, eo, s, o, n, l, j, re, os0, hρ, hh, ih, hj, hn, he⟩ u H1 y1 => ?_⟩
    subst eo
    obtain ⟨G', p, ws, a, xs, eσ, hws, hl, hwj, ha, y2, fin⟩ := y1.drop.item hρ hh ih hn
    rw [ev] at eσ; cases eσ
    refine ix_fin rfl y1.headI hws (w := .ref a) (by unfold L2.atI; rw [hl, hj]; exact hwj) ⟨.inl ⟨rfl, xs, SqL.of ha⟩, G', _, _, he G', τ, y2, fun o2 ρ2 ⟨n', hu, ar, hp⟩ w H2 y3 => ?_⟩
    obtain ⟨os0', ps, os1, hn2, hl2, hn', e2, hz⟩ := ar.node
    have eq0 : os0' = os0 := by cases hn <;> cases hn2 <;> rfl
    subst eq0
    obtain ⟨b, zs, ew, hb, lz, y4⟩ := y3.items hl2
    obtain ⟨xs2, ha2, lx, fin2⟩ := fin ρ2 ps zs τ H2 y4 lz hu
    exact ⟨a, b, xs2, zs, rfl, by rw [ew], ha2, .inl hb, by rw [lx, lz]; exact hz, q _ _ hp _ _ ((fin2 none n' os1 (xs2 ++ zs) hn' True.intro fun O F Fc r1 r2 => ⟨F ++ Fc, by rw [e2]; exact RepOs.app r1 r2, SubP.refl _⟩).pN)⟩
/-- the target NAME[b], a list -/
theorem tg_setL (cn : Cn X N sc vi li gs bs k) (i : Nat) {tp : Pos} {o : OT} {R : PostR} (hi : Ev X G ρ b (isI fun z ρ1 => ∃ s n n' j os0, ρ1[i]? = some s ∧ Holds s n ∧ IsN n none os0 ∧ ixN os0.length z = some j ∧ SetR n j o n' ∧ R (ρ1.set i (s.put n'))))
    (h0 : ρ[i]? = some s0 := by rfl) (hh0 : Holds s0 n0 := by constructor) (hx : N[i]? = some x := by rfl) (hv : vi.elem i = true := by rfl)
    (ha : ∀ v, assign (.Subscript (.Name x px) b tp) X.env v = (do
      let ov ← holding [v] (eval (.Name x px) X.env)
      let iv ← holding [v, ov] (eval b X.env)
      standAt tp
      holding [v, ov, iv] (setItem ov iv v)
      release [v, ov, iv] []) := by intro _; rfl) : Tg X G ρ (.Subscript (.Name x px) b tp) o R :=
  pg_imp (pg_sub (pe_slot cn i hx hv) hi set_list ha) fun w σ H Q ⟨τ, y, q⟩ => by
    obtain ⟨v, ev⟩ := y.slotV (hat h0 hh0)
    refine ⟨v, ev, (w, o) :: τ, y, fun oi ρ1 ⟨z, eo, s, n, n', j, os0, hρ, hh, hn, hj, sr, hp⟩ u H2 z2 => ?_⟩
    subst eo
    have eu := z2.headI
    obtain ⟨os0', os1, hn2, hn', e1, hjl⟩ := sr.node
    have eq0 : os0' = os0 := by cases hn <;> cases hn2 <;> rfl
    subst eq0
    obtain ⟨v', a, xs, Fi, ea, ep, ha, _, ⟨_, _, rs⟩, fin⟩ := State.mutH (os := [o]) (vs := [w]) z2.drop rfl hρ hh hole_id hn
    rw [ev] at ea; cases ea
    subst ep
    refine ⟨a, xs, z, j, rfl, eu, ha, by rw [rs.len]; exact hj, q _ hp _ _ (fin none n' os1 (xs.set j w) hn' True.intro fun O F Fc r1 r2 => ?_)⟩
    obtain ⟨w', vs', F1, F2, ew, rw', ⟨_, e0⟩, eF⟩ := r2
    cases ew
    obtain ⟨F', r, sp⟩ := r1.put hjl rw'
    refine ⟨F', by rw [e1]; exact r, ?_⟩
    rw [eF, e0, List.append_nil]
    exact sp
end
end
end Pd
set_option Elab.async false
set_option linter.all false
set_option maxRecDepth 100000
set_option autoImplicit false
namespace Pd
open PySem PySem.Spec PyProof.Rows L2

/-! what a def promises, no guard around -/
structure FnG (P : Program) (w : World) (K : PySem.W.Frag) (mg : Str → Option Value) (base : Heap) (k : Nat) (f : Addr) (fd : FuncData) (ps : List Str) (sp : Sp) : Prop where
  len : ∀ vs H Q E, sp vs H Q E → vs.length = ps.length
  run : ∀ (A : Around) (outer : List Env) (s : Shared) (H : Hp) (args : Args) (us : List Value) (vs : List V) (Q : VK), Room k A → A.guards = some [] → Env0 P w K mg base A outer s H →
    BindsTo s fd args (ps.zip us) → Vals vs us → sp vs H Q E0 → codeAny (model P w) A (.call (.ref f) args) (CR CX0 outer P w H s Q E0) s
theorem FnG.mono {P : Program} {w : World} {K : PySem.W.Frag} {mg : Str → Option Value} {base : Heap} {j k : Nat} {f : Addr} {fd : FuncData} {ps : List Str} {sp : Sp} (F : FnG P w K mg base j f fd ps sp) (h : j ≤ k) : FnG P w K mg base k f fd ps sp :=
  ⟨F.len, fun A outer s H args us vs Q hr => F.run A outer s H args us vs Q (hr.mono h)⟩
/-- the context of a def's body -/
abbrev DX (P : Program) (w : World) (K : PySem.W.Frag) (mg : Str → Option Value) (base : Heap) (N : List Str) (qual : Str) (scope : Scope) (f : Addr) (cdv : Value) (A : Around) (outer : List Env) (s : Shared) (H : Hp) : Cx :=
  (cxOf CX0 P w K mg base N qual scope f cdv A outer s H E0).nox

theorem fnG_of {P : Program} {w : World} {K : PySem.W.Frag} {mg : Str → Option Value} {base : Heap} {k : Nat} {f : Addr} {name qual : Str} {params : Arguments} {body : List Stmt} {scope : Scope} {dV kV doc pm cdv ct oc : Value} {an od : Option Addr}
    {osl : Array (Option Value)} {N ps : List Str} {sp : Sp} (lk : K.lookup f = some ⟨oc, od, .func (PySem.W.fnOf name qual params body scope dV kV doc pm an cdv ct), osl⟩) (hcd : PySem.W.codeIn K cdv qual = true) (S : FnScope N ps scope)
    (len : ∀ vs H Q E, sp vs H Q E → vs.length = ps.length)
    (hbody : ∀ (A : Around) (outer : List Env) (s : Shared) (H : Hp) (vs : List V) (Q : VK), Room k (A.deeper (envOfC qual scope s.heap.objs.size f cdv)) → A.guards = some [] → sp vs H Q E0 →
      ∃ t, PSs (DX P w K mg base N qual scope f cdv A outer s H) body t ∧ t { nx := fun _ H' => Q .non H', rt := Q } (start N vs) H) :
    FnG P w K mg base (k + 1) f (PySem.W.fnOf name qual params body scope dV kV doc pm an cdv ct) ps sp := by
  refine ⟨len, fun A outer s H args us vs Q hr gd en hb rv hsp => ?_⟩
  have hl := len _ _ _ _ hsp
  have hK : K.In s.heap := en.mod.kin.keeps fun b o z => (en.bs b o z).1
  have hlim : s.heap.NoLimit := en.mod.nolimit.keeps fun b o z => (en.bs b o z).1
  have hk1 : ∀ y ∈ ps.zip us, scope.names.lookup y.1 = some .local ∨ (scope.names.lookup y.1 = some .cell ∧ ((cellsFrom (s.heap.objs.size + 1) scope.names []).lookup y.1).isSome = true) := by
    rintro ⟨n, v⟩ hy
    have q := S.par n (List.of_mem_zip hy).1
    exact q.imp id fun q => ⟨q, PySem.W.cellsFrom_some _ _ _ (.inl q)⟩
  refine codeAny_call_function hr.depth (hK _ _ lk) rfl S.co S.gen rfl (PySem.W.codeRec_of hK hcd) (hb _ _ _ _ ?_)
  refine wpAny_newFunctionEnv_cells S.kind hk1 fun env hen s1 x => ?_
  subst hen
  refine ⟨hlim.keeps x.toInCall.keep, codeAny_func ?_⟩
  obtain ⟨t, ht, hq⟩ := hbody A outer s H vs Q (hr.deeper _) gd hsp
  have I : Inv (DX P w K mg base N qual scope f cdv A outer s H) [] (start N vs) H s1 := (inv_start S hr.hd en hl rv x).wish _
  refine wpAny_mono (ht.run [] s1 (start N vs) H _ I hq) (fun fl s' hs => ?_) fun _ _ z => z.elim
  have fin : ∀ {σ' : L2.St} {H' : Hp} {v : V} {u : Value}, Inv (DX P w K mg base N qual scope f cdv A outer s H) [] σ' H' s' → RelV v u → Q v H' → CE outer P w H s Q u s' := by
    intro σ' H' v u J r q
    exact ⟨v, H', J.os, J.bare, J.base, J.hok, r, q⟩
  cases fl with
  | ret u => obtain ⟨v, σ', H', J, r, q⟩ := hs; exact fin J r q
  | next => obtain ⟨σ', H', J, q⟩ := hs; exact fin (v := V.non) (u := Value.none) J rfl q
  | brk => exact hs.elim fun _ z => z.elim fun _ y => y.2.elim
  | cont => exact hs.elim fun _ z => z.elim fun _ y => y.2.elim

section
variable {X : Cx} {k : Nat} {f : Addr} {fd : FuncData} {ps : List Str} {sp : Sp}
theorem run_fnG {pins : List (Addr × Obj)} {σ : L2.St} {H : Hp} {s : Shared} {Q : VK} {us : List Value} {vs : List V} (F : FnG X.prog X.w X.K X.mg X.base k f fd ps sp) (hr : Room k X.A) (gd : X.A.guards = some []) (hb : Binds X.K fd ps [])
    (I : Inv X pins σ H s) (r : Vals vs us) (h : sp vs H Q E0) : wpAny (model X.prog X.w) X.A (call (.ref f) us) (EP X pins σ Q) X.xe s := by
  have hl : (us ++ ([] : List Value)).length = ps.length := by rw [List.append_nil, ← r.length]; exact F.len _ _ _ _ h
  have hb' := hb s us I.kIn hl
  rw [List.append_nil] at hb'
  refine wpAny_call (codeAny_mono (F.run X.A X.stack s H ⟨us, []⟩ us vs Q hr gd I.env0 hb' r h) fun res s' hq => ?_)
  match res, hq with
  | .ok (.ret u), hq => exact I.after hq
theorem pe_callG {x : Str} {p pos : Pos} {e : Expr} {es : List Expr} {t : TA} (F : FnG X.prog X.w X.K X.mg X.base k f fd ps sp) (hr : Room k X.A) (gd : X.A.guards = some []) (hg : Gl X x) (hm : X.mg x = some (.ref f)) (hk : PySem.W.keepIn X.K (.ref f) = true) (hb : Binds X.K fd ps [])
    (ha : PA X (e :: es) t) (hdb : (x == ("__debug__" : Str)) = false) (he : starEach (e :: es) X.env = (false, eval e X.env) :: starEach es X.env) (hpl : (backTo pos (starEach es X.env)).any (·.1) = false) :
    PE X (.Call (.Name x p) (e :: es) [] pos) (fun σ H Q => t σ H fun vs H1 => sp vs H1 Q E0) := by
  refine ⟨fun pins s σ H Q I h => wpAny_Call_Name_kw (ld_glob I hg hm ?_ hdb)⟩
  refine PySem.W.callWith_K (h₀ := X.base) I.ok.mod.kin hk (thn (ha.run pos pins s σ H _ I h) fun us s1 z => ?_) he hpl
  obtain ⟨vs, H1, I1, r, q⟩ := z
  exact ⟨I1.kIn, run_fnG F hr gd hb I1 r q⟩
/-- f(p = e), p its one parameter -/
theorem pe_callGK {x p0 : Str} {p pos kpos : Pos} {e : Expr} {t : TA} (F : FnG X.prog X.w X.K X.mg X.base k f fd [p0] sp) (hr : Room k X.A) (gd : X.A.guards = some []) (hg : Gl X x) (hm : X.mg x = some (.ref f)) (hk : PySem.W.keepIn X.K (.ref f) = true)
    (hb : ∀ (s : Shared) (u : Value), X.K.In s.heap → BindsTo s fd ⟨[], [p0].zip [u]⟩ ([p0].zip [u]))
    (ha : PK X [⟨some p0, e, kpos⟩] t) (hdb : (x == ("__debug__" : Str)) = false) (hall : (backToKw pos (keywordEach [⟨some p0, e, kpos⟩] X.env)).all (·.1.isSome) = true := by rfl) (hks : (backToKw pos (keywordEach [⟨some p0, e, kpos⟩] X.env)).filterMap (·.1) = [p0] := by rfl)
    (hpl : ((backTo pos (starEach [] X.env)).any (·.1) || (backToKw pos (keywordEach [⟨some p0, e, kpos⟩] X.env)).any (·.1.isNone)) = false := by rfl) :
    PE X (.Call (.Name x p) [] [⟨some p0, e, kpos⟩] pos) (fun σ H Q => t σ H fun vs H1 => vs.length = 1 ∧ sp vs H1 Q E0) := by
  refine ⟨fun pins s σ H Q I h => wpAny_Call_Name_kw (ld_glob I hg hm ?_ hdb)⟩
  refine PySem.W.callWith_KW0 (h₀ := X.base) I.ok.mod.kin hk hall (thn (ha.run pos pins s σ H _ I h) fun us s1 z => ?_) hpl
  obtain ⟨vs, H1, I1, r, hl, q⟩ := z
  refine ⟨I1.kIn, ?_⟩
  rw [hks]
  match us, r, hl with
  | [u], r, _ =>
    refine wpAny_call (codeAny_mono (F.run X.A X.stack s1 H1 ⟨[], [p0].zip [u]⟩ [u] vs Q hr gd I1.env0 (hb s1 u I1.kIn) r q) fun res s' hq => ?_)
    match res, hq with
    | .ok (.ret u), hq => exact I1.after hq
  | [], r, hl => have := r.length; simp at this; rw [this] at hl; simp at hl
  | _ :: _ :: _, r, hl => have := r.length; simp at this; omega
end

/-! promises over data: os what is lent, ds what is handed in -/
abbrev FS := List OT → List PyData → (OT → List OT → Prop) → Prop
def borF : Nat → List OT → List Slot
  | _, [] => []
  | j, o :: os => .bor j o :: borF (j + 1) os
def spS (K : PySem.W.Frag) (np nb : Nat) (S : FS) : Sp := fun vs H Q _ => ∃ (O : Addr → Prop) (as : List Addr) (os : List OT) (F : List Addr) (ds : List PyData) (vs' : List V) (κ : OT → List OT → Prop),
  vs = as.map V.ref ++ vs' ∧ vs.length = np ∧ as.length = nb ∧ (∀ a, O a → H a ≠ none ∧ a ∉ F) ∧ RepOs K H (fun a => O a ∨ a ∈ F) os (as.map V.ref) F ∧ F.Nodup ∧ Rps K H (fun a => O a ∨ a ∈ F) ds vs' ∧
  S os ds κ ∧ ∀ r os', κ r os' → ∀ v H' F' Fr, (∀ a u, H a = some u → a ∉ F → H' a = some u) → RepOs K H' (fun a => O a ∨ a ∈ F' ++ Fr) os' (as.map V.ref) F' → RepO K H' (fun a => O a ∨ a ∈ F' ++ Fr) r v Fr →
    (F' ++ Fr).Nodup → (∀ a ∈ F' ++ Fr, ¬ O a ∧ (H a = none ∨ a ∈ F)) → Q v H'
/-- a body's ends, for such a promise -/
def EndsF (nb : Nat) (κ : OT → List OT → Prop) : Out → Prop
  | .rt r ρ => ∃ os' rest, ρ = borF 0 os' ++ rest ∧ os'.length = nb ∧ κ r os'
  | .nx ρ => ∃ os' rest, ρ = borF 0 os' ++ rest ∧ os'.length = nb ∧ κ oN os'
  | _ => False
structure FnD (P : Program) (w : World) (K : PySem.W.Frag) (mg : Str → Option Value) (base : Heap) (x : Str) (ps : List Str) (k nb : Nat) (S : FS) : Prop where
  ex : ∃ f fd, mg x = some (.ref f) ∧ PySem.W.keepIn K (.ref f) = true ∧ Binds K fd ps [] ∧ (∀ p0, ps = [p0] → ∀ (s : Shared) (u : Value), K.In s.heap → BindsTo s fd ⟨[], [p0].zip [u]⟩ ([p0].zip [u])) ∧ FnG P w K mg base k f fd ps (spS K ps.length nb S)
abbrev FnX (X : Cx) (x : Str) (ps : List Str) (k nb : Nat) (S : FS) : Prop := FnD X.prog X.w X.K X.mg X.base x ps k nb S

section
variable {K : PySem.W.Frag} {G : Gx} {H : Hp} {O : Addr → Prop}
theorem EnRep.un : ∀ (n : Nat), EnRep K G H O (List.replicate n .un) (List.replicate n none) []
  | 0 => ⟨rfl, rfl⟩
  | n + 1 => ⟨none, _, [], [], rfl, rfl, EnRep.un n, rfl⟩
theorem EnRep.vals : ∀ {ds : List PyData} {vs : List V} {ρ : List Slot} {σ : L2.St} {F : List Addr}, Rps K H O ds vs → EnRep K G H O ρ σ F → EnRep K G H O (ds.map (fun d => .val (.sh d)) ++ ρ) (vs.map some ++ σ) F
  | [], _, _, _, _, e, h => by rw [show _ = [] from e]; exact h
  | d :: ds, _, ρ, σ, F, ⟨v, vs, e, h1, h2⟩, h => by
    subst e
    exact ⟨some v, _, [], F, rfl, ⟨v, rfl, rfl, h1⟩, EnRep.vals h2 h, rfl⟩
theorem EnRep.bors : ∀ {os : List OT} {as : List Addr} {j : Nat} {ρ : List Slot} {σ : L2.St} {F F2 : List Addr}, (∀ i a, as[i]? = some a → G.bs[j + i]? = some a) → RepOs K H O os (as.map V.ref) F → EnRep K G H O ρ σ F2 →
    EnRep K G H O (borF j os ++ ρ) ((as.map V.ref).map some ++ σ) (F ++ F2)
  | [], as, j, ρ, σ, F, F2, hb, ⟨e1, e2⟩, h => by
    have : as = [] := by simpa using e1
    subst this e2
    exact h
  | o :: os, as, j, ρ, σ, F, F2, hb, ⟨v, vs, F1, F3, e1, r1, r2, e2⟩, h => by
    cases as with
    | nil => cases e1
    | cons a as =>
      injection e1 with e3 e4
      subst e3 e4 e2
      refine ⟨some (.ref a), _, F1, F3 ++ F2, rfl, ⟨a, by have := hb 0 a rfl; simpa using this, rfl, r1⟩, EnRep.bors (fun i b hi => ?_) r2 h, by rw [List.append_assoc]⟩
      have := hb (i + 1) b (by simpa using hi)
      rw [show j + 1 + i = j + (i + 1) by omega]; exact this
theorem EnRep.ofBors : ∀ {os : List OT} {as : List Addr} {j : Nat} {ρ : List Slot} {σ : L2.St} {F : List Addr}, (∀ i a, as[i]? = some a → G.bs[j + i]? = some a) → as.length = os.length → EnRep K G H O (borF j os ++ ρ) σ F →
    ∃ F1 F2, RepOs K H O os (as.map V.ref) F1 ∧ F = F1 ++ F2
  | [], as, j, ρ, σ, F, hb, hl, h => by
    have : as = [] := List.length_eq_zero_iff.mp hl
    subst this
    exact ⟨[], F, ⟨rfl, rfl⟩, rfl⟩
  | o :: os, as, j, ρ, σ, F, hb, hl, ⟨w, σ', F1, F2, e, ⟨a, ea, ew, r⟩, h2, ef⟩ => by
    cases as with
    | nil => cases hl
    | cons b as =>
      have eb : G.bs[j]? = some b := by have := hb 0 b rfl; simpa using this
      rw [ea] at eb
      cases eb
      obtain ⟨F3, F4, r3, e4⟩ := EnRep.ofBors (as := as) (j := j + 1) (fun i c hi => by
        have := hb (i + 1) c (by simpa using hi)
        rw [show j + 1 + i = j + (i + 1) by omega]; exact this) (Nat.succ.inj hl) h2
      exact ⟨F1 ++ F3, F4, ⟨.ref a, as.map V.ref, F1, F3, rfl, r, r3, rfl⟩, by rw [ef, e4, List.append_assoc]⟩
end

/-- a def, by its body -/
theorem fnd_of {P : Program} {w : World} {K : PySem.W.Frag} {mg : Str → Option Value} {base : Heap} {k nb : Nat} {x qual : Str} {params : Arguments} {body : List Stmt} {scope : Scope} {kws : List (Str × V)} {f : Addr} {fd : FuncData} {N ps : List Str} {vi li : List Nat} {gs bs : List Str} {S : FS}
    (F : FunD K x qual params body scope [] kws f fd) (mgf : mg x = some (.ref f)) (bnd : Binds K fd ps []) (kb : ∀ p0, ps = [p0] → ∀ (s : Shared) (u : Value), K.In s.heap → BindsTo s fd ⟨[], [p0].zip [u]⟩ ([p0].zip [u])) (sc : C8.scC N ps scope = true) (cn : cnC N scope scope vi li gs bs = true) (hmg : ∀ x ∈ bs, mg x = none)
    (hbody : ∀ (cdv : Value) (A : Around) (outer : List Env) (s : Shared) (H : Hp) (G : Gx), Cn (DX P w K mg base N qual scope f cdv A outer s H) N scope vi li gs bs k →
      ∀ os ds κ, os.length = nb → os.length + ds.length = ps.length → S os ds κ → Exs (DX P w K mg base N qual scope f cdv A outer s H) G (borF 0 os ++ (ds.map (fun d => Slot.val (.sh d)) ++ List.replicate (N.length - ps.length) .un)) body (EndsF nb κ)) :
    FnD P w K mg base x ps (k + 1) nb S := by
  have Fk := F.kp
  obtain ⟨oc, od, dV, kV, doc, pm, an, cdv, ct, osl, rfl, lk, hcd, _, _⟩ := F.ex
  refine ⟨f, _, mgf, Fk, bnd, kb, fnG_of lk hcd (C8.fnScope_by sc) (fun vs H Q E ⟨O, as, os, F, ds, vs', κ, ev, el, _⟩ => el) fun A outer s H vs Q hr gd ⟨O, as, os, Fp, ds, vs', κ, ev, el, ea, hO, hos, nd, hds, hS, hκ⟩ => ?_⟩
  have lo : os.length = nb := by rw [← hos.len, List.length_map, ea]
  have lv : os.length + ds.length = ps.length := by rw [← hos.len, ← hds.len, ← el, ev, List.length_append]
  have hc : Cn (DX P w K mg base N qual scope f cdv A outer s H) N scope vi li gs bs k := Cn.by (X := DX P w K mg base N qual scope f cdv A outer s H) cn rfl (C8.fnScope_by sc).nd rfl rfl (fun _ _ => rfl) hmg hr gd .never
  refine ⟨_, hbody cdv A outer s H ⟨H, O, Fp, as⟩ hc os ds κ lo lv hS, [], ?_, ?_, fun ρ' z => z.elim, fun ρ' z => z.elim, ?_⟩
  · -- the state at the entry
    refine ⟨Fp, [], ?_, rfl, by rw [List.append_nil]; exact nd, fun a h => ?_, fun a h => (hO a h).1, fun a u e _ => e⟩
    · have z := EnRep.bors (G := ⟨H, O, Fp, as⟩) (j := 0) (ρ := ds.map (fun d => Slot.val (.sh d)) ++ List.replicate (N.length - ps.length) .un) (σ := vs'.map some ++ List.replicate (N.length - ps.length) none) (F2 := []) (fun i a h => by rw [Nat.zero_add]; exact h) (RepOs.shr (O' := ownd ⟨H, O, Fp, as⟩ (Fp ++ [])) (fun a h => by rw [List.append_nil] at h; exact h) hos)
        (EnRep.vals (Rps.stn (M := fun _ => False) (fun _ _ e _ => e) (fun _ z => z.elim) (fun _ z => z.elim) (fun a h => by rw [List.append_nil] at h; exact .inl h) ds vs' hds) (EnRep.un _))
      have e : (as.map V.ref).map some ++ (vs'.map some ++ List.replicate (N.length - ps.length) none) = start N vs := by
        unfold L2.start
        rw [el, ev, List.map_append, List.append_assoc]
      rw [e] at z
      show EnRep K _ _ _ _ _ _
      simpa only [List.append_nil] using z
    · rw [List.append_nil] at h
      exact ⟨fun z => (hO a z).2 h, .inr h⟩
  · rintro ρ' ⟨os', rest, e, l, hk⟩ σ' H' ⟨Fe, Ft, y⟩
    subst e
    obtain ⟨F1, F2, r, ef⟩ := EnRep.ofBors (G := ⟨H, O, Fp, as⟩) (as := as) (j := 0) (fun i a h => by rw [Nat.zero_add]; exact h) (by rw [l, ea]) y.en
    have nd1 := y.nd
    have fr := y.fr
    have et : Ft = [] := y.tm
    subst et ef
    refine hκ oN os' hk .non H' F1 [] (fun a u e n => y.sm a u e n) (RepOs.shr (fun a z => ?_) r) ⟨rfl, rfl⟩ ?_ fun a h => ?_
    · rcases z with z | z
      · exact .inl z
      · rw [List.append_nil] at z; exact .inr (by simp [z])
    · rw [List.append_nil]
      rw [List.append_nil] at nd1
      exact nd1.sublist (List.sublist_append_left _ _)
    · rw [List.append_nil] at h
      exact fr a (by simp [h])
  · rintro o ρ' ⟨os', rest, e, l, hk⟩ v σ' H' ⟨Fe, Ft, y⟩
    subst e
    obtain ⟨F1, F2, r, ef⟩ := EnRep.ofBors (G := ⟨H, O, Fp, as⟩) (as := as) (j := 0) (fun i a h => by rw [Nat.zero_add]; exact h) (by rw [l, ea]) y.en
    have nd1 := y.nd
    have fr := y.fr
    obtain ⟨F3, F4, r3, e4, ef2⟩ := y.tm
    have e4 : F4 = [] := e4
    subst e4 ef2 ef
    have sub : ∀ a ∈ F1 ++ F3, a ∈ (F1 ++ F2) ++ (F3 ++ []) := fun a h => by
      simp only [List.mem_append, List.append_nil] at h ⊢
      rcases h with h | h <;> simp [h]
    refine hκ o os' hk v H' F1 F3 (fun a u e n => y.sm a u e n) (RepOs.shr (ownd_sub (G := ⟨H, O, Fp, as⟩) sub) r) (RepO.shr (ownd_sub (G := ⟨H, O, Fp, as⟩) sub) r3) ?_ fun a h => fr a (sub a h)
    refine nd1.sublist ?_
    rw [List.append_nil]
    exact List.Sublist.append (List.sublist_append_left _ _) (.refl _)

/-! calls -/
section
variable {X : Cx} {N : List Str} {sc : Scope} {vi li : List Nat} {gs bs ps : List Str} {k j nb : Nat} {G : Gx} {ρ : List Slot} {e : Expr} {es : List Expr} {pos p kpos px : Pos} {Ψ : Post} {x y : Str} {S : FS}
variable {K : PySem.W.Frag} {H H' : Hp} {O : Addr → Prop} {τ : List (V × OT)} {σ : L2.St}
/-- behind a call that wrote nothing of what stood -/
theorem State.called {r : OT} {v : V} {Fe Ft Fr : List Addr} (y : StX K G ρ τ σ H Fe Ft) (hs : ∀ a u, H a = some u → H' a = some u) (hr : RepO K H' (fun a => ownd G (Fe ++ Ft) a ∨ a ∈ Fr) r v Fr) (nd : Fr.Nodup) (hf : ∀ a ∈ Fr, ¬ ownd G (Fe ++ Ft) a ∧ H a = none) :
    State K G ρ ((v, r) :: τ) σ H' := by
  have live := y.live
  have st : Stn (fun _ => False) H H' := fun a u e _ => hs a u e
  have own : ∀ a, ownd G (Fe ++ (Fr ++ Ft)) a → ownd G (Fe ++ Ft) a ∨ a ∈ Fr := fun a z => by
    rcases z with z | z
    · exact .inl (.inl z)
    · simp only [List.mem_append] at z
      rcases z with z | z | z
      · exact .inl (.inr (by simp [z]))
      · exact .inr z
      · exact .inl (.inr (by simp [z]))
  have ho : ∀ a, ownd G (Fe ++ (Fr ++ Ft)) a → ownd G (Fe ++ Ft) a ∨ H a = none := fun a z => (own a z).imp id fun z => (hf a z).2
  refine ⟨Fe, Fr ++ Ft, EnRep.stn st (fun _ z => z.elim) (fun _ z => z.elim) ho ρ σ Fe (fun _ _ z => z) y.en, ⟨Fr, Ft, RepO.shr own hr, TmRep.stn st (fun _ z => z.elim) (fun _ z => z.elim) ho τ Ft (fun _ _ z => z) y.tm, rfl⟩, ?_, fun a h => ?_, fun a z => ?_, fun a u e n => hs a u (y.sm a u e n)⟩
  · have pm : (Fe ++ (Fr ++ Ft)).Perm (Fr ++ (Fe ++ Ft)) := perm_swap3 _ _ _
    refine pm.nodup_iff.mpr ?_
    rw [List.nodup_append]
    exact ⟨nd, y.nd, fun a h b h2 e => (hf a h).1 (.inr (e ▸ h2))⟩
  · simp only [List.mem_append] at h
    rcases h with h | h | h
    · exact y.fr a (by simp [h])
    · refine ⟨fun z => (hf a h).1 (.inl z), ?_⟩
      by_cases b : a ∈ G.B
      · exact .inr b
      · cases e : G.H0 a with
        | none => exact .inl rfl
        | some u => exact absurd (y.sm a u e b) (by rw [(hf a h).2]; exact fun z => nomatch z)
    · exact y.fr a (by simp [h])
  · cases e : H a with
    | none => exact absurd e (y.oo a z)
    | some u => rw [hs a u e]; exact fun z => nomatch z
theorem spS_pure {vs : List V} {ds : List PyData} {Q : VK} {κ : OT → List OT → Prop} (np : Nat) (hn : ds.length = np) (w : State K G ρ (vs.zip (shs ds) ++ τ) σ H) (hl : vs.length = ds.length) (hS : S [] ds κ) (q : ∀ r, κ r [] → ∀ v H', State K G ρ ((v, r) :: τ) σ H' → Q v H') : spS K np 0 S vs H Q E0 := by
  obtain ⟨Fe, Ft, y⟩ := w
  obtain ⟨F1, F2, r1, h2, ef⟩ := TmRep.split (os := shs ds) (by rw [hl]; simp [shs]) y.tm
  obtain ⟨rs, e0⟩ := RepOs.sh r1
  subst e0
  have e : Ft = F2 := by rw [ef]; rfl
  subst e
  have y2 : StX K G ρ τ σ H Fe Ft := ⟨y.en, h2, y.nd, y.fr, y.oo, y.sm⟩
  refine ⟨ownd G (Fe ++ Ft), [], [], [], ds, vs, κ, rfl, by rw [hl, hn], rfl, fun a z => ⟨?_, by simp⟩, ⟨rfl, rfl⟩, List.nodup_nil, Rps.stn (M := fun _ => False) (fun _ _ e _ => e) (fun _ z => z.elim) (fun _ z => z.elim) (fun a z => .inl (z.elim id fun q => nomatch q)) ds vs rs, hS, ?_⟩
  · rcases z with z | z
    · exact y.oo a z
    · obtain ⟨u, e, _⟩ := y.live a z
      rw [e]; exact fun q => nomatch q
  · intro r os' hk v H' F' Fr hs ro rr nd hf
    have eo : os' = [] := by
      have := ro.len
      exact List.length_eq_zero_iff.mp (by simpa using this.symm)
    subst eo
    have e2 : F' = [] := ro.2
    subst e2
    exact q r hk v H' (State.called y2 (fun a u e => hs a u e (by simp)) rr nd fun a h => ⟨(hf a h).1, (hf a h).2.elim id fun z => nomatch z⟩)
/-- f(..), all handed in -/
theorem ev_call (c : Cn X N sc vi li gs bs k) (jx : Nat) (F : FnX X x ps j 0 S) (ha : Av X G ρ (e :: es) fun os ρ1 => ∃ ds, os = shs ds ∧ ds.length = ps.length ∧ S [] ds fun r os' => Ψ r ρ1) (hj : j ≤ k := by decide) (hnp : (e :: es).length = ps.length := by rfl)
    (hx : gs[jx]? = some x := by rfl) (hdb : (x == ("__debug__" : Str)) = false := by decide) (ns : NoStar e := by exact fun _ _ => rfl) (hpl : (backTo pos (starEach es X.env)).any (·.1) = false := by rfl)
    : Ev X G ρ (.Call (.Name x p) (e :: es) [] pos) Ψ := by
  obtain ⟨f, fd, hm, hk, hb, _, Fg⟩ := F.ex
  exact pe_imp (pe_callG (Fg.mono hj) c.rm c.gd (c.gl' jx hx) hm hk hb ha hdb (ns _ _) hpl) fun σ H Q ⟨τ, y, q⟩ => ⟨τ, y, fun os ρ1 ⟨ds, eo, hdl, hS⟩ vs H1 l w => by
    subst eo
    exact spS_pure _ hdl w (by rw [l]; simp [shs]) hS fun r hr v H' z => q r ρ1 hr v H' z⟩
/-- f(p = e) -/
theorem ev_callK (c : Cn X N sc vi li gs bs k) (jx : Nat) {p0 : Str} (F : FnX X x [p0] j 0 S) (ha : Ev X G ρ e fun o ρ1 => ∃ d, o = .sh d ∧ S [] [d] fun r os' => Ψ r ρ1) (hj : j ≤ k := by decide)
    (hx : gs[jx]? = some x := by rfl) (hdb : (x == ("__debug__" : Str)) = false := by decide) (hall : (backToKw pos (keywordEach [⟨some p0, e, kpos⟩] X.env)).all (·.1.isSome) = true := by rfl) (hks : (backToKw pos (keywordEach [⟨some p0, e, kpos⟩] X.env)).filterMap (·.1) = [p0] := by rfl)
    (hpl : ((backTo pos (starEach [] X.env)).any (·.1) || (backToKw pos (keywordEach [⟨some p0, e, kpos⟩] X.env)).any (·.1.isNone)) = false := by rfl) : Ev X G ρ (.Call (.Name x p) [] [⟨some p0, e, kpos⟩] pos) Ψ := by
  obtain ⟨f, fd, hm, hk, _, hb, Fg⟩ := F.ex
  exact pe_imp (pe_callGK (Fg.mono hj) c.rm c.gd (c.gl' jx hx) hm hk (hb p0 rfl) (pk_cons ha pk_nil) hdb hall hks hpl) fun σ H Q ⟨τ, y, q⟩ => ⟨τ, y, fun o ρ1 ⟨d, eo, hS⟩ v H1 w => by
    subst eo
    exact ⟨rfl, spS_pure (ds := [d]) (vs := [v]) 1 rfl w rfl hS fun r hr v H' z => q r ρ1 hr v H' z⟩⟩
/-- f(NAME, ..), NAME lent -/
theorem ev_callP (c : Cn X N sc vi li gs bs k) (jx i : Nat) {s0 : Slot} {o0 : OT} (F : FnX X x ps j 1 S)
    (ha : Av X G ρ es fun os ρ1 => ∃ ds s o kd os0, os = shs ds ∧ 1 + ds.length = ps.length ∧ ρ1[i]? = some s ∧ Holds s o ∧ IsN o kd os0 ∧ S [o] ds fun r os' => ∃ o', os' = [o'] ∧ Ψ r (ρ1.set i (s.put o')))
    (h0 : ρ[i]? = some s0 := by rfl) (hh0 : Holds s0 o0 := by constructor) (hy : N[i]? = some y := by rfl) (hv : vi.elem i = true := by rfl) (hj : j ≤ k := by decide)
    (hx : gs[jx]? = some x := by rfl) (hdb : (x == ("__debug__" : Str)) = false := by decide) (hpl : (backTo pos (starEach es X.env)).any (·.1) = false := by rfl) : Ev X G ρ (.Call (.Name x p) (.Name y px :: es) [] pos) Ψ := by
  obtain ⟨f, fd, hm, hk, hb, _, Fg⟩ := F.ex
  refine pe_imp (pe_callG (Fg.mono hj) c.rm c.gd (c.gl' jx hx) hm hk hb (pa_cons (pe_slot c i hy hv) ha rfl) hdb rfl hpl) fun σ H Q ⟨τ, w, q⟩ => ?_
  obtain ⟨v0, ev0⟩ := w.slotV (hat h0 hh0)
  refine ⟨v0, ev0, τ, w, fun os ρ1 ⟨ds, s, o, kd, os0, eo, hdl, hρ, hh, hn, hS⟩ vs H1 l w1 => ?_⟩
  subst eo
  obtain ⟨Fe, Ft, y1⟩ := w1
  obtain ⟨F1, F2, r1, h2, ef⟩ := TmRep.split (os := shs ds) l y1.tm
  obtain ⟨rs, e0⟩ := RepOs.sh r1
  subst e0
  have e : Ft = F2 := by rw [ef]; rfl
  subst e
  have en := y1.en
  have nd := y1.nd
  have fr := y1.fr
  have live := y1.live
  obtain ⟨w', A, Fi, B, eF, eσ, r0, nx⟩ := EnRep.at en hρ
  subst eF
  obtain ⟨v, ew, r, back⟩ := SlRep.holds hh r0
  subst ew
  rw [ev0] at eσ; cases eσ
  obtain ⟨a, xs, F', ea, ha, _⟩ := hn.rep r
  subst ea
  have pm := perm_mid A Fi B Ft
  have nd2 := pm.nodup_iff.mp nd
  rw [List.nodup_append] at nd2
  obtain ⟨ndi, ndr, dj⟩ := nd2
  have subi : ∀ b ∈ Fi, b ∈ (A ++ (Fi ++ B)) ++ Ft := fun b h => by simp [h]
  have subr : ∀ b ∈ (A ++ ([] ++ B)) ++ Ft, b ∈ (A ++ (Fi ++ B)) ++ Ft := fun b h => pm.mem_iff.mpr (List.mem_append_right _ h)
  have own : ∀ b, ((ownd G ((A ++ (Fi ++ B)) ++ Ft) b ∧ b ∉ Fi) ∨ b ∈ Fi) → ownd G ((A ++ (Fi ++ B)) ++ Ft) b := fun b z => z.elim (·.1) fun z => .inr (subi b z)
  have lO : ∀ b, ownd G ((A ++ (Fi ++ B)) ++ Ft) b → H1 b ≠ none := fun b z => by
    rcases z with z | z
    · exact y1.oo b z
    · obtain ⟨u, e, _⟩ := live b z
      rw [e]; exact fun q => nomatch q
  refine ⟨fun b => ownd G ((A ++ (Fi ++ B)) ++ Ft) b ∧ b ∉ Fi, [a], [o], Fi, ds, vs, _, rfl, ?_, rfl, fun b z => ⟨lO b z.1, z.2⟩, ⟨_, _, Fi, [], rfl, RepO.shr own r, ⟨rfl, rfl⟩, by simp⟩, ndi,
    Rps.stn (M := fun _ => False) (fun _ _ e _ => e) (fun _ z => z.elim) (fun _ z => z.elim) (fun b z => .inl (own b z)) ds vs rs, hS, ?_⟩
  · rw [List.length_cons, l]
    simp [shs]; omega
  rintro rr os' ⟨o', eo, hp⟩ v H' F' Fr hs ro rro ndf hf
  subst eo
  obtain ⟨w2, vs2, F3, F4, e2, r3, ⟨e4, e5⟩, e6⟩ := ro
  cases e2
  subst e5 e6
  have st : Stn (fun b => b ∈ Fi) H1 H' := fun b u e n => hs b u e n
  have mt : MutAt (fun b => b ∈ Fi) H1 := fun b hb ys => by
    obtain ⟨u, e, m⟩ := live b (subi b hb)
    rw [e]
    exact ⟨fun z => by cases z; exact m, fun o u' z => by cases z; exact m⟩
  have hm : ∀ b, (fun b => b ∈ Fi) b → ownd G ((A ++ (Fi ++ B)) ++ Ft) b := fun b z => .inr (subi b z)
  -- the new owned set
  have own2 : ∀ b, ownd G ((A ++ (F3 ++ B)) ++ (Fr ++ Ft)) b → (ownd G ((A ++ (Fi ++ B)) ++ Ft) b ∧ b ∉ Fi) ∨ b ∈ (F3 ++ []) ++ Fr := fun b z => by
    rcases z with z | z
    · exact .inl ⟨.inl z, fun q => (fr b (subi b q)).1 z⟩
    · simp only [List.mem_append] at z
      have rest : b ∈ (A ++ ([] ++ B)) ++ Ft → (ownd G ((A ++ (Fi ++ B)) ++ Ft) b ∧ b ∉ Fi) := fun h => ⟨.inr (subr b h), fun q => dj b q b h rfl⟩
      rcases z with (z | z | z) | z | z
      · exact .inl (rest (by simp [z]))
      · exact .inr (by simp [z])
      · exact .inl (rest (by simp [z]))
      · exact .inr (by simp [z])
      · exact .inl (rest (by simp [z]))
  have ho : ∀ b, ownd G ((A ++ (F3 ++ B)) ++ (Fr ++ Ft)) b → ownd G ((A ++ (Fi ++ B)) ++ Ft) b ∨ H1 b = none := fun b z => by
    rcases own2 b z with z | z
    · exact .inl z.1
    · rcases (hf b z).2 with q | q
      · exact .inr q
      · exact .inl (.inr (subi b q))
  refine q _ _ hp v H' ⟨A ++ (F3 ++ B), Fr ++ Ft, ?_, ⟨Fr, Ft, RepO.shr own2 rro, TmRep.stn st mt hm ho τ Ft (fun b hb z => dj b z b (by simp [hb]) rfl) h2, rfl⟩, ?_, fun b hb => ?_, fun b hb => ?_, fun b u e n => ?_⟩
  · have z := nx H' (ownd G ((A ++ (F3 ++ B)) ++ (Fr ++ Ft))) (fun b => b ∈ Fi) st mt hm ho (fun b hb z => dj b z b (by
      rw [List.mem_append] at hb
      rcases hb with hb | hb <;> simp [hb]) rfl) (s.put o') (some (.ref a)) F3 (back _ _ _ _ (RepO.shr own2 r3))
    rw [set_self ev0] at z
    exact z
  · have e : (A ++ (F3 ++ B)) ++ (Fr ++ Ft) = A ++ (F3 ++ (B ++ (Fr ++ Ft))) := by simp [List.append_assoc]
    have p1 : ((A ++ (F3 ++ B)) ++ (Fr ++ Ft)).Perm ((F3 ++ Fr) ++ ((A ++ ([] ++ B)) ++ Ft)) := by
      refine (perm_mid A F3 B (Fr ++ Ft)).trans ?_
      rw [List.append_assoc F3 Fr]
      exact List.Perm.append (.refl _) (perm_swap3 _ _ _)
    refine p1.nodup_iff.mpr ?_
    rw [List.nodup_append]
    rw [List.append_nil] at ndf
    exact ⟨ndf, ndr, fun b hb b2 h2 e => (hf b (by simpa using hb)).1 ⟨.inr (subr b (e ▸ h2)), fun q => dj b q b (e ▸ h2) rfl⟩⟩
  · have new : b ∈ (F3 ++ []) ++ Fr → ¬ G.Oo b ∧ (G.H0 b = none ∨ b ∈ G.B) := fun h => by
      refine ⟨fun z => (hf b h).1 ⟨.inl z, fun q => (fr b (subi b q)).1 z⟩, ?_⟩
      rcases (hf b h).2 with q | q
      · by_cases hb : b ∈ G.B
        · exact .inr hb
        · cases e0 : G.H0 b with
          | none => exact .inl rfl
          | some u => exact absurd (y1.sm b u e0 hb) (by rw [q]; exact fun z => nomatch z)
      · exact (fr b (subi b q)).2
    simp only [List.mem_append] at hb
    rcases hb with (hb | hb | hb) | hb | hb
    · exact fr b (by simp [hb])
    · exact new (by simp [hb])
    · exact fr b (by simp [hb])
    · exact new (by simp [hb])
    · exact fr b (by simp [hb])
  · have n : b ∉ Fi := fun q => (fr b (subi b q)).1 hb
    cases e : H1 b with
    | none => exact absurd e (y1.oo b hb)
    | some u => rw [hs b u e n]; exact fun z => nomatch z
  · have e1 := y1.sm b u e n
    by_cases hi : b ∈ Fi
    · rcases (fr b (subi b hi)).2 with q | q
      · rw [q] at e; cases e
      · exact absurd q n
    · exact hs b u e1 hi
end
end Pd
set_option Elab.async false
set_option linter.all false
set_option maxRecDepth 100000
set_option autoImplicit false
namespace Pd
open PySem PySem.Spec PyProof.Rows L2

section
variable {K : PySem.W.Frag} {H : Hp} {O : Addr → Prop}
theorem lay_list {ds : List PyData} (h : (PyData.list ds).canLay0 = true) : PyData.canLayAll0 ds = true := by simpa [PyData.canLay0] using h
theorem lay_tuple {ds : List PyData} (h : (PyData.tuple ds).canLay0 = true) : PyData.canLayAll0 ds = true := by simpa [PyData.canLay0] using h
theorem lay_cons {d : PyData} {ds : List PyData} (h : PyData.canLayAll0 (d :: ds) = true) : d.canLay0 = true ∧ PyData.canLayAll0 ds = true := by simpa [PyData.canLayAll0] using h
mutual
theorem Rp.dp : ∀ (d : PyData) (v : V), d.canLay0 = true → Rp K H O d v → Dp K H v d
  | .none, _, _, r => by rw [show _ = V.non from r]; exact .non
  | .bool b, _, _, r => by rw [show _ = V.bl b from r]; exact .bl b
  | .int b, _, _, r => by rw [show _ = V.int b from r]; exact .int b
  | .str b, _, _, r => by rw [show _ = V.str b from r]; exact .str b
  | .list ds, v, l, ⟨a, xs, e, h, q⟩ => by rw [e]; exact .lst (sqOf h) (Rps.dp ds xs (lay_list l) q)
  | .tuple ds, v, l, ⟨a, xs, e, h, q⟩ => by rw [e]; exact .tup h (Rps.dp ds xs (lay_tuple l) q)
  | .dict _, _, l, _ => nomatch l
theorem Rps.dp : ∀ (ds : List PyData) (vs : List V), PyData.canLayAll0 ds = true → Rps K H O ds vs → DpAll K H vs ds
  | [], _, _, e => by rw [show _ = [] from e]; exact .nil
  | d :: ds, _, l, ⟨v, vs, e, h1, h2⟩ => by rw [e]; exact .cons (Rp.dp d v (lay_cons l).1 h1) (Rps.dp ds vs (lay_cons l).2 h2)
end
mutual
theorem RepO.dp : ∀ (o : OT) (v : V) (F : List Addr), o.frz.canLay0 = true → RepO K H O o v F → Dp K H v o.frz
  | .sh d, v, F, l, ⟨_, r⟩ => Rp.dp d v l r
  | .ls ds, v, F, l, ⟨a, xs, e, h, q, _⟩ => by rw [e]; exact .lst (SqL.of h) (Rps.dp ds xs (lay_list l) q)
  | .dc _, _, _, l, _ => nomatch l
  | .lst os, v, F, l, ⟨a, xs, F', e, h, q, _⟩ => by rw [e]; exact .lst (SqL.of h) (RepOs.dp os xs F' (lay_list l) q)
  | .tup os, v, F, l, ⟨a, xs, e, h, q⟩ => by rw [e]; exact .tup (SqT.of h) (RepOs.dp os xs F (lay_tuple l) q)
  | .dic _ _, _, _, l, _ => nomatch l
  | .tpd ds, v, F, l, ⟨_, a, ob, xs, e, h, _, q⟩ => by rw [e]; exact .tup (.inl (.inr ⟨ob, h⟩)) (Rps.dp ds xs (lay_tuple l) q)
theorem RepOs.dp : ∀ (os : List OT) (vs : List V) (F : List Addr), PyData.canLayAll0 (frzs os) = true → RepOs K H O os vs F → DpAll K H vs (frzs os)
  | [], _, _, _, ⟨e, _⟩ => by rw [e]; exact .nil
  | o :: os, _, F, l, ⟨v, vs, F1, F2, e, h1, h2, _⟩ => by rw [e]; exact .cons (RepO.dp o v F1 (lay_cons l).1 h1) (RepOs.dp os vs F2 (lay_cons l).2 h2)
end
end
abbrev shp (d : PyData) : Prop := SeqAt.shaped d = true

section
variable {X : Cx} {N : List Str} {sc : Scope} {vi li : List Nat} {gs bs : List Str} {k : Nat} {G : Gx} {ρ : List Slot} {a b e lo hi : Expr} {pos p px : Pos} {Ψ : Post} {Θ : PostB} {x : Str} {Φ : Out → Prop} {s0 : Slot} {o0 : OT}
variable {K : PySem.W.Frag} {H : Hp} {O : Addr → Prop} {τ : List (V × OT)} {σ : L2.St}

/-! comparisons of data -/
theorem Cn.u64 (c : Cn X N sc vi li gs bs k) : X.A.units + 64 < cLine := by have := c.rm.un; omega
theorem Cn.u65 (c : Cn X N sc vi li gs bs k) : X.A.units + 65 < cLine := by have := c.rm.un; omega
theorem Cn.u1 (c : Cn X N sc vi li gs bs k) : X.A.units + 1 < cLine := by have := c.rm.un; omega
theorem State.dp2 {oa ob : OT} {x y : V} (s : State K G ρ ((y, ob) :: (x, oa) :: τ) σ H) (ha : shp oa.frz) (hb : shp ob.frz) : Dp K H x oa.frz ∧ Dp K H y ob.frz := by
  obtain ⟨O1, F1, r1⟩ := s.head
  obtain ⟨O2, F2, r2⟩ := s.drop.head
  exact ⟨RepO.dp _ _ _ (SeqAt.canLay_of_shaped ha) r2, RepO.dp _ _ _ (SeqAt.canLay_of_shaped hb) r1⟩
theorem ev_eq (c : Cn X N sc vi li gs bs k) (h : Ev X G ρ a fun oa ρ1 => Ev X G ρ1 b fun ob ρ2 => shp oa.frz ∧ shp ob.frz ∧ Ψ (oB (PyData.eqv oa.frz ob.frz)) ρ2) : Ev X G ρ (.Compare a [.Eq] [b] pos) Ψ :=
  ev_cmp (C := fun oa ob ρ2 => shp oa.frz ∧ shp ob.frz ∧ Ψ (oB (PyData.eqv oa.frz ob.frz)) ρ2) (op_eqD c.u64) (nomark _) h fun oa ob ρ2 τ σ H x y ⟨sa, sb, hp⟩ s Q q => by
    obtain ⟨d1, d2⟩ := s.dp2 sa sb
    exact ⟨_, _, d1, d2, sa, sb, q _ _ hp _ H (s.drop.drop.pB _)⟩
theorem ev_ne (c : Cn X N sc vi li gs bs k) (h : Ev X G ρ a fun oa ρ1 => Ev X G ρ1 b fun ob ρ2 => shp oa.frz ∧ shp ob.frz ∧ Ψ (oB (!PyData.eqv oa.frz ob.frz)) ρ2) : Ev X G ρ (.Compare a [.NotEq] [b] pos) Ψ :=
  ev_cmp (C := fun oa ob ρ2 => shp oa.frz ∧ shp ob.frz ∧ Ψ (oB (!PyData.eqv oa.frz ob.frz)) ρ2) (op_neD c.u64) (nomark _) h fun oa ob ρ2 τ σ H x y ⟨sa, sb, hp⟩ s Q q => by
    obtain ⟨d1, d2⟩ := s.dp2 sa sb
    exact ⟨_, _, d1, d2, sa, sb, q _ _ hp _ H (s.drop.drop.pB _)⟩
/-- NAME == e, NAME != e: the name looked at -/
theorem State.dpN {i : Nat} {oa ob : OT} {v y : V} (s : State K G ρ ((y, ob) :: τ) σ H) (hi : HAt ρ i oa) (hv : σ[i]? = some (some v)) (ha : shp oa.frz) (hb : shp ob.frz) : Dp K H v oa.frz ∧ Dp K H y ob.frz := by
  obtain ⟨O1, F1, r1⟩ := s.head
  obtain ⟨Fe, Ft, s⟩ := s
  obtain ⟨w, F, e, r⟩ := State.slotRep s hi
  rw [hv] at e; cases e
  exact ⟨RepO.dp _ _ _ (SeqAt.canLay_of_shaped ha) r, RepO.dp _ _ _ (SeqAt.canLay_of_shaped hb) r1⟩
theorem ev_neN (c : Cn X N sc vi li gs bs k) (i : Nat) (h : Ev X G ρ b fun ob ρ1 => ∃ oa, HAt ρ1 i oa ∧ shp oa.frz ∧ shp ob.frz ∧ Ψ (oB (!PyData.eqv oa.frz ob.frz)) ρ1)
    (h0 : ρ[i]? = some s0 := by rfl) (hh0 : Holds s0 o0 := by constructor) (hx : N[i]? = some x := by rfl) (hv : vi.elem i = true := by rfl) : Ev X G ρ (.Compare (.Name x px) [.NotEq] [b] pos) Ψ :=
  pe_imp (pe_cmpR (op_neD c.u64) (pe_slot c i hx hv) h (nomark _)) fun σ H Q ⟨τ, y, q⟩ => by
    obtain ⟨v, ev⟩ := y.slotV (hat h0 hh0)
    refine ⟨v, ev, τ, y, fun ob ρ1 ⟨oa, hi, sa, sb, hp⟩ w H1 s => ?_⟩
    obtain ⟨d1, d2⟩ := s.dpN hi ev sa sb
    exact ⟨_, _, d1, d2, sa, sb, q _ _ hp _ H1 (s.drop.pB _)⟩
theorem ev_eqN (c : Cn X N sc vi li gs bs k) (i : Nat) (h : Ev X G ρ b fun ob ρ1 => ∃ oa, HAt ρ1 i oa ∧ shp oa.frz ∧ shp ob.frz ∧ Ψ (oB (PyData.eqv oa.frz ob.frz)) ρ1)
    (h0 : ρ[i]? = some s0 := by rfl) (hh0 : Holds s0 o0 := by constructor) (hx : N[i]? = some x := by rfl) (hv : vi.elem i = true := by rfl) : Ev X G ρ (.Compare (.Name x px) [.Eq] [b] pos) Ψ :=
  pe_imp (pe_cmpR (op_eqD c.u64) (pe_slot c i hx hv) h (nomark _)) fun σ H Q ⟨τ, y, q⟩ => by
    obtain ⟨v, ev⟩ := y.slotV (hat h0 hh0)
    refine ⟨v, ev, τ, y, fun ob ρ1 ⟨oa, hi, sa, sb, hp⟩ w H1 s => ?_⟩
    obtain ⟨d1, d2⟩ := s.dpN hi ev sa sb
    exact ⟨_, _, d1, d2, sa, sb, q _ _ hp _ H1 (s.drop.pB _)⟩
/-- e in l, e not in l, l a list -/
theorem ev_inL (c : Cn X N sc vi li gs bs k) (hm : behindInMarks .In b = false) (h : Ev X G ρ a fun oa ρ1 => Ev X G ρ1 b fun ob ρ2 => ∃ ds, ob.frz = .list ds ∧ shp oa.frz ∧ shp (.list ds) ∧ Ψ (oB (ds.any fun z => PyData.eqv z oa.frz)) ρ2) : Ev X G ρ (.Compare a [.In] [b] pos) Ψ :=
  ev_cmp (C := fun oa ob ρ2 => ∃ ds, ob.frz = .list ds ∧ shp oa.frz ∧ shp (.list ds) ∧ Ψ (oB (ds.any fun z => PyData.eqv z oa.frz)) ρ2) (op_inD c.u65) hm h fun oa ob ρ2 τ σ H x y ⟨ds, eo, sa, sb, hp⟩ s Q q => by
    obtain ⟨d1, d2⟩ := s.dp2 sa (by rw [eo]; exact sb)
    rw [eo] at d2
    exact ⟨_, _, d1, d2, sa, sb, q _ _ hp _ H (s.drop.drop.pB _)⟩
theorem ev_ninL (c : Cn X N sc vi li gs bs k) (hm : behindInMarks .NotIn b = false) (h : Ev X G ρ a fun oa ρ1 => Ev X G ρ1 b fun ob ρ2 => ∃ ds, ob.frz = .list ds ∧ shp oa.frz ∧ shp (.list ds) ∧ Ψ (oB (!ds.any fun z => PyData.eqv z oa.frz)) ρ2) : Ev X G ρ (.Compare a [.NotIn] [b] pos) Ψ :=
  ev_cmp (C := fun oa ob ρ2 => ∃ ds, ob.frz = .list ds ∧ shp oa.frz ∧ shp (.list ds) ∧ Ψ (oB (!ds.any fun z => PyData.eqv z oa.frz)) ρ2) (op_notInD c.u65) hm h fun oa ob ρ2 τ σ H x y ⟨ds, eo, sa, sb, hp⟩ s Q q => by
    obtain ⟨d1, d2⟩ := s.dp2 sa (by rw [eo]; exact sb)
    rw [eo] at d2
    exact ⟨_, _, d1, d2, sa, sb, q _ _ hp _ H (s.drop.drop.pB _)⟩
/-- numbers -/
def nums (ns : List Int) : List PyData := ns.map .int
theorem Rps.nums : ∀ {ns : List Int} {vs : List V}, Rps K H O (nums ns) vs → vs = ns.map V.int
  | [], _, e => e
  | n :: ns, _, ⟨v, vs, e, h1, h2⟩ => by
    have h2 := Rps.nums (ns := ns) h2
    subst h2
    rw [e, show v = V.int n from h1]; rfl
theorem Rps.ofNums : ∀ (ns : List Int), Rps K H O (Pd.nums ns) (ns.map V.int)
  | [] => rfl
  | n :: ns => ⟨V.int n, _, rfl, rfl, Rps.ofNums ns⟩
theorem inV_ints (i : Int) (ns : List Int) : inV (.int i) (ns.map V.int) = decide (i ∈ ns) := by
  induction ns with
  | nil => simp [inV]
  | cons n ns ih =>
    simp only [inV, List.map_cons, List.any_cons] at ih ⊢
    rw [ih]
    by_cases h : n = i
    · subst h; simp [eqV]
    · have h2 : i ≠ n := fun e => h e.symm
      simp [eqV, h, h2]

theorem SeqV.viewN {o : OT} {ns : List Int} {v : V} {F : List Addr} (s : SeqV o (nums ns)) (r : RepO K H O o v F) : ∃ p, v = .ref p ∧ (SqL K H p (ns.map V.int) ∨ SqT K H p (ns.map V.int)) := by
  obtain ⟨p, xs, ev, sq, rs⟩ := s.view r
  rw [Rps.nums rs] at sq
  exact ⟨p, ev, sq⟩
theorem flatInts (ns : List Int) : (ns.map V.int).all flatV = true := by
  induction ns with
  | nil => rfl
  | cons n ns ih => simp only [List.map_cons, List.all_cons, ih, Bool.and_true]; rfl
/-- i in xs, numbers -/
theorem ev_inI (h : Ev X G ρ a (isI fun i ρ1 => Ev X G ρ1 b (isSeq fun ds ρ2 => ∃ ns, ds = nums ns ∧ Ψ (oB (decide (i ∈ ns))) ρ2))) (hm : behindInMarks .In b = false) : Ev X G ρ (.Compare a [.In] [b] pos) Ψ :=
  ev_cmp (C := fun oa ob ρ2 => ∃ i ns, oa = oI i ∧ SeqV ob (nums ns) ∧ Ψ (oB (decide (i ∈ ns))) ρ2) op_in_seq hm (ev_mono h fun oa ρ1 ⟨i, e, z⟩ => ev_mono z fun ob ρ2 ⟨ds, hs, ns, e2, hp⟩ => ⟨i, ns, e, e2 ▸ hs, hp⟩) fun oa ob ρ2 τ σ H x y ⟨i, ns, e1, hs, hp⟩ s Q q => by
    subst e1
    obtain ⟨O1, F1, r1⟩ := s.head
    obtain ⟨p, ev, sq⟩ := hs.viewN r1
    have ex := s.drop.headI
    subst ex
    exact ⟨p, _, ev, sq, rfl, flatInts ns, by rw [if_neg (by decide), inV_ints]; exact q _ _ hp _ H (s.drop.drop.pB _)⟩
theorem ev_ninI (h : Ev X G ρ a (isI fun i ρ1 => Ev X G ρ1 b (isSeq fun ds ρ2 => ∃ ns, ds = nums ns ∧ Ψ (oB (!decide (i ∈ ns))) ρ2))) (hm : behindInMarks .NotIn b = false) : Ev X G ρ (.Compare a [.NotIn] [b] pos) Ψ :=
  ev_cmp (C := fun oa ob ρ2 => ∃ i ns, oa = oI i ∧ SeqV ob (nums ns) ∧ Ψ (oB (!decide (i ∈ ns))) ρ2) op_notIn_seq hm (ev_mono h fun oa ρ1 ⟨i, e, z⟩ => ev_mono z fun ob ρ2 ⟨ds, hs, ns, e2, hp⟩ => ⟨i, ns, e, e2 ▸ hs, hp⟩) fun oa ob ρ2 τ σ H x y ⟨i, ns, e1, hs, hp⟩ s Q q => by
    subst e1
    obtain ⟨O1, F1, r1⟩ := s.head
    obtain ⟨p, ev, sq⟩ := hs.viewN r1
    have ex := s.drop.headI
    subst ex
    exact ⟨p, _, ev, sq, rfl, flatInts ns, by rw [if_pos rfl, inV_ints]; exact q _ _ hp _ H (s.drop.drop.pB _)⟩
/-- i in NAME, i not in NAME: NAME looked at -/
theorem ev_inIN (c : Cn X N sc vi li gs bs k) (i : Nat) (h : Ev X G ρ a (isI fun z ρ1 => ∃ o ns, HAt ρ1 i o ∧ SeqV o (nums ns) ∧ Ψ (oB (decide (z ∈ ns))) ρ1)) (hm : behindInMarks .In (.Name x px) = false) (hx : N[i]? = some x := by rfl) (hv : vi.elem i = true := by rfl) : Ev X G ρ (.Compare a [.In] [.Name x px] pos) Ψ :=
  pe_imp (pe_cmpR op_in_seq h (pe_slot c i hx hv) hm) fun σ H Q ⟨τ, y, q⟩ => ⟨τ, y, fun oa ρ1 ⟨z, eo, o, ns, hi, hs, hp⟩ v H1 s => by
    subst eo
    have ev := s.headI
    subst ev
    obtain ⟨Fe, Ft, s1⟩ := s.drop
    obtain ⟨w, F, e, r⟩ := State.slotRep s1 hi
    obtain ⟨p, ew, sq⟩ := hs.viewN r
    exact ⟨w, e, p, _, ew, sq, rfl, flatInts ns, by rw [if_neg (by decide), inV_ints]; exact q _ _ hp _ H1 (s.drop.pB _)⟩⟩
theorem ev_ninIN (c : Cn X N sc vi li gs bs k) (i : Nat) (h : Ev X G ρ a (isI fun z ρ1 => ∃ o ns, HAt ρ1 i o ∧ SeqV o (nums ns) ∧ Ψ (oB (!decide (z ∈ ns))) ρ1)) (hm : behindInMarks .NotIn (.Name x px) = false) (hx : N[i]? = some x := by rfl) (hv : vi.elem i = true := by rfl) : Ev X G ρ (.Compare a [.NotIn] [.Name x px] pos) Ψ :=
  pe_imp (pe_cmpR op_notIn_seq h (pe_slot c i hx hv) hm) fun σ H Q ⟨τ, y, q⟩ => ⟨τ, y, fun oa ρ1 ⟨z, eo, o, ns, hi, hs, hp⟩ v H1 s => by
    subst eo
    have ev := s.headI
    subst ev
    obtain ⟨Fe, Ft, s1⟩ := s.drop
    obtain ⟨w, F, e, r⟩ := State.slotRep s1 hi
    obtain ⟨p, ew, sq⟩ := hs.viewN r
    exact ⟨w, e, p, _, ew, sq, rfl, flatInts ns, by rw [if_pos rfl, inV_ints]; exact q _ _ hp _ H1 (s.drop.pB _)⟩⟩

/-! is True, is not True, .. -/
theorem is_bl_gen {prog : Program} {w : World} {A : Around} {E : Value → Shared → Prop} {s : Shared} {u b : Bool} {Q : Value → Shared → Prop} (h : Q (.bool (u == b)) s) : wpAny (model prog w) A (compareOp .Is (.bool u) (.bool b)) Q E s := by
  cases u <;> cases b <;> exact wpAny_pure h
theorem isnot_bl_gen {prog : Program} {w : World} {A : Around} {E : Value → Shared → Prop} {s : Shared} {u b : Bool} {Q : Value → Shared → Prop} (h : Q (.bool (!(u == b))) s) : wpAny (model prog w) A (compareOp .IsNot (.bool u) (.bool b)) Q E s := by
  cases u <;> cases b <;> exact wpAny_pure h
theorem op_isB : OpR X (compareOp .Is) (fun x y H Q => ∃ a b, x = .bl a ∧ y = .bl b ∧ Q (.bl (a == b)) H) := by
  intro pins s σ H x y v u Q I rx ry h
  obtain ⟨a, b, rfl, rfl, q⟩ := h
  cases rx
  cases ry
  exact is_bl_gen (fin_bl I q rfl)
theorem op_isnotB : OpR X (compareOp .IsNot) (fun x y H Q => ∃ a b, x = .bl a ∧ y = .bl b ∧ Q (.bl (!(a == b))) H) := by
  intro pins s σ H x y v u Q I rx ry h
  obtain ⟨a, b, rfl, rfl, q⟩ := h
  cases rx
  cases ry
  exact isnot_bl_gen (fin_bl I q rfl)
theorem ev_isB (h : Ev X G ρ a (isB fun u ρ1 => Ev X G ρ1 b (isB fun w ρ2 => Ψ (oB (u == w)) ρ2))) : Ev X G ρ (.Compare a [.Is] [b] pos) Ψ :=
  ev_cmp (C := fun oa ob ρ2 => ∃ u w, oa = oB u ∧ ob = oB w ∧ Ψ (oB (u == w)) ρ2) op_isB (nomark _) (ev_mono h fun oa ρ1 ⟨i, e, z⟩ => ev_mono z fun ob ρ2 ⟨w, e2, hp⟩ => ⟨i, w, e, e2, hp⟩) fun oa ob ρ2 τ σ H x y ⟨u, w, e1, e2, hp⟩ s Q q => by
    subst e1 e2
    exact ⟨u, w, s.drop.headB, s.headB, q _ _ hp _ H (s.drop.drop.pB _)⟩
theorem ev_isnotB (h : Ev X G ρ a (isB fun u ρ1 => Ev X G ρ1 b (isB fun w ρ2 => Ψ (oB (!(u == w))) ρ2))) : Ev X G ρ (.Compare a [.IsNot] [b] pos) Ψ :=
  ev_cmp (C := fun oa ob ρ2 => ∃ u w, oa = oB u ∧ ob = oB w ∧ Ψ (oB (!(u == w))) ρ2) op_isnotB (nomark _) (ev_mono h fun oa ρ1 ⟨i, e, z⟩ => ev_mono z fun ob ρ2 ⟨w, e2, hp⟩ => ⟨i, w, e, e2, hp⟩) fun oa ob ρ2 τ σ H x y ⟨u, w, e1, e2, hp⟩ s Q q => by
    subst e1 e2
    exact ⟨u, w, s.drop.headB, s.headB, q _ _ hp _ H (s.drop.drop.pB _)⟩

/-! isinstance -/
def tyn : PyData → String
  | .none => "NoneType"
  | .bool _ => "bool"
  | .int _ => "int"
  | .str _ => "str"
  | .list _ => "list"
  | .tuple _ => "tuple"
  | .dict _ => "dict"
theorem RepO.ty : ∀ {o : OT} {v : V} {F : List Addr}, RepO K H O o v F → TyX K H v (.type (tyn o.frz))
  | .sh .none, _, _, ⟨_, r⟩ => by rw [show _ = V.non from r]; exact .base .non
  | .sh (.bool b), _, _, ⟨_, r⟩ => by rw [show _ = V.bl b from r]; exact .base (.bl b)
  | .sh (.int b), _, _, ⟨_, r⟩ => by rw [show _ = V.int b from r]; exact .base (.int b)
  | .sh (.str b), _, _, ⟨_, r⟩ => by rw [show _ = V.str b from r]; exact .base (.str b)
  | .sh (.list ds), _, _, ⟨_, a, xs, e, h, _⟩ => by
    rw [e]
    rcases h with ⟨h | ⟨o, h⟩, _⟩ | (h | ⟨o, h⟩) | ⟨o, its, n, h1, h2, _⟩
    · exact .base (.lst h)
    · exact .base (.frz h)
    · cases h
    · cases h
    · exact .kList h1 h2
  | .sh (.tuple ds), _, _, ⟨_, a, xs, e, h, _⟩ => by
    rw [e]
    rcases h with (h | ⟨o, h⟩) | ⟨o, its, n, h1, h2, _⟩
    · exact .base (.tup h)
    · exact .fTuple h
    · exact .kTuple h1 h2
  | .sh (.dict ds), _, _, ⟨_, a, ks, vs, e, h, _, _⟩ => by
    rw [e]
    exact .base (.dK h)
  | .ls ds, _, _, ⟨a, xs, e, h, _⟩ => by rw [e]; exact .base (.lst h)
  | .dc ds, _, _, ⟨a, xs, e, h, _⟩ => by rw [e]; exact .base (.dK h)
  | .lst ds, _, _, ⟨a, xs, F', e, h, _⟩ => by rw [e]; exact .base (.lst h)
  | .tup ds, _, _, ⟨a, xs, e, h, _⟩ => by rw [e]; exact .base (.tup h)
  | .dic ks ds, _, _, ⟨a, xs, F', e, h, _⟩ => by rw [e]; exact .base (.dK h)
  | .tpd ds, _, _, ⟨_, a, ob, xs, e, h, _⟩ => by rw [e]; exact .fTuple h
def isiN (n T : String) : Bool := n == T || (n == "bool" && T == "int")
def isiT (T : String) (d : PyData) : Bool := isiN (tyn d) T
def IsiOk (T : String) : Prop := ∀ n ∈ ["NoneType", "bool", "int", "str", "list", "tuple", "dict"], kitB n T = some (isiN n T)
theorem isi_int : IsiOk "int" := by unfold IsiOk; decide +kernel
theorem isi_bool : IsiOk "bool" := by unfold IsiOk; decide +kernel
theorem isi_str : IsiOk "str" := by unfold IsiOk; decide +kernel
theorem isi_tuple : IsiOk "tuple" := by unfold IsiOk; decide +kernel
theorem isi_list : IsiOk "list" := by unfold IsiOk; decide +kernel
theorem tyn_mem (d : PyData) : tyn d ∈ ["NoneType", "bool", "int", "str", "list", "tuple", "dict"] := by cases d <;> simp [tyn]
theorem ev_isi {T : Str} {id : String} {pT : Pos} (c : Cn X N sc vi li gs bs k) (j jT : Nat) (hT : IsiOk id) (hv : bootBuiltins T = some (.type id)) (h : Pv X G ρ e fun o ρ1 => Ψ (oB (isiT id o.frz)) ρ1) (hj : bs[j]? = some ("isinstance" : Str) := by rfl) (hjT : bs[jT]? = some T := by rfl)
    (hn : T ≠ "__name__" := by decide) (hd : (T == ("__debug__" : Str)) = false := by decide) (he : NoStar e := by exact fun _ _ => rfl) : Ev X G ρ (.Call (.Name "isinstance" p) [e, .Name T pT] [] pos) Ψ :=
  pe_imp (pe_callB call_isi (c.bg j hj) (c.bm j hj) PyProof.Rows.boot_isinstance (pa_cons h (pa_cons (pe_bltn (c.bg jT hjT) (c.bm jT hjT) hv (show RelV (.ty id) (.type id) from rfl) hn hd) pa_nil rfl) (he _ _)) (by decide) (by decide) (he _ _) rfl) fun σ H Q ⟨τ, y, q⟩ => ⟨τ, y, fun o ρ1 hp v H' Fe Ft F z rep =>
    ⟨v, .ty id, _, .type id, isiT id o.frz, rfl, .ty id, rep.ty, kit_ty (hT _ (tyn_mem _)), q _ _ hp _ H' (z.st.pB _)⟩⟩
end
end Pd
set_option Elab.async false
set_option linter.all false
set_option maxRecDepth 100000
set_option autoImplicit false
namespace Pd
open PySem PySem.Spec PyProof.Rows L2

section
variable {X : Cx} {N : List Str} {sc : Scope} {vi li : List Nat} {gs bs : List Str} {k : Nat} {G : Gx} {ρ : List Slot} {a b e lo hi : Expr} {pos p px : Pos} {Ψ : Post} {Θ : PostB} {x : Str} {Φ : Out → Prop} {s0 : Slot} {o0 : OT} {Ξ : PostI}
variable {K : PySem.W.Frag} {H : Hp} {O : Addr → Prop} {τ : List (V × OT)} {σ : L2.St}

/-! built-ins of one value -/
def bls (bs : List Bool) : List PyData := bs.map .bool
theorem Rps.bls : ∀ {ns : List Bool} {vs : List V}, Rps K H O (Pd.bls ns) vs → vs = ns.map V.bl
  | [], _, e => e
  | n :: ns, _, ⟨v, vs, e, h1, h2⟩ => by
    have h2 := Rps.bls (ns := ns) h2
    subst h2
    rw [e, show v = V.bl n from h1]; rfl
inductive IsLs : OT → List PyData → Prop
  | sh (ds : List PyData) : IsLs (.sh (.list ds)) ds
  | ls (ds : List PyData) : IsLs (.ls ds) ds
theorem IsLs.view {o : OT} {ds : List PyData} {v : V} {F : List Addr} (s : IsLs o ds) (r : RepO K H O o v F) : ∃ p xs, v = .ref p ∧ SqL K H p xs ∧ Rps K H O ds xs := by
  cases s with
  | sh => obtain ⟨_, a, xs, e, h, q⟩ := r; exact ⟨a, xs, e, sqOf h, q⟩
  | ls => obtain ⟨a, xs, e, h, q, _⟩ := r; exact ⟨a, xs, e, SqL.of h, q⟩
def onBs (Φ : List Bool → List Slot → Prop) : Post := fun o ρ => ∃ b, IsLs o (bls b) ∧ Φ b ρ
def onNs (Φ : List Int → List Slot → Prop) : Post := fun o ρ => ∃ b, IsLs o (nums b) ∧ Φ b ρ
theorem ev_all (c : Cn X N sc vi li gs bs k) (j : Nat) (h : Pv X G ρ e (onBs fun b ρ1 => Ψ (oB (b.all id)) ρ1)) (hj : bs[j]? = some ("all" : Str) := by rfl) (he : NoStar e := by exact fun _ _ => rfl) : Ev X G ρ (.Call (.Name "all" p) [e] [] pos) Ψ :=
  ev_cb1 c (cr_all c.cm) j PyProof.Rows.boot_all h (fun o ρ1 τ σ H v Fe Ft F ⟨b, hs, hp⟩ x r Q q => by
    obtain ⟨a, xs, ev, sq, rs⟩ := hs.view r
    rw [Rps.bls rs] at sq
    exact ⟨a, b, by rw [ev], sq, q _ _ hp _ H (x.st.pB _)⟩) hj he (by decide) (by decide)
theorem ev_any (c : Cn X N sc vi li gs bs k) (j : Nat) (h : Pv X G ρ e (onBs fun b ρ1 => Ψ (oB (b.any id)) ρ1)) (hj : bs[j]? = some ("any" : Str) := by rfl) (he : NoStar e := by exact fun _ _ => rfl) : Ev X G ρ (.Call (.Name "any" p) [e] [] pos) Ψ :=
  ev_cb1 c (cr_any c.cm) j PyProof.Rows.boot_any h (fun o ρ1 τ σ H v Fe Ft F ⟨b, hs, hp⟩ x r Q q => by
    obtain ⟨a, xs, ev, sq, rs⟩ := hs.view r
    rw [Rps.bls rs] at sq
    exact ⟨a, b, by rw [ev], sq, q _ _ hp _ H (x.st.pB _)⟩) hj he (by decide) (by decide)
theorem ev_sum (c : Cn X N sc vi li gs bs k) (j : Nat) (h : Pv X G ρ e (onNs fun b ρ1 => Ψ (oI b.sum) ρ1)) (hj : bs[j]? = some ("sum" : Str) := by rfl) (he : NoStar e := by exact fun _ _ => rfl) : Ev X G ρ (.Call (.Name "sum" p) [e] [] pos) Ψ :=
  ev_cb1 c (cr_sum c.cm) j PyProof.Rows.boot_sum h (fun o ρ1 τ σ H v Fe Ft F ⟨b, hs, hp⟩ x r Q q => by
    obtain ⟨a, xs, ev, sq, rs⟩ := hs.view r
    rw [Rps.nums rs] at sq
    exact ⟨a, b, by rw [ev], sq, q _ _ hp _ H (x.st.pI _)⟩) hj he (by decide) (by decide)
theorem ev_min (c : Cn X N sc vi li gs bs k) (j : Nat) (h : Pv X G ρ e (onNs fun b ρ1 => 0 < b.length ∧ ∀ m, m ∈ b → (∀ y ∈ b, m ≤ y) → Ψ (oI m) ρ1)) (hj : bs[j]? = some ("min" : Str) := by rfl) (he : NoStar e := by exact fun _ _ => rfl) : Ev X G ρ (.Call (.Name "min" p) [e] [] pos) Ψ :=
  ev_cb1 c (cr_min c.cm) j boot_min h (fun o ρ1 τ σ H v Fe Ft F ⟨b, hs, hl, hp⟩ x r Q q => by
    obtain ⟨a, xs, ev, sq, rs⟩ := hs.view r
    rw [Rps.nums rs] at sq
    exact ⟨a, b, by rw [ev], sq, hl, fun m h1 h2 => q _ _ (hp m h1 h2) _ H (x.st.pI _)⟩) hj he (by decide) (by decide)
theorem ev_max (c : Cn X N sc vi li gs bs k) (j : Nat) (h : Pv X G ρ e (onNs fun b ρ1 => 0 < b.length ∧ ∀ m, m ∈ b → (∀ y ∈ b, y ≤ m) → Ψ (oI m) ρ1)) (hj : bs[j]? = some ("max" : Str) := by rfl) (he : NoStar e := by exact fun _ _ => rfl) : Ev X G ρ (.Call (.Name "max" p) [e] [] pos) Ψ :=
  ev_cb1 c (cr_max c.cm) j boot_max h (fun o ρ1 τ σ H v Fe Ft F ⟨b, hs, hl, hp⟩ x r Q q => by
    obtain ⟨a, xs, ev, sq, rs⟩ := hs.view r
    rw [Rps.nums rs] at sq
    exact ⟨a, b, by rw [ev], sq, hl, fun m h1 h2 => q _ _ (hp m h1 h2) _ H (x.st.pI _)⟩) hj he (by decide) (by decide)
theorem ev_sorted (c : Cn X N sc vi li gs bs k) (j : Nat) (h : Pv X G ρ e (onNs fun b ρ1 => ∀ b' : List Int, b'.Perm b → b'.Pairwise (· ≤ ·) → Ψ (.ls (nums b')) ρ1)) (hj : bs[j]? = some ("sorted" : Str) := by rfl) (he : NoStar e := by exact fun _ _ => rfl) : Ev X G ρ (.Call (.Name "sorted" p) [e] [] pos) Ψ :=
  ev_cb1 c cr_sortedI j boot_sorted h (fun o ρ1 τ σ H v Fe Ft F ⟨b, hs, hp⟩ x r Q q => by
    obtain ⟨a, xs, ev, sq, rs⟩ := hs.view r
    rw [Rps.nums rs] at sq
    exact ⟨a, b, by rw [ev], sq, fun ns' p h1 h2 hn => q _ _ (hp ns' h1 h2) _ _ (x.newL (Rps.ofNums ns') hn)⟩) hj he (by decide) (by decide)
theorem repI {i : Int} {v : V} {F : List Addr} (r : RepO K H O (oI i) v F) : v = .int i := r.2
theorem ev_abs (c : Cn X N sc vi li gs bs k) (j : Nat) (h : Ev X G ρ e (isI fun i ρ1 => Ψ (oI (if i < 0 then -i else i)) ρ1)) (hj : bs[j]? = some ("abs" : Str) := by rfl) (he : NoStar e := by exact fun _ _ => rfl) : Ev X G ρ (.Call (.Name "abs" p) [e] [] pos) Ψ :=
  ev_cb1 c call_abs j boot_abs (pv_ev h) (fun o ρ1 τ σ H v Fe Ft F ⟨i, eo, hp⟩ x r Q q => by
    subst eo
    exact ⟨i, by rw [repI r], q _ _ hp _ H (x.st.pI _)⟩) hj he (by decide) (by decide)
theorem ev_intI (c : Cn X N sc vi li gs bs k) (j : Nat) (h : Ev X G ρ e (isI fun i ρ1 => Ψ (oI i) ρ1)) (hj : bs[j]? = some ("int" : Str) := by rfl) (he : NoStar e := by exact fun _ _ => rfl) : Ev X G ρ (.Call (.Name "int" p) [e] [] pos) Ψ :=
  ev_ct1 c call_int1 j boot_int (pv_ev h) (fun o ρ1 τ σ H v Fe Ft F ⟨i, eo, hp⟩ x r Q q => by
    subst eo
    exact .inl ⟨i, by rw [repI r], q _ _ hp _ H (x.st.pI _)⟩) hj he (by decide) (by decide)
theorem ev_intB (c : Cn X N sc vi li gs bs k) (j : Nat) (h : Ev X G ρ e (isB fun i ρ1 => Ψ (oI (if i then 1 else 0)) ρ1)) (hj : bs[j]? = some ("int" : Str) := by rfl) (he : NoStar e := by exact fun _ _ => rfl) : Ev X G ρ (.Call (.Name "int" p) [e] [] pos) Ψ :=
  ev_ct1 c call_int1 j boot_int (pv_ev h) (fun o ρ1 τ σ H v Fe Ft F ⟨i, eo, hp⟩ x r Q q => by
    subst eo
    exact .inr ⟨i, by rw [show v = V.bl i from r.2], q _ _ hp _ H (x.st.pI _)⟩) hj he (by decide) (by decide)

/-! built-ins of two numbers -/
theorem ev_cb2 {r : List V → Hp → VK → Prop} {id : String} (c : Cn X N sc vi li gs bs k) (hc : CallR X (.builtin id) r) (j : Nat) (hv : bootBuiltins x = some (.builtin id)) {C : Int → Int → List Slot → Prop} (ha : Ev X G ρ a (isI fun i ρ1 => Ev X G ρ1 b (isI fun j ρ2 => C i j ρ2)))
    (h : ∀ i j ρ1 τ σ H, C i j ρ1 → State X.K G ρ1 τ σ H → ∀ Q : VK, (∀ o' ρ', Ψ o' ρ' → ∀ w H', State X.K G ρ' ((w, o') :: τ) σ H' → Q w H') → r [.int i, .int j] H Q)
    (hj : bs[j]? = some x) (he : NoStar a) (he2 : NoStar b) (hn : x ≠ "__name__") (hdb : (x == ("__debug__" : Str)) = false) : Ev X G ρ (.Call (.Name x p) [a, b] [] pos) Ψ :=
  pe_imp (pe_callB hc (c.bg j hj) (c.bm j hj) hv (pa_cons ha (pa_cons (pe_dyn (G := G)) pa_nil (he2 _ _)) (he _ _)) hn hdb (he _ _) (by rw [he2]; rfl)) fun σ H Q ⟨τ, y, q⟩ => ⟨τ, y, fun o ρ1 ⟨i, e1, z⟩ v H1 w => ⟨ρ1, _, z, _, w, fun o2 ρ2 ⟨j2, e2, hp⟩ u H2 w2 => by
    subst e1 e2
    obtain ⟨rfl, rfl, s2⟩ := ints2 w2
    exact h i j2 ρ2 _ _ H2 hp s2 Q q⟩⟩
theorem ev_max2 (c : Cn X N sc vi li gs bs k) (j : Nat) (h : Ev X G ρ a (isI fun i ρ1 => Ev X G ρ1 b (isI fun j ρ2 => Ψ (oI (if j > i then j else i)) ρ2))) (hj : bs[j]? = some ("max" : Str) := by rfl) (he : NoStar a := by exact fun _ _ => rfl) (he2 : NoStar b := by exact fun _ _ => rfl) : Ev X G ρ (.Call (.Name "max" p) [a, b] [] pos) Ψ :=
  ev_cb2 c (call_max2 c.cm) j boot_max h (fun i j ρ1 τ σ H hp s Q q => ⟨i, j, rfl, q _ _ hp _ H (s.pI _)⟩) hj he he2 (by decide) (by decide)
theorem ev_min2 (c : Cn X N sc vi li gs bs k) (j : Nat) (h : Ev X G ρ a (isI fun i ρ1 => Ev X G ρ1 b (isI fun j ρ2 => Ψ (oI (if j < i then j else i)) ρ2))) (hj : bs[j]? = some ("min" : Str) := by rfl) (he : NoStar a := by exact fun _ _ => rfl) (he2 : NoStar b := by exact fun _ _ => rfl) : Ev X G ρ (.Call (.Name "min" p) [a, b] [] pos) Ψ :=
  ev_cb2 c (call_min2 c.cm) j boot_min h (fun i j ρ1 τ σ H hp s Q q => ⟨i, j, rfl, q _ _ hp _ H (s.pI _)⟩) hj he he2 (by decide) (by decide)
theorem ev_divmod (c : Cn X N sc vi li gs bs k) (j : Nat) (h : Ev X G ρ a (isI fun i ρ1 => Ev X G ρ1 b (isI fun j ρ2 => CDiv i j ∧ Ψ (.sh (.tuple [.int (i / j), .int (i % j)])) ρ2))) (hj : bs[j]? = some ("divmod" : Str) := by rfl) (he : NoStar a := by exact fun _ _ => rfl) (he2 : NoStar b := by exact fun _ _ => rfl) : Ev X G ρ (.Call (.Name "divmod" p) [a, b] [] pos) Ψ :=
  ev_cb2 c call_divmod j PyProof.Rows.boot_divmod h (fun i j ρ1 τ σ H ⟨hd, hp⟩ s Q q => ⟨i, j, rfl, hd, fun p hn => q _ _ hp _ _ (by
    obtain ⟨Fe, Ft, s⟩ := s
    exact s.newT (Rps.ofNums [i / j, i % j]) hn)⟩) hj he he2 (by decide) (by decide)

/-! slices -/
abbrev PostO := Option Int → List Slot → Prop
def TOv (K : PySem.W.Frag) (G : Gx) (ρ : List Slot) (Ψ : PostO) : TO := fun σ H Q => ∃ τ, State K G ρ τ σ H ∧ ∀ i ρ', Ψ i ρ' → ∀ H', State K G ρ' τ σ H' → Q i H'
def Ov (X : Cx) (G : Gx) (ρ : List Slot) (e : Option Expr) (Ψ : PostO) : Prop := PO X e (TOv X.K G ρ Ψ)
theorem po_imp {e : Option Expr} {t t' : TO} (h : PO X e t) (hi : ∀ σ H Q, t' σ H Q → t σ H Q) : PO X e t' := ⟨fun pins s σ H Q I q => h.run pins s σ H Q I (hi σ H Q q)⟩
theorem po_dyn {e : Option Expr} : PO X e (fun σ H Q => ∃ ρ Ψ, Ov X G ρ e Ψ ∧ TOv X.K G ρ Ψ σ H Q) := ⟨fun pins s σ H Q I ⟨ρ, Ψ, h, q⟩ => PO.run h pins s σ H Q I q⟩
theorem ov_none {Ψ : PostO} (h : Ψ none ρ) : Ov X G ρ none Ψ := po_imp po_none fun σ H Q ⟨τ, x, q⟩ => q _ _ h H x
theorem ov_some {Ψ : PostO} (h : Ev X G ρ e (isI fun i ρ1 => Ψ (some i) ρ1)) : Ov X G ρ (some e) Ψ := po_imp (po_some h) fun σ H Q ⟨τ, x, q⟩ => ⟨τ, x, fun o ρ' ⟨i, eo, hp⟩ v H' y => by
  subst eo
  exact ⟨i, y.headI, q _ _ hp H' y.drop⟩⟩
def cutD (ds : List PyData) (lo hi : Option Int) : List PyData := (ds.drop (HT.sIx ds.length 0 lo)).take (HT.sIx ds.length ds.length hi - HT.sIx ds.length 0 lo)
theorem Rps.cut {ds : List PyData} {vs : List V} (r : Rps K H O ds vs) (lo hi : Option Int) : Rps K H O (cutD ds lo hi) (cutV vs lo hi) := by
  unfold cutD cutV
  rw [r.len]
  exact Rps.take _ (Rps.drop _ r)
/-- of a slice: a list's is a list, a tuple's a tuple -/
inductive CutO : OT → Option Int → Option Int → OT → Prop
  | shl {ds : List PyData} {lo hi} : CutO (.sh (.list ds)) lo hi (.ls (cutD ds lo hi))
  | ls {ds : List PyData} {lo hi} : CutO (.ls ds) lo hi (.ls (cutD ds lo hi))
  | sht {ds : List PyData} {lo hi} : CutO (.sh (.tuple ds)) lo hi (.sh (.tuple (cutD ds lo hi)))
theorem cut_fin {o r : OT} {lo hi : Option Int} {v : V} {Fe Ft F : List Addr} {Q : VK} (c : CutO o lo hi r) (x : StX K G ρ τ σ H Fe Ft) (rep : RepO K H (ownd G (Fe ++ Ft)) o v F) (q : ∀ w H', State K G ρ ((w, r) :: τ) σ H' → Q w H') : rSlL K v lo hi H Q ∨ rSlA K v lo hi H Q := by
  cases c with
  | @shl ds lo hi =>
    obtain ⟨_, a, xs, e, h, rs⟩ := rep
    exact .inl ⟨a, xs, e, sqOf h, fun p hn => q _ _ (x.newL (rs.cut lo hi) hn)⟩
  | @ls ds lo hi =>
    obtain ⟨a, xs, e, h, rs, _⟩ := rep
    exact .inl ⟨a, xs, e, SqL.of h, fun p hn => q _ _ (x.newL (rs.cut lo hi) hn)⟩
  | @sht ds lo hi =>
    obtain ⟨_, a, xs, e, h, rs⟩ := rep
    refine .inr ⟨a, xs, e, h, fun hw => q _ _ (x.pushR ⟨a, xs, rfl, h, ?_⟩), fun _ p hn => q _ _ (x.newT (rs.cut lo hi) hn)⟩
    have z := rs.cut lo hi
    have ec : cutV xs lo hi = xs := by
      unfold cutV
      rw [hw.1, hw.2]
      simp
    rw [ec] at z
    exact z
theorem ev_sl {lo hi : Option Expr} {p2 : Pos} (h : Ev X G ρ e fun o ρ1 => Ov X G ρ1 lo fun l ρ2 => Ov X G ρ2 hi fun u ρ3 => ∃ r, CutO o l u r ∧ Ψ r ρ3) : Ev X G ρ (.Subscript e (.Slice lo hi none p2) pos) Ψ :=
  pe_imp (pe_slice (SlR.or sl_list sl_tupA) h (po_dyn (G := G)) (po_dyn (G := G))) fun σ H Q ⟨τ, y, q⟩ => ⟨τ, y, fun o ρ1 h1 v H1 w => ⟨ρ1, _, h1, _, w, fun l ρ2 h2 H2 w2 => ⟨ρ2, _, h2, _, w2, fun u ρ3 ⟨r, c, hp⟩ H3 w3 => by
    obtain ⟨Fe, Ft, x3⟩ := w3
    obtain ⟨F1, F2, r1, r2, ef⟩ := x3.tm
    have fr := x3.fr
    have nd := x3.nd
    subst ef
    have sub : ∀ a ∈ Fe ++ F2, a ∈ Fe ++ (F1 ++ F2) := fun a h => (List.mem_append.mp h).elim (List.mem_append_left _) fun q => List.mem_append_right _ (List.mem_append_right _ q)
    exact cut_fin c ⟨EnRep.shr (ownd_sub sub) x3.en, TmRep.shr (ownd_sub sub) r2, nd.sublist (List.Sublist.append (List.Sublist.refl _) (List.sublist_append_right _ _)), fun a h => fr a (sub a h), x3.oo, x3.sm⟩ (RepO.shr (ownd_sub sub) r1) fun w H' s => q _ _ hp w H' s⟩⟩⟩
/-- NAME[..:..] -/
theorem ev_slN {lo hi : Option Expr} {p2 : Pos} (c : Cn X N sc vi li gs bs k) (i : Nat) (h : Ov X G ρ lo fun l ρ2 => Ov X G ρ2 hi fun u ρ3 => ∃ o r, HAt ρ3 i o ∧ CutO o l u r ∧ Ψ r ρ3) (h0 : ρ[i]? = some s0 := by rfl) (hh0 : Holds s0 o0 := by constructor) (hx : N[i]? = some x := by rfl) (hv : vi.elem i = true := by rfl) : Ev X G ρ (.Subscript (.Name x px) (.Slice lo hi none p2) pos) Ψ :=
  pe_imp (pe_slice (SlR.or sl_list sl_tupA) (pe_slot c i hx hv) h (po_dyn (G := G))) fun σ H Q ⟨τ, y, q⟩ => by
    obtain ⟨v, ev⟩ := y.slotV (hat h0 hh0)
    refine ⟨v, ev, τ, y, fun l ρ2 h2 H2 w2 => ⟨ρ2, _, h2, _, w2, fun u ρ3 ⟨o, r, ha, cu, hp⟩ H3 w3 => ?_⟩⟩
    obtain ⟨Fe, Ft, x3⟩ := w3
    obtain ⟨w, F, e, rep⟩ := State.slotRep x3 ha
    rw [ev] at e; cases e
    exact cut_fin cu x3 rep fun w H' s => q _ _ hp w H' s

/-! + of lists and tuples, * of a tuple -/
inductive CatO : OT → OT → OT → Prop
  | ll {ds es : List PyData} (h : ds.length + es.length ≤ 16777216) : CatO (.ls ds) (.ls es) (.ls (ds ++ es))
  | tt {ds es : List PyData} (h : ds.length + es.length ≤ 16777216) : CatO (.sh (.tuple ds)) (.sh (.tuple es)) (.sh (.tuple (ds ++ es)))
theorem CatO.view {oa ob r : OT} (c : CatO oa ob r) {va vb : V} {Fe Ft F1 F2 : List Addr} {Q : VK} (x : StX K G ρ τ σ H Fe Ft) (ra : RepO K H (ownd G (Fe ++ Ft)) oa va F1) (rb : RepO K H (ownd G (Fe ++ Ft)) ob vb F2) (q : ∀ w H', State K G ρ ((w, r) :: τ) σ H' → Q w H') : rCat va vb H Q ∨ rCatA K va vb H Q := by
  have ll : ∀ {ds es : List PyData} {a b : Addr} {xs ys : List V}, ds.length + es.length ≤ 16777216 → va = .ref a → vb = .ref b → H a = some (.lst xs) → H b = some (.lst ys) → Rps K H (ownd G (Fe ++ Ft)) ds xs → Rps K H (ownd G (Fe ++ Ft)) es ys → (∀ w H', State K G ρ ((w, .ls (ds ++ es)) :: τ) σ H' → Q w H') → rCat va vb H Q ∨ rCatA K va vb H Q := by
    intro ds es a b xs ys h e1 e2 h1 h2 r1 r2 q
    exact .inl ⟨a, b, xs, ys, e1, e2, h1, h2, by rw [r1.len, r2.len]; exact h, fun p hn => q _ _ (x.newL (Rps.app r1 r2) hn)⟩
  cases c with
  | ll h =>
    obtain ⟨a, xs, e, ha, rs, _⟩ := ra
    obtain ⟨b, ys, e', hb, rs', _⟩ := rb
    exact ll h e e' ha hb rs rs' q
  | @tt ds es h =>
    obtain ⟨_, a, xs, e, ha, rs⟩ := ra
    obtain ⟨_, b, ys, e', hb, rs'⟩ := rb
    have z := Rps.app rs rs'
    refine .inr ⟨a, b, xs, ys, e, e', ha, hb, by rw [rs.len, rs'.len]; exact h, fun h0 => q _ _ (x.pushR ⟨b, ys, rfl, hb, by rw [h0] at z; exact z⟩), fun _ h0 => q _ _ (x.pushR ⟨a, xs, rfl, ha, by rw [h0, List.append_nil] at z; exact z⟩), fun _ _ p hn => q _ _ (x.newT z hn)⟩
theorem State.two {va vb : V} {oa ob : OT} (s : State K G ρ ((vb, ob) :: (va, oa) :: τ) σ H) : ∃ Fe Ft F1 F2, StX K G ρ τ σ H Fe Ft ∧ RepO K H (ownd G (Fe ++ Ft)) oa va F1 ∧ RepO K H (ownd G (Fe ++ Ft)) ob vb F2 := by
  obtain ⟨Fe, Ft, x⟩ := s
  obtain ⟨F1, F2, r1, ⟨F3, F4, r3, r4, e2⟩, ef⟩ := x.tm
  have fr := x.fr
  have nd := x.nd
  subst e2 ef
  have sub : ∀ a ∈ Fe ++ F4, a ∈ Fe ++ (F1 ++ (F3 ++ F4)) := fun a h => by
    simp only [List.mem_append] at h ⊢
    rcases h with h | h <;> simp [h]
  exact ⟨Fe, F4, F3, F1, ⟨EnRep.shr (ownd_sub sub) x.en, TmRep.shr (ownd_sub sub) r4, nd.sublist (List.Sublist.append (.refl _) ((List.sublist_append_right _ _).trans (List.sublist_append_right _ _))), fun a h => fr a (sub a h), x.oo, x.sm⟩, RepO.shr (ownd_sub sub) r3, RepO.shr (ownd_sub sub) r1⟩
theorem OpR.or {op : Value → Value → Sem Value} {r r' : R2} (h : OpR X op r) (h' : OpR X op r') : OpR X op (fun x y H Q => r x y H Q ∨ r' x y H Q) := by
  intro pins s σ H x y v u Q I rx ry q
  rcases q with q | q
  · exact h pins s σ H x y v u Q I rx ry q
  · exact h' pins s σ H x y v u Q I rx ry q
theorem ev_cat (h : Ev X G ρ a fun oa ρ1 => Ev X G ρ1 b fun ob ρ2 => ∃ r, CatO oa ob r ∧ Ψ r ρ2) : Ev X G ρ (.BinOp a .Add b pos) Ψ :=
  ev_bin (C := fun oa ob ρ2 => ∃ r, CatO oa ob r ∧ Ψ r ρ2) (OpR.or op_cat op_catA) h fun oa ob ρ2 τ σ H x y ⟨r, c, hp⟩ s Q q => by
    obtain ⟨Fe, Ft, F1, F2, x2, ra, rb⟩ := s.two
    exact c.view x2 ra rb fun w H' s => q _ _ hp w H' s
/-- NAME + e, the name looked at -/
theorem ev_catN (c : Cn X N sc vi li gs bs k) (i : Nat) (h : Ev X G ρ b fun ob ρ1 => ∃ oa r, HAt ρ1 i oa ∧ CatO oa ob r ∧ Ψ r ρ1) (h0 : ρ[i]? = some s0 := by rfl) (hh0 : Holds s0 o0 := by constructor) (hx : N[i]? = some x := by rfl) (hv : vi.elem i = true := by rfl) : Ev X G ρ (.BinOp (.Name x px) .Add b pos) Ψ :=
  pe_imp (pe_op (OpR.or op_cat op_catA) (pe_slot c i hx hv) h) fun σ H Q ⟨τ, y, q⟩ => by
    obtain ⟨v, ev⟩ := y.slotV (hat h0 hh0)
    refine ⟨v, ev, τ, y, fun ob ρ1 ⟨oa, r, ha, cc, hp⟩ w H1 s => ?_⟩
    obtain ⟨Fe, Ft, x⟩ := s
    obtain ⟨F1, F2, r1, r2, ef⟩ := x.tm
    have fr := x.fr
    have nd := x.nd
    subst ef
    have sub : ∀ a ∈ Fe ++ F2, a ∈ Fe ++ (F1 ++ F2) := fun a h => (List.mem_append.mp h).elim (List.mem_append_left _) fun q => List.mem_append_right _ (List.mem_append_right _ q)
    have x2 : StX X.K G ρ1 τ σ H1 Fe F2 := ⟨EnRep.shr (ownd_sub sub) x.en, TmRep.shr (ownd_sub sub) r2, nd.sublist (List.Sublist.append (List.Sublist.refl _) (List.sublist_append_right _ _)), fun a h => fr a (sub a h), x.oo, x.sm⟩
    obtain ⟨v', F, e, rep⟩ := State.slotRep x2 ha
    rw [ev] at e; cases e
    exact cc.view x2 rep (RepO.shr (ownd_sub sub) r1) fun w H' s => q _ _ hp w H' s
theorem ev_rep (h : Ev X G ρ a fun oa ρ1 => ∃ ds, oa = .sh (.tuple ds) ∧ Ev X G ρ1 b (isI fun z ρ2 => ds ≠ [] ∧ ds.length ≤ 1000 ∧ 2 ≤ z ∧ z ≤ 1000 ∧ Ψ (.sh (.tuple (List.replicate z.toNat ds).flatten)) ρ2)) : Ev X G ρ (.BinOp a .Mult b pos) Ψ :=
  ev_bin (C := fun oa ob ρ2 => ∃ ds z, oa = .sh (.tuple ds) ∧ ob = oI z ∧ ds ≠ [] ∧ ds.length ≤ 1000 ∧ 2 ≤ z ∧ z ≤ 1000 ∧ Ψ (.sh (.tuple (List.replicate z.toNat ds).flatten)) ρ2) op_repT (ev_mono h fun oa ρ1 ⟨ds, e1, hb⟩ => ev_mono hb fun ob ρ2 ⟨z, e2, h1, h2, h3, h4, hp⟩ => ⟨ds, z, e1, e2, h1, h2, h3, h4, hp⟩) fun oa ob ρ2 τ σ H x y ⟨ds, z, e1, e2, h1, h2, h3, h4, hp⟩ s Q q => by
    subst e1 e2
    have ey := s.headI
    obtain ⟨Fe, Ft, F1, F2, x2, ⟨_, t, xs, et, ht, rs⟩, _⟩ := s.two
    have rep : ∀ n : Nat, Rps X.K H (ownd G (Fe ++ Ft)) (List.replicate n ds).flatten (List.replicate n xs).flatten := by
      intro n
      induction n with
      | zero => exact rfl
      | succ n ih => exact Rps.app rs ih
    refine ⟨t, z, xs, et, ey, ht, fun e0 => h1 ?_, h3, h4, by rw [rs.len]; exact h2, fun p hn => q _ _ hp _ _ (x2.newT (rep _) hn)⟩
    have := rs.len
    rw [e0] at this
    exact List.length_eq_zero_iff.mp this.symm

/-! x += e, numbers -/
theorem ex_aug {op : Operator} {f : Int → Int → Int} (c : Cn X N sc vi li gs bs k) (i : Nat) (hop : PIp X op (ipI f)) {m : Int} (h : Ev X G ρ e (isI fun n ρ1 => Nat.blt i ρ1.length = true ∧ Φ (.nx (ρ1.set i (.val (oI (f m n))))))) (hρ : ρ[i]? = some (.val (oI m)) := by rfl) (hx : N[i]? = some x := by rfl) (hv : li.elem i = true := by rfl) : Ex X G ρ (.AugAssign (.Name x px) op e pos) Φ :=
  ps_imp (ps_aug (i := i) (by rw [c.nn]; exact c.nd) (by rw [c.nn]; exact hx) (c.loc' hv hx).1 h hop (c.loc' hv hx).2) fun D σ H ⟨τ, y, h1, _⟩ => by
    obtain ⟨v, ev, y2⟩ := y.copy hρ
    have e1 := y2.headI
    subst e1
    exact ⟨_, ev, τ, y, fun o ρ1 ⟨n, eo, hl, hp⟩ w H1 z => by
      subst eo
      have e2 := z.headI
      subst e2
      exact ⟨m, n, rfl, rfl, h1 _ hp _ _ ((z.drop.pI _).set (of_blt hl))⟩⟩
/-- x, y, z = a, b, c, all names local -/
theorem ex_par3 {c3 : Expr} (c : Cn X N sc vi li gs bs k) (i j l : Nat) {x y z : Str} {px py pz pt : Pos} {kt k2 pt2} (h : Av X G ρ [a, b, c3] fun os ρ1 => ∃ o o' o2, os = [o, o', o2] ∧ Nat.blt i ρ1.length = true ∧ Nat.blt j ρ1.length = true ∧ Nat.blt l ρ1.length = true ∧ Φ (.nx (((ρ1.set i (.val o)).set j (.val o')).set l (.val o2))))
    (hij : i ≠ j := by decide) (hil : i ≠ l := by decide) (hjl : j ≠ l := by decide) (hx : N[i]? = some x := by rfl) (hy : N[j]? = some y := by rfl) (hz : N[l]? = some z := by rfl) (lx : sc.names.lookup x = some .local := by rfl) (ly : sc.names.lookup y = some .local := by rfl) (lz : sc.names.lookup z = some .local := by rfl)
    (hw : swappedStores [.Tuple [.Name x px, .Name y py, .Name z pz] kt pt] (.Tuple [a, b, c3] k2 pt2) (env0 sc) = pure (some [x, y, z]) := by rfl) : Ex X G ρ (.Assign [.Tuple [.Name x px, .Name y py, .Name z pz] kt pt] (.Tuple [a, b, c3] k2 pt2) pos) Φ :=
  ps_imp (ps_par3 (i := i) (j := j) (l := l) c.cm (by rw [c.nn]; exact c.nd) (by rw [c.nn]; exact hx) (by rw [c.nn]; exact hy) (by rw [c.nn]; exact hz) hij hil hjl (by rw [c.se]; exact lx) (by rw [c.se]; exact ly) (by rw [c.se]; exact lz) h (by rw [swS_scope _ _ X.env (env0 sc) c.se]; exact hw) rfl) fun D σ H ⟨τ, z, h1, _⟩ =>
    ⟨τ, z, fun os ρ1 ⟨o, o', o2, eo, hl, hl2, hl3, hp⟩ vs H' l w => by
      subst eo
      match vs, l with
      | [v, v', v2], _ =>
        have w2 := (State.set (i := i) w (of_blt hl))
        have w3 := State.set (i := j) w2 (by rw [List.length_set]; exact of_blt hl2)
        exact ⟨v, v', v2, rfl, h1 _ hp _ _ (w3.set (by rw [List.length_set, List.length_set]; exact of_blt hl3))⟩⟩
end
end Pd
set_option Elab.async false
set_option linter.all false
set_option maxRecDepth 100000
set_option autoImplicit false
namespace Pd
open PySem PySem.Spec PyProof.Rows L2

/-! enumerate(tuple) -/
set_option maxHeartbeats 1000000 in
theorem meets_enumB1 {u : Value} {ob : Obj} {J : Heap → Prop} (B : Begins u ob J) :
    Meets (Builtin.«enumerate.__new__» ⟨[.type "enumerate", u], []⟩) (fun _ R s => J s.heap ∧
      R (.ok (.ret (.ref (s.heap.push ob).objs.size))) { s with heap := (s.heap.push ob).push { cls := .type "enumerate", data := .fields #[.none, .bool false, .ref s.heap.objs.size, rawInt 0, .none, .none] } }) :=
  .of_wp fun prog w A R s h => by
    obtain ⟨hp, g, d, tk, os⟩ := s; obtain ⟨h1, h⟩ := h
    have hsub := sub_enumerate
    have q1 : ∀ {A' : Around} {E : Value → Shared → Prop} {Q : Value → Shared → Prop}, Q (.ref hp.objs.size) ⟨hp.push ob, g, d, tk, os⟩ → wpAny (model prog w) A' (pyIter u) Q E ⟨hp, g, d, tk, os⟩ :=
      fun q => B.iter prog w _ _ ⟨hp, g, d, tk, os⟩ _ h1 q
    wp_walk using q1
    refine wpAny_stack_any fun st => wpAny_pure ?_
    split
    next c _ _ _ _ _ =>
      cases (c == Value.type "enumerate") <;> (wp_walk using q1; exact ⟨_, rfl, h⟩)
    next => wp_walk using q1; exact ⟨_, rfl, h⟩
theorem enumT_end {prog : Program} {w : World} {A : Around} {E : Value → Shared → Prop} {s : Shared} {e it t : Addr} {i : Nat} {items : Array Value} {old : Value} {Q : Option Value → Shared → Prop} (hh : A.handled = none)
    (he : IsEnum s.heap e it i old) (hit : s.heap.IsTupleIter it t i) (ht : s.heap.IsTuple t items) (hx : items[i]? = none) (hQ : ∀ h', Heap.ExtBut it s.heap h' → Q none { s with heap := h' }) : wpAny (model prog w) A (pyNext (.ref e)) Q E s := by
  have ty : s.TypeIs (.ref e) "enumerate" := ⟨_, he, rfl⟩
  unfold pyNext
  refine wpAny_bind (wpAny_attempt (wpAny_callSpecial?_slot (name := Str.ofString "__next__") ty F.slot_enumerate_next (wpAny_call_entry F.slot_enumerate_next ty F.entry_enumerate_next ?_ (F.args_enumerate_next_1 _))))
  show wpAny _ _ (field (.ref e) 2 >>= _) _ _ _
  refine wpAny_bind (wpAny_field he rfl (x := .ref it) rfl (wpAny_bind (wpAny_nextOf_tuple_end hh hit ht hx fun h' x he' ⟨o, ho, hc⟩ => ?_)))
  exact wpAny_bind (wpAny_isInstance (T := "StopIteration") (b := true) ⟨o, ho, hc⟩ isSubtype_stop (wpAny_pure (hQ _ he')))
theorem call_enumT {prog : Program} {w : World} {A : Around} {E : Value → Shared → Prop} {s : Shared} {t : Addr} {items : Array Value} {Q : Value → Shared → Prop} (ht : s.heap.IsTuple t items)
    (h : ∀ h', IsEnum h' (s.heap.objs.size + 1) s.heap.objs.size 0 .none → h'.IsTupleIter s.heap.objs.size t 0 → h'.objs.size = s.heap.objs.size + 2 →
      (∀ b o, s.heap.get? b = some o → h'.get? b = some o) → Q (.ref (s.heap.objs.size + 1)) { s with heap := h' }) :
    wpAny (model prog w) A (call (.type "enumerate") [.ref t]) Q E s := by
  refine callType_new F.called_enumerate (by decide) (F.typeCall_enumerate_1 _) (F.newCall_enumerate_1 _) (fun obj => F.args_object_init_2 obj _) F.entry_enumerate_new
    (meets_enumB1 (begins_tuple t items)) ⟨ht, ?_⟩
  generalize eo : ({ cls := .type "tuple_iterator", data := .fields #[.ref t, .int 0 0] } : Obj) = ob
  have hz : (s.heap.push ob).objs.size = s.heap.objs.size + 1 := Heap.size_push ..
  show _ ∧ _
  rw [hz]
  generalize e2 : ({ cls := .type "enumerate", data := .fields #[.none, .bool false, .ref s.heap.objs.size, rawInt 0, .none, .none] } : Obj) = o2
  have g2 : ((s.heap.push ob).push o2).get? (s.heap.objs.size + 1) = some o2 := by
    rw [← hz]
    exact Heap.get?_push_size _ (by rw [← e2]; rfl)
  have he : IsEnum ((s.heap.push ob).push o2) (s.heap.objs.size + 1) s.heap.objs.size 0 .none := g2.trans (congrArg some e2.symm)
  exact ⟨⟨_, he, rfl⟩, h _ he ⟨ob, Heap.get?_push_of_some _ (Heap.get?_push_size _ (by subst eo; rfl)), by subst eo; rfl, by subst eo; rfl⟩ (by rw [Heap.size_push, hz]) fun b o x => Heap.get?_push_of_some _ (Heap.get?_push_of_some _ x)⟩
def IteT (K : PySem.W.Frag) (a : Addr) : It :=
  ⟨fun i H => ∃ (xs : List V) (x : V), SqT K H a xs ∧ xs[i]? = some x, fun i H v H' => ∃ T x, v = .ref T ∧ H T = none ∧ H' = upd H T (.tup [.int (i : Nat), x]) ∧ ∀ xs, SqT K H a xs → xs[i]? = some x, fun i H => ∃ xs : List V, SqT K H a xs ∧ xs.length ≤ i⟩
theorem turn_enumT {P : Program} {w : World} {K : PySem.W.Frag} {elts : List Expr} {kk : Nat} {tpos : Pos} (a e it : Addr) (hai : a ≠ it) (hae : a ≠ e) :
    Turn P w K (.Tuple elts kk tpos) (IteT K a) [e, it] e (fun i h => (∃ old, IsEnum h e it ((i : Nat) : Int) old) ∧ h.IsTupleIter it a i ∧ e ≠ it) where
  mem := by simp
  obj := fun i h st b hb => by
    obtain ⟨⟨old, he⟩, ⟨o, ho, hc, hd⟩, _⟩ := st
    have e' : b = e ∨ b = it := by simpa using hb
    rcases e' with z | z
    · rw [z]; exact ⟨_, he, fun v q => nomatch q⟩
    · rw [z]; exact ⟨o, ho, fun v q => by rw [hd] at q; cases q⟩
  keep := fun i h h' st k => let ⟨⟨old, he⟩, hi, hne⟩ := st; ⟨⟨old, k e (by simp) _ he⟩, hi.at fun o q => k it (by simp) o q, hne⟩
  item := by
    intro X hP hw hK hc i pins s σ H E I hf st hg
    subst hP hw hK
    obtain ⟨⟨old, he⟩, hit, hne⟩ := st
    obtain ⟨xs, x, hq, hx⟩ := hg
    obtain ⟨its, rv, p, hz⟩ := I.tuple hq
    obtain ⟨u, hu, ru⟩ := rv.get hx
    have hel : e < s.heap.objs.size := Heap.lt_size he
    have hil : it < s.heap.objs.size := by obtain ⟨_, q, _⟩ := hit; exact Heap.lt_size q
    have hlt : i < its.toArray.size := by
      have := (List.getElem?_eq_some_iff.mp hu).1
      simpa using this
    refine wpAny_pyNext_enum_itemD (Draws.tuple (by exact I.ok.hd hc) it a hai its.toArray) he ⟨hit, p⟩ hlt hne (by simp [hne, Ne.symm hae]) fun y h' tk hy ho hst hT hsz hk => ?_
    have ey : y = u := by
      have z : its.toArray[i]? = some u := by simpa using hu
      rw [hy] at z; cases z; rfl
    subst ey
    refine ⟨_, rfl, wpAny_letOwnedTupleGo_enum (s := { s with heap := h', toks := tk + 1 }) ho fun h'' he' sb => ?_⟩
    have hT2 : h''.get? s.heap.objs.size = some { cls := .type "tuple", data := .seq #[.int i tk, y] } := (sb.2 _ (Nat.ne_of_gt hel)).trans hT
    have new : ObjOk X.prog X.w (upd H s.heap.objs.size (.tup [.int (i : Nat), x])) h'' s.heap.objs.size (.tup [.int (i : Nat), x]) :=
      ⟨by show 2 ≤ sizeLine; decide, [.int i tk, y], .cons ⟨_, rfl⟩ (.cons ru .nil), ⟨_, hT2, rfl, _, rfl⟩⟩
    have I1 : Inv X pins σ (upd H s.heap.objs.size (.tup [.int (i : Nat), x])) { s with heap := h'', toks := tk + 1 } :=
      I.turnedNew (ch := [e, it]) (fun b ob hb q => (sb.2 b (fun z => hb (by simp [z]))).trans (hk b ob (fun z => hb (by simp [z])) (fun z => hb (by simp [z])) q)) hf (Nat.le_refl _) new
    refine ⟨.ref s.heap.objs.size, _, I1, rfl, ⟨_, x, rfl, I.hok.fresh (Nat.le_refl _), rfl, fun ys hy => by rw [I.tuple_inj hy hq]; exact hx⟩, ⟨⟨y, ?_⟩, hst.1.at fun o q => (sb.2 it (Ne.symm hne)).trans q, hne⟩, fun b hb => ?_⟩
    · have e1 : ((i + 1 : Nat) : Int) = (i : Int) + 1 := by omega
      rw [e1]; exact he'
    · have hb' : b < s.heap.objs.size := by
        have e' : b = e ∨ b = it := by simpa using hb
        rcases e' with z | z
        · rw [z]; exact hel
        · rw [z]; exact hil
      rw [upd_ne (Nat.ne_of_lt hb')]
      exact (hf b hb).1
  done := by
    intro X hP hw hK hc i pins s σ H E I hf st hg
    subst hP hw hK
    obtain ⟨⟨old, he⟩, hit, hne⟩ := st
    obtain ⟨xs, hq, hx⟩ := hg
    obtain ⟨its, rv, p, hz⟩ := I.tuple hq
    obtain ⟨f0, f1, f2, f3, f4, f5⟩ := hf it (by simp)
    have hl := rv.length
    refine enumT_end (I.ok.hd hc) he hit p (by simp; omega) fun h' eb => ⟨rfl, I.turned (t' := s.toks) (fun b o hb q => eb b o hb q) f0 f1 f3 f4 f5⟩
  self := fun A i s Q E st h => let ⟨⟨_, he⟩, _⟩ := st; wpAny_pyIter_enum he h
end Pd
set_option Elab.async false
set_option linter.all false
set_option maxRecDepth 100000
set_option autoImplicit false
namespace Pd
open PySem PySem.Spec PyProof.Rows L2

section
variable {X : Cx} {N : List Str} {sc : Scope} {vi li : List Nat} {gs bs : List Str} {k : Nat} {G : Gx} {ρ : List Slot} {a b e lo hi : Expr} {elts : List Expr} {kk : Nat} {pos p px tpos : Pos} {Ψ : Post} {Θ : PostB} {x : Str} {Φ : Out → Prop} {s0 : Slot} {o0 : OT} {Ξ : PostI}
variable {K : PySem.W.Frag} {H : Hp} {O : Addr → Prop} {τ : List (V × OT)} {σ : L2.St}

/-! enumerate -/
def enumI : Nat → List PyData → List PyData
  | _, [] => []
  | n, d :: ds => .tuple [.int n, d] :: enumI (n + 1) ds
theorem enumI_get : ∀ (ds : List PyData) (n i : Nat), (enumI n ds)[i]? = ds[i]?.map fun d => .tuple [.int ((n + i : Nat) : Int), d]
  | [], _, _ => by simp [enumI]
  | d :: ds, n, 0 => by simp [enumI]
  | d :: ds, n, i + 1 => by
    have := enumI_get ds (n + 1) i
    simp only [enumI, List.getElem?_cons_succ, this]
    rw [show n + 1 + i = n + (i + 1) by omega]
theorem pi_enumT {X : Cx} {e : Expr} {ta : TA} {p pos tpos : Pos} {elts : List Expr} {kk : Nat} (hg : Gl X "enumerate") (hm : X.mg "enumerate" = none) (ha : PA X [e] ta) (hs : starEach [e] X.env = [(false, eval e X.env)]) :
    PI X (.Tuple elts kk tpos) (.Call (.Name "enumerate" p) [e] [] pos) (fun σ H R => ta σ H fun vs H1 => ∃ a xs, vs = [.ref a] ∧ SqT X.K H1 a xs ∧ R (IteT X.K a) H1) := by
  refine ⟨fun pins s σ H R I h => ?_⟩
  refine Call_ (ld_blt I hg hm boot_enumerate (PyProof.Rows.callWith_type1 (thn (ha.run pos pins s σ H _ I h) fun us s1 ⟨vs, H1, I1, r1, q1⟩ => ?_) hs rfl))
  obtain ⟨a, xs, ex, hq, q⟩ := q1
  subst ex
  cases r1 with
  | cons r rr =>
    cases rr
    cases r
    obtain ⟨its, rv, p', hz⟩ := I1.tuple hq
    have hal : a < s1.heap.objs.size := p'.lt
    refine call_enumT p' fun h' he hit hsz hk => wpAny_pyIter_enum he ?_
    have I2 : Inv X pins σ H1 { s1 with heap := h' } := I1.kept (t' := s1.toks) hk
    refine ⟨s1.heap.objs.size + 1, [s1.heap.objs.size + 1, s1.heap.objs.size], _, _, H1, rfl, I2, turn_enumT a (s1.heap.objs.size + 1) s1.heap.objs.size (Nat.ne_of_lt hal) (Nat.ne_of_lt (Nat.lt_succ_of_lt hal)), ⟨⟨.none, he⟩, hit, Nat.succ_ne_self _⟩, fun b hb => ?_, q⟩
    have hle : s1.heap.objs.size ≤ b := by
      rcases List.mem_cons.mp hb with z | z
      · rw [z]; exact Nat.le_add_right _ _
      · rw [List.mem_singleton.mp z]; exact Nat.le_refl _
    exact I1.fpOk hle (I1.hok.fresh hle)
theorem enum_item {ds : List PyData} {xs : List V} {i : Nat} {d : PyData} {w : V} {T : Addr} {Fe Ft : List Addr} (z : StX K G ρ τ σ H Fe Ft) (rw' : Rp K H (ownd G (Fe ++ Ft)) d w) (hT : H T = none) : State K G ρ ((.ref T, .sh (.tuple [.int (i : Int), d])) :: τ) σ (upd H T (.tup [.int (i : Nat), w])) :=
  z.newT (ds := [.int (i : Int), d]) (xs := [.int (i : Nat), w]) ⟨_, _, rfl, rfl, w, [], rfl, rw', rfl⟩ hT
/-- of a list or a tuple -/
theorem iv_enumL (c : Cn X N sc vi li gs bs k) (j : Nat) (h : Ev X G ρ e (isL fun ds ρ1 => Ξ (shs (enumI 0 ds)) ρ1)) (hj : bs[j]? = some ("enumerate" : Str) := by rfl) (he : NoStar e := by exact fun _ _ => rfl) : Iv X G ρ (.Tuple elts kk tpos) (.Call (.Name "enumerate" p) [e] [] pos) Ξ :=
  pi_imp (pi_enum (c.bg j hj) (c.bm j hj) (pa_cons h pa_nil (he _ _)) (he _ _)) fun σ H R ⟨τ, x, q⟩ => ⟨τ, x, fun o ρ1 ⟨ds, hs, hp⟩ v H1 y => by
    obtain ⟨p, xs, ev, sq, _⟩ := lv_list hs y
    subst ev
    refine ⟨p, xs, rfl, sq, q _ _ hp (Ite X.K p) H1 [(.ref p, o)] y fun i ρ' τ' σ' H' z => ?_⟩
    obtain ⟨p', xs', ev', sq', Fe, Ft, z', rs⟩ := lv_list (τ := τ') hs z
    cases ev'
    refine ⟨fun hn => ⟨xs', sq', ?_⟩, fun o' ho' => ?_⟩
    · have := shs_none hn
      rw [enumI_get] at this
      rw [rs.len]; exact List.getElem?_eq_none_iff.mp (by simpa using this)
    · obtain ⟨d, hd, rfl⟩ := shs_some ho'
      rw [enumI_get] at hd
      obtain ⟨d', hd', rfl⟩ := Option.map_eq_some_iff.mp hd
      obtain ⟨w, hw, rw'⟩ := rs.get hd'
      refine ⟨⟨xs', w, sq', hw⟩, fun x H'' ⟨T, w2, ex, hT, eH, hx⟩ => ?_⟩
      have e2 := hx xs' sq'
      rw [hw] at e2; cases e2
      subst ex eH
      have r := enum_item (ds := ds) (xs := xs') (i := i) z' rw' hT
      rw [Nat.zero_add]
      exact r⟩
theorem iv_enumT (c : Cn X N sc vi li gs bs k) (j : Nat) (h : Ev X G ρ e (isT fun ds ρ1 => Ξ (shs (enumI 0 ds)) ρ1)) (hj : bs[j]? = some ("enumerate" : Str) := by rfl) (he : NoStar e := by exact fun _ _ => rfl) : Iv X G ρ (.Tuple elts kk tpos) (.Call (.Name "enumerate" p) [e] [] pos) Ξ :=
  pi_imp (pi_enumT (c.bg j hj) (c.bm j hj) (pa_cons h pa_nil (he _ _)) (he _ _)) fun σ H R ⟨τ, x, q⟩ => ⟨τ, x, fun o ρ1 ⟨ds, hs, hp⟩ v H1 y => by
    subst hs
    obtain ⟨p, xs, ev, sq, _⟩ := lv_tup y
    subst ev
    refine ⟨p, xs, rfl, sq, q _ _ hp (IteT X.K p) H1 [(.ref p, .sh (.tuple ds))] y fun i ρ' τ' σ' H' z => ?_⟩
    obtain ⟨p', xs', ev', sq', Fe, Ft, z', rs⟩ := lv_tup (τ := τ') z
    cases ev'
    refine ⟨fun hn => ⟨xs', sq', ?_⟩, fun o' ho' => ?_⟩
    · have := shs_none hn
      rw [enumI_get] at this
      rw [rs.len]; exact List.getElem?_eq_none_iff.mp (by simpa using this)
    · obtain ⟨d, hd, rfl⟩ := shs_some ho'
      rw [enumI_get] at hd
      obtain ⟨d', hd', rfl⟩ := Option.map_eq_some_iff.mp hd
      obtain ⟨w, hw, rw'⟩ := rs.get hd'
      refine ⟨⟨xs', w, sq', hw⟩, fun x H'' ⟨T, w2, ex, hT, eH, hx⟩ => ?_⟩
      have e2 := hx xs' sq'
      rw [hw] at e2; cases e2
      subst ex eH
      have r := enum_item (ds := ds) (xs := xs') (i := i) z' rw' hT
      rw [Nat.zero_add]
      exact r⟩
/-! zip of two -/
def zipI (ds es : List PyData) : List PyData := List.zipWith (fun a b => .tuple [a, b]) ds es
theorem zipI_get (ds es : List PyData) (i : Nat) : (zipI ds es)[i]? = match ds[i]?, es[i]? with | some a, some b => some (.tuple [a, b]) | _, _ => none := by
  unfold zipI
  rw [List.getElem?_zipWith]
  cases ds[i]? <;> cases es[i]? <;> rfl
theorem iv_zipT (c : Cn X N sc vi li gs bs k) (j : Nat) (h : Ev X G ρ a (isT fun ds ρ1 => Ev X G ρ1 b (isT fun es ρ2 => Ξ (shs (zipI ds es)) ρ2))) (hj : bs[j]? = some ("zip" : Str) := by rfl) (he : NoStar a := by exact fun _ _ => rfl) (he2 : NoStar b := by exact fun _ _ => rfl) : Iv X G ρ (.Tuple elts kk tpos) (.Call (.Name "zip" p) [a, b] [] pos) Ξ :=
  pi_imp (RZ.pi_zipA (c.bg j hj) (c.bm j hj) (pa_cons h (pa_cons (pe_dyn (G := G)) pa_nil (he2 _ _)) (he _ _)) (he _ _) (by rw [he2]; rfl)) fun σ H R ⟨τ, x, q⟩ => ⟨τ, x, fun oa ρ1 ⟨ds, hs, hb⟩ v H1 y => ⟨ρ1, _, hb, _, y, fun ob ρ2 ⟨es, hs2, hp⟩ u H2 y2 => by
    subst hs hs2
    obtain ⟨p2, ys, eu, sq2, _⟩ := lv_tup y2
    obtain ⟨p1, xs, ev, sq1, _⟩ := lv_tup y2.swap
    subst eu ev
    refine ⟨p1, p2, xs, ys, rfl, .inr ⟨sq1, sq2, q _ _ hp (RZ.ItzT X.K p1 p2) H2 [(.ref p2, .sh (.tuple es)), (.ref p1, .sh (.tuple ds))] y2 fun i ρ' τ' σ' H' z => ?_⟩⟩
    obtain ⟨p', ys', ev', sy, Fe, Ft, z', rs2⟩ := lv_tup (τ := (.ref p1, .sh (.tuple ds)) :: τ') z
    cases ev'
    have tm := z'.tm
    obtain ⟨F1, F2, _, ⟨F3, F4, ⟨e3, p'', xs', ev', sx, rs1⟩, _, _⟩, _⟩ := tm
    cases ev'
    refine ⟨fun hn => ⟨xs', ys', sx, sy, ?_⟩, fun o' ho' => ?_⟩
    · have := shs_none hn
      rw [zipI_get] at this
      rw [rs1.len, rs2.len]
      cases e1 : ds[i]? with
      | none => exact .inl (List.getElem?_eq_none_iff.mp e1)
      | some d =>
        cases e2 : es[i]? with
        | none => exact .inr (List.getElem?_eq_none_iff.mp e2)
        | some d2 => rw [e1, e2] at this; cases this
    · obtain ⟨d, hd, rfl⟩ := shs_some ho'
      rw [zipI_get] at hd
      cases e1 : ds[i]? with
      | none => rw [e1] at hd; cases hd
      | some d1 =>
        cases e2 : es[i]? with
        | none => rw [e1, e2] at hd; cases hd
        | some d2 =>
          rw [e1, e2] at hd; cases hd
          obtain ⟨w1, hw1, r1⟩ := rs1.get e1
          obtain ⟨w2, hw2, r2⟩ := rs2.get e2
          refine ⟨⟨xs', ys', w1, w2, sx, sy, hw1, hw2⟩, fun x H'' ⟨T, u1, u2, ex, hT, eH, hx1, hx2⟩ => ?_⟩
          have q1 := hx1 xs' sx
          have q2 := hx2 ys' sy
          rw [hw1] at q1; cases q1
          rw [hw2] at q2; cases q2
          subst ex eH
          exact z'.newT (ds := [d1, d2]) (xs := [w1, w2]) ⟨w1, _, rfl, r1, w2, [], rfl, r2, rfl⟩ hT⟩⟩

/-! tuple(list), bearing no attributes; t.index(i) -/
theorem call_tupleD : CallR X (.type "tuple") (fun xs H Q => ∃ p ys, xs = [.ref p] ∧ SqL X.K H p ys ∧ ∀ l ob, ob.dict = none → H l = none → Q (.ref l) (upd H l (.frz ob (.tup ys)))) := by
  intro pins s σ H xs us Q I r h
  obtain ⟨p, ys, rfl, hq, q⟩ := h
  obtain ⟨u, rfl, rx⟩ := vals1 r
  cases rx
  obtain ⟨its, r', pl, hz⟩ := I.list hq
  have hlen := r'.length
  refine call_tuple_list pl.isList (fun h' kp => ?_) (by simp only [List.size_toArray] <;> omega)
  have I1 : Inv X pins σ H { s with heap := h' } := I.kept (t' := s.toks) kp
  have new : ObjOk X.prog X.w (upd H h'.objs.size (.frz { cls := .type "tuple", data := .seq its.toArray } (.tup ys))) (h'.push { cls := .type "tuple", data := .seq its.toArray }) h'.objs.size (.frz { cls := .type "tuple", data := .seq its.toArray } (.tup ys)) :=
    ⟨Heap.get?_push_size _ rfl, hz, its, r', IsTup.new _ _⟩
  have I2 := I1.laid (h' := h'.push { cls := .type "tuple", data := .seq its.toArray }) (t' := s.toks) (fun b o e => Heap.get?_push_of_some _ e) (Nat.le_refl _) new
  exact ⟨.ref h'.objs.size, _, I2, rfl, q _ _ rfl (I1.hok.fresh (Nat.le_refl _))⟩
theorem ev_tupleD (c : Cn X N sc vi li gs bs k) (j : Nat) (h : Pv X G ρ e fun o ρ1 => ∃ ds, IsLs o ds ∧ Ψ (.tpd ds) ρ1) (hj : bs[j]? = some ("tuple" : Str) := by rfl) (he : NoStar e := by exact fun _ _ => rfl) : Ev X G ρ (.Call (.Name "tuple" p) [e] [] pos) Ψ :=
  ev_ct1 c call_tupleD j boot_tuple h (fun o ρ1 τ σ H v Fe Ft F ⟨ds, hs, hp⟩ x r Q q => by
    obtain ⟨a, xs, ev, sq, rs⟩ := hs.view r
    refine ⟨a, xs, by rw [ev], sq, fun l ob hd hl => q _ _ hp _ _ ?_⟩
    exact State.new (vs := xs) (os := ds.map .sh) ⟨Fe, Ft, x.en, TmRep.shs rs x.tm, x.nd, x.fr, x.oo, x.sm⟩ (by rw [List.length_map]; exact rs.len) hl fun O F r => .inr ⟨(RepOs.sh r).2, l, ob, xs, rfl, upd_same, hd, (RepOs.sh r).1⟩) hj he (by decide) (by decide)
end
end Pd
set_option Elab.async false
set_option linter.all false
set_option maxRecDepth 100000
set_option autoImplicit false
namespace Pd
open PySem PySem.Spec PyProof.Rows L2

/-! dicts of shared data -/
def valD (kvs : List (Key × PyData)) (k : Key) : Option PyData := (kvs.find? fun kv => decide (kv.1 = k)).map (·.2)
def putD (kvs : List (Key × PyData)) (k : Key) (v : PyData) : List (Key × PyData) :=
  if (kvs.any fun kv => decide (kv.1 = k)) = true then kvs.map (fun kv => if kv.1 = k then (kv.1, v) else kv) else kvs ++ [(k, v)]
section
variable {K : PySem.W.Frag} {H : Hp} {O : Addr → Prop}
theorem val_rep {k : Key} : ∀ {kvs : List (Key × PyData)} {xs : List V}, Rps K H O (kvs.map (·.2)) xs → (valD kvs k = none → valV (List.zip (kvs.map (·.1)) xs) k = none) ∧ ∀ d, valD kvs k = some d → ∃ v, valV (List.zip (kvs.map (·.1)) xs) k = some v ∧ Rp K H O d v
  | [], _, e => ⟨fun _ => by rw [show _ = [] from e]; rfl, fun d h => by cases h⟩
  | (k', d') :: kvs, _, ⟨v, vs, e, h1, h2⟩ => by
    subst e
    obtain ⟨i1, i2⟩ := val_rep (k := k) h2
    by_cases h : k' = k
    · subst h
      refine ⟨fun z => ?_, fun d z => ⟨v, valV_pos rfl, ?_⟩⟩
      · simp [valD] at z
      · have : d' = d := by simpa [valD] using z
        rw [← this]; exact h1
    · have e1 : valD ((k', d') :: kvs) k = valD kvs k := by simp [valD, List.find?_cons, h]
      have e2 : valV (List.zip (((k', d') :: kvs).map (·.1)) (v :: vs)) k = valV (List.zip (kvs.map (·.1)) vs) k := valV_neg h
      rw [e1, e2]
      exact ⟨i1, i2⟩
theorem zip_any {k : Key} {α : Type} : ∀ {kvs : List (Key × PyData)} {xs : List α}, xs.length = kvs.length → ((List.zip (kvs.map (·.1)) xs).any fun kv => decide (kv.1 = k)) = kvs.any fun kv => decide (kv.1 = k)
  | [], _, _ => rfl
  | (k', d') :: kvs, [], l => by cases l
  | (k', d') :: kvs, x :: xs, l => by
    exact congrArg (decide (k' = k) || ·) (zip_any (k := k) (kvs := kvs) (xs := xs) (Nat.succ.inj l))
theorem map_rep {k : Key} {d : PyData} {w : V} (hd : Rp K H O d w) : ∀ {kvs : List (Key × PyData)} {xs : List V}, Rps K H O (kvs.map (·.2)) xs →
    ∃ ys, (List.zip (kvs.map (·.1)) xs).map (fun kv => if kv.1 = k then (kv.1, w) else kv) = List.zip ((kvs.map (fun kv => if kv.1 = k then (kv.1, d) else kv)).map (·.1)) ys ∧ Rps K H O ((kvs.map (fun kv => if kv.1 = k then (kv.1, d) else kv)).map (·.2)) ys
  | [], _, e => ⟨[], by rw [show _ = [] from e]; rfl, rfl⟩
  | (k', d') :: kvs, _, ⟨v, vs, e, h1, h2⟩ => by
    subst e
    obtain ⟨ys, e1, r⟩ := map_rep hd h2
    by_cases h : k' = k
    · refine ⟨w :: ys, ?_, w, ys, rfl, ?_, r⟩
      · simp only [List.map_cons, List.zip_cons_cons, h, if_true, e1]
      · simp only [h, if_true]; exact hd
    · refine ⟨v :: ys, ?_, v, ys, rfl, ?_, r⟩
      · simp only [List.map_cons, List.zip_cons_cons, h, if_false, e1]
      · simp only [h, if_false]; exact h1
theorem put_rep {k : Key} {d : PyData} {w : V} (hd : Rp K H O d w) {kvs : List (Key × PyData)} {xs : List V} (r : Rps K H O (kvs.map (·.2)) xs) : ∃ ys, putK (List.zip (kvs.map (·.1)) xs) k w = List.zip ((putD kvs k d).map (·.1)) ys ∧ Rps K H O ((putD kvs k d).map (·.2)) ys := by
  have hl : xs.length = kvs.length := by rw [r.len0, List.length_map]
  unfold putK putD
  rw [zip_any hl]
  cases h : kvs.any fun kv => decide (kv.1 = k) with
  | true =>
    simp only [if_true]
    exact map_rep hd r
  | false =>
    simp only [Bool.false_eq_true, if_false]
    refine ⟨xs ++ [w], ?_, ?_⟩
    · rw [List.map_append, List.zip_append (by rw [List.length_map, hl])]
      rfl
    · rw [List.map_append]
      exact Rps.app r ⟨w, [], rfl, hd, rfl⟩
end
/-- a key -/
inductive IsKey : OT → Key → Prop
  | i (i : Int) : IsKey (oI i) (.inl i)
  | s (x : Str) : IsKey (oS x) (.inr x)

section
variable {X : Cx} {N : List Str} {sc : Scope} {vi li : List Nat} {gs bs : List Str} {k : Nat} {G : Gx} {ρ : List Slot} {a b e lo hi : Expr} {elts : List Expr} {kk : Nat} {pos p px tpos : Pos} {Ψ : Post} {Θ : PostB} {x : Str} {Φ : Out → Prop} {s0 : Slot} {o0 : OT} {Ξ : PostI}
variable {K : PySem.W.Frag} {H : Hp} {O : Addr → Prop} {τ : List (V × OT)} {σ : L2.St}
theorem IsKey.v {o : OT} {key : Key} {v : V} (h : IsKey o key) (s : State K G ρ ((v, o) :: τ) σ H) : v = kV key := by
  cases h with
  | i i => exact s.headI
  | s x => exact s.headStr
inductive IsDc : OT → List (Key × PyData) → Prop
  | dc (kvs : List (Key × PyData)) : IsDc (.dc kvs) kvs
theorem IsDc.view {o : OT} {kvs : List (Key × PyData)} {v : V} {F : List Addr} (h : IsDc o kvs) (r : RepO K H O o v F) : ∃ a xs, v = .ref a ∧ H a = some (.dK (List.zip (kvs.map (·.1)) xs)) ∧ Rps K H O (kvs.map (·.2)) xs := by
  cases h
  obtain ⟨a, xs, e, h, q, _⟩ := r
  exact ⟨a, xs, e, h, q⟩
/-- {k: v} -/
theorem ev_disp1 (h : Ev X G ρ a fun oa ρ1 => Ev X G ρ1 b fun ob ρ2 => ∃ key d, IsKey oa key ∧ ob = .sh d ∧ Ψ (.dc [(key, d)]) ρ2) : Ev X G ρ (.Dict [some a] [b] pos) Ψ := by
  refine pe_imp (pe_disp (pps_cons (pe_dyn (G := G)) (pe_dyn (G := G)) pps_nil) rfl rfl (by simp) (by simp)) fun σ H Q ⟨τ, x, q⟩ p hn => ?_
  have x1 : State X.K G ρ ((.ref p, .dc []) :: τ) σ (upd H p (.dK [])) := State.new (os := []) (vs := []) x rfl hn fun O F r => .inl ⟨p, [], rfl, upd_same, rfl, by rw [r.2]⟩
  refine ⟨ρ, _, h, _, x1, fun oa ρ1 hb v H1 y => ⟨ρ1, _, hb, _, y, fun ob ρ2 ⟨key, d, hk, eo, hp⟩ u H2 y2 => ?_⟩⟩
  subst eo
  have ev := hk.v y2.drop
  subst ev
  have y3 : State X.K G ρ2 ([u].zip [OT.sh d] ++ (.ref p, .dc []) :: τ) σ H2 := y2.drop2
  obtain ⟨a', xs, ea, ha, _, ⟨_, _, rs⟩, fin⟩ := State.mutT y3 rfl (IsN.dc [])
  cases ea
  have e0 : xs = [] := rs.1
  subst e0
  refine ⟨ha, [(key, u)], rfl, by simp, q _ _ hp _ _ ?_⟩
  have z := fin (some [key]) (.dc [(key, d)]) [.sh d] [u] (.dc _) rfl fun O F Fc r1 r2 => ⟨F ++ Fc, by
    have : F = [] := r1.2
    subst this
    exact r2, SubP.refl _⟩
  exact z
/-- NAME[e], e not in NAME, e in NAME: a dict looked at -/
theorem ev_dget (c : Cn X N sc vi li gs bs k) (i : Nat) (h : Ev X G ρ e fun o ρ1 => ∃ od kvs key d, HAt ρ1 i od ∧ IsDc od kvs ∧ IsKey o key ∧ valD kvs key = some d ∧ Ψ (.sh d) ρ1) (h0 : ρ[i]? = some s0 := by rfl) (hh0 : Holds s0 o0 := by constructor)
    (hx : N[i]? = some x := by rfl) (hv : vi.elem i = true := by rfl) (hs : NoSl e := by exact fun _ _ => rfl) : Ev X G ρ (.Subscript (.Name x px) e pos) Ψ :=
  pe_imp (pe_dget c.u1 (pe_slot c i hx hv) h hs) fun σ H Q ⟨τ, y, q⟩ => by
    obtain ⟨v, ev⟩ := y.slotV (hat h0 hh0)
    refine ⟨v, ev, τ, y, fun o ρ1 ⟨od, kvs, key, d, ha, hd, hk, hv, hp⟩ w H1 z => ?_⟩
    have ew := hk.v z
    subst ew
    obtain ⟨Fe, Ft, z⟩ := z.drop
    obtain ⟨v', F, e, r⟩ := State.slotRep z ha
    rw [ev] at e; cases e
    obtain ⟨a, xs, ea, hH, rs⟩ := hd.view r
    obtain ⟨u, hu, ru⟩ := (val_rep rs).2 d hv
    have g := DGet.k (k := key) hH
    rw [hu] at g
    exact ⟨a, u, ea, g, q _ _ hp _ _ (z.pushR ru)⟩
theorem ev_dnin (c : Cn X N sc vi li gs bs k) (i : Nat) (h : Ev X G ρ e fun o ρ1 => ∃ od kvs key, HAt ρ1 i od ∧ IsDc od kvs ∧ IsKey o key ∧ Ψ (oB (!(valD kvs key).isSome)) ρ1) (hm : behindInMarks .NotIn (.Name x px) = false)
    (hx : N[i]? = some x := by rfl) (hv : vi.elem i = true := by rfl) : Ev X G ρ (.Compare e [.NotIn] [.Name x px] pos) Ψ :=
  pe_imp (pe_cmp (pc_dnotin c.u1 h (pe_slot c i hx hv)) hm) fun σ H Q ⟨τ, y, q⟩ => ⟨τ, y, fun o ρ1 ⟨od, kvs, key, ha, hd, hk, hp⟩ w H1 z => by
    have ew := hk.v z
    subst ew
    obtain ⟨Fe, Ft, z1⟩ := z.drop
    obtain ⟨v', F, e, r⟩ := State.slotRep z1 ha
    obtain ⟨a, xs, ea, hH, rs⟩ := hd.view r
    have g := DGet.k (k := key) hH
    refine ⟨v', e, a, _, ea, g, ?_⟩
    have e2 : (valV (List.zip (kvs.map (·.1)) xs) key).isSome = (valD kvs key).isSome := by
      cases hv : valD kvs key with
      | none => rw [(val_rep rs).1 hv]; rfl
      | some d => obtain ⟨u, hu, _⟩ := (val_rep rs).2 d hv; rw [hu]; rfl
    rw [e2]
    exact q _ _ hp _ _ (z.drop.pB _)⟩
theorem ev_din (c : Cn X N sc vi li gs bs k) (i : Nat) (h : Ev X G ρ e fun o ρ1 => ∃ od kvs key, HAt ρ1 i od ∧ IsDc od kvs ∧ IsKey o key ∧ Ψ (oB (valD kvs key).isSome) ρ1) (hm : behindInMarks .In (.Name x px) = false)
    (hx : N[i]? = some x := by rfl) (hv : vi.elem i = true := by rfl) : Ev X G ρ (.Compare e [.In] [.Name x px] pos) Ψ :=
  pe_imp (pe_cmp (pc_din c.u1 h (pe_slot c i hx hv)) hm) fun σ H Q ⟨τ, y, q⟩ => ⟨τ, y, fun o ρ1 ⟨od, kvs, key, ha, hd, hk, hp⟩ w H1 z => by
    have ew := hk.v z
    subst ew
    obtain ⟨Fe, Ft, z1⟩ := z.drop
    obtain ⟨v', F, e, r⟩ := State.slotRep z1 ha
    obtain ⟨a, xs, ea, hH, rs⟩ := hd.view r
    have g := DGet.k (k := key) hH
    refine ⟨v', e, a, _, ea, g, ?_⟩
    have e2 : (valV (List.zip (kvs.map (·.1)) xs) key).isSome = (valD kvs key).isSome := by
      cases hv : valD kvs key with
      | none => rw [(val_rep rs).1 hv]; rfl
      | some d => obtain ⟨u, hu, _⟩ := (val_rep rs).2 d hv; rw [hu]; rfl
    rw [e2]
    exact q _ _ hp _ _ (z.drop.pB _)⟩
/-- the target NAME[b], a dict -/
theorem tg_setD (cn : Cn X N sc vi li gs bs k) (i : Nat) {tp : Pos} {o : OT} {R : PostR} (hi : Ev X G ρ b fun ok ρ1 => ∃ s kvs key d, ρ1[i]? = some s ∧ Holds s (.dc kvs) ∧ IsKey ok key ∧ o = .sh d ∧ kvs.length < 16777216 ∧ R (ρ1.set i (s.put (.dc (putD kvs key d)))))
    (h0 : ρ[i]? = some s0 := by rfl) (hh0 : Holds s0 o0 := by constructor) (hx : N[i]? = some x := by rfl) (hv : vi.elem i = true := by rfl)
    (ha : ∀ v, assign (.Subscript (.Name x px) b tp) X.env v = (do
      let ov ← holding [v] (eval (.Name x px) X.env)
      let iv ← holding [v, ov] (eval b X.env)
      standAt tp
      holding [v, ov, iv] (setItem ov iv v)
      release [v, ov, iv] []) := by intro _; rfl) : Tg X G ρ (.Subscript (.Name x px) b tp) o R :=
  pg_imp (pg_sub (pe_slot cn i hx hv) hi (set_dict cn.u1) ha) fun w σ H Q ⟨τ, y, q⟩ => by
    obtain ⟨v, ev⟩ := y.slotV (hat h0 hh0)
    refine ⟨v, ev, (w, o) :: τ, y, fun ok ρ1 ⟨s, kvs, key, d, hρ, hh, hk, eo, hz, hp⟩ u H2 z2 => ?_⟩
    subst eo
    have eu := hk.v z2
    subst eu
    obtain ⟨v', a, xs, Fi, ea, ep, ha, hl, ⟨_, _, rs⟩, fin⟩ := State.mutH (os := [OT.sh d]) (vs := [w]) z2.drop rfl hρ hh hole_id (.dc kvs)
    rw [ev] at ea; cases ea
    subst ep
    have lz : (List.zip (kvs.map (·.1)) xs).length < sizeLine := by
      rw [List.length_zip, List.length_map]
      exact Nat.lt_of_le_of_lt (Nat.min_le_left _ _) hz
    refine ⟨a, _, rfl, DPut.k ha lz, q _ hp _ _ ?_⟩
    -- the pairs behind
    have hr0 := (RepOs.sh rs).1
    obtain ⟨O1, F1, rw0⟩ := z2.drop.head
    -- the new list of values, whatever is owned
    have key1 : ∀ (H' : Hp) (O' : Addr → Prop), Rps X.K H' O' (kvs.map (·.2)) xs → Rp X.K H' O' d w → ∃ ys, putK (List.zip (kvs.map (·.1)) xs) key w = List.zip ((putD kvs key d).map (·.1)) ys ∧ Rps X.K H' O' ((putD kvs key d).map (·.2)) ys := fun H' O' r1 r2 => put_rep r2 r1
    -- ys does not hang on the heap
    have ysE : ∃ ys, putK (List.zip (kvs.map (·.1)) xs) key w = List.zip ((putD kvs key d).map (·.1)) ys ∧ ys.length = (putD kvs key d).length ∧ ∀ (H' : Hp) (O' : Addr → Prop), Rps X.K H' O' (kvs.map (·.2)) xs → Rp X.K H' O' d w → Rps X.K H' O' ((putD kvs key d).map (·.2)) ys := by
      have lx : xs.length = kvs.length := by rw [hr0.len0, List.length_map]
      refine ⟨(putK (List.zip (kvs.map (·.1)) xs) key w).map (·.2), ?_, ?_, ?_⟩
      · have e1 : (putK (List.zip (kvs.map (·.1)) xs) key w).map (·.1) = (putD kvs key d).map (·.1) := by
          unfold putK putD
          rw [zip_any lx]
          split
          · rw [List.map_map, List.map_map]
            have : ∀ {l : List (Key × V)} , (l.map ((fun x => x.1) ∘ fun kv => if kv.1 = key then (kv.1, w) else kv)) = l.map (·.1) := fun {l} => by
              apply List.map_congr_left
              intro p _
              show (if p.1 = key then (p.1, w) else p).1 = p.1
              split <;> rfl
            rw [this]
            have : ∀ {l : List (Key × PyData)} , (l.map ((fun x => x.1) ∘ fun kv => if kv.1 = key then (kv.1, d) else kv)) = l.map (·.1) := fun {l} => by
              apply List.map_congr_left
              intro p _
              show (if p.1 = key then (p.1, d) else p).1 = p.1
              split <;> rfl
            rw [this]
            exact List.map_fst_zip (by rw [List.length_map, lx]; exact Nat.le_refl _)
          · rw [List.map_append, List.map_append, List.map_fst_zip (by rw [List.length_map, lx]; exact Nat.le_refl _)]
            rfl
        rw [← e1]
        exact (zip_of_map _).symm
      · rw [List.length_map]
        unfold putK putD
        rw [zip_any lx]
        split
        · simp [lx]
        · simp [lx]
      · intro H' O' r1 r2
        obtain ⟨ys, e, r⟩ := key1 H' O' r1 r2
        rw [e, List.map_snd_zip (by rw [r.len0]; simp)]
        exact r
    obtain ⟨ys, ey, ly, ry⟩ := ysE
    have z := fin (some ((putD kvs key d).map (·.1))) (.dc (putD kvs key d)) (((putD kvs key d).map (·.2)).map .sh) ys (.dc _) (by show ((putD kvs key d).map (·.1)).length = _; simp) fun O F Fc r1 r2 => by
      obtain ⟨w', vs', F1, F2, ew, ⟨e1, rw'⟩, ⟨_, e0⟩, eF⟩ := r2
      cases ew
      obtain ⟨r1', e3⟩ := RepOs.sh r1
      exact ⟨[], Rps.os (ry _ _ r1' rw'), SubP.of (List.nil_sublist _)⟩
    rw [ey]
    exact z
where
  zip_of_map : ∀ (l : List (Key × V)), List.zip (l.map (·.1)) (l.map (·.2)) = l := fun l => by
    induction l with
    | nil => rfl
    | cons p l ih => exact congrArg (p :: ·) ih
end
end Pd
set_option Elab.async false
set_option linter.all false
set_option maxRecDepth 100000
set_option autoImplicit false
namespace Pd
open PySem PySem.Spec PyProof.Rows L2

section
variable {X : Cx} {N : List Str} {sc : Scope} {vi li : List Nat} {gs bs : List Str} {k : Nat} {G : Gx} {ρ : List Slot} {a b e lo hi : Expr} {elts : List Expr} {kk : Nat} {pos p px p2 q2 tpos : Pos} {Ψ : Post} {Θ : PostB} {x : Str} {Φ : Out → Prop} {s0 : Slot} {o0 : OT} {Ξ : PostI}
variable {K : PySem.W.Frag} {H : Hp} {O : Addr → Prop} {τ : List (V × OT)} {σ : L2.St}

/-! t.index(i) -/
theorem intsAre : ∀ {ns : List Int} {us : List Value}, Vals (ns.map V.int) us → PyProof.Rows.IntsAre us ns
  | [], _, .nil => .nil
  | n :: ns, _, .cons r t => by
    obtain ⟨k, rfl⟩ := r
    exact .cons n k (intsAre t)
theorem mt_tindex : MtR X "tuple.index" (fun x xs H Q => ∃ (a : Addr) (ob : Obj) (ns : List Int) (i : Int), x = .ref a ∧ xs = [.int i] ∧ H a = some (.frz ob (.tup (ns.map V.int))) ∧ i ∈ ns ∧ Q (.int (ns.idxOf i : Nat)) H) := by
  intro pins s σ H x xs v us Q I rx rs h
  obtain ⟨a, ob, ns, i, rfl, rfl, hq, hi, q⟩ := h
  cases rx
  obtain ⟨u, rfl, t, rfl⟩ := vals1 rs
  obtain ⟨its, r, pl, hz⟩ := I.tuple (show SqT X.K H a (ns.map V.int) from .inl (.inr ⟨ob, hq⟩))
  exact PySem.SeqAt.tuple_index_ints pl (intsAre r) hi ⟨.int (ns.idxOf i : Nat), H, I.tok _, ⟨_, rfl⟩, q⟩
theorem pe_bmD {o e : Expr} {to : TE} {t : TA} {name : Str} {apos cpos : Pos} {id : String} {r : V → List V → Hp → VK → Prop} (slot : PySem.Slot "tuple" name id) (hty : typeOf (.builtin id) = pure (.type "method_descriptor")) (hm : MtR X id r) (ho : PE X o to) (ha : PA X [e] t)
    (hbase : attributeBase o name X.env (eval o X.env) = eval o X.env) (hfew : FewA X cpos e) (hline : (apos.endLine == cpos.line) = true) (hs : starEach [e] X.env = (false, eval e X.env) :: starEach [] X.env) :
    PE X (.Call (.Attribute o name apos) [e] [] cpos) (fun σ H Q => to σ H fun x H1 => (∃ a ob xs, x = .ref a ∧ H1 a = some (.frz ob (.tup xs)) ∧ ob.dict = none) ∧ t σ H1 fun xs H2 => r x xs H2 Q) := by
  refine ⟨fun pins s σ H Q I h => ?_⟩
  refine wpAny_Call_method_late hbase hfew hline rfl (thn (ho.run pins s σ H _ I h) fun v s1 ⟨x, H1, I1, r1, ⟨a, ob, xs, ex, ha1, hd⟩, q1⟩ => ?_)
  subst ex
  cases r1
  have ok : ObjOk X.prog X.w H1 s1.heap a (.frz ob (.tup xs)) := I1.hok a _ ha1
  obtain ⟨hg, _, its, _, ob2, h1, h2, _⟩ := ok
  rw [hg] at h1; cases h1
  refine ⟨"tuple", id, PySem.F.plainAttrs_tuple, slot, hty, ⟨ob, hg, h2⟩, fun a' e' => by cases e'; exact ⟨ob, hg, hd⟩, ?_⟩
  have hA := ha.run cpos pins s1 σ H1 _ I1 q1
  rw [hs] at hA ⊢
  refine Calls.callWith_builtin (by rfl) (Calls.evalArgs_plain ?_)
  exact thn hA fun us s2 ⟨vs, H2, I2, r2, q2⟩ => hm pins s2 σ H2 (.ref a) vs (.ref a) us Q I2 rfl r2 q2
theorem ev_tindex (c : Cn X N sc vi li gs bs k) (i : Nat) {ap : Pos} (h : Ev X G ρ e (isI fun z ρ1 => ∃ ns, HAt ρ1 i (.tpd (nums ns)) ∧ z ∈ ns ∧ Ψ (oI (ns.idxOf z : Nat)) ρ1)) {ds : List PyData} (h0 : ρ[i]? = some (.val (.tpd ds)) := by rfl)
    (hx : N[i]? = some x := by rfl) (hv : vi.elem i = true := by rfl) (ns : NoStar e := by exact fun _ _ => rfl) (hline : (ap.endLine == pos.line) = true := by rfl) (hfew : FewA X pos e := by rfl) : Ev X G ρ (.Call (.Attribute (.Name x px) "index" ap) [e] [] pos) Ψ :=
  pe_imp (pe_bmD PySem.F.slot_tuple_index PySem.F.type_tuple_index mt_tindex (pe_slot c i hx hv) (pa_cons h pa_nil (ns _ _)) rfl hfew hline (ns _ _)) fun σ H Q ⟨τ, y, q⟩ => by
    obtain ⟨Fe, Ft, y0⟩ := y
    obtain ⟨v, F, ev, ⟨_, a, ob, xs, e1, ha, hd, rs⟩⟩ := State.slotRep y0 (hat h0 (.val _))
    subst e1
    refine ⟨_, ev, ⟨a, ob, xs, rfl, ha, hd⟩, τ, ⟨Fe, Ft, y0⟩, fun oi ρ1 ⟨z, eo, ns, hat1, hz, hp⟩ w H1 y1 => ?_⟩
    subst eo
    have ew := y1.headI
    subst ew
    obtain ⟨Fe1, Ft1, y2⟩ := y1.drop
    obtain ⟨v, F, ev2, ⟨_, a2, ob2, xs2, e1, ha2, hd2, rs2⟩⟩ := State.slotRep y2 hat1
    rw [ev] at ev2; cases ev2
    cases e1
    rw [Rps.nums rs2] at ha2
    exact ⟨a, ob2, ns, z, rfl, rfl, ha2, hz, q _ _ hp _ _ (y1.drop.pI _)⟩

/-! len(set(list of numbers)) -/
def ddL : List Int → List Int → List Int
  | acc, [] => acc
  | acc, x :: xs => ddL (if acc.any (· == x) then acc else acc ++ [x]) xs
theorem ddL_snoc : ∀ (l acc : List Int) (x : Int), ddL acc (l ++ [x]) = if (ddL acc l).any (· == x) then ddL acc l else ddL acc l ++ [x]
  | [], acc, x => rfl
  | y :: l, acc, x => ddL_snoc l _ x
theorem firstMet_dd (ns : List Int) : ∀ i, i ≤ ns.length → PyProof.Rows.firstMet (fun i => ns.getD i 0) i = ddL [] (ns.take i)
  | 0, _ => rfl
  | i + 1, hi => by
    have hlt : i < ns.length := hi
    rw [PyProof.Rows.firstMet_succ, firstMet_dd ns i (Nat.le_of_lt hlt), List.take_add_one, List.getElem?_eq_getElem hlt]
    have e1 : ns.getD i 0 = ns[i] := by rw [List.getD_eq_getElem?_getD, List.getElem?_eq_getElem hlt]; rfl
    rw [e1]
    exact (ddL_snoc (ns.take i) [] ns[i]).symm
theorem ev_lenset (c : Cn X N sc vi li gs bs k) (j j2 : Nat) (h : Ev X G ρ e (onNs fun ns ρ1 => ns.length ≤ 4000 ∧ Ψ (oI (ddL [] ns).length) ρ1)) (hj : bs[j]? = some ("len" : Str) := by rfl) (hj2 : bs[j2]? = some ("set" : Str) := by rfl)
    (na : NoStar e := by exact fun _ _ => rfl) : Ev X G ρ (.Call (.Name "len" p) [.Call (.Name "set" p2) [e] [] q2] [] pos) Ψ := by
  refine ⟨fun pins s σ H Q I ⟨τ, y, q⟩ => ?_⟩
  refine Call_ (ld_blt I (c.bg j hj) (c.bm j hj) PySem.boot_len (PyProof.Rows.callWith_builtin1 (PyProof.Rows.args_cons ?_ rfl) rfl rfl))
  refine Call_ (ld_blt I (c.bg j2 hj2) (c.bm j2 hj2) PyProof.Rows.boot_set ?_)
  refine PyProof.Rows.callWith_type1 (PyProof.Rows.args_cons (thn (PE.run h pins s σ H (fun v H1 => ∃ ρ1 ns o, IsLs o (nums ns) ∧ ns.length ≤ 4000 ∧ Ψ (oI (ddL [] ns).length) ρ1 ∧ State X.K G ρ1 ((v, o) :: τ) σ H1) I ⟨τ, y, fun o ρ1 ⟨ns, h1, h2, h3⟩ v H1 z => ⟨ρ1, ns, o, h1, h2, h3, z⟩⟩) fun v s1 ⟨x, H1, I1, r1, ρ1, ns, o, hs, hl, hp, z⟩ => PyProof.Rows.args_nil ?_) (na _ _)) (na _ _) rfl
  obtain ⟨O1, F1, rep⟩ := z.head
  obtain ⟨l, xs, ex, hq, rs⟩ := hs.view rep
  rw [Rps.nums rs] at hq
  subst ex
  cases r1
  obtain ⟨its, r, pl, hz⟩ := I1.list hq
  have hlen : its.toArray.size = ns.length := by rw [List.size_toArray, ← r.length, List.length_map]
  refine call_set_list (I1.ok.hd c.cm) pl.isList (ns := ns) (by simpa using intsAre r) (by rw [hlen]; unfold scanBound; omega) fun h' tk hS hk => PyProof.Rows.args_nil ?_
  rw [hlen, firstMet_dd ns ns.length (Nat.le_refl _), List.take_length] at hS
  obtain ⟨ob, es, ep, t, ho, hex, hd, _, _, _, hf, hn⟩ := hS
  have I2 : Inv X pins σ H1 { s1 with heap := h', toks := tk } := I1.kept fun b o e => hk b o (Heap.lt_size e) e
  have hle : (ddL [] ns).length ≤ ns.length := by
    have : ∀ (l acc : List Int), (ddL acc l).length ≤ acc.length + l.length := by
      intro l
      induction l with
      | nil => intro acc; simp [ddL]
      | cons x l ih =>
        intro acc
        have := ih (if acc.any (· == x) then acc else acc ++ [x])
        show (ddL (if acc.any (· == x) then acc else acc ++ [x]) l).length ≤ acc.length + (l.length + 1)
        refine Nat.le_trans this ?_
        split
        · omega
        · rw [List.length_append]; simp; omega
    simpa using this ns []
  exact call_len_set ho hex hd hf (by rw [hn]; omega) ⟨.int (ddL [] ns).length, H1, I2.tok _, ⟨_, by rw [hn]⟩, q _ _ hp _ _ (z.drop.pI _)⟩

/-! sorted(list of pairs of numbers in [0, 64)) -/
def pr (z : Int × Int) : PyData := .tuple [.int z.1, .int z.2]
def prs (zs : List (Int × Int)) : List PyData := zs.map pr
theorem rp_pr {z : Int × Int} {v : V} (r : Rp K H O (pr z) v) : TupI K H v [z.1, z.2] := by
  obtain ⟨a, xs, e, h, q⟩ := r
  exact ⟨a, e, by rw [Rps.nums (ns := [z.1, z.2]) q] at h; exact h⟩
theorem prs_perm {ys xs : List V} (h : ys.Perm xs) : ∀ zs, Rps K H O (prs zs) xs → ∃ zs', zs'.Perm zs ∧ Rps K H O (prs zs') ys := by
  induction h with
  | nil => exact fun zs r => ⟨zs, .refl _, r⟩
  | cons x p ih =>
    intro zs r
    match zs, r with
    | z :: zs, ⟨v, vs, e, h1, h2⟩ =>
      cases e
      obtain ⟨zs', p', r'⟩ := ih zs h2
      exact ⟨z :: zs', .cons z p', _, _, rfl, h1, r'⟩
    | [], r => cases r
  | swap x y l =>
    intro zs r
    match zs, r with
    | z :: z2 :: zs, ⟨v, vs, e, h1, v2, vs2, e2, h2, h3⟩ =>
      cases e
      cases e2
      exact ⟨z2 :: z :: zs, .swap .., _, _, rfl, h2, _, _, rfl, h1, h3⟩
    | [z], ⟨v, vs, e, h1, h2⟩ => cases e; cases h2
    | [], r => cases r
  | trans p1 p2 ih1 ih2 =>
    intro zs r
    obtain ⟨z2, p3, r2⟩ := ih2 zs r
    obtain ⟨z3, p4, r3⟩ := ih1 z2 r2
    exact ⟨z3, p4.trans p3, r3⟩
theorem prs_pw : ∀ {zs : List (Int × Int)} {ys : List V}, Rps K H O (prs zs) ys → ys.Pairwise (fun x y => ∀ n m, TupI K H x n → TupI K H y m → TS.code 64 n ≤ TS.code 64 m) → zs.Pairwise (fun z z' => z.1 * 64 + z.2 ≤ z'.1 * 64 + z'.2)
  | [], _, _, _ => .nil
  | z :: zs, _, ⟨v, vs, e, h1, h2⟩, pw => by
    subst e
    rw [List.pairwise_cons] at pw
    refine .cons (fun z' hz' => ?_) (prs_pw h2 pw.2)
    obtain ⟨j, hj⟩ := List.mem_iff_getElem?.mp hz'
    obtain ⟨w, hw, rw'⟩ := h2.get (j := j) (d := pr z') (by show (zs.map pr)[j]? = _; rw [List.getElem?_map, hj]; rfl)
    have := pw.1 w (List.mem_of_getElem? hw) _ _ (rp_pr h1) (rp_pr rw')
    rwa [code_pair, code_pair] at this
theorem ev_sortedP (c : Cn X N sc vi li gs bs k) (j : Nat) (h : Pv X G ρ e fun o ρ1 => ∃ zs, IsLs o (prs zs) ∧ zs.length < 64 ∧ (∀ z ∈ zs, 0 ≤ z.1 ∧ z.1 < 64 ∧ 0 ≤ z.2 ∧ z.2 < 64) ∧ ∀ zs' : List (Int × Int), zs'.Perm zs → zs'.Pairwise (fun z z' => z.1 * 64 + z.2 ≤ z'.1 * 64 + z'.2) → Ψ (.ls (prs zs')) ρ1)
    (hj : bs[j]? = some ("sorted" : Str) := by rfl) (he : NoStar e := by exact fun _ _ => rfl) : Ev X G ρ (.Call (.Name "sorted" p) [e] [] pos) Ψ :=
  ev_cb1 c (cr_sortT (d := 2) (B := 64) (by decide)) j boot_sorted h (fun o ρ1 τ σ H v Fe Ft F ⟨zs, hs, hl, hb, hp⟩ x r Q q => by
    obtain ⟨a, xs, ev, sq, rs⟩ := hs.view r
    have lx : xs.length = zs.length := by rw [rs.len]; simp [prs]
    refine ⟨a, xs, by rw [ev], sq, by rw [lx]; exact hl, fun y hy => ?_, fun ys p hpm hpw hn => ?_⟩
    · obtain ⟨i, hi⟩ := List.mem_iff_getElem?.mp hy
      have hil : i < zs.length := by rw [← lx]; exact (List.getElem?_eq_some_iff.mp hi).1
      obtain ⟨w, hw, rw'⟩ := rs.get (j := i) (d := pr zs[i]) (by show (zs.map pr)[i]? = _; rw [List.getElem?_map, List.getElem?_eq_getElem hil]; rfl)
      rw [hi] at hw; cases hw
      refine ⟨_, rp_pr rw', rfl, fun m hm => ?_⟩
      have := hb zs[i] (List.getElem_mem hil)
      simp only [List.mem_cons, List.not_mem_nil, or_false] at hm
      rcases hm with rfl | rfl <;> omega
    · obtain ⟨zs', p1, r1⟩ := prs_perm hpm zs rs
      exact q _ _ (hp zs' p1 (prs_pw r1 hpw)) _ _ (x.newL r1 hn)) hj he (by decide) (by decide)

/-! repr -/
theorem call_reprD (hg : X.A.guards = some []) (hu : X.A.units + 65 < cLine) : CallR X (.builtin "repr") (fun xs H Q => ∃ a d, xs = [.ref a] ∧ Dp X.K H (.ref a) d ∧ d.depth ≤ 64 ∧ d.showable = true ∧ d.hasDict = false ∧ d.shown.length ≤ sizeLine ∧ Q (.str d.shown) H) := by
  intro pins s σ H xs us Q I r h
  obtain ⟨a, d, rfl, hd, hdp, hsh, hdc, hz, q⟩ := h
  obtain ⟨u, rfl, rx⟩ := vals1 r
  obtain ⟨as, rd⟩ := Dp.reads I d _ u hd rx
  cases rx
  exact repr_of_reads' rd hsh (fun z => by rw [hdc] at z; cases z) hg (by omega) (fun _ _ e => e) (fun h' t tk hk => ⟨.str d.shown, H, I.kept hk, ⟨_, rfl⟩, q⟩) hz
theorem ev_repr (c : Cn X N sc vi li gs bs k) (j : Nat) (h : Ev X G ρ e fun o ρ1 => (∃ ds, SeqV o ds ∨ (∃ os, o = .lst os) ∨ ∃ os, o = .tup os) ∧ shp o.frz ∧ o.frz.showable = true ∧ o.frz.hasDict = false ∧ o.frz.shown.length ≤ 16777216 ∧ Ψ (oS o.frz.shown) ρ1) (hj : bs[j]? = some ("repr" : Str) := by rfl) (he : NoStar e := by exact fun _ _ => rfl) : Ev X G ρ (.Call (.Name "repr" p) [e] [] pos) Ψ :=
  ev_cb1 c (call_reprD c.gd c.u65) j PyProof.Rows.boot_repr (pv_ev h) (fun o ρ1 τ σ H v Fe Ft F ⟨⟨ds, hs⟩, h1, h2, h3, h4, hp⟩ x r Q q => by
    have ea : ∃ a, v = .ref a := by
      rcases hs with hs | ⟨os, e⟩ | ⟨os, e⟩
      · obtain ⟨a, xs, ev, _⟩ := hs.view r; exact ⟨a, ev⟩
      · subst e; obtain ⟨a, xs, F', ev, _⟩ := r; exact ⟨a, ev⟩
      · subst e; obtain ⟨a, xs, ev, _⟩ := r; exact ⟨a, ev⟩
    obtain ⟨a, ea⟩ := ea
    subst ea
    exact ⟨a, _, rfl, RepO.dp _ _ _ (SeqAt.canLay_of_shaped h1) r, SeqAt.depth_of_shaped h1, h2, h3, h4, q _ _ hp _ _ (x.st.pS _)⟩) hj he (by decide) (by decide)
end
end Pd
set_option Elab.async false
set_option linter.all false
set_option maxRecDepth 100000
set_option autoImplicit false
namespace Pd
open PySem PySem.Spec PyProof.Rows L2
section
variable {X : Cx} {N : List Str} {sc : Scope} {vi li : List Nat} {gs bs : List Str} {k : Nat} {G : Gx} {ρ : List Slot} {a b e : Expr} {pos p : Pos} {Ψ : Post} {x : Str} {Φ : Out → Prop}
/-- constants of the module -/
def GlS (X : Cx) (x z : Str) : Prop := ∃ t, X.mg x = some (.str z t)
def GlI (X : Cx) (x : Str) (i : Int) : Prop := ∃ t, X.mg x = some (.int i t)
theorem ev_glS (c : Cn X N sc vi li gs bs k) (j : Nat) {z : Str} (hm : GlS X x z) (h : Ψ (oS z) ρ) (hj : gs[j]? = some x := by rfl) (hdb : (x == ("__debug__" : Str)) = false := by decide) : Ev X G ρ (.Name x pos) Ψ := by
  obtain ⟨t, hm⟩ := hm
  exact ev_gl c j (v := V.str z) (d := .str z) hm ⟨t, rfl⟩ (fun _ _ => rfl) h hj hdb
theorem ev_glI (c : Cn X N sc vi li gs bs k) (j : Nat) {z : Int} (hm : GlI X x z) (h : Ψ (oI z) ρ) (hj : gs[j]? = some x := by rfl) (hdb : (x == ("__debug__" : Str)) = false := by decide) : Ev X G ρ (.Name x pos) Ψ := by
  obtain ⟨t, hm⟩ := hm
  exact ev_gl c j (v := V.int z) (d := .int z) hm ⟨t, rfl⟩ (fun _ _ => rfl) h hj hdb
theorem Cn.blkB {X : Cx} {N : List Str} {sc scope : Scope} {vi li vi' li' : List Nat} {gs bs gs' bs' : List Str} {k : Nat} (BL : List Str) (c : Cn X N sc vi li gs bs k) (hB : ∀ x ∈ BL, X.mg x = none) (hb : bs'.all BL.elem = true) (h : cnC N scope (relS scope sc) vi' li' gs' bs' = true)
    (s : Shared) (H : Hp) (C : Addr) (cl : List (Str × Addr)) (fp : List Addr) : Cn (BX X scope s H C cl fp) N (relS scope sc) vi' li' gs' bs' k :=
  c.blk h (fun x hx => hB x (List.elem_iff.mp (List.all_eq_true.mp hb x hx))) s H C cl fp
/-- pure promises -/
def fsP (Pre : List PyData → (OT → Prop) → Prop) : FS := fun os ds κ => os = [] ∧ Pre ds fun r => κ r []
end
end Pd
set_option Elab.async false
set_option linter.all false
set_option maxRecDepth 100000
set_option maxHeartbeats 0
set_option autoImplicit false
namespace Pd
open PySem PySem.Spec PyProof.Rows L2

abbrev RL : PySem.W.OpenLaw := PySem.Challenge.rw_caterpillars_k42_whole_even_or_claw
def top (i : Nat) : Stmt := PySem.Challenge.pw_caterpillars_k42_whole_even_or_claw.main.body.getD i (.Pass ⟨0, 0, 0, 0⟩)
abbrev st4 : Stmt := top 4
abbrev st5 : Stmt := top 5
abbrev st6 : Stmt := top 6
abbrev st7 : Stmt := top 7
abbrev st8 : Stmt := top 8
abbrev st12 : Stmt := top 12
abbrev st13 : Stmt := top 13
abbrev st14 : Stmt := top 14
abbrev st15 : Stmt := top 15
abbrev st16 : Stmt := top 16
abbrev st17 : Stmt := top 17
abbrev st18 : Stmt := top 18
abbrev st19 : Stmt := top 19
abbrev st20 : Stmt := top 20
abbrev st21 : Stmt := top 21
abbrev st25 : Stmt := top 25
abbrev st26 : Stmt := top 26
abbrev st27 : Stmt := top 27
abbrev st28 : Stmt := top 28
abbrev st29 : Stmt := top 29
abbrev st33 : Stmt := top 33
abbrev st34 : Stmt := top 34
abbrev st35 : Stmt := top 35
abbrev st36 : Stmt := top 36
abbrev st37 : Stmt := top 37
abbrev st38 : Stmt := top 38
abbrev st39 : Stmt := top 39
abbrev st40 : Stmt := top 40
abbrev st41 : Stmt := top 41
abbrev st42 : Stmt := top 42
abbrev st43 : Stmt := top 43
abbrev st44 : Stmt := top 44
abbrev st45 : Stmt := top 45
abbrev st47 : Stmt := top 47
abbrev st48 : Stmt := top 48
abbrev st49 : Stmt := top 49
abbrev st50 : Stmt := top 50
abbrev st51 : Stmt := top 51
abbrev st52 : Stmt := top 52
abbrev st53 : Stmt := top 53
abbrev st54 : Stmt := top 54
abbrev st55 : Stmt := top 55
abbrev st56 : Stmt := top 56
abbrev st57 : Stmt := top 57
abbrev st58 : Stmt := top 58
abbrev st59 : Stmt := top 59
abbrev st60 : Stmt := top 60
def dd4 : He.DefD := ⟨("is_integer", none), "is_integer", "is_integer", defArgs st4, defBody st4, defScope st4, [], []⟩
def dd5 : He.DefD := ⟨("is_count", none), "is_count", "is_count", defArgs st5, defBody st5, defScope st5, [], []⟩
def dd6 : He.DefD := ⟨("is_below", none), "is_below", "is_below", defArgs st6, defBody st6, defScope st6, [], []⟩
def dd7 : He.DefD := ⟨("is_row", none), "is_row", "is_row", defArgs st7, defBody st7, defScope st7, [], []⟩
def dd8 : He.DefD := ⟨("is_rising", none), "is_rising", "is_rising", defArgs st8, defBody st8, defScope st8, [], []⟩
def dd12 : He.DefD := ⟨("do_hang", none), "do_hang", "do_hang", defArgs st12, defBody st12, defScope st12, [], []⟩
def dd13 : He.DefD := ⟨("near_by", none), "near_by", "near_by", defArgs st13, defBody st13, defScope st13, [], []⟩
def dd14 : He.DefD := ⟨("are_ties", none), "are_ties", "are_ties", defArgs st14, defBody st14, defScope st14, [], []⟩
def dd15 : He.DefD := ⟨("is_tree_of", none), "is_tree_of", "is_tree_of", defArgs st15, defBody st15, defScope st15, [], []⟩
def dd16 : He.DefD := ⟨("is_place_of", none), "is_place_of", "is_place_of", defArgs st16, defBody st16, defScope st16, [], []⟩
def dd17 : He.DefD := ⟨("are_places_of", none), "are_places_of", "are_places_of", defArgs st17, defBody st17, defScope st17, [], []⟩
def dd18 : He.DefD := ⟨("many_of", none), "many_of", "many_of", defArgs st18, defBody st18, defScope st18, [], []⟩
def dd19 : He.DefD := ⟨("ties_of", none), "ties_of", "ties_of", defArgs st19, defBody st19, defScope st19, [], []⟩
def dd20 : He.DefD := ⟨("near_of", none), "near_of", "near_of", defArgs st20, defBody st20, defScope st20, [], []⟩
def dd21 : He.DefD := ⟨("want_tree", none), "want_tree", "want_tree", defArgs st21, defBody st21, defScope st21, [], []⟩
def dd25 : He.DefD := ⟨("is_stretch", none), "is_stretch", "is_stretch", defArgs st25, defBody st25, defScope st25, [], []⟩
def dd26 : He.DefD := ⟨("is_lay_of", none), "is_lay_of", "is_lay_of", defArgs st26, defBody st26, defScope st26, [], []⟩
def dd27 : He.DefD := ⟨("do_meet", none), "do_meet", "do_meet", defArgs st27, defBody st27, defScope st27, [], []⟩
def dd28 : He.DefD := ⟨("meetings_of", none), "meetings_of", "meetings_of", defArgs st28, defBody st28, defScope st28, [], []⟩
def dd29 : He.DefD := ⟨("are_stretches_of", none), "are_stretches_of", "are_stretches_of", defArgs st29, defBody st29, defScope st29, [], []⟩
def dd33 : He.DefD := ⟨("are_even_of", none), "are_even_of", "are_even_of", defArgs st33, defBody st33, defScope st33, [], []⟩
def dd34 : He.DefD := ⟨("path_from_end", none), "path_from_end", "path_from_end", defArgs st34, defBody st34, defScope st34, [], []⟩
def dd35 : He.DefD := ⟨("told_even", none), "told_even", "told_even", defArgs st35, defBody st35, defScope st35, [], []⟩
def dd36 : He.DefD := ⟨("is_claw_of", none), "is_claw_of", "is_claw_of", defArgs st36, defBody st36, defScope st36, [], []⟩
def dd37 : He.DefD := ⟨("threes_of", none), "threes_of", "threes_of", defArgs st37, defBody st37, defScope st37, [], []⟩
def dd38 : He.DefD := ⟨("claws_of", none), "claws_of", "claws_of", defArgs st38, defBody st38, defScope st38, [], []⟩
def dd39 : He.DefD := ⟨("first_claw", none), "first_claw", "first_claw", defArgs st39, defBody st39, defScope st39, [], []⟩
def dd40 : He.DefD := ⟨("paper_of", none), "paper_of", "paper_of", defArgs st40, defBody st40, defScope st40, [], []⟩
def dd41 : He.DefD := ⟨("is_paper_of", none), "is_paper_of", "is_paper_of", defArgs st41, defBody st41, defScope st41, [], []⟩
def dd42 : He.DefD := ⟨("are_even", none), "are_even", "are_even", defArgs st42, defBody st42, defScope st42, [], []⟩
def dd43 : He.DefD := ⟨("claws", none), "claws", "claws", defArgs st43, defBody st43, defScope st43, [], []⟩
def dd44 : He.DefD := ⟨("even_paper", none), "even_paper", "even_paper", defArgs st44, defBody st44, defScope st44, [], []⟩
def dd45 : He.DefD := ⟨("is_even_paper", none), "is_even_paper", "is_even_paper", defArgs st45, defBody st45, defScope st45, [], []⟩
def dd47 : He.DefD := ⟨("_law_pot", none), "_law_pot", "_law_pot", defArgs st47, defBody st47, defScope st47, [], []⟩
def dd48 : He.DefD := ⟨("_law_draw", none), "_law_draw", "_law_draw", defArgs st48, defBody st48, defScope st48, [], []⟩
def dd49 : He.DefD := ⟨("_law_shuffled", none), "_law_shuffled", "_law_shuffled", defArgs st49, defBody st49, defScope st49, [], []⟩
def dd50 : He.DefD := ⟨("_law_tree_by", none), "_law_tree_by", "_law_tree_by", defArgs st50, defBody st50, defScope st50, [], []⟩
def dd51 : He.DefD := ⟨("_law_any_tree", none), "_law_any_tree", "_law_any_tree", defArgs st51, defBody st51, defScope st51, [], []⟩
def dd52 : He.DefD := ⟨("_law_caterpillar", none), "_law_caterpillar", "_law_caterpillar", defArgs st52, defBody st52, defScope st52, [], []⟩
def dd53 : He.DefD := ⟨("_law_tree", none), "_law_tree", "_law_tree", defArgs st53, defBody st53, defScope st53, [], []⟩
def dd54 : He.DefD := ⟨("_law_near", none), "_law_near", "_law_near", defArgs st54, defBody st54, defScope st54, [], []⟩
def dd55 : He.DefD := ⟨("_law_do_meet", none), "_law_do_meet", "_law_do_meet", defArgs st55, defBody st55, defScope st55, [], []⟩
def dd56 : He.DefD := ⟨("_law_meetings", none), "_law_meetings", "_law_meetings", defArgs st56, defBody st56, defScope st56, [], []⟩
def dd57 : He.DefD := ⟨("_law_are_stretches", none), "_law_are_stretches", "_law_are_stretches", defArgs st57, defBody st57, defScope st57, [], []⟩
def dd58 : He.DefD := ⟨("_law_claws", none), "_law_claws", "_law_claws", defArgs st58, defBody st58, defScope st58, [], []⟩
def dd59 : He.DefD := ⟨("_law_right", none), "_law_right", "_law_right", defArgs st59, defBody st59, defScope st59, [], []⟩
def dd60 : He.DefD := ⟨("law", none), "law", "law", defArgs st60, defBody st60, defScope st60, [], []⟩
def fn0 : List He.DefD := [dd4, dd5, dd6, dd7, dd8, dd12, dd13, dd14, dd15, dd16, dd17, dd18, dd19, dd20, dd21, dd25, dd26, dd27, dd28, dd29, dd33, dd34, dd35, dd36]
def fn1 : List He.DefD := [dd37, dd38, dd39, dd40, dd41, dd42, dd43, dd44, dd45, dd47, dd48, dd49, dd50, dd51, dd52, dd53, dd54, dd55, dd56, dd57, dd58, dd59, dd60]
def fn : List He.DefD := fn0 ++ fn1
def fa0 : List He.Fa := [.glo "is_integer", .glo "is_count", .glo "is_below", .glo "is_row", .glo "is_rising", .glo "do_hang", .glo "near_by", .glo "are_ties", .glo "is_tree_of", .glo "is_place_of", .glo "are_places_of", .glo "many_of", .glo "ties_of", .glo "near_of", .glo "want_tree", .glo "is_stretch", .glo "is_lay_of", .glo "do_meet", .glo "meetings_of", .glo "are_stretches_of", .glo "are_even_of", .glo "path_from_end", .glo "told_even", .glo "is_claw_of"]
def fa1 : List He.Fa := [.glo "threes_of", .glo "claws_of", .glo "first_claw", .glo "paper_of", .glo "is_paper_of", .glo "are_even", .glo "claws", .glo "even_paper", .glo "is_even_paper", .glo "_law_pot", .glo "_law_draw", .glo "_law_shuffled", .glo "_law_tree_by", .glo "_law_any_tree", .glo "_law_caterpillar", .glo "_law_tree", .glo "_law_near", .glo "_law_do_meet", .glo "_law_meetings", .glo "_law_are_stretches", .glo "_law_claws", .glo "_law_right", .glo "law", .free "abs"]
def fa2 : List He.Fa := [.free "all", .free "bool", .free "divmod", .free "enumerate", .free "int", .free "isinstance", .free "len", .free "list", .free "max", .free "min", .free "range", .free "repr", .free "set", .free "sorted", .free "str", .free "tuple", .free "zip", .str "TREE" "tree", .int "MOST_PLACES" 40, .int "MOST_LAID" 40, .int "MOST_NUMBER" 99, .str "EVEN" "even", .str "CLAW" "claw"]
def fa : List He.Fa := fa0 ++ fa1 ++ fa2
def lo0 : List PySem.Str := ["TreeError", "InvalidTree", "is_integer", "is_count", "is_below", "is_row", "is_rising", "TREE", "MOST_PLACES", "do_hang", "near_by", "are_ties", "is_tree_of", "is_place_of", "are_places_of", "many_of", "ties_of", "near_of", "want_tree", "MOST_LAID", "MOST_NUMBER", "is_stretch", "is_lay_of", "do_meet"]
def lo1 : List PySem.Str := ["meetings_of", "are_stretches_of", "EVEN", "CLAW", "are_even_of", "path_from_end", "told_even", "is_claw_of", "threes_of", "claws_of", "first_claw", "paper_of", "is_paper_of", "are_even", "claws", "even_paper", "is_even_paper", "_law_pot", "_law_draw", "_law_shuffled", "_law_tree_by", "_law_any_tree", "_law_caterpillar", "_law_tree"]
def lo2 : List PySem.Str := ["_law_near", "_law_do_meet", "_law_meetings", "_law_are_stretches", "_law_claws", "_law_right"]
def lo : List PySem.Str := lo0 ++ lo1 ++ lo2

def BLs : List Str := ["abs", "all", "bool", "divmod", "enumerate", "int", "isinstance", "len", "list", "max", "min", "range", "repr", "set", "sorted", "str", "tuple", "zip"]
abbrev BN (X : Cx) : Prop := ∀ x ∈ BLs, X.mg x = none
abbrev N4 : List Str := ["value"]
abbrev C4 (X : Cx) : Prop := Cn X N4 (defScope st4) [0] [0] [] ["isinstance", "int", "bool"] 0
theorem ck4 : cnC N4 (defScope st4) (defScope st4) [0] [0] [] ["isinstance", "int", "bool"] = true := by decide +kernel
theorem sk4 : C8.scC N4 ["value"] (defScope st4) = true := by decide +kernel
abbrev F4 (X : Cx) (nb : Nat) (S : FS) : Prop := FnX X "is_integer" ["value"] 1 nb S
abbrev N5 : List Str := ["value"]
abbrev C5 (X : Cx) : Prop := Cn X N5 (defScope st5) [0] [0] ["is_integer"] [] 1
theorem ck5 : cnC N5 (defScope st5) (defScope st5) [0] [0] ["is_integer"] [] = true := by decide +kernel
theorem sk5 : C8.scC N5 ["value"] (defScope st5) = true := by decide +kernel
abbrev F5 (X : Cx) (nb : Nat) (S : FS) : Prop := FnX X "is_count" ["value"] 2 nb S
abbrev N6 : List Str := ["value", "many"]
abbrev C6 (X : Cx) : Prop := Cn X N6 (defScope st6) [0, 1] [0, 1] ["is_count"] [] 2
theorem ck6 : cnC N6 (defScope st6) (defScope st6) [0, 1] [0, 1] ["is_count"] [] = true := by decide +kernel
theorem sk6 : C8.scC N6 ["value", "many"] (defScope st6) = true := by decide +kernel
abbrev F6 (X : Cx) (nb : Nat) (S : FS) : Prop := FnX X "is_below" ["value", "many"] 3 nb S
abbrev N7 : List Str := ["value", "many"]
abbrev C7 (X : Cx) : Prop := Cn X N7 (defScope st7) [0, 1] [0, 1] [] ["isinstance", "tuple", "len"] 0
theorem ck7 : cnC N7 (defScope st7) (defScope st7) [0, 1] [0, 1] [] ["isinstance", "tuple", "len"] = true := by decide +kernel
theorem sk7 : C8.scC N7 ["value", "many"] (defScope st7) = true := by decide +kernel
abbrev F7 (X : Cx) (nb : Nat) (S : FS) : Prop := FnX X "is_row" ["value", "many"] 1 nb S
abbrev N8 : List Str := ["items", "near", "far"]
abbrev C8 (X : Cx) : Prop := Cn X N8 (defScope st8) [0] [0] [] ["all", "zip"] 0
theorem ck8 : cnC N8 (defScope st8) (defScope st8) [0] [0] [] ["all", "zip"] = true := by decide +kernel
theorem sk8 : C8.scC N8 ["items"] (defScope st8) = true := by decide +kernel
abbrev F8 (X : Cx) (nb : Nat) (S : FS) : Prop := FnX X "is_rising" ["items"] 1 nb S
abbrev ow8_0 : List (Str × Nat) := [("near", 1), ("far", 2)]
theorem kb8_0 {X : Cx} (c : C8 X) (hB : BN X) {scope : Scope} (s : Shared) (H : Hp) (C : Addr) (cl : List (Str × Addr)) (fp : List Addr) (h : cnC N8 scope (relS scope (defScope st8)) [1, 2] [1, 2] [] [] = true := by decide +kernel) : Cn (BX X scope s H C cl fp) N8 (relS scope (defScope st8)) [1, 2] [1, 2] [] [] 0 := c.blkB BLs hB (by decide +kernel) h s H C cl fp
abbrev N12 : List Str := ["many", "ties", "near", "order", "turn", "seen", "other"]
abbrev C12 (X : Cx) : Prop := Cn X N12 (defScope st12) [0, 1, 2, 3, 4, 5, 6] [0, 1, 2, 3, 4, 5, 6] ["near_by"] ["len"] 1
theorem ck12 : cnC N12 (defScope st12) (defScope st12) [0, 1, 2, 3, 4, 5, 6] [0, 1, 2, 3, 4, 5, 6] ["near_by"] ["len"] = true := by decide +kernel
theorem sk12 : C8.scC N12 ["many", "ties"] (defScope st12) = true := by decide +kernel
abbrev F12 (X : Cx) (nb : Nat) (S : FS) : Prop := FnX X "do_hang" ["many", "ties"] 2 nb S
abbrev N13 : List Str := ["many", "ties", "found", "one", "other", "place", "some"]
abbrev C13 (X : Cx) : Prop := Cn X N13 (defScope st13) [0, 1, 2, 3, 4] [0, 1, 2, 3, 4] [] ["range"] 0
theorem ck13 : cnC N13 (defScope st13) (defScope st13) [0, 1, 2, 3, 4] [0, 1, 2, 3, 4] [] ["range"] = true := by decide +kernel
theorem sk13 : C8.scC N13 ["many", "ties"] (defScope st13) = true := by decide +kernel
abbrev F13 (X : Cx) (nb : Nat) (S : FS) : Prop := FnX X "near_by" ["many", "ties"] 1 nb S
abbrev ow13_0 : List (Str × Nat) := [("place", 5)]
theorem kb13_0 {X : Cx} (c : C13 X) (hB : BN X) {scope : Scope} (s : Shared) (H : Hp) (C : Addr) (cl : List (Str × Addr)) (fp : List Addr) (h : cnC N13 scope (relS scope (defScope st13)) [5] [5] [] [] = true := by decide +kernel) : Cn (BX X scope s H C cl fp) N13 (relS scope (defScope st13)) [5] [5] [] [] 0 := c.blkB BLs hB (by decide +kernel) h s H C cl fp
abbrev ow13_1 : List (Str × Nat) := [("some", 6)]
theorem kb13_1 {X : Cx} (c : C13 X) (hB : BN X) {scope : Scope} (s : Shared) (H : Hp) (C : Addr) (cl : List (Str × Addr)) (fp : List Addr) (h : cnC N13 scope (relS scope (defScope st13)) [6] [6] [] ["tuple", "sorted"] = true := by decide +kernel) : Cn (BX X scope s H C cl fp) N13 (relS scope (defScope st13)) [6] [6] [] ["tuple", "sorted"] 0 := c.blkB BLs hB (by decide +kernel) h s H C cl fp
abbrev N14 : List Str := ["many", "value", "tie", "one", "other"]
abbrev C14 (X : Cx) : Prop := Cn X N14 (defScope st14) [0, 1] [0, 1] ["is_row", "is_rising"] ["all"] 3
theorem ck14 : cnC N14 (defScope st14) (defScope st14) [0, 1] [0, 1] ["is_row", "is_rising"] ["all"] = true := by decide +kernel
theorem sk14 : C8.scC N14 ["many", "value"] (defScope st14) = true := by decide +kernel
abbrev F14 (X : Cx) (nb : Nat) (S : FS) : Prop := FnX X "are_ties" ["many", "value"] 4 nb S
abbrev ow14_0 : List (Str × Nat) := [("tie", 2)]
theorem kb14_0 {X : Cx} (c : C14 X) (hB : BN X) {scope : Scope} (s : Shared) (H : Hp) (C : Addr) (cl : List (Str × Addr)) (fp : List Addr) (h : cnC N14 scope (relS scope (defScope st14)) [2] [2] ["is_row"] [] = true := by decide +kernel) : Cn (BX X scope s H C cl fp) N14 (relS scope (defScope st14)) [2] [2] ["is_row"] [] 3 := c.blkB BLs hB (by decide +kernel) h s H C cl fp
abbrev ow14_1 : List (Str × Nat) := [("one", 3), ("other", 4)]
theorem kb14_1 {X : Cx} (c : C14 X) (hB : BN X) {scope : Scope} (s : Shared) (H : Hp) (C : Addr) (cl : List (Str × Addr)) (fp : List Addr) (h : cnC N14 scope (relS scope (defScope st14)) [0, 3, 4] [3, 4] ["is_below"] [] = true := by decide +kernel) : Cn (BX X scope s H C cl fp) N14 (relS scope (defScope st14)) [0, 3, 4] [3, 4] ["is_below"] [] 3 := c.blkB BLs hB (by decide +kernel) h s H C cl fp
abbrev N15 : List Str := ["value"]
abbrev C15 (X : Cx) : Prop := Cn X N15 (defScope st15) [0] [0] ["is_row", "TREE", "is_integer", "MOST_PLACES", "are_ties", "do_hang"] ["isinstance", "str"] 4
theorem ck15 : cnC N15 (defScope st15) (defScope st15) [0] [0] ["is_row", "TREE", "is_integer", "MOST_PLACES", "are_ties", "do_hang"] ["isinstance", "str"] = true := by decide +kernel
theorem sk15 : C8.scC N15 ["value"] (defScope st15) = true := by decide +kernel
abbrev F15 (X : Cx) (nb : Nat) (S : FS) : Prop := FnX X "is_tree_of" ["value"] 5 nb S
abbrev N16 : List Str := ["tree", "value"]
abbrev C16 (X : Cx) : Prop := Cn X N16 (defScope st16) [0, 1] [0, 1] ["is_below"] [] 3
theorem ck16 : cnC N16 (defScope st16) (defScope st16) [0, 1] [0, 1] ["is_below"] [] = true := by decide +kernel
theorem sk16 : C8.scC N16 ["tree", "value"] (defScope st16) = true := by decide +kernel
abbrev F16 (X : Cx) (nb : Nat) (S : FS) : Prop := FnX X "is_place_of" ["tree", "value"] 4 nb S
abbrev N17 : List Str := ["tree", "value", "place"]
abbrev C17 (X : Cx) : Prop := Cn X N17 (defScope st17) [0, 1] [0, 1] ["is_rising"] ["isinstance", "tuple", "all"] 4
theorem ck17 : cnC N17 (defScope st17) (defScope st17) [0, 1] [0, 1] ["is_rising"] ["isinstance", "tuple", "all"] = true := by decide +kernel
theorem sk17 : C8.scC N17 ["tree", "value"] (defScope st17) = true := by decide +kernel
abbrev F17 (X : Cx) (nb : Nat) (S : FS) : Prop := FnX X "are_places_of" ["tree", "value"] 5 nb S
abbrev ow17_0 : List (Str × Nat) := [("place", 2)]
theorem kb17_0 {X : Cx} (c : C17 X) (hB : BN X) {scope : Scope} (s : Shared) (H : Hp) (C : Addr) (cl : List (Str × Addr)) (fp : List Addr) (h : cnC N17 scope (relS scope (defScope st17)) [0, 2] [2] ["is_place_of"] [] = true := by decide +kernel) : Cn (BX X scope s H C cl fp) N17 (relS scope (defScope st17)) [0, 2] [2] ["is_place_of"] [] 4 := c.blkB BLs hB (by decide +kernel) h s H C cl fp
abbrev N18 : List Str := ["tree"]
abbrev C18 (X : Cx) : Prop := Cn X N18 (defScope st18) [0] [0] [] [] 0
theorem ck18 : cnC N18 (defScope st18) (defScope st18) [0] [0] [] [] = true := by decide +kernel
theorem sk18 : C8.scC N18 ["tree"] (defScope st18) = true := by decide +kernel
abbrev F18 (X : Cx) (nb : Nat) (S : FS) : Prop := FnX X "many_of" ["tree"] 1 nb S
abbrev N19 : List Str := ["tree"]
abbrev C19 (X : Cx) : Prop := Cn X N19 (defScope st19) [0] [0] [] [] 0
theorem ck19 : cnC N19 (defScope st19) (defScope st19) [0] [0] [] [] = true := by decide +kernel
theorem sk19 : C8.scC N19 ["tree"] (defScope st19) = true := by decide +kernel
abbrev F19 (X : Cx) (nb : Nat) (S : FS) : Prop := FnX X "ties_of" ["tree"] 1 nb S
abbrev N20 : List Str := ["tree"]
abbrev C20 (X : Cx) : Prop := Cn X N20 (defScope st20) [0] [0] ["near_by"] [] 1
theorem ck20 : cnC N20 (defScope st20) (defScope st20) [0] [0] ["near_by"] [] = true := by decide +kernel
theorem sk20 : C8.scC N20 ["tree"] (defScope st20) = true := by decide +kernel
abbrev F20 (X : Cx) (nb : Nat) (S : FS) : Prop := FnX X "near_of" ["tree"] 2 nb S
abbrev N21 : List Str := ["value"]
abbrev C21 (X : Cx) : Prop := Cn X N21 (defScope st21) [0] [0] ["is_tree_of", "InvalidTree"] [] 5
theorem ck21 : cnC N21 (defScope st21) (defScope st21) [0] [0] ["is_tree_of", "InvalidTree"] [] = true := by decide +kernel
theorem sk21 : C8.scC N21 ["value"] (defScope st21) = true := by decide +kernel
abbrev F21 (X : Cx) (nb : Nat) (S : FS) : Prop := FnX X "want_tree" ["value"] 6 nb S
abbrev N25 : List Str := ["value", "one"]
abbrev C25 (X : Cx) : Prop := Cn X N25 (defScope st25) [0] [0] ["is_row"] ["all"] 3
theorem ck25 : cnC N25 (defScope st25) (defScope st25) [0] [0] ["is_row"] ["all"] = true := by decide +kernel
theorem sk25 : C8.scC N25 ["value"] (defScope st25) = true := by decide +kernel
abbrev F25 (X : Cx) (nb : Nat) (S : FS) : Prop := FnX X "is_stretch" ["value"] 4 nb S
abbrev ow25_0 : List (Str × Nat) := [("one", 1)]
theorem kb25_0 {X : Cx} (c : C25 X) (hB : BN X) {scope : Scope} (s : Shared) (H : Hp) (C : Addr) (cl : List (Str × Addr)) (fp : List Addr) (h : cnC N25 scope (relS scope (defScope st25)) [1] [1] ["is_below", "MOST_NUMBER"] [] = true := by decide +kernel) : Cn (BX X scope s H C cl fp) N25 (relS scope (defScope st25)) [1] [1] ["is_below", "MOST_NUMBER"] [] 3 := c.blkB BLs hB (by decide +kernel) h s H C cl fp
abbrev N26 : List Str := ["value", "one"]
abbrev C26 (X : Cx) : Prop := Cn X N26 (defScope st26) [0] [0] ["MOST_LAID"] ["isinstance", "tuple", "len", "all"] 4
theorem ck26 : cnC N26 (defScope st26) (defScope st26) [0] [0] ["MOST_LAID"] ["isinstance", "tuple", "len", "all"] = true := by decide +kernel
theorem sk26 : C8.scC N26 ["value"] (defScope st26) = true := by decide +kernel
abbrev F26 (X : Cx) (nb : Nat) (S : FS) : Prop := FnX X "is_lay_of" ["value"] 5 nb S
abbrev ow26_0 : List (Str × Nat) := [("one", 1)]
theorem kb26_0 {X : Cx} (c : C26 X) (hB : BN X) {scope : Scope} (s : Shared) (H : Hp) (C : Addr) (cl : List (Str × Addr)) (fp : List Addr) (h : cnC N26 scope (relS scope (defScope st26)) [1] [1] ["is_stretch"] [] = true := by decide +kernel) : Cn (BX X scope s H C cl fp) N26 (relS scope (defScope st26)) [1] [1] ["is_stretch"] [] 4 := c.blkB BLs hB (by decide +kernel) h s H C cl fp
abbrev N27 : List Str := ["one", "other"]
abbrev C27 (X : Cx) : Prop := Cn X N27 (defScope st27) [0, 1] [0, 1] [] [] 0
theorem ck27 : cnC N27 (defScope st27) (defScope st27) [0, 1] [0, 1] [] [] = true := by decide +kernel
theorem sk27 : C8.scC N27 ["one", "other"] (defScope st27) = true := by decide +kernel
abbrev F27 (X : Cx) (nb : Nat) (S : FS) : Prop := FnX X "do_meet" ["one", "other"] 1 nb S
abbrev N28 : List Str := ["lay", "found", "at", "one", "to"]
abbrev C28 (X : Cx) : Prop := Cn X N28 (defScope st28) [0, 1, 2, 3] [0, 1, 2, 3] [] ["enumerate", "range", "len"] 1
theorem ck28 : cnC N28 (defScope st28) (defScope st28) [0, 1, 2, 3] [0, 1, 2, 3] [] ["enumerate", "range", "len"] = true := by decide +kernel
theorem sk28 : C8.scC N28 ["lay"] (defScope st28) = true := by decide +kernel
abbrev F28 (X : Cx) (nb : Nat) (S : FS) : Prop := FnX X "meetings_of" ["lay"] 2 nb S
abbrev ow28_0 : List (Str × Nat) := [("to", 4)]
theorem kb28_0 {X : Cx} (c : C28 X) (hB : BN X) {scope : Scope} (s : Shared) (H : Hp) (C : Addr) (cl : List (Str × Addr)) (fp : List Addr) (h : cnC N28 scope (relS scope (defScope st28)) [0, 2, 3, 4] [4] ["do_meet"] [] = true := by decide +kernel) : Cn (BX X scope s H C cl fp) N28 (relS scope (defScope st28)) [0, 2, 3, 4] [4] ["do_meet"] [] 1 := c.blkB BLs hB (by decide +kernel) h s H C cl fp
abbrev N29 : List Str := ["tree", "value"]
abbrev C29 (X : Cx) : Prop := Cn X N29 (defScope st29) [0, 1] [0, 1] ["is_lay_of", "many_of", "meetings_of", "ties_of"] ["len", "list"] 5
theorem ck29 : cnC N29 (defScope st29) (defScope st29) [0, 1] [0, 1] ["is_lay_of", "many_of", "meetings_of", "ties_of"] ["len", "list"] = true := by decide +kernel
theorem sk29 : C8.scC N29 ["tree", "value"] (defScope st29) = true := by decide +kernel
abbrev F29 (X : Cx) (nb : Nat) (S : FS) : Prop := FnX X "are_stretches_of" ["tree", "value"] 6 nb S
abbrev N33 : List Str := ["tree", "value", "begin", "end"]
abbrev C33 (X : Cx) : Prop := Cn X N33 (defScope st33) [0, 1] [0, 1] ["are_stretches_of"] ["len", "set"] 6
theorem ck33 : cnC N33 (defScope st33) (defScope st33) [0, 1] [0, 1] ["are_stretches_of"] ["len", "set"] = true := by decide +kernel
theorem sk33 : C8.scC N33 ["tree", "value"] (defScope st33) = true := by decide +kernel
abbrev F33 (X : Cx) (nb : Nat) (S : FS) : Prop := FnX X "are_even_of" ["tree", "value"] 7 nb S
abbrev ow33_0 : List (Str × Nat) := [("begin", 2), ("end", 3)]
theorem kb33_0 {X : Cx} (c : C33 X) (hB : BN X) {scope : Scope} (s : Shared) (H : Hp) (C : Addr) (cl : List (Str × Addr)) (fp : List Addr) (h : cnC N33 scope (relS scope (defScope st33)) [2, 3] [2, 3] [] [] = true := by decide +kernel) : Cn (BX X scope s H C cl fp) N33 (relS scope (defScope st33)) [2, 3] [2, 3] [] [] 6 := c.blkB BLs hB (by decide +kernel) h s H C cl fp
abbrev N34 : List Str := ["tree", "near", "way", "place"]
abbrev C34 (X : Cx) : Prop := Cn X N34 (defScope st34) [0, 1, 2] [0, 1, 2] ["near_of", "many_of"] ["min", "range", "len", "tuple"] 2
theorem ck34 : cnC N34 (defScope st34) (defScope st34) [0, 1, 2] [0, 1, 2] ["near_of", "many_of"] ["min", "range", "len", "tuple"] = true := by decide +kernel
theorem sk34 : C8.scC N34 ["tree"] (defScope st34) = true := by decide +kernel
abbrev F34 (X : Cx) (nb : Nat) (S : FS) : Prop := FnX X "path_from_end" ["tree"] 3 nb S
abbrev ow34_0 : List (Str × Nat) := [("place", 3)]
theorem kb34_0 {X : Cx} (c : C34 X) (hB : BN X) {scope : Scope} (s : Shared) (H : Hp) (C : Addr) (cl : List (Str × Addr)) (fp : List Addr) (h : cnC N34 scope (relS scope (defScope st34)) [1, 3] [3] [] ["len"] = true := by decide +kernel) : Cn (BX X scope s H C cl fp) N34 (relS scope (defScope st34)) [1, 3] [3] [] ["len"] 2 := c.blkB BLs hB (by decide +kernel) h s H C cl fp
abbrev ow34_1 : List (Str × Nat) := [("place", 3)]
theorem kb34_1 {X : Cx} (c : C34 X) (hB : BN X) {scope : Scope} (s : Shared) (H : Hp) (C : Addr) (cl : List (Str × Addr)) (fp : List Addr) (h : cnC N34 scope (relS scope (defScope st34)) [2, 3] [3] [] [] = true := by decide +kernel) : Cn (BX X scope s H C cl fp) N34 (relS scope (defScope st34)) [2, 3] [3] [] [] 2 := c.blkB BLs hB (by decide +kernel) h s H C cl fp
abbrev N35 : List Str := ["tree", "way", "place"]
abbrev C35 (X : Cx) : Prop := Cn X N35 (defScope st35) [0, 1] [0, 1] ["path_from_end", "many_of"] ["tuple", "range"] 3
theorem ck35 : cnC N35 (defScope st35) (defScope st35) [0, 1] [0, 1] ["path_from_end", "many_of"] ["tuple", "range"] = true := by decide +kernel
theorem sk35 : C8.scC N35 ["tree"] (defScope st35) = true := by decide +kernel
abbrev F35 (X : Cx) (nb : Nat) (S : FS) : Prop := FnX X "told_even" ["tree"] 4 nb S
abbrev ow35_0 : List (Str × Nat) := [("place", 2)]
theorem kb35_0 {X : Cx} (c : C35 X) (hB : BN X) {scope : Scope} (s : Shared) (H : Hp) (C : Addr) (cl : List (Str × Addr)) (fp : List Addr) (h : cnC N35 scope (relS scope (defScope st35)) [1, 2] [2] [] [] = true := by decide +kernel) : Cn (BX X scope s H C cl fp) N35 (relS scope (defScope st35)) [1, 2] [2] [] [] 3 := c.blkB BLs hB (by decide +kernel) h s H C cl fp
abbrev N36 : List Str := ["tree", "value", "near", "place"]
abbrev C36 (X : Cx) : Prop := Cn X N36 (defScope st36) [0, 1, 2] [0, 1, 2] ["is_row", "is_place_of", "are_places_of", "near_of"] ["len", "all"] 5
theorem ck36 : cnC N36 (defScope st36) (defScope st36) [0, 1, 2] [0, 1, 2] ["is_row", "is_place_of", "are_places_of", "near_of"] ["len", "all"] = true := by decide +kernel
theorem sk36 : C8.scC N36 ["tree", "value"] (defScope st36) = true := by decide +kernel
abbrev F36 (X : Cx) (nb : Nat) (S : FS) : Prop := FnX X "is_claw_of" ["tree", "value"] 6 nb S
abbrev ow36_0 : List (Str × Nat) := [("place", 3)]
theorem kb36_0 {X : Cx} (c : C36 X) (hB : BN X) {scope : Scope} (s : Shared) (H : Hp) (C : Addr) (cl : List (Str × Addr)) (fp : List Addr) (h : cnC N36 scope (relS scope (defScope st36)) [2, 3] [3] [] [] = true := by decide +kernel) : Cn (BX X scope s H C cl fp) N36 (relS scope (defScope st36)) [2, 3] [3] [] [] 5 := c.blkB BLs hB (by decide +kernel) h s H C cl fp
abbrev N37 : List Str := ["some", "found", "at", "one", "to", "third"]
abbrev C37 (X : Cx) : Prop := Cn X N37 (defScope st37) [0, 1, 2, 3, 4] [0, 1, 2, 3, 4] [] ["enumerate", "range", "len"] 0
theorem ck37 : cnC N37 (defScope st37) (defScope st37) [0, 1, 2, 3, 4] [0, 1, 2, 3, 4] [] ["enumerate", "range", "len"] = true := by decide +kernel
theorem sk37 : C8.scC N37 ["some"] (defScope st37) = true := by decide +kernel
abbrev F37 (X : Cx) (nb : Nat) (S : FS) : Prop := FnX X "threes_of" ["some"] 1 nb S
abbrev ow37_0 : List (Str × Nat) := [("third", 5)]
theorem kb37_0 {X : Cx} (c : C37 X) (hB : BN X) {scope : Scope} (s : Shared) (H : Hp) (C : Addr) (cl : List (Str × Addr)) (fp : List Addr) (h : cnC N37 scope (relS scope (defScope st37)) [0, 3, 4, 5] [5] [] [] = true := by decide +kernel) : Cn (BX X scope s H C cl fp) N37 (relS scope (defScope st37)) [0, 3, 4, 5] [5] [] [] 0 := c.blkB BLs hB (by decide +kernel) h s H C cl fp
abbrev N38 : List Str := ["tree", "found", "place", "near", "three"]
abbrev C38 (X : Cx) : Prop := Cn X N38 (defScope st38) [0, 1, 2, 3] [0, 1, 2, 3] ["near_of", "threes_of"] ["enumerate"] 2
theorem ck38 : cnC N38 (defScope st38) (defScope st38) [0, 1, 2, 3] [0, 1, 2, 3] ["near_of", "threes_of"] ["enumerate"] = true := by decide +kernel
theorem sk38 : C8.scC N38 ["tree"] (defScope st38) = true := by decide +kernel
abbrev F38 (X : Cx) (nb : Nat) (S : FS) : Prop := FnX X "claws_of" ["tree"] 3 nb S
abbrev ow38_0 : List (Str × Nat) := [("three", 4)]
theorem kb38_0 {X : Cx} (c : C38 X) (hB : BN X) {scope : Scope} (s : Shared) (H : Hp) (C : Addr) (cl : List (Str × Addr)) (fp : List Addr) (h : cnC N38 scope (relS scope (defScope st38)) [2, 4] [4] [] [] = true := by decide +kernel) : Cn (BX X scope s H C cl fp) N38 (relS scope (defScope st38)) [2, 4] [4] [] [] 2 := c.blkB BLs hB (by decide +kernel) h s H C cl fp
abbrev N39 : List Str := ["tree", "place", "near"]
abbrev C39 (X : Cx) : Prop := Cn X N39 (defScope st39) [0, 1, 2] [0, 1, 2] ["near_of"] ["enumerate", "len", "tuple"] 2
theorem ck39 : cnC N39 (defScope st39) (defScope st39) [0, 1, 2] [0, 1, 2] ["near_of"] ["enumerate", "len", "tuple"] = true := by decide +kernel
theorem sk39 : C8.scC N39 ["tree"] (defScope st39) = true := by decide +kernel
abbrev F39 (X : Cx) (nb : Nat) (S : FS) : Prop := FnX X "first_claw" ["tree"] 3 nb S
abbrev N40 : List Str := ["tree", "claw"]
abbrev C40 (X : Cx) : Prop := Cn X N40 (defScope st40) [0, 1] [0, 1] ["first_claw", "EVEN", "told_even", "CLAW"] [] 4
theorem ck40 : cnC N40 (defScope st40) (defScope st40) [0, 1] [0, 1] ["first_claw", "EVEN", "told_even", "CLAW"] [] = true := by decide +kernel
theorem sk40 : C8.scC N40 ["tree"] (defScope st40) = true := by decide +kernel
abbrev F40 (X : Cx) (nb : Nat) (S : FS) : Prop := FnX X "paper_of" ["tree"] 5 nb S
abbrev N41 : List Str := ["tree", "value"]
abbrev C41 (X : Cx) : Prop := Cn X N41 (defScope st41) [0, 1] [0, 1] ["is_row", "EVEN", "are_even_of", "CLAW", "is_claw_of"] ["isinstance", "str"] 7
theorem ck41 : cnC N41 (defScope st41) (defScope st41) [0, 1] [0, 1] ["is_row", "EVEN", "are_even_of", "CLAW", "is_claw_of"] ["isinstance", "str"] = true := by decide +kernel
theorem sk41 : C8.scC N41 ["tree", "value"] (defScope st41) = true := by decide +kernel
abbrev F41 (X : Cx) (nb : Nat) (S : FS) : Prop := FnX X "is_paper_of" ["tree", "value"] 8 nb S
abbrev N42 : List Str := ["tree", "value"]
abbrev C42 (X : Cx) : Prop := Cn X N42 (defScope st42) [0, 1] [0, 1] ["are_even_of", "want_tree"] [] 7
theorem ck42 : cnC N42 (defScope st42) (defScope st42) [0, 1] [0, 1] ["are_even_of", "want_tree"] [] = true := by decide +kernel
theorem sk42 : C8.scC N42 ["tree", "value"] (defScope st42) = true := by decide +kernel
abbrev F42 (X : Cx) (nb : Nat) (S : FS) : Prop := FnX X "are_even" ["tree", "value"] 8 nb S
abbrev N43 : List Str := ["tree"]
abbrev C43 (X : Cx) : Prop := Cn X N43 (defScope st43) [0] [0] ["claws_of", "want_tree"] [] 6
theorem ck43 : cnC N43 (defScope st43) (defScope st43) [0] [0] ["claws_of", "want_tree"] [] = true := by decide +kernel
theorem sk43 : C8.scC N43 ["tree"] (defScope st43) = true := by decide +kernel
abbrev F43 (X : Cx) (nb : Nat) (S : FS) : Prop := FnX X "claws" ["tree"] 7 nb S
abbrev N44 : List Str := ["tree"]
abbrev C44 (X : Cx) : Prop := Cn X N44 (defScope st44) [0] [0] ["paper_of", "want_tree"] [] 6
theorem ck44 : cnC N44 (defScope st44) (defScope st44) [0] [0] ["paper_of", "want_tree"] [] = true := by decide +kernel
theorem sk44 : C8.scC N44 ["tree"] (defScope st44) = true := by decide +kernel
abbrev F44 (X : Cx) (nb : Nat) (S : FS) : Prop := FnX X "even_paper" ["tree"] 7 nb S
abbrev N45 : List Str := ["tree", "value"]
abbrev C45 (X : Cx) : Prop := Cn X N45 (defScope st45) [0, 1] [0, 1] ["is_paper_of", "want_tree"] [] 8
theorem ck45 : cnC N45 (defScope st45) (defScope st45) [0, 1] [0, 1] ["is_paper_of", "want_tree"] [] = true := by decide +kernel
theorem sk45 : C8.scC N45 ["tree", "value"] (defScope st45) = true := by decide +kernel
abbrev F45 (X : Cx) (nb : Nat) (S : FS) : Prop := FnX X "is_even_paper" ["tree", "value"] 9 nb S
abbrev N47 : List Str := ["script", "k", "cell"]
abbrev C47 (X : Cx) : Prop := Cn X N47 (defScope st47) [0, 1, 2] [0, 1, 2] [] ["len", "abs", "max", "int"] 0
theorem ck47 : cnC N47 (defScope st47) (defScope st47) [0, 1, 2] [0, 1, 2] [] ["len", "abs", "max", "int"] = true := by decide +kernel
theorem sk47 : C8.scC N47 ["script", "k"] (defScope st47) = true := by decide +kernel
abbrev F47 (X : Cx) (nb : Nat) (S : FS) : Prop := FnX X "_law_pot" ["script", "k"] 1 nb S
abbrev N48 : List Str := ["pot", "many", "digit"]
abbrev C48 (X : Cx) : Prop := Cn X N48 (defScope st48) [0, 1, 2] [0, 1, 2] [] ["divmod", "int"] 0
theorem ck48 : cnC N48 (defScope st48) (defScope st48) [0, 1, 2] [0, 1, 2] [] ["divmod", "int"] = true := by decide +kernel
theorem sk48 : C8.scC N48 ["pot", "many"] (defScope st48) = true := by decide +kernel
abbrev F48 (X : Cx) (nb : Nat) (S : FS) : Prop := FnX X "_law_draw" ["pot", "many"] 1 nb S
abbrev N49 : List Str := ["pot", "some", "left", "found"]
abbrev C49 (X : Cx) : Prop := Cn X N49 (defScope st49) [0, 1, 2, 3] [0, 1, 2, 3] ["_law_draw"] ["list", "len"] 1
theorem ck49 : cnC N49 (defScope st49) (defScope st49) [0, 1, 2, 3] [0, 1, 2, 3] ["_law_draw"] ["list", "len"] = true := by decide +kernel
theorem sk49 : C8.scC N49 ["pot", "some"] (defScope st49) = true := by decide +kernel
abbrev F49 (X : Cx) (nb : Nat) (S : FS) : Prop := FnX X "_law_shuffled" ["pot", "some"] 2 nb S
abbrev N50 : List Str := ["pot", "many", "ties", "names", "one", "other"]
abbrev C50 (X : Cx) : Prop := Cn X N50 (defScope st50) [0, 1, 2, 3] [0, 1, 2, 3] ["_law_shuffled"] ["list", "range", "tuple", "sorted"] 2
theorem ck50 : cnC N50 (defScope st50) (defScope st50) [0, 1, 2, 3] [0, 1, 2, 3] ["_law_shuffled"] ["list", "range", "tuple", "sorted"] = true := by decide +kernel
theorem sk50 : C8.scC N50 ["pot", "many", "ties"] (defScope st50) = true := by decide +kernel
abbrev F50 (X : Cx) (nb : Nat) (S : FS) : Prop := FnX X "_law_tree_by" ["pot", "many", "ties"] 3 nb S
abbrev ow50_0 : List (Str × Nat) := [("one", 4), ("other", 5)]
theorem kb50_0 {X : Cx} (c : C50 X) (hB : BN X) {scope : Scope} (s : Shared) (H : Hp) (C : Addr) (cl : List (Str × Addr)) (fp : List Addr) (h : cnC N50 scope (relS scope (defScope st50)) [3, 4, 5] [4, 5] [] ["tuple", "sorted"] = true := by decide +kernel) : Cn (BX X scope s H C cl fp) N50 (relS scope (defScope st50)) [3, 4, 5] [4, 5] [] ["tuple", "sorted"] 2 := c.blkB BLs hB (by decide +kernel) h s H C cl fp
abbrev N51 : List Str := ["pot", "most", "many", "place"]
abbrev C51 (X : Cx) : Prop := Cn X N51 (defScope st51) [0, 1, 2] [0, 1, 2] ["_law_draw", "_law_tree_by"] ["range"] 3
theorem ck51 : cnC N51 (defScope st51) (defScope st51) [0, 1, 2] [0, 1, 2] ["_law_draw", "_law_tree_by"] ["range"] = true := by decide +kernel
theorem sk51 : C8.scC N51 ["pot", "most"] (defScope st51) = true := by decide +kernel
abbrev F51 (X : Cx) (nb : Nat) (S : FS) : Prop := FnX X "_law_any_tree" ["pot", "most"] 4 nb S
abbrev ow51_0 : List (Str × Nat) := [("place", 3)]
theorem kb51_0 {X : Cx} (c : C51 X) (hB : BN X) {scope : Scope} (s : Shared) (H : Hp) (C : Addr) (cl : List (Str × Addr)) (fp : List Addr) (h : cnC N51 scope (relS scope (defScope st51)) [0, 3] [3] ["_law_draw"] [] = true := by decide +kernel) : Cn (BX X scope s H C cl fp) N51 (relS scope (defScope st51)) [0, 3] [3] ["_law_draw"] [] 3 := c.blkB BLs hB (by decide +kernel) h s H C cl fp
abbrev N52 : List Str := ["pot", "most", "many", "spine", "ties", "place"]
abbrev C52 (X : Cx) : Prop := Cn X N52 (defScope st52) [0, 1, 2, 3, 4] [0, 1, 2, 3, 4] ["_law_draw", "_law_tree_by"] ["range"] 3
theorem ck52 : cnC N52 (defScope st52) (defScope st52) [0, 1, 2, 3, 4] [0, 1, 2, 3, 4] ["_law_draw", "_law_tree_by"] ["range"] = true := by decide +kernel
theorem sk52 : C8.scC N52 ["pot", "most"] (defScope st52) = true := by decide +kernel
abbrev F52 (X : Cx) (nb : Nat) (S : FS) : Prop := FnX X "_law_caterpillar" ["pot", "most"] 4 nb S
abbrev ow52_0 : List (Str × Nat) := [("place", 5)]
theorem kb52_0 {X : Cx} (c : C52 X) (hB : BN X) {scope : Scope} (s : Shared) (H : Hp) (C : Addr) (cl : List (Str × Addr)) (fp : List Addr) (h : cnC N52 scope (relS scope (defScope st52)) [5] [5] [] [] = true := by decide +kernel) : Cn (BX X scope s H C cl fp) N52 (relS scope (defScope st52)) [5] [5] [] [] 3 := c.blkB BLs hB (by decide +kernel) h s H C cl fp
abbrev ow52_1 : List (Str × Nat) := [("place", 5)]
theorem kb52_1 {X : Cx} (c : C52 X) (hB : BN X) {scope : Scope} (s : Shared) (H : Hp) (C : Addr) (cl : List (Str × Addr)) (fp : List Addr) (h : cnC N52 scope (relS scope (defScope st52)) [0, 3, 5] [5] ["_law_draw"] [] = true := by decide +kernel) : Cn (BX X scope s H C cl fp) N52 (relS scope (defScope st52)) [0, 3, 5] [5] ["_law_draw"] [] 3 := c.blkB BLs hB (by decide +kernel) h s H C cl fp
abbrev N53 : List Str := ["pot", "most"]
abbrev C53 (X : Cx) : Prop := Cn X N53 (defScope st53) [0, 1] [0, 1] ["_law_draw", "_law_caterpillar", "_law_any_tree"] [] 4
theorem ck53 : cnC N53 (defScope st53) (defScope st53) [0, 1] [0, 1] ["_law_draw", "_law_caterpillar", "_law_any_tree"] [] = true := by decide +kernel
theorem sk53 : C8.scC N53 ["pot", "most"] (defScope st53) = true := by decide +kernel
abbrev F53 (X : Cx) (nb : Nat) (S : FS) : Prop := FnX X "_law_tree" ["pot", "most"] 5 nb S
abbrev N54 : List Str := ["tree", "found", "one", "other", "place", "some"]
abbrev C54 (X : Cx) : Prop := Cn X N54 (defScope st54) [0, 1, 2, 3] [0, 1, 2, 3] [] ["range"] 0
theorem ck54 : cnC N54 (defScope st54) (defScope st54) [0, 1, 2, 3] [0, 1, 2, 3] [] ["range"] = true := by decide +kernel
theorem sk54 : C8.scC N54 ["tree"] (defScope st54) = true := by decide +kernel
abbrev F54 (X : Cx) (nb : Nat) (S : FS) : Prop := FnX X "_law_near" ["tree"] 1 nb S
abbrev ow54_0 : List (Str × Nat) := [("place", 4)]
theorem kb54_0 {X : Cx} (c : C54 X) (hB : BN X) {scope : Scope} (s : Shared) (H : Hp) (C : Addr) (cl : List (Str × Addr)) (fp : List Addr) (h : cnC N54 scope (relS scope (defScope st54)) [4] [4] [] [] = true := by decide +kernel) : Cn (BX X scope s H C cl fp) N54 (relS scope (defScope st54)) [4] [4] [] [] 0 := c.blkB BLs hB (by decide +kernel) h s H C cl fp
abbrev ow54_1 : List (Str × Nat) := [("some", 5)]
theorem kb54_1 {X : Cx} (c : C54 X) (hB : BN X) {scope : Scope} (s : Shared) (H : Hp) (C : Addr) (cl : List (Str × Addr)) (fp : List Addr) (h : cnC N54 scope (relS scope (defScope st54)) [5] [5] [] ["sorted"] = true := by decide +kernel) : Cn (BX X scope s H C cl fp) N54 (relS scope (defScope st54)) [5] [5] [] ["sorted"] 0 := c.blkB BLs hB (by decide +kernel) h s H C cl fp
abbrev N55 : List Str := ["one", "other"]
abbrev C55 (X : Cx) : Prop := Cn X N55 (defScope st55) [0, 1] [0, 1] [] ["max", "min"] 0
theorem ck55 : cnC N55 (defScope st55) (defScope st55) [0, 1] [0, 1] [] ["max", "min"] = true := by decide +kernel
theorem sk55 : C8.scC N55 ["one", "other"] (defScope st55) = true := by decide +kernel
abbrev F55 (X : Cx) (nb : Nat) (S : FS) : Prop := FnX X "_law_do_meet" ["one", "other"] 1 nb S
abbrev N56 : List Str := ["lay", "found", "at", "other"]
abbrev C56 (X : Cx) : Prop := Cn X N56 (defScope st56) [0, 1, 2] [0, 1, 2] [] ["range", "len"] 1
theorem ck56 : cnC N56 (defScope st56) (defScope st56) [0, 1, 2] [0, 1, 2] [] ["range", "len"] = true := by decide +kernel
theorem sk56 : C8.scC N56 ["lay"] (defScope st56) = true := by decide +kernel
abbrev F56 (X : Cx) (nb : Nat) (S : FS) : Prop := FnX X "_law_meetings" ["lay"] 2 nb S
abbrev ow56_0 : List (Str × Nat) := [("other", 3)]
theorem kb56_0 {X : Cx} (c : C56 X) (hB : BN X) {scope : Scope} (s : Shared) (H : Hp) (C : Addr) (cl : List (Str × Addr)) (fp : List Addr) (h : cnC N56 scope (relS scope (defScope st56)) [0, 2, 3] [3] ["_law_do_meet"] [] = true := by decide +kernel) : Cn (BX X scope s H C cl fp) N56 (relS scope (defScope st56)) [0, 2, 3] [3] ["_law_do_meet"] [] 1 := c.blkB BLs hB (by decide +kernel) h s H C cl fp
abbrev N57 : List Str := ["tree", "lay"]
abbrev C57 (X : Cx) : Prop := Cn X N57 (defScope st57) [0, 1] [0, 1] ["_law_meetings"] ["len", "list"] 2
theorem ck57 : cnC N57 (defScope st57) (defScope st57) [0, 1] [0, 1] ["_law_meetings"] ["len", "list"] = true := by decide +kernel
theorem sk57 : C8.scC N57 ["tree", "lay"] (defScope st57) = true := by decide +kernel
abbrev F57 (X : Cx) (nb : Nat) (S : FS) : Prop := FnX X "_law_are_stretches" ["tree", "lay"] 3 nb S
abbrev N58 : List Str := ["tree", "near", "found", "place", "at", "one", "to", "third"]
abbrev C58 (X : Cx) : Prop := Cn X N58 (defScope st58) [0, 1, 2, 3, 4, 5, 6] [0, 1, 2, 3, 4, 5, 6] ["_law_near"] ["range", "enumerate", "len"] 1
theorem ck58 : cnC N58 (defScope st58) (defScope st58) [0, 1, 2, 3, 4, 5, 6] [0, 1, 2, 3, 4, 5, 6] ["_law_near"] ["range", "enumerate", "len"] = true := by decide +kernel
theorem sk58 : C8.scC N58 ["tree"] (defScope st58) = true := by decide +kernel
abbrev F58 (X : Cx) (nb : Nat) (S : FS) : Prop := FnX X "_law_claws" ["tree"] 2 nb S
abbrev ow58_0 : List (Str × Nat) := [("third", 7)]
theorem kb58_0 {X : Cx} (c : C58 X) (hB : BN X) {scope : Scope} (s : Shared) (H : Hp) (C : Addr) (cl : List (Str × Addr)) (fp : List Addr) (h : cnC N58 scope (relS scope (defScope st58)) [1, 3, 5, 6, 7] [7] [] [] = true := by decide +kernel) : Cn (BX X scope s H C cl fp) N58 (relS scope (defScope st58)) [1, 3, 5, 6, 7] [7] [] [] 1 := c.blkB BLs hB (by decide +kernel) h s H C cl fp
abbrev N59 : List Str := ["pot", "many", "path", "tree", "due", "paper", "place", "begin", "end", "claw"]
abbrev C59 (X : Cx) : Prop := Cn X N59 (defScope st59) [0, 1, 2, 3, 4, 5] [0, 1, 2, 3, 4, 5] ["_law_draw", "_law_tree_by", "_law_tree", "_law_claws", "claws", "even_paper", "is_even_paper", "_law_are_stretches", "are_even"] ["range", "repr", "len", "set"] 9
theorem ck59 : cnC N59 (defScope st59) (defScope st59) [0, 1, 2, 3, 4, 5] [0, 1, 2, 3, 4, 5] ["_law_draw", "_law_tree_by", "_law_tree", "_law_claws", "claws", "even_paper", "is_even_paper", "_law_are_stretches", "are_even"] ["range", "repr", "len", "set"] = true := by decide +kernel
theorem sk59 : C8.scC N59 ["pot"] (defScope st59) = true := by decide +kernel
abbrev F59 (X : Cx) (nb : Nat) (S : FS) : Prop := FnX X "_law_right" ["pot"] 10 nb S
abbrev ow59_0 : List (Str × Nat) := [("place", 6)]
theorem kb59_0 {X : Cx} (c : C59 X) (hB : BN X) {scope : Scope} (s : Shared) (H : Hp) (C : Addr) (cl : List (Str × Addr)) (fp : List Addr) (h : cnC N59 scope (relS scope (defScope st59)) [6] [6] [] [] = true := by decide +kernel) : Cn (BX X scope s H C cl fp) N59 (relS scope (defScope st59)) [6] [6] [] [] 9 := c.blkB BLs hB (by decide +kernel) h s H C cl fp
abbrev ow59_1 : List (Str × Nat) := [("begin", 7), ("end", 8)]
theorem kb59_1 {X : Cx} (c : C59 X) (hB : BN X) {scope : Scope} (s : Shared) (H : Hp) (C : Addr) (cl : List (Str × Addr)) (fp : List Addr) (h : cnC N59 scope (relS scope (defScope st59)) [7, 8] [7, 8] [] [] = true := by decide +kernel) : Cn (BX X scope s H C cl fp) N59 (relS scope (defScope st59)) [7, 8] [7, 8] [] [] 9 := c.blkB BLs hB (by decide +kernel) h s H C cl fp
abbrev ow59_2 : List (Str × Nat) := [("claw", 9)]
theorem kb59_2 {X : Cx} (c : C59 X) (hB : BN X) {scope : Scope} (s : Shared) (H : Hp) (C : Addr) (cl : List (Str × Addr)) (fp : List Addr) (h : cnC N59 scope (relS scope (defScope st59)) [3, 9] [9] ["is_even_paper"] [] = true := by decide +kernel) : Cn (BX X scope s H C cl fp) N59 (relS scope (defScope st59)) [3, 9] [9] ["is_even_paper"] [] 9 := c.blkB BLs hB (by decide +kernel) h s H C cl fp
abbrev N60 : List Str := ["script", "k", "pot", "turn"]
abbrev C60 (X : Cx) : Prop := Cn X N60 (defScope st60) [0, 1, 2, 3] [0, 1, 2, 3] ["_law_pot", "_law_right"] ["range"] 10
theorem ck60 : cnC N60 (defScope st60) (defScope st60) [0, 1, 2, 3] [0, 1, 2, 3] ["_law_pot", "_law_right"] ["range"] = true := by decide +kernel
theorem sk60 : C8.scC N60 ["script"] (defScope st60) = true := by decide +kernel
abbrev F60 (X : Cx) (nb : Nat) (S : FS) : Prop := FnX X "law" ["script"] 11 nb S
end Pd
set_option Elab.async false
set_option linter.all false
set_option maxRecDepth 100000
set_option autoImplicit false
namespace Pd
open PySem PySem.Spec PyProof.Rows L2
section
variable {X : Cx} {N : List Str} {sc : Scope} {vi li : List Nat} {gs bs : List Str} {k : Nat} {G : Gx} {ρ : List Slot} {a b e tg iter elt : Expr} {ifs : List Expr} {scope : Scope} {pos p : Pos} {Ψ : Post} {x : Str} {Φ : Out → Prop}
/-- a comprehension that makes of each item what f says -/
theorem ev_lcF (c : Cn X N sc vi li gs bs k) (own : List (Str × Nat)) (f : OT → Option PyData) (P : OT → Prop) (ρ0 : List Slot) (hi : Iv X G ρ tg iter fun its ρ1 => its.length < 16777216 ∧ wipeS ρ1 (own.map (·.2)) = ρ0 ∧ (∀ x ∈ its, P x) ∧ Ψ (.ls (its.filterMap f)) (unwS ρ0 (own.map (·.2))))
    (ht : ∀ x, P x → TgB X scope G (own.map (·.2)) ρ0 tg x fun ρ2 => TsB X scope G ρ2 ifs fun b ρ3 => (b = true → EvB X scope G ρ3 elt fun o ρ4 => wipeS ρ4 (own.map (·.2)) = ρ0 ∧ ∃ d, f x = some d ∧ o = .sh d) ∧ (b = false → wipeS ρ3 (own.map (·.2)) = ρ0 ∧ f x = none))
    (hok : blkC N sc scope own = true := by decide +kernel) (hs : ∀ x, foldedSetIterable iter X.env x = pure x := by intro _; rfl) : Ev X G ρ (.ListComp elt [⟨tg, iter, ifs, 0⟩] scope pos) Ψ := by
  refine ev_lsOf (ev_lc c own (fun (rest acc : List OT) (ρ : List Slot) => ρ = ρ0 ∧ (∀ x ∈ rest, P x) ∧ ∃ ds : List PyData, acc = ds.map .sh ∧ Ψ (.ls (ds ++ rest.filterMap f)) (unwS ρ0 (own.map Prod.snd))) (iv_mono hi fun its ρ1 ⟨h1, h2, h3, h4⟩ => ⟨h1, h2, h3, [], rfl, h4⟩) ?_ ?_ hok hs)
  · rintro x rest acc ρ ⟨rfl, hP, ds, rfl, hp⟩ s H C cl fp
    refine pg_imp (ht x (hP x List.mem_cons_self) s H C cl fp) fun v σ H Q ⟨τ, y, q⟩ => ⟨τ, y, fun ρ2 h2 σ' H' e w => q ρ2 (fun s H C cl fp => ?_) σ' H' e w⟩
    have h3 := h2 s H C cl fp
    refine ⟨fun pins s' σ H' Q I ⟨τ, y, q⟩ => h3.run pins s' σ H' Q I ⟨τ, y, fun b ρ3 ⟨k1, k2⟩ H2 w => q b ρ3 ⟨fun hb s H C cl fp => ev_mono (k1 hb s H C cl fp) fun o ρ4 ⟨ew, d, ef, eo⟩ => ⟨ew, fun x h => hP x (List.mem_cons_of_mem _ h), ds ++ [d], ?_, ?_⟩, fun hb => ?_⟩ H2 w⟩⟩
    · rw [eo, List.map_append]; rfl
    · rw [List.filterMap_cons, ef] at hp
      rw [List.append_assoc]; exact hp
    · obtain ⟨ew, ef⟩ := k2 hb
      refine ⟨ew, fun x h => hP x (List.mem_cons_of_mem _ h), ds, rfl, ?_⟩
      rw [List.filterMap_cons, ef] at hp
      exact hp
  · rintro acc ρ ⟨rfl, _, ds, rfl, hp⟩
    exact ⟨ds, rfl, by simpa using hp⟩
/-- name = such a comprehension, on one line -/
theorem ex_setLcF {y : Str} {py spos : Pos} (c : Cn X N sc vi li gs bs k) (i : Nat) (own : List (Str × Nat)) (f : OT → Option PyData) (P : OT → Prop) (ρ0 : List Slot) (hi : Iv X G ρ tg iter fun its ρ1 => its.length < 16777216 ∧ wipeS ρ1 (own.map (·.2)) = ρ0 ∧ (∀ x ∈ its, P x) ∧ Nat.blt i (unwS ρ0 (own.map (·.2))).length = true ∧ Φ (.nx ((unwS ρ0 (own.map (·.2))).set i (.val (.ls (its.filterMap f))))))
    (ht : ∀ x, P x → TgB X scope G (own.map (·.2)) ρ0 tg x fun ρ2 => TsB X scope G ρ2 ifs fun b ρ3 => (b = true → EvB X scope G ρ3 elt fun o ρ4 => wipeS ρ4 (own.map (·.2)) = ρ0 ∧ ∃ d, f x = some d ∧ o = .sh d) ∧ (b = false → wipeS ρ3 (own.map (·.2)) = ρ0 ∧ f x = none))
    (hok : blkC N sc scope own = true := by decide +kernel) (hy : N[i]? = some y := by rfl) (hyl : sc.names.lookup y = some .local := by rfl) (hsw : swapsWith (.ListComp elt [⟨tg, iter, ifs, 0⟩] scope pos) (some (.Name y py)) spos.line (env0 sc) = pure true := by rfl) (hs : ∀ x, foldedSetIterable iter X.env x = pure x := by intro _; rfl) : Ex X G ρ (.Assign [.Name y py] (.ListComp elt [⟨tg, iter, ifs, 0⟩] scope pos) spos) Φ := by
  refine ex_setLc c i own (fun (rest acc : List OT) (ρ : List Slot) => ρ = ρ0 ∧ (∀ x ∈ rest, P x) ∧ ∃ ds : List PyData, acc = ds.map .sh ∧ Nat.blt i (unwS ρ0 (own.map Prod.snd)).length = true ∧ Φ (.nx ((unwS ρ0 (own.map Prod.snd)).set i (.val (.ls (ds ++ rest.filterMap f)))))) (iv_mono hi fun its ρ1 ⟨h1, h2, h3, h5, h4⟩ => ⟨h1, h2, h3, [], rfl, h5, h4⟩) ?_ ?_ hok hy hyl hsw hs
  · rintro x rest acc ρ ⟨rfl, hP, ds, rfl, hl, hp⟩ s H C cl fp
    refine pg_imp (ht x (hP x List.mem_cons_self) s H C cl fp) fun v σ H Q ⟨τ, y, q⟩ => ⟨τ, y, fun ρ2 h2 σ' H' e w => q ρ2 (fun s H C cl fp => ?_) σ' H' e w⟩
    have h3 := h2 s H C cl fp
    refine ⟨fun pins s' σ H' Q I ⟨τ, y, q⟩ => h3.run pins s' σ H' Q I ⟨τ, y, fun b ρ3 ⟨k1, k2⟩ H2 w => q b ρ3 ⟨fun hb s H C cl fp => ev_mono (k1 hb s H C cl fp) fun o ρ4 ⟨ew, d, ef, eo⟩ => ⟨ew, fun x h => hP x (List.mem_cons_of_mem _ h), ds ++ [d], ?_, hl, ?_⟩, fun hb => ?_⟩ H2 w⟩⟩
    · rw [eo, List.map_append]; rfl
    · rw [List.filterMap_cons, ef] at hp
      rw [List.append_assoc]; exact hp
    · obtain ⟨ew, ef⟩ := k2 hb
      refine ⟨ew, fun x h => hP x (List.mem_cons_of_mem _ h), ds, rfl, hl, ?_⟩
      rw [List.filterMap_cons, ef] at hp
      exact hp
  · rintro acc ρ ⟨rfl, _, ds, rfl, hl, hp⟩
    exact ⟨hl, _, .inr ⟨ds, rfl, rfl⟩, by simpa using hp⟩
end

/-! shapes -/
theorem shp_int (i : Int) : shp (.int i) := by simp [shp, SeqAt.shaped, PyData.canLay0, PyData.depth]
theorem shp_bool (i : Bool) : shp (.bool i) := by simp [shp, SeqAt.shaped, PyData.canLay0, PyData.depth]
def Nm (m : Nat) (d : PyData) : Prop := d.canLay0 = true ∧ d.depth ≤ m
theorem Nm.shp {m : Nat} {d : PyData} (h : Nm m d) (hm : m ≤ 64) : shp d := by
  have := h.2
  simp [Pd.shp, SeqAt.shaped, h.1]; omega
theorem Nm.all {m : Nat} : ∀ {ds : List PyData}, (∀ d ∈ ds, Nm m d) → PyData.canLayAll0 ds = true ∧ PyData.depthAll ds ≤ m
  | [], _ => by simp [PyData.canLayAll0, PyData.depthAll]
  | d :: ds, h => by
    obtain ⟨h1, h2⟩ := Nm.all (m := m) (ds := ds) fun d hd => h d (List.mem_cons_of_mem _ hd)
    obtain ⟨h3, h4⟩ := h d List.mem_cons_self
    simp [PyData.canLayAll0, PyData.depthAll, h1, h3]
    omega
theorem Nm.list {m : Nat} {ds : List PyData} (h : ∀ d ∈ ds, Nm m d) : Nm (m + 1) (.list ds) := by
  obtain ⟨h1, h2⟩ := Nm.all h
  simp [Nm, PyData.canLay0, PyData.depth, h1]; omega
theorem Nm.tuple {m : Nat} {ds : List PyData} (h : ∀ d ∈ ds, Nm m d) : Nm (m + 1) (.tuple ds) := by
  obtain ⟨h1, h2⟩ := Nm.all h
  simp [Nm, PyData.canLay0, PyData.depth, h1]; omega
theorem Nm.int (m : Nat) (i : Int) : Nm m (.int i) := by simp [Nm, PyData.canLay0, PyData.depth]
theorem Nm.nums (m : Nat) (ns : List Int) : ∀ d ∈ nums ns, Nm m d := by
  intro d hd
  obtain ⟨i, _, rfl⟩ := List.mem_map.mp hd
  exact .int m i
theorem Nm.pr (m : Nat) (z : Int × Int) : Nm (m + 1) (pr z) := .tuple (.nums m [z.1, z.2])
theorem Nm.prs (m : Nat) (zs : List (Int × Int)) : ∀ d ∈ prs zs, Nm (m + 1) d := by
  intro d hd
  obtain ⟨i, _, rfl⟩ := List.mem_map.mp hd
  exact .pr m i
theorem Nm.str {z : Str} (m : Nat) (h : (PyData.str z).canLay0 = true) : Nm m (.str z) := ⟨h, by simp [PyData.depth]⟩
/-! equality of data -/
theorem eqv_int (i j : Int) : PyData.eqv (.int i) (.int j) = decide (i = j) := by
  simp only [PyData.eqv]
  by_cases h : i = j <;> simp [h]
mutual
theorem eqv_rfl : ∀ d : PyData, d.canLay0 = true → PyData.eqv d d = true
  | .none, _ => rfl
  | .bool b, _ => by simp [PyData.eqv]
  | .int i, _ => by simp [PyData.eqv]
  | .str x, _ => by simp [PyData.eqv]
  | .list ds, h => by simp only [PyData.eqv]; exact eqvAll_rfl ds (lay_list h)
  | .tuple ds, h => by simp only [PyData.eqv]; exact eqvAll_rfl ds (lay_tuple h)
  | .dict _, h => nomatch h
theorem eqvAll_rfl : ∀ ds : List PyData, PyData.canLayAll0 ds = true → PyData.eqvAll ds ds = true
  | [], _ => rfl
  | d :: ds, h => by simp only [PyData.eqvAll, eqv_rfl d (lay_cons h).1, eqvAll_rfl ds (lay_cons h).2, Bool.and_self]
end
theorem eqvAll_nums : ∀ ns ms : List Int, PyData.eqvAll (nums ns) (nums ms) = decide (ns = ms)
  | [], [] => rfl
  | [], m :: ms => by simp [nums, PyData.eqvAll]
  | n :: ns, [] => by simp [nums, PyData.eqvAll]
  | n :: ns, m :: ms => by
    have ih := eqvAll_nums ns ms
    show PyData.eqvAll (.int n :: nums ns) (.int m :: nums ms) = _
    simp only [PyData.eqvAll, ih, eqv_int]
    by_cases h1 : n = m <;> by_cases h2 : ns = ms <;> simp [h1, h2]
theorem eqv_pr (z w : Int × Int) : PyData.eqv (pr z) (pr w) = decide (z = w) := by
  show PyData.eqvAll (nums [z.1, z.2]) (nums [w.1, w.2]) = _
  rw [eqvAll_nums]
  obtain ⟨a, b⟩ := z
  obtain ⟨c, d⟩ := w
  by_cases h1 : a = c <;> by_cases h2 : b = d <;> simp [h1, h2]
theorem eqvAll_prs : ∀ ns ms : List (Int × Int), PyData.eqvAll (prs ns) (prs ms) = decide (ns = ms)
  | [], [] => rfl
  | [], m :: ms => by simp [prs, PyData.eqvAll]
  | n :: ns, [] => by simp [prs, PyData.eqvAll]
  | n :: ns, m :: ms => by
    have ih := eqvAll_prs ns ms
    show PyData.eqvAll (pr n :: prs ns) (pr m :: prs ms) = _
    simp only [PyData.eqvAll, ih, eqv_pr]
    by_cases h1 : n = m <;> by_cases h2 : ns = ms <;> simp [h1, h2]
/-! t < u, numbers or pairs -/
inductive LtD : PyData → PyData → Prop
  | i {x y : Int} (h : x < y) : LtD (.int x) (.int y)
  | p {z w : Int × Int} (h : z.1 < w.1 ∨ (z.1 = w.1 ∧ z.2 < w.2)) : LtD (pr z) (pr w)
theorem lexLt_pr {z w : Int × Int} (h : z.1 < w.1 ∨ (z.1 = w.1 ∧ z.2 < w.2)) : HT.lexLt [z.1, z.2] [w.1, w.2] = true := by
  rw [HT.lexLt_cons]
  rcases h with h | ⟨h1, h2⟩
  · rw [if_neg (by omega), decide_eq_true h]
  · rw [if_pos h1, HT.lexLt_cons, if_neg (by omega), decide_eq_true h2]
section
variable {X : Cx} {N : List Str} {sc : Scope} {vi li : List Nat} {gs bs : List Str} {k : Nat} {G : Gx} {ρ : List Slot} {a b : Expr} {pos : Pos} {Ψ : Post}
theorem ev_ltD (c : Cn X N sc vi li gs bs k) (h : Ev X G ρ a fun oa ρ1 => Ev X G ρ1 b fun ob ρ2 => ∃ d d', oa = .sh d ∧ ob = .sh d' ∧ LtD d d' ∧ Ψ (oB true) ρ2) : Ev X G ρ (.Compare a [.Lt] [b] pos) Ψ :=
  ev_cmp (C := fun oa ob ρ2 => ∃ d d', oa = .sh d ∧ ob = .sh d' ∧ LtD d d' ∧ Ψ (oB true) ρ2) (OpR.or op_lt (op_ltT (Nat.lt_of_le_of_lt (Nat.le_add_right _ _) c.u1))) (nomark _) h fun oa ob ρ2 τ σ H x y ⟨d, d', e1, e2, hl, hp⟩ s Q q => by
    subst e1 e2
    obtain ⟨Fe, Ft, F1, F2, x2, ⟨_, ra⟩, ⟨_, rb⟩⟩ := s.two
    cases hl with
    | @i x' y' h =>
      refine .inl ⟨x', y', ra, rb, ?_⟩
      show Q (.bl (decide (x' < y'))) H
      rw [decide_eq_true h]
      exact q _ _ hp _ H (s.drop.drop.pB _)
    | @p z w h =>
      obtain ⟨t, e, ht⟩ := rp_pr ra
      obtain ⟨u, e', hu⟩ := rp_pr rb
      refine .inr ⟨t, u, [z.1, z.2], [w.1, w.2], e, e', ht, hu, ?_⟩
      rw [lexLt_pr h]
      exact q _ _ hp _ H (s.drop.drop.pB _)
end
end Pd
set_option Elab.async false
set_option linter.all false
set_option maxRecDepth 100000
set_option autoImplicit false
namespace Pd
open PySem PySem.Spec PyProof.Rows L2
theorem isTrue_cmp (l : Expr) (op : CmpOp) (r : Expr) (pos : Pos) (env : Env) (whole : Sem Value) : isTrue (.Compare l [op] [r] pos) env whole = (eval (.Compare l [op] [r] pos) env >>= fun c => holding [c] (truthy c)) := by
  rw [isTrue_Compare1, eval_Compare1]
  simp only [bind_assoc]
section
variable {X : Cx} {G : Gx} {ρ : List Slot} {a b c : Expr} {pos : Pos} {Θ : PostB}
theorem tv_cmp {op : CmpOp} (h : Ev X G ρ (.Compare a [op] [b] pos) (isB Θ)) : Tv X G ρ (.Compare a [op] [b] pos) Θ := by
  refine ⟨fun pins s σ H Q I ⟨τ, x, q⟩ => ?_⟩
  rw [isTrue_cmp]
  refine wpAny_bind (thn (PE.run h pins s σ H (fun v H1 => ∃ k, v = .bl k ∧ Q k H1) I ⟨τ, x, fun o ρ' ⟨k, eo, hp⟩ v H' y => by subst eo; exact ⟨k, y.headB, q _ _ hp H' y.drop⟩⟩) fun u s1 ⟨v, H1, I1, r1, k, ev, q1⟩ => ?_)
  subst ev
  cases r1
  exact wpAny_holding (wpAny_truthy_bool ⟨H1, I1, q1⟩)
theorem tv_chainI {op op' : CmpOp} {g g' : Int → Int → Bool} (ho : OpR X (compareOp op) (rI0 fun i j => .bl (g i j))) (ho' : OpR X (compareOp op') (rI0 fun i j => .bl (g' i j))) (hm : lastMarks [op, op'] [b, c] = false)
    (h : Ev X G ρ a (isI fun i ρ1 => Ev X G ρ1 b (isI fun j ρ2 => (g i j = true → Ev X G ρ2 c (isI fun l ρ3 => Θ (g' j l) ρ3)) ∧ (g i j = false → Θ false ρ2)))) : Tv X G ρ (.Compare a [op, op'] [b, c] pos) Θ := by
  refine pt_imp (pt_chain ho ho' h (pe_dyn (G := G)) (pe_dyn (G := G)) hm) fun σ H Q ⟨τ, x, q⟩ => ⟨τ, x, fun oa ρ1 ⟨i, e1, z⟩ v H1 y => ⟨ρ1, _, z, _, y, fun ob ρ2 ⟨j, e2, h1, h2⟩ u H2 w => ?_⟩⟩
  subst e1 e2
  obtain ⟨rfl, rfl, s⟩ := ints2 w
  refine ⟨i, j, rfl, rfl, g i j, rfl, ?_⟩
  cases hg : g i j with
  | true =>
    refine iteT ⟨ρ2, _, h1 hg, _, s, fun oc ρ3 ⟨l, e3, hp⟩ w' H4 t => ?_⟩
    subst e3
    exact ⟨j, l, rfl, t.headI, _, rfl, q _ _ hp H4 t.drop⟩
  | false => exact iteF ⟨_, rfl, q _ _ (h2 hg) H2 s⟩

theorem allT_eq : ∀ its : List OT, List.filterMap (fun _ => some (PyData.bool true)) its = bls (List.replicate its.length true)
  | [] => rfl
  | x :: m => by rw [List.filterMap_cons, allT_eq m]; rfl
/-- all([..]), each true -/
theorem ev_allC {N : List Str} {sc : Scope} {vi li : List Nat} {gs bs : List Str} {k : Nat} {tg iter elt : Expr} {scope : Scope} {p posl : Pos} {Ψ : Post} (c : Cn X N sc vi li gs bs k) (j : Nat) (own : List (Str × Nat)) (P : OT → Prop) (ρ0 : List Slot)
    (hi : Iv X G ρ tg iter fun its ρ1 => its.length < 16777216 ∧ wipeS ρ1 (own.map (·.2)) = ρ0 ∧ (∀ x ∈ its, P x) ∧ Ψ (oB true) (unwS ρ0 (own.map (·.2))))
    (ht : ∀ x, P x → TgB X scope G (own.map (·.2)) ρ0 tg x fun ρ2 => EvB X scope G ρ2 elt fun o ρ4 => wipeS ρ4 (own.map (·.2)) = ρ0 ∧ o = oB true)
    (hok : blkC N sc scope own = true := by decide +kernel) (hj : bs[j]? = some ("all" : Str) := by rfl) (hs : ∀ x, foldedSetIterable iter X.env x = pure x := by intro _; rfl) : Ev X G ρ (.Call (.Name "all" p) [.ListComp elt [⟨tg, iter, [], 0⟩] scope posl] [] pos) Ψ := by
  refine ev_all c j (pv_ev (ev_lcF c own (fun _ => some (.bool true)) P ρ0 (iv_mono hi fun its ρ1 ⟨h1, h2, h3, h4⟩ => ⟨h1, h2, h3, List.replicate its.length true, ?_, ?_⟩) ?_ hok hs)) hj
  · rw [allT_eq]
    exact .ls _
  · show Ψ (oB ((List.replicate its.length true).all id)) _
    have : (List.replicate its.length true).all id = true := by simp
    rw [this]
    exact h4
  · intro x hx s H C cl fp
    exact pg_imp (ht x hx s H C cl fp) fun v σ H Q ⟨τ, y, q⟩ => ⟨τ, y, fun ρ2 h2 σ' H' e w => q ρ2 (fun s H C cl fp => ts_nil ⟨fun _ s H C cl fp => ev_mono (h2 s H C cl fp) fun o ρ4 ⟨e1, e2⟩ => ⟨e1, .bool true, rfl, e2⟩, fun z => nomatch z⟩) σ' H' e w⟩
end
end Pd
set_option Elab.async false
set_option linter.all false
set_option maxRecDepth 100000
set_option autoImplicit false
namespace Pd
/-! numbers, pairs, trees: plain -/
def iN (l : List Nat) : List Int := l.map fun (x : Nat) => (x : Int)
def eN (l : List Nat) : List PySem.PyData := nums (iN l)
def iP (zs : List (Nat × Nat)) : List (Int × Int) := zs.map fun z => ((z.1 : Int), (z.2 : Int))
def eP (zs : List (Nat × Nat)) : List PySem.PyData := prs (iP zs)
theorem eN_len (l : List Nat) : (eN l).length = l.length := by simp [eN, nums, iN]
theorem eP_len (l : List (Nat × Nat)) : (eP l).length = l.length := by simp [eP, prs, iP]
theorem eN_get (l : List Nat) (i : Nat) : (eN l)[i]? = l[i]?.map fun (x : Nat) => .int x := by
  simp [eN, nums, iN]; rfl
theorem eP_get (l : List (Nat × Nat)) (i : Nat) : (eP l)[i]? = l[i]?.map fun z => pr (z.1, z.2) := by
  simp [eP, prs, iP]; rfl
theorem eN_app (l m : List Nat) : eN (l ++ m) = eN l ++ eN m := by simp [eN, nums, iN]
theorem iN_mem {l : List Nat} {x : Nat} : (x : Int) ∈ iN l ↔ x ∈ l := by
  constructor
  · intro h
    obtain ⟨y, hy, e⟩ := List.mem_map.mp h
    have : y = x := by omega
    exact this ▸ hy
  · exact fun h => List.mem_map.mpr ⟨x, h, rfl⟩
theorem iN_inj {l m : List Nat} (h : iN l = iN m) : l = m := by
  induction l generalizing m with
  | nil => cases m with
    | nil => rfl
    | cons => cases h
  | cons x l ih => cases m with
    | nil => cases h
    | cons y m =>
      simp only [iN, List.map_cons, List.cons.injEq] at h
      rw [ih h.2]
      congr 1
      omega
/-- sorted lists are one when they are permutations -/
theorem perm_sorted {l m : List Int} (p : l.Perm m) (hl : l.Pairwise (· ≤ ·)) (hm : m.Pairwise (· ≤ ·)) : l = m := by
  induction l generalizing m with
  | nil => exact (List.nil_perm.mp p).symm ▸ rfl
  | cons x l ih =>
    cases m with
    | nil => exact absurd p (by simp)
    | cons y m =>
      rw [List.pairwise_cons] at hl hm
      have exy : x = y := by
        have h1 : x ∈ y :: m := p.mem_iff.mp List.mem_cons_self
        have h2 : y ∈ x :: l := p.mem_iff.mpr List.mem_cons_self
        rcases List.mem_cons.mp h1 with e | h1
        · exact e
        · rcases List.mem_cons.mp h2 with e | h2
          · exact e.symm
          · have a := hl.1 y h2
            have b := hm.1 x h1
            omega
      subst exy
      rw [ih (List.Perm.cons_inv p) hl.2 hm.2]
def srt (l : List Nat) : List Nat := l.mergeSort fun a b => decide (a ≤ b)
theorem srt_perm (l : List Nat) : (srt l).Perm l := List.mergeSort_perm l _
theorem srt_sorted (l : List Nat) : (srt l).Pairwise (· ≤ ·) := by
  have h := List.pairwise_mergeSort (le := fun a b : Nat => decide (a ≤ b)) (by intro a b c h1 h2; simp at *; omega) (by intro a b; simp; omega) l
  exact h.imp (by simp)
/-- what sorted leaves -/
theorem srt_eq {l : List Nat} {m : List Int} (p : m.Perm (iN l)) (h : m.Pairwise (· ≤ ·)) : m = iN (srt l) := by
  refine perm_sorted (p.trans ((srt_perm l).map _).symm) h ?_
  exact List.Pairwise.map _ (fun a b h => by simp; omega) (srt_sorted l)

/-! neighbours -/
def nbrs (zs : List (Nat × Nat)) (i : Nat) : List Nat := zs.filterMap fun z => if z.1 = i then some z.2 else if z.2 = i then some z.1 else none
theorem nbrs_snoc (zs : List (Nat × Nat)) (z : Nat × Nat) (i : Nat) : nbrs (zs ++ [z]) i = if z.1 = i then nbrs zs i ++ [z.2] else if z.2 = i then nbrs zs i ++ [z.1] else nbrs zs i := by
  unfold nbrs
  rw [List.filterMap_append]
  by_cases h1 : z.1 = i
  · simp [h1]
  · by_cases h2 : z.2 = i <;> simp [h1, h2]
def near (n : Nat) (zs : List (Nat × Nat)) : List (List Nat) := (List.range n).map fun i => srt (nbrs zs i)
theorem near_get {n : Nat} {zs : List (Nat × Nat)} {i : Nat} (h : i < n) : (near n zs)[i]? = some (srt (nbrs zs i)) := by
  simp [near, h]
theorem set_range {α : Type} (f : Nat → α) (n a : Nat) (v : α) : ((List.range n).map f).set a v = (List.range n).map fun i => if i = a then v else f i := by
  apply List.ext_getElem?
  intro j
  rw [List.getElem?_set]
  by_cases h : a = j
  · subst h
    by_cases hj : a < n <;> simp [hj]
  · have h2 : j ≠ a := fun e => h e.symm
    by_cases hj : j < n <;> simp [h, hj, h2]
theorem mem_nbrs {zs : List (Nat × Nat)} {i j : Nat} : j ∈ nbrs zs i ↔ ∃ z ∈ zs, (z.1 = i ∧ z.2 = j) ∨ (z.1 ≠ i ∧ z.2 = i ∧ z.1 = j) := by
  unfold nbrs
  rw [List.mem_filterMap]
  constructor
  · rintro ⟨z, hz, h⟩
    refine ⟨z, hz, ?_⟩
    by_cases h1 : z.1 = i
    · simp [h1] at h; exact .inl ⟨h1, h⟩
    · by_cases h2 : z.2 = i
      · simp [h1, h2] at h; exact .inr ⟨h1, h2, h⟩
      · simp [h1, h2] at h
  · rintro ⟨z, hz, h⟩
    refine ⟨z, hz, ?_⟩
    rcases h with ⟨h1, h2⟩ | ⟨h1, h2, h3⟩
    · simp [h1, h2]
    · rw [if_neg h1, if_pos h2, h3]
/-- a tree: ties in order, each place hangs together with 0 -/
structure GT (n : Nat) (zs : List (Nat × Nat)) : Prop where
  pos : 1 ≤ n
  small : n ≤ 40
  len : zs.length + 1 = n
  lt : ∀ z ∈ zs, z.1 < z.2 ∧ z.2 < n
  ord : zs.Pairwise fun z w => z.1 < w.1 ∨ (z.1 = w.1 ∧ z.2 < w.2)
  hang : ∀ S : Nat → Prop, S 0 → (∀ i j, S i → j ∈ nbrs zs i → S j) → ∀ i, i < n → S i
theorem GT.nb {n : Nat} {zs : List (Nat × Nat)} (g : GT n zs) {i j : Nat} (h : j ∈ nbrs zs i) : i < n ∧ j < n ∧ i ≠ j := by
  obtain ⟨z, hz, h⟩ := mem_nbrs.mp h
  have := g.lt z hz
  rcases h with ⟨h1, h2⟩ | ⟨h1, h2, h3⟩ <;> omega
theorem GT.sym {n : Nat} {zs : List (Nat × Nat)} (g : GT n zs) {i j : Nat} (h : j ∈ nbrs zs i) : i ∈ nbrs zs j := by
  obtain ⟨z, hz, h⟩ := mem_nbrs.mp h
  have := g.lt z hz
  refine mem_nbrs.mpr ⟨z, hz, ?_⟩
  rcases h with ⟨h1, h2⟩ | ⟨h1, h2, h3⟩
  · exact .inr ⟨by omega, h2, h1⟩
  · exact .inl ⟨h3, h2⟩

/-! going through: what order becomes by a place's neighbours -/
def vis (o l : List Nat) : List Nat := l.foldl (fun o x => if x ∈ o then o else o ++ [x]) o
theorem vis_cons (o : List Nat) (x : Nat) (l : List Nat) : vis o (x :: l) = vis (if x ∈ o then o else o ++ [x]) l := rfl
theorem vis_spec : ∀ (l o : List Nat), o.Nodup → (vis o l).Nodup ∧ (∀ x, x ∈ vis o l ↔ x ∈ o ∨ x ∈ l) ∧ ∃ m, vis o l = o ++ m
  | [], o, h => ⟨h, fun x => by simp [vis], [], by simp [vis]⟩
  | x :: l, o, h => by
    rw [vis_cons]
    by_cases hx : x ∈ o
    · rw [if_pos hx]
      obtain ⟨h1, h2, h3⟩ := vis_spec l o h
      refine ⟨h1, fun y => ?_, h3⟩
      rw [h2]
      constructor
      · rintro (a | a) <;> simp [a]
      · rintro (a | a)
        · exact .inl a
        · rcases List.mem_cons.mp a with rfl | a
          · exact .inl hx
          · exact .inr a
    · rw [if_neg hx]
      have hn : (o ++ [x]).Nodup := by
        rw [List.nodup_append]
        refine ⟨h, by simp, fun a ha b hb e => ?_⟩
        simp at hb
        subst hb e
        exact hx ha
      obtain ⟨h1, h2, m, h3⟩ := vis_spec l (o ++ [x]) hn
      refine ⟨h1, fun y => ?_, [x] ++ m, by rw [h3, List.append_assoc]⟩
      rw [h2]
      simp only [List.mem_append, List.mem_cons, List.not_mem_nil, or_false]
      constructor
      · rintro ((a | a) | a) <;> simp [a]
      · rintro (a | a | a) <;> simp [a]
/-- pigeons -/
theorem nodup_le {l : List Nat} {n : Nat} (h : l.Nodup) (hb : ∀ x ∈ l, x < n) : l.length ≤ n := by
  have := L2.nat_nodup_len l (List.range n) h (fun x hx => List.mem_range.mpr (hb x hx))
  simpa using this
structure Seen (n : Nat) (zs : List (Nat × Nat)) (o : List Nat) (t : Nat) : Prop where
  nd : o.Nodup
  lt : ∀ x ∈ o, x < n
  zero : 0 ∈ o
  tl : t ≤ o.length
  cl : ∀ i u, i < t → o[i]? = some u → ∀ v ∈ nbrs zs u, v ∈ o
theorem Seen.start {n : Nat} {zs : List (Nat × Nat)} (g : GT n zs) : Seen n zs [0] 0 := ⟨by simp, by simp; exact g.pos, by simp, by simp, by omega⟩
theorem Seen.len {n : Nat} {zs : List (Nat × Nat)} {o : List Nat} {t : Nat} (s : Seen n zs o t) : o.length ≤ n := nodup_le s.nd s.lt
theorem Seen.step {n : Nat} {zs : List (Nat × Nat)} (g : GT n zs) {o : List Nat} {t u : Nat} (s : Seen n zs o t) (hu : o[t]? = some u) : Seen n zs (vis o (srt (nbrs zs u))) (t + 1) := by
  obtain ⟨h1, h2, m, h3⟩ := vis_spec (srt (nbrs zs u)) o s.nd
  have ht : t < o.length := (List.getElem?_eq_some_iff.mp hu).1
  refine ⟨h1, fun x hx => ?_, (h2 0).mpr (.inl s.zero), by rw [h3, List.length_append]; omega, fun i w hi hw v hv => ?_⟩
  · rcases (h2 x).mp hx with a | a
    · exact s.lt x a
    · exact (g.nb ((srt_perm _).mem_iff.mp a)).2.1
  · rw [h3, List.getElem?_append_left (by omega)] at hw
    by_cases hit : i < t
    · exact (h2 v).mpr (.inl (s.cl i w hit hw v hv))
    · have : i = t := by omega
      subst this
      rw [hu] at hw; cases hw
      exact (h2 v).mpr (.inr ((srt_perm _).mem_iff.mpr hv))
theorem Seen.all {n : Nat} {zs : List (Nat × Nat)} (g : GT n zs) {o : List Nat} (s : Seen n zs o o.length) : o.length = n := by
  refine Nat.le_antisymm s.len ?_
  have all := g.hang (fun i => i ∈ o) s.zero fun i j hi hj => by
    obtain ⟨k, hk⟩ := List.mem_iff_getElem?.mp hi
    exact s.cl k i (List.getElem?_eq_some_iff.mp hk).1 hk j hj
  have := L2.nat_nodup_len (List.range n) o List.nodup_range (fun x hx => all x (List.mem_range.mp hx))
  simpa using this
end Pd
set_option Elab.async false
set_option linter.all false
set_option maxRecDepth 100000
set_option autoImplicit false
namespace Pd
open PySem PySem.Spec PyProof.Rows L2
theorem endP {κ : OT → List OT → Prop} {r : OT} {ρ : List Slot} (h : κ r []) : EndsF 0 κ (.rt r ρ) := ⟨[], ρ, rfl, rfl, h⟩
abbrev WB (X : Cx) (G : Gx) (n np nb : Nat) (st : Stmt) (S : FS) : Prop := ∀ os ds κ, os.length = nb → os.length + ds.length = np → S os ds κ → Exs X G (borF 0 os ++ (ds.map (fun d => Slot.val (.sh d)) ++ List.replicate (n - np) .un)) (defBody st) (EndsF nb κ)
def isInt : PyData → Bool
  | .int _ => true
  | _ => false
theorem isInt_eq (d : PyData) : isInt d = (isiT "int" d && !isiT "bool" d) := by cases d <;> (simp only [isInt, isiT, isiN, tyn]; decide)
theorem isInt_ex {d : PyData} (h : isInt d = true) : ∃ i, d = .int i := by cases d <;> first | exact ⟨_, rfl⟩ | cases h
def S4 : FS := fun os ds κ => os = [] ∧ ∃ d, ds = [d] ∧ κ (oB (isInt d)) []
theorem w4 {X : Cx} {G : Gx} (c : C4 X) : WB X G 1 1 0 st4 S4 := by
  rintro os ds κ - - ⟨rfl, d, rfl, h⟩
  show Exs X G [.val (.sh d)] _ _
  rw [isInt_eq] at h
  refine exs_one (ex_ret (ev_and (ev_isi c 0 1 isi_int boot_int (pv_nm c 0 (is_B ⟨fun h1 => ev_one (ev_not (ev_isi c 0 2 isi_bool boot_bool (pv_nm c 0 (is_B ?_)))), fun h1 => ?_⟩)))))
  · rw [show isiT "int" d = true from h1] at h
    exact endP h
  · rw [show isiT "int" d = false from h1] at h
    exact endP h
def isCnt : PyData → Bool
  | .int i => decide (0 ≤ i)
  | _ => false
def S5 : FS := fun os ds κ => os = [] ∧ ∃ d, ds = [d] ∧ κ (oB (isCnt d)) []
theorem isCnt_no {d : PyData} (h : isInt d = false) : isCnt d = false := by cases d <;> first | rfl | cases h
theorem w5 {X : Cx} {G : Gx} (c : C5 X) (h4 : F4 X 0 S4) : WB X G 1 1 0 st5 S5 := by
  rintro os ds κ - - ⟨rfl, d, rfl, h⟩
  show Exs X G [.val (.sh d)] _ _
  refine exs_one (ex_ret (ev_and (ev_call c 0 h4 (av_cons (ev_nm c 0 (av_nil ⟨[d], rfl, rfl, rfl, d, rfl, is_B ⟨fun h1 => ?_, fun h1 => ?_⟩⟩))))))
  · obtain ⟨i, rfl⟩ := isInt_ex h1
    exact ev_one (ev_ge (ev_nm c 0 (is_I (ev_int (is_I (endP h))))))
  · rw [isCnt_no h1] at h
    exact endP h
def isBel (d : PyData) (n : Int) : Bool := match d with
  | .int i => decide (0 ≤ i) && decide (i < n)
  | _ => false
def S6 : FS := fun os ds κ => os = [] ∧ ∃ d n, ds = [d, .int n] ∧ κ (oB (isBel d n)) []
theorem w6 {X : Cx} {G : Gx} (c : C6 X) (h5 : F5 X 0 S5) : WB X G 2 2 0 st6 S6 := by
  rintro os ds κ - - ⟨rfl, d, n, rfl, h⟩
  show Exs X G [.val (.sh d), .val (oI n)] _ _
  refine exs_one (ex_ret (ev_and (ev_call c 0 h5 (av_cons (ev_nm c 0 (av_nil ⟨[d], rfl, rfl, rfl, d, rfl, is_B ⟨fun h1 => ?_, fun h1 => ?_⟩⟩))))))
  · cases d <;> try cases h1
    rename_i i
    have e : isBel (.int i) n = decide (i < n) := by
      show (decide (0 ≤ i) && _) = _
      rw [show decide (0 ≤ i) = true from h1, Bool.true_and]
    rw [e] at h
    exact ev_one (ev_lt (ev_nm c 0 (is_I (ev_nm c 1 (is_I (endP h))))))
  · have e : isBel d n = false := by
      cases d <;> try rfl
      show (decide _ && _) = _
      rw [show decide _ = false from h1]; rfl
    rw [e] at h
    exact endP h
def isRow (d : PyData) (n : Int) : Bool := match d with
  | .tuple ds => decide ((ds.length : Int) = n)
  | _ => false
def S7 : FS := fun os ds κ => os = [] ∧ ∃ d n, ds = [d, .int n] ∧ κ (oB (isRow d n)) []
theorem isTup_ex {d : PyData} (h : isiT "tuple" d = true) : ∃ ds, d = .tuple ds := by cases d <;> first | exact ⟨_, rfl⟩ | (exact absurd h (by simp only [isiT, isiN, tyn]; decide))
theorem isTup_no {d : PyData} {n : Int} (h : isiT "tuple" d = false) : isRow d n = false := by cases d <;> first | rfl | exact absurd h (by simp only [isiT, isiN, tyn]; decide)
theorem w7 {X : Cx} {G : Gx} (c : C7 X) : WB X G 2 2 0 st7 S7 := by
  rintro os ds κ - - ⟨rfl, d, n, rfl, h⟩
  show Exs X G [.val (.sh d), .val (oI n)] _ _
  refine exs_one (ex_ret (ev_and (ev_isi c 0 1 isi_tuple boot_tuple (pv_nm c 0 (is_B ⟨fun h1 => ?_, fun h1 => ?_⟩)))))
  · obtain ⟨l, rfl⟩ := isTup_ex h1
    refine ev_one (ev_eq c (ev_len c 2 (pv_nm c 0 (is_st (ev_nm c 1 ⟨shp_int _, shp_int _, ?_⟩)))))
    rw [show PyData.eqv (OT.sh (.int (l.length : Int))).frz (OT.sh (.int n)).frz = isRow (.tuple l) n from eqv_int _ _]
    exact endP h
  · rw [isTup_no (show isiT "tuple" d = false from h1)] at h
    exact endP h
/-- rising: each item ahead of the next -/
def Rise (l : List PyData) : Prop := ∀ o ∈ zipI l (cutD l (some 1) none), ∃ a b, o = .tuple [a, b] ∧ LtD a b
def S8 : FS := fun os ds κ => os = [] ∧ ∃ l, ds = [.tuple l] ∧ l.length < 1000 ∧ Rise l ∧ κ (oB true) []
theorem w8 {X : Cx} {G : Gx} (c : C8 X) (hB : BN X) : WB X G 3 1 0 st8 S8 := by
  rintro os ds κ - - ⟨rfl, l, rfl, hl, hr, h⟩
  show Exs X G [.val (.sh (.tuple l)), .un, .un] _ _
  refine exs_one (ex_ret (ev_all c 0 (pv_ev (ev_lcF c ow8_0 (fun _ => some (.bool true)) (fun o => ∃ a b, o = .sh (.tuple [a, b]) ∧ LtD a b) [.val (.sh (.tuple l)), .un, .un]
    (iv_zipT c 1 (ev_nm c 0 (is_T (ev_slN c 0 (ov_some (ev_int (is_I (ov_none ⟨_, _, hat rfl (.val _), .sht, is_T ⟨?_, rfl, ?_, ?_⟩⟩)))))))) ?_))))
  · have : (zipI l (cutD l (some 1) none)).length ≤ l.length := by unfold zipI; rw [List.length_zipWith]; exact Nat.min_le_left _ _
    show (List.map _ _).length < _
    rw [List.length_map]; omega
  · rintro x hx
    obtain ⟨d, hd, rfl⟩ := List.mem_map.mp hx
    obtain ⟨a, b, rfl, h⟩ := hr d hd
    exact ⟨a, b, rfl, h⟩
  · refine ⟨List.replicate (shs (zipI l (cutD l (some 1) none))).length true, ?_, ?_⟩
    · have : List.filterMap (fun _ => some (PyData.bool true)) (shs (zipI l (cutD l (some 1) none))) = bls (List.replicate (shs (zipI l (cutD l (some 1) none))).length true) := by
        generalize shs (zipI l (cutD l (some 1) none)) = m
        induction m with
        | nil => rfl
        | cons x m ih => rw [List.filterMap_cons, ih]; rfl
      rw [this]
      exact .ls _
    · have : (List.replicate (shs (zipI l (cutD l (some 1) none))).length true).all id = true := by simp
      show EndsF 0 κ (.rt (oB ((List.replicate (shs (zipI l (cutD l (some 1) none))).length true).all id)) _)
      rw [this]
      exact endP h
  · rintro x ⟨a, b, rfl, hl⟩ s H C cl fp
    exact tw_tupS (kb8_0 c hB s H C cl fp) (tws_cons (tw_nm (kb8_0 c hB s H C cl fp) 1 (tws_cons (tw_nm (kb8_0 c hB s H C cl fp) 2 (tws_nil fun s H C cl fp => ts_nil ⟨fun _ s H C cl fp => ev_ltD (kb8_0 c hB s H C cl fp) (ev_nm (kb8_0 c hB s H C cl fp) 1 (ev_nm (kb8_0 c hB s H C cl fp) 2 ⟨a, b, rfl, rfl, hl, rfl, _, rfl, rfl⟩)), fun z => nomatch z⟩)))))
end Pd
set_option Elab.async false
set_option linter.all false
set_option maxRecDepth 100000
set_option autoImplicit false
namespace Pd
open PySem PySem.Spec PyProof.Rows L2
theorem ixN_nat {j l : Nat} (h : j < l) : ixN l (j : Int) = some j := by
  unfold ixN
  rw [if_pos (by omega), if_pos (by omega)]; simp
theorem atI_nat {α : Type} (l : List α) (j : Nat) (h : j < l.length) : L2.atI l (j : Int) = l[j]? := by
  unfold L2.atI
  rw [ixN_nat h]; rfl
def unN (l : List PyData) : List Nat := l.map fun d => match d with | .int i => i.toNat | _ => 0
theorem unN_eN (l : List Nat) : unN (eN l) = l := by
  unfold unN eN nums iN
  rw [List.map_map, List.map_map]
  conv => rhs; rw [← List.map_id l]
  apply List.map_congr_left
  intro x _
  simp
/-- the lists of neighbours so far -/
def fnd (n : Nat) (pre : List (Nat × Nat)) : List OT := (List.range n).map fun i => .ls (eN (nbrs pre i))
theorem fnd_get {n : Nat} {pre : List (Nat × Nat)} {i : Nat} (h : i < n) : (fnd n pre)[i]? = some (.ls (eN (nbrs pre i))) := by simp [fnd, h]
theorem fnd_len (n : Nat) (pre : List (Nat × Nat)) : (fnd n pre).length = n := by simp [fnd]
theorem fnd_nil (n : Nat) : fnd n [] = List.replicate n (.ls []) := by
  apply List.ext_getElem?
  intro j
  by_cases h : j < n
  · rw [fnd_get h, List.getElem?_replicate_of_lt h]; rfl
  · rw [List.getElem?_eq_none (by rw [fnd_len]; omega), List.getElem?_eq_none (by simp; omega)]
theorem fnd_step {n : Nat} {pre : List (Nat × Nat)} {a b : Nat} (ha : a < n) (hb : b < n) (h : a ≠ b) :
    ((fnd n pre).set a (.ls (eN (nbrs pre a) ++ [.int b]))).set b (.ls (eN (nbrs pre b) ++ [.int a])) = fnd n (pre ++ [(a, b)]) := by
  unfold fnd
  rw [set_range, set_range]
  apply List.map_congr_left
  intro i _
  rw [nbrs_snoc]
  show (if i = b then _ else if i = a then _ else _) = OT.ls (eN (if a = i then _ else if b = i then _ else _))
  by_cases h1 : i = b
  · subst h1
    rw [if_pos rfl, if_neg h, if_pos rfl, eN_app]; rfl
  · rw [if_neg h1]
    by_cases h2 : i = a
    · subst h2
      rw [if_pos rfl, if_pos rfl, eN_app]; rfl
    · rw [if_neg h2, if_neg (fun e => h2 e.symm), if_neg (fun e => h1 e.symm)]
theorem frz_fnd (n : Nat) (zs : List (Nat × Nat)) : frzs (fnd n zs) = (List.range n).map fun i => .list (eN (nbrs zs i)) := by
  rw [frzs_eq, fnd, List.map_map]; rfl
def nearT (n : Nat) (zs : List (Nat × Nat)) : List PyData := (near n zs).map fun l => .tuple (eN l)
def nearLs (n : Nat) (zs : List (Nat × Nat)) : List PyData := (near n zs).map fun l => .list (eN l)
structure OkT (n : Nat) (zs : List (Nat × Nat)) : Prop where
  small : n ≤ 1000000
  len : zs.length ≤ 1000000
  lt : ∀ z ∈ zs, z.1 < n ∧ z.2 < n ∧ z.1 ≠ z.2
theorem nbrs_len (zs : List (Nat × Nat)) (i : Nat) : (nbrs zs i).length ≤ zs.length := List.length_filterMap_le _ _
def S13 : FS := fun os ds κ => os = [] ∧ ∃ (n : Nat) (zs : List (Nat × Nat)), ds = [.int n, .tuple (eP zs)] ∧ OkT n zs ∧ κ (.ls (nearT n zs)) []
theorem rngL_len : ∀ (n : Nat) (lo : Int), (rngL lo n).length = n
  | 0, _ => rfl
  | n + 1, lo => by simp [rngL, rngL_len n]
theorem w13 {X : Cx} {G : Gx} (c : C13 X) (hB : BN X) : WB X G 7 2 0 st13 S13 := by
  rintro os ds κ - - ⟨rfl, n, zs, rfl, ok, h⟩
  show Exs X G [.val (oI n), .val (.sh (.tuple (eP zs))), .un, .un, .un, .un, .un] _ _
  refine exs_cons (ex_setLc c 2 ow13_0 (fun rest acc ρ => ρ = [.val (oI n), .val (.sh (.tuple (eP zs))), .un, .un, .un, .un, .un] ∧ ∃ m, acc = List.replicate m (.ls []) ∧ rest.length + m = n)
    (iv_range c 0 (ev_nm c 0 (is_I ⟨⟨?_, ?_⟩, ?_, rfl, 0, rfl, ?_⟩))) ?_ ?_ (by decide +kernel))
  · omega
  · have := ok.small; omega
  · rw [rngL_len]; have := ok.small; omega
  · rw [rngL_len]; omega
  · rintro x rest acc ρ ⟨rfl, m, rfl, hl⟩ s H C cl fp
    refine tw_nm (kb13_0 c hB s H C cl fp) 5 fun s H C cl fp => ts_nil ⟨fun _ s H C cl fp => ev_lstS (av_nil ⟨[], rfl, by decide, rfl, m + 1, ?_, ?_⟩), fun z => nomatch z⟩
    · rw [List.replicate_succ']
    · rw [List.length_cons] at hl; omega
  · rintro acc ρ ⟨rfl, m, rfl, hl⟩
    have : m = n := by simpa using hl
    subst this
    refine ⟨rfl, _, .inl rfl, ?_⟩
    rw [← fnd_nil]
    refine exs_cons (ex_for c (fun rest ρ => ∃ pre post s3 s4, rest = shs (eP post) ∧ zs = pre ++ post ∧ ρ = [.val (oI m), .val (.sh (.tuple (eP zs))), .val (.lst (fnd m pre)), s3, s4, .un, .un])
      (iv_tup (ev_nm c 1 (is_T ⟨[], zs, .un, .un, rfl, rfl, rfl⟩))) ?_ ?_)
    · rintro x rest ρ ⟨pre, post, s3, s4, e1, e2, rfl⟩
      match post, e1 with
      | z :: post, e1 =>
        injection e1 with ex er
        subst ex er
        obtain ⟨a, b⟩ := z
        have hz := ok.lt (a, b) (by rw [e2]; simp)
        have hlen : ∀ i, (eN (nbrs pre i)).length < 16777216 := fun i => by
          rw [eN_len]
          have h1 := nbrs_len pre i
          have h2 : pre.length ≤ zs.length := by rw [e2]; simp
          have := ok.len
          omega
        refine tg_tupS c (tgs_cons (tg_nm c 3 (tgs_cons (tg_nm c 4 (tgs_nil ?_)))))
        refine exs_cons (ex_expr (ev_appendAt c 2 (ev_nm c 3 (is_I ⟨_, _, _, _, _, _, _, rfl, .val _, .lst (fnd_get hz.1), by rw [fnd_len]; exact ixN_nat hz.1, .ls _, fun G' => ev_nm c 4 ⟨_, rfl, .ls (hlen a), ?_⟩⟩))))
        refine exs_one (ex_expr (ev_appendAt c 2 (ev_nm c 4 (is_I ⟨_, _, _, _, _, _, _, rfl, .val _, .lst (j := b) (n := .ls (eN (nbrs pre b))) (by rw [List.getElem?_set_ne hz.2.2]; exact fnd_get hz.2.1), by rw [List.length_set, fnd_len]; exact ixN_nat hz.2.1, .ls _, fun G' => ev_nm c 3 ⟨_, rfl, .ls (hlen b), ?_⟩⟩))))
        refine ⟨pre ++ [(a, b)], post, .val (oI a), .val (oI b), rfl, by rw [e2, List.append_assoc]; rfl, ?_⟩
        rw [← fnd_step hz.1 hz.2.1 hz.2.2]
        rfl
    · rintro ρ ⟨pre, post, s3, s4, e1, e2, rfl⟩
      have ep : post = [] := by
        cases post with
        | nil => rfl
        | cons => cases e1
      subst ep
      rw [List.append_nil] at e2
      subst e2
      refine exs_one (ex_ret (ev_lcF c ow13_1 (fun o => match o with | .sh (.list l) => some (.tuple (eN (srt (unN l)))) | _ => none) (fun o => ∃ l, o = .sh (.list (eN l))) [.val (oI m), .val (.sh (.tuple (eP zs))), .val (.sh (.list (frzs (fnd m zs)))), s3, s4, .un, .un]
        (iv_list (ev_nmF (o := .lst (fnd m zs)) c 2 (is_L1 (ds := frzs (fnd m zs)) ⟨?_, rfl, ?_, ?_⟩))) ?_))
      · show (shs (frzs (fnd m zs))).length < _
        rw [frz_fnd]
        simp [shs]
        have := ok.small; omega
      · show ∀ x ∈ shs (frzs (fnd m zs)), _
        rw [frz_fnd]
        intro x hx
        simp only [shs, List.map_map, List.mem_map] at hx
        obtain ⟨i, _, rfl⟩ := hx
        exact ⟨_, rfl⟩
      · refine endP ?_
        show κ (.ls (List.filterMap _ (shs (frzs (fnd m zs))))) []
        have e : List.filterMap (fun o => match o with | OT.sh (.list l) => some (PyData.tuple (eN (srt (unN l)))) | _ => none) (shs (frzs (fnd m zs))) = nearT m zs := by
          rw [frz_fnd]
          unfold shs nearT near
          rw [List.map_map, List.map_map, List.filterMap_map]
          rw [← List.filterMap_eq_map]
          congr 1
          funext i
          show some (PyData.tuple (eN (srt (unN (eN (nbrs zs i)))))) = _
          rw [unN_eN]; rfl
        rw [e]
        exact h
      · rintro x ⟨l, rfl⟩ s H C cl fp
        refine tw_nm (kb13_1 c hB s H C cl fp) 6 fun s H C cl fp => ts_nil ⟨fun _ s H C cl fp => ev_tuple (kb13_1 c hB s H C cl fp) 0 (pv_ev (ev_sorted (kb13_1 c hB s H C cl fp) 1 (pv_nm (kb13_1 c hB s H C cl fp) 6 ⟨iN l, .sh _, fun b' hp hs => is_ls ⟨rfl, _, ?_, rfl⟩⟩))), fun z => nomatch z⟩
        show some (PyData.tuple (eN (srt (unN (eN l))))) = _
        rw [unN_eN, srt_eq hp hs]; rfl
end Pd
set_option Elab.async false
set_option linter.all false
set_option maxRecDepth 100000
set_option autoImplicit false
namespace Pd
open PySem PySem.Spec PyProof.Rows L2
def seenD (o : List Nat) : List (Key × PyData) := o.map fun (p : Nat) => (Sum.inl (p : Int), PyData.bool true)
theorem seen_any (o : List Nat) (v : Nat) : ((seenD o).any fun kv => decide (kv.1 = Sum.inl (v : Int))) = decide (v ∈ o) := by
  induction o with
  | nil => simp [seenD]
  | cons x o ih =>
    simp only [seenD, List.map_cons, List.any_cons] at ih ⊢
    rw [ih]
    by_cases h : x = v
    · subst h; simp
    · have : ¬ v = x := fun e => h e.symm
      have h2 : ¬ ((x : Int) = (v : Int)) := by omega
      simp [h2, this]
theorem valD_any (kvs : List (Key × PyData)) (k : Key) : (valD kvs k).isSome = kvs.any fun kv => decide (kv.1 = k) := by
  unfold valD
  induction kvs with
  | nil => rfl
  | cons p kvs ih =>
    rw [List.find?_cons, List.any_cons]
    cases h : decide (p.1 = k) with
    | true => rfl
    | false => simpa using ih
theorem valD_seen (o : List Nat) (v : Nat) : (valD (seenD o) (.inl (v : Int))).isSome = decide (v ∈ o) := by rw [valD_any, seen_any]
theorem putD_seen {o : List Nat} {v : Nat} (h : v ∉ o) : putD (seenD o) (.inl (v : Int)) (.bool true) = seenD (o ++ [v]) := by
  unfold putD
  rw [seen_any, if_neg (by simpa using h)]
  simp [seenD]
theorem seenD_len (o : List Nat) : (seenD o).length = o.length := by simp [seenD]
theorem GT.ok {n : Nat} {zs : List (Nat × Nat)} (g : GT n zs) : OkT n zs := ⟨by have := g.small; omega, by have := g.small; have := g.len; omega, fun z hz => by have := g.lt z hz; omega⟩
def S12 : FS := fun os ds κ => os = [] ∧ ∃ (n : Nat) (zs : List (Nat × Nat)), ds = [.int n, .tuple (eP zs)] ∧ GT n zs ∧ κ (oB true) []
theorem w12 {X : Cx} {G : Gx} (c : C12 X) (h13 : F13 X 0 S13) : WB X G 7 2 0 st12 S12 := by
  rintro os ds κ - - ⟨rfl, n, zs, rfl, g, h⟩
  show Exs X G [.val (oI n), .val (.sh (.tuple (eP zs))), .un, .un, .un, .un, .un] _ _
  refine exs_cons (ex_par3 c 2 3 4 (av_cons (ev_call c 0 h13 (av_cons (ev_nm c 0 (av_cons (ev_nm c 1 (av_nil ⟨[.int n, .tuple (eP zs)], rfl, rfl, rfl, n, zs, rfl, g.ok, av_cons (ev_lstS (av_cons (ev_int (av_nil ⟨[.int 0], rfl, by decide, av_cons (ev_int (av_nil ⟨_, _, _, rfl, rfl, rfl, rfl, ?_⟩))⟩))))⟩))))))))
  refine exs_cons (ex_set c 5 (ev_disp1 (ev_int (ev_bl ⟨.inl 0, .bool true, .i 0, rfl, rfl, ?_⟩))))
  refine exs_cons (ex_while c (fun m ρ => ∃ o t s6, Seen n zs o t ∧ m = n - t ∧ ρ = [.val (oI n), .val (.sh (.tuple (eP zs))), .val (.ls (nearT n zs)), .val (.ls (eN o)), .val (oI t), .val (.dc (seenD o)), s6]) ⟨n, [0], 0, .un, Seen.start g, by omega, rfl⟩ ?_)
  rintro m ρ ⟨o, t, s6, sn, rfl, rfl⟩
  have hn := g.small
  refine tv_cmp (ev_lt (ev_nm c 4 (is_I (ev_len c 0 (pv_nm c 3 (is_ls (is_I (is_B ⟨fun h1 => ?_, fun h1 => ?_⟩))))))))
  · rw [eN_len] at h1
    have ht : t < o.length := by simpa using h1
    obtain ⟨u, hu⟩ : ∃ u, o[t]? = some u := ⟨o[t], List.getElem?_eq_getElem ht⟩
    have hun : u < n := sn.lt u (List.mem_of_getElem? hu)
    have sn2 := sn.step g hu
    refine exs_cons (ex_for c (fun rest ρ => ∃ l o1 s6, rest = shs (eN l) ∧ o1.Nodup ∧ vis o1 l = vis o (srt (nbrs zs u)) ∧ ρ = [.val (oI n), .val (.sh (.tuple (eP zs))), .val (.ls (nearT n zs)), .val (.ls (eN o1)), .val (oI t), .val (.dc (seenD o1)), s6])
      (iv_tup (ev_ixN c 2 (ev_ixN c 3 (ev_nm c 4 (is_I ⟨_, _, .int u, hat rfl (.val _), .ls, ?_, is_I ⟨_, _, .tuple (eN (srt (nbrs zs u))), hat rfl (.val _), .ls, ?_, is_T ⟨_, o, s6, rfl, sn.nd, rfl, rfl⟩⟩⟩)))) ) ?_ ?_)
    · rw [atI_nat _ _ (by rw [eN_len]; exact ht), eN_get, hu]; rfl
    · rw [atI_nat _ _ (by simp [nearT, near]; exact hun)]
      simp [nearT, near, hun]
    · rintro x rest ρ ⟨l, o1, s6, e1, nd, ev, rfl⟩
      match l, e1 with
      | v :: l, e1 =>
        injection e1 with ex er
        subst ex er
        have hol : o1.length ≤ n := by
          obtain ⟨_, _, m2, e⟩ := vis_spec (v :: l) o1 nd
          have := sn2.len
          rw [← ev, e, List.length_append] at this
          omega
        refine tg_nm c 6 (exs_one (ex_if (tv_cmp (ev_dnin c 5 (ev_nm c 6 ⟨_, _, .inl v, hat rfl (.val _), .dc _, .i _, is_B ⟨fun h2 => ?_, fun h2 => ?_⟩⟩) (by rfl)))))
        · rw [valD_seen] at h2
          have hv : v ∉ o1 := by simpa using h2
          refine exs_cons (ex_asg c (ev_bl (tg_setD c 5 (ev_nm c 6 ⟨_, _, .inl v, .bool true, rfl, .val _, .i _, rfl, ?_, ?_⟩))))
          · rw [seenD_len]; omega
          · rw [putD_seen hv]
            refine exs_one (ex_expr (ev_append c 3 (ev_nm c 6 ⟨_, _, _, rfl, .val _, .ls ?_, ?_⟩)))
            · rw [eN_len]; omega
            · refine ⟨l, o1 ++ [v], .val (oI v), rfl, ?_, ?_, ?_⟩
              · rw [List.nodup_append]
                refine ⟨nd, by simp, fun a ha b hb e => ?_⟩
                simp at hb
                subst hb e
                exact hv ha
              · rw [← ev, vis_cons, if_neg hv]
              · rw [eN_app]; rfl
        · rw [valD_seen] at h2
          have hv : v ∈ o1 := by simpa using h2
          exact exs_nil ⟨l, o1, .val (oI v), rfl, nd, by rw [← ev, vis_cons, if_pos hv], rfl⟩
    · rintro ρ ⟨l, o1, s6, e1, nd, ev, rfl⟩
      have el : l = [] := by
        cases l with
        | nil => rfl
        | cons => cases e1
      subst el
      have eo : o1 = vis o (srt (nbrs zs u)) := ev
      subst eo
      refine exs_one (ex_aug c 4 ip_add (m := t) (ev_int (is_I ⟨rfl, n - (t + 1), ?_, vis o (srt (nbrs zs u)), t + 1, s6, sn2, rfl, rfl⟩)))
      have := sn2.len
      have := sn2.tl
      omega
  · rw [eN_len] at h1
    have ht : ¬ t < o.length := by simpa using h1
    have et : t = o.length := by have := sn.tl; omega
    subst et
    have el := sn.all g
    refine exs_one (ex_ret (ev_eq c (ev_len c 0 (pv_nm c 3 (is_ls (ev_nm c 0 ⟨shp_int _, shp_int _, ?_⟩))))))
    rw [show PyData.eqv (OT.sh (.int ((eN o).length : Int))).frz (OT.sh (.int (n : Int))).frz = true by
      show PyData.eqv (.int _) (.int _) = true
      rw [eqv_int, eN_len, el]; simp]
    exact endP h
end Pd
set_option Elab.async false
set_option linter.all false
set_option maxRecDepth 100000
set_option autoImplicit false
namespace Pd
open PySem PySem.Spec PyProof.Rows L2
def treeD (n : Nat) (zs : List (Nat × Nat)) : PyData := .tuple [.str "tree", .int n, .tuple (eP zs)]
theorem shp_tree : shp (.str "tree") := by unfold shp; decide +kernel
theorem rise_of {ds : List PyData} (h : ∀ i a b, ds[i]? = some a → ds[i + 1]? = some b → LtD a b) : Rise ds := by
  intro o ho
  obtain ⟨i, hi⟩ := List.mem_iff_getElem?.mp ho
  rw [zipI_get] at hi
  have e : (cutD ds (some 1) none)[i]? = ds[i + 1]? := by
    unfold cutD
    rw [List.getElem?_take]
    have h1 : HT.sIx ds.length 0 (some 1) = min 1 ds.length := by unfold HT.sIx; simp
    have h2 : HT.sIx ds.length ds.length none = ds.length := rfl
    rw [h1, h2, List.getElem?_drop]
    by_cases hz : ds.length = 0
    · have : ds = [] := List.length_eq_zero_iff.mp hz
      subst this
      simp
    · have hm : min 1 ds.length = 1 := by omega
      rw [hm]
      split
      · rw [Nat.add_comm]
      · rw [List.getElem?_eq_none (by omega)]
  rw [e] at hi
  cases ha : ds[i]? with
  | none => rw [ha] at hi; cases hi
  | some a =>
    cases hb : ds[i + 1]? with
    | none => rw [ha, hb] at hi; cases hi
    | some b => rw [ha, hb] at hi; cases hi; exact ⟨a, b, rfl, h i a b ha hb⟩
theorem GT.rise {n : Nat} {zs : List (Nat × Nat)} (g : GT n zs) : Rise (eP zs) := rise_of fun i a b ha hb => by
  rw [eP_get] at ha hb
  obtain ⟨z, hz, rfl⟩ := Option.map_eq_some_iff.mp ha
  obtain ⟨w, hw, rfl⟩ := Option.map_eq_some_iff.mp hb
  refine .p ?_
  obtain ⟨h1, e1⟩ := List.getElem?_eq_some_iff.mp hz
  obtain ⟨h2, e2⟩ := List.getElem?_eq_some_iff.mp hw
  have := List.pairwise_iff_getElem.mp g.ord i (i + 1) h1 h2 (by omega)
  rw [e1, e2] at this
  simp
  omega
theorem rise_nats {l : List Nat} (h : l.Pairwise (· < ·)) : Rise (eN l) := rise_of fun i a b ha hb => by
  rw [eN_get] at ha hb
  obtain ⟨z, hz, rfl⟩ := Option.map_eq_some_iff.mp ha
  obtain ⟨w, hw, rfl⟩ := Option.map_eq_some_iff.mp hb
  refine .i ?_
  obtain ⟨h1, e1⟩ := List.getElem?_eq_some_iff.mp hz
  obtain ⟨h2, e2⟩ := List.getElem?_eq_some_iff.mp hw
  have := List.pairwise_iff_getElem.mp h i (i + 1) h1 h2 (by omega)
  rw [e1, e2] at this
  omega
theorem bel_ok {x n : Nat} (h : x < n) : isBel (.int x) n = true := by
  show (decide (0 ≤ (x : Int)) && decide ((x : Int) < n)) = true
  simp; omega
theorem eP_mem {zs : List (Nat × Nat)} {o : OT} (h : o ∈ shs (eP zs)) : ∃ z ∈ zs, o = .sh (pr (z.1, z.2)) := by
  simp only [shs, eP, prs, iP, List.map_map, List.mem_map] at h
  obtain ⟨z, hz, rfl⟩ := h
  exact ⟨z, hz, rfl⟩
theorem eN_mem {zs : List Nat} {o : OT} (h : o ∈ shs (eN zs)) : ∃ z ∈ zs, o = oI z := by
  simp only [shs, eN, nums, iN, List.map_map, List.mem_map] at h
  obtain ⟨z, hz, rfl⟩ := h
  exact ⟨z, hz, rfl⟩
theorem shs_len (ds : List PyData) : (shs ds).length = ds.length := by simp [shs]
theorem GT.zl {n : Nat} {zs : List (Nat × Nat)} (g : GT n zs) : zs.length < 40 := by have := g.small; have := g.len; omega
theorem row_ok {ds : List PyData} {n : Int} (h : (ds.length : Int) = n) : isRow (.tuple ds) n = true := by show decide _ = true; simpa using h
def S14 : FS := fun os ds κ => os = [] ∧ ∃ (n : Nat) (zs : List (Nat × Nat)), ds = [.int n, .tuple (eP zs)] ∧ GT n zs ∧ κ (oB true) []
theorem w14 {X : Cx} {G : Gx} (c : C14 X) (hB : BN X) (h6 : F6 X 0 S6) (h7 : F7 X 0 S7) (h8 : F8 X 0 S8) : WB X G 5 2 0 st14 S14 := by
  rintro os ds κ - - ⟨rfl, n, zs, rfl, g, h⟩
  show Exs X G [.val (oI n), .val (.sh (.tuple (eP zs))), .un, .un, .un] _ _
  have zl := g.zl
  have e1 : isRow (.tuple (eP zs)) ((n : Int) - 1) = true := row_ok (by rw [eP_len]; have := g.len; omega)
  refine exs_cons (ex_if (tv_w (wv_or (tv_not (tv_val (ev_call c 0 h7 (av_cons (ev_nm c 1 (av_cons (ev_sub (ev_nm c 0 (is_I (ev_int (is_I (av_nil ⟨[.tuple (eP zs), .int ((n : Int) - 1)], rfl, rfl, rfl, _, _, rfl, is_B ?_⟩)))))))))))))))
  rw [e1]
  refine ⟨(fun z => nomatch z), fun _ => wv_or1 (tv_not (tv_val (ev_allC c 0 ow14_0 (fun o => ∃ z ∈ zs, o = .sh (pr ((z.1 : Int), (z.2 : Int)))) [.val (oI n), .val (.sh (.tuple (eP zs))), .un, .un, .un] (iv_tup (ev_nm c 1 (is_T ⟨?_, rfl, fun o ho => eP_mem ho, is_B ⟨(fun z => nomatch z), fun _ => ?_⟩⟩))) ?_)))⟩
  · rw [shs_len, eP_len]; omega
  · refine exs_nil (exs_cons (ex_if (tv_not (tv_val (ev_allC c 0 ow14_1 (fun o => ∃ z ∈ zs, o = .sh (pr ((z.1 : Int), (z.2 : Int)))) [.val (oI n), .val (.sh (.tuple (eP zs))), .un, .un, .un] (iv_tup (ev_nm c 1 (is_T ⟨?_, rfl, fun o ho => eP_mem ho, is_B ⟨(fun z => nomatch z), fun _ => ?_⟩⟩))) ?_)))))
    · rw [shs_len, eP_len]; omega
    · refine exs_nil (exs_one (ex_ret (ev_call c 1 h8 (av_cons (ev_nm c 1 (av_nil ⟨[.tuple (eP zs)], rfl, rfl, rfl, _, rfl, ?_, g.rise, endP h⟩))))))
      rw [eP_len]; omega
    · rintro x ⟨z, hz, rfl⟩ s H C cl fp
      have gz := g.lt z hz
      refine tw_tupS (kb14_1 c hB s H C cl fp) (tws_cons (tw_nm (kb14_1 c hB s H C cl fp) 3 (tws_cons (tw_nm (kb14_1 c hB s H C cl fp) 4 (tws_nil fun s H C cl fp => ?_)))))
      refine ev_and (ev_call (kb14_1 c hB s H C cl fp) 0 h6 (av_cons (ev_nm (kb14_1 c hB s H C cl fp) 3 (av_cons (ev_nm (kb14_1 c hB s H C cl fp) 0 (av_nil ⟨[.int z.1, .int n], rfl, rfl, rfl, _, _, rfl, is_B ?_⟩))))))
      rw [bel_ok (by omega)]
      refine ⟨fun _ => ev_and (ev_call (kb14_1 c hB s H C cl fp) 0 h6 (av_cons (ev_nm (kb14_1 c hB s H C cl fp) 4 (av_cons (ev_nm (kb14_1 c hB s H C cl fp) 0 (av_nil ⟨[.int z.2, .int n], rfl, rfl, rfl, _, _, rfl, is_B ?_⟩)))))), fun q => nomatch q⟩
      rw [bel_ok (by omega)]
      refine ⟨fun _ => ev_one (ev_lt (ev_nm (kb14_1 c hB s H C cl fp) 3 (is_I (ev_nm (kb14_1 c hB s H C cl fp) 4 (is_I ⟨rfl, ?_⟩))))), fun q => nomatch q⟩
      rw [decide_eq_true (by omega)]
  · rintro x ⟨z, hz, rfl⟩ s H C cl fp
    refine tw_nm (kb14_0 c hB s H C cl fp) 2 fun s H C cl fp => ev_call (kb14_0 c hB s H C cl fp) 0 h7 (av_cons (ev_nm (kb14_0 c hB s H C cl fp) 2 (av_cons (ev_int (av_nil ⟨[pr (z.1, z.2), .int 2], rfl, rfl, rfl, _, _, rfl, rfl, rfl⟩)))))
def S15 : FS := fun os ds κ => os = [] ∧ ∃ (n : Nat) (zs : List (Nat × Nat)), ds = [treeD n zs] ∧ GT n zs ∧ κ (oB true) []
theorem w15 {X : Cx} {G : Gx} (c : C15 X) (hT : GlS X "TREE" "tree") (hM : GlI X "MOST_PLACES" 40) (h7 : F7 X 0 S7) (h4 : F4 X 0 S4) (h14 : F14 X 0 S14) (h12 : F12 X 0 S12) : WB X G 1 1 0 st15 S15 := by
  rintro os ds κ - - ⟨rfl, n, zs, rfl, g, h⟩
  show Exs X G [.val (.sh (treeD n zs))] _ _
  have hn := g.small
  have hp := g.pos
  have ix : ∀ {Ψ : Post} {j : Nat} {d : PyData} {p : Pos} {px : Pos} {z p2} , (j < 3) → [PyData.str "tree", .int n, .tuple (eP zs)][j]? = some d → Ψ (.sh d) [.val (.sh (treeD n zs))] → Ev X G [.val (.sh (treeD n zs))] (.Subscript (.Name "value" px) (.Constant (.int (j : Int)) z p2) p) Ψ :=
    fun hj hd hq => ev_ixN c 0 (ev_int (is_I ⟨_, _, _, hat rfl (.val _), .sht, by rw [atI_nat _ _ hj]; exact hd, hq⟩))
  refine exs_cons (ex_if (tv_w (wv_or (tv_not (tv_val (ev_call c 0 h7 (av_cons (ev_nm c 0 (av_cons (ev_int (av_nil ⟨[treeD n zs, .int 3], rfl, rfl, rfl, _, _, rfl, is_B ⟨(fun z => nomatch z), fun _ => ?_⟩⟩)))))))))))
  refine wv_or (tv_not (tv_val (ev_isi c 0 1 isi_str boot_str (pv_ev (ix (j := 0) (by decide) rfl (is_B ⟨(fun z => nomatch z), fun _ => ?_⟩))))))
  refine wv_or (tv_cmp (ev_ne c (ix (j := 0) (by decide) rfl (ev_glS c 1 hT ⟨shp_tree, shp_tree, is_B ?_⟩))))
  rw [show PyData.eqv (OT.sh (.str "tree")).frz (OT.sh (.str "tree")).frz = true from eqv_rfl _ (SeqAt.canLay_of_shaped shp_tree)]
  refine ⟨(fun z => nomatch z), fun _ => wv_or1 (tv_not (tv_val (ev_call c 2 h4 (av_cons (ix (j := 1) (by decide) rfl (av_nil ⟨[.int n], rfl, rfl, rfl, _, rfl, is_B ⟨(fun z => nomatch z), fun _ => ?_⟩⟩))))))⟩
  refine exs_nil (exs_cons (ex_if (tv_w (wv_or (tv_not (tv_chainI op_le op_le (by rfl) (ev_int (is_I (ix (j := 1) (by decide) rfl (is_I ⟨fun _ => ev_glI c 3 hM (is_I ?_), fun z => ?_⟩))))))))))
  · rw [decide_eq_true (show (n : Int) ≤ 40 by omega)]
    refine ⟨(fun z => nomatch z), fun _ => wv_or1 (tv_not (tv_val (ev_call c 4 h14 (av_cons (ix (j := 1) (by decide) rfl (av_cons (ix (j := 2) (by decide) rfl (av_nil ⟨[.int n, .tuple (eP zs)], rfl, rfl, rfl, n, zs, rfl, g, is_B ⟨(fun z => nomatch z), fun _ => ?_⟩⟩))))))))⟩
    exact exs_nil (exs_one (ex_ret (ev_call c 5 h12 (av_cons (ix (j := 1) (by decide) rfl (av_cons (ix (j := 2) (by decide) rfl (av_nil ⟨[.int n, .tuple (eP zs)], rfl, rfl, rfl, n, zs, rfl, g, endP h⟩))))))))
  · have : decide ((1 : Int) ≤ n) = true := decide_eq_true (by omega)
    rw [this] at z; cases z
end Pd
set_option Elab.async false
set_option linter.all false
set_option maxRecDepth 100000
set_option autoImplicit false
namespace Pd
open PySem PySem.Spec PyProof.Rows L2
theorem no_tup {ds : List PyData} {P : Prop} (h : isiT "tuple" (OT.sh (.tuple ds)).frz = false) : P := absurd h (by simp [isiT, isiN, tyn, OT.frz])
def S16 : FS := fun os ds κ => os = [] ∧ ∃ a m b d, ds = [.tuple [a, .int m, b], d] ∧ κ (oB (isBel d m)) []
theorem w16 {X : Cx} {G : Gx} (c : C16 X) (h6 : F6 X 0 S6) : WB X G 2 2 0 st16 S16 := by
  rintro os ds κ - - ⟨rfl, a, m, b, d, rfl, h⟩
  show Exs X G [.val (.sh (.tuple [a, .int m, b])), .val (.sh d)] _ _
  exact exs_one (ex_ret (ev_call c 0 h6 (av_cons (ev_nm c 1 (av_cons (ev_ixN c 0 (ev_int (is_I ⟨_, _, _, hat rfl (.val _), .sht, rfl, av_nil ⟨[d, .int m], rfl, rfl, rfl, _, _, rfl, endP h⟩⟩))))))))
def S17 : FS := fun os ds κ => os = [] ∧ ∃ (a : PyData) (m : Nat) (b : PyData) (l : List Nat), ds = [.tuple [a, .int m, b], .tuple (eN l)] ∧ l.length < 1000 ∧ (∀ x ∈ l, x < m) ∧ l.Pairwise (· < ·) ∧ κ (oB true) []
theorem w17 {X : Cx} {G : Gx} (c : C17 X) (hB : BN X) (h16 : F16 X 0 S16) (h8 : F8 X 0 S8) : WB X G 3 2 0 st17 S17 := by
  rintro os ds κ - - ⟨rfl, a, m, b, l, rfl, hl, hlt, hs, h⟩
  show Exs X G [.val (.sh (.tuple [a, .int m, b])), .val (.sh (.tuple (eN l))), .un] _ _
  refine exs_one (ex_ret (ev_and (ev_isi c 0 1 isi_tuple boot_tuple (pv_nm c 1 (is_B ⟨fun _ => ?_, fun z => no_tup z⟩)))))
  refine ev_and (ev_allC c 2 ow17_0 (fun o => ∃ z ∈ l, o = oI z) [.val (.sh (.tuple [a, .int m, b])), .val (.sh (.tuple (eN l))), .un] (iv_tup (ev_nm c 1 (is_T ⟨?_, rfl, fun o ho => eN_mem ho, is_B ⟨fun _ => ?_, fun z => nomatch z⟩⟩))) ?_)
  · rw [shs_len, eN_len]; omega
  · refine ev_one (ev_call c 0 h8 (av_cons (ev_nm c 1 (av_nil ⟨[.tuple (eN l)], rfl, rfl, rfl, _, rfl, ?_, rise_nats hs, endP h⟩))))
    rw [eN_len]; omega
  · rintro x ⟨z, hz, rfl⟩ s H C cl fp
    refine tw_nm (kb17_0 c hB s H C cl fp) 2 fun s H C cl fp => ev_call (kb17_0 c hB s H C cl fp) 0 h16 (av_cons (ev_nm (kb17_0 c hB s H C cl fp) 0 (av_cons (ev_nm (kb17_0 c hB s H C cl fp) 2 (av_nil ⟨[.tuple [a, .int m, b], .int z], rfl, rfl, rfl, _, _, _, _, rfl, rfl, ?_⟩)))))
    rw [bel_ok (hlt z hz)]
def S18 : FS := fun os ds κ => os = [] ∧ ∃ a d b, ds = [.tuple [a, d, b]] ∧ κ (.sh d) []
theorem w18 {X : Cx} {G : Gx} (c : C18 X) : WB X G 1 1 0 st18 S18 := by
  rintro os ds κ - - ⟨rfl, a, d, b, rfl, h⟩
  show Exs X G [.val (.sh (.tuple [a, d, b]))] _ _
  exact exs_one (ex_ret (ev_ixN c 0 (ev_int (is_I ⟨_, _, _, hat rfl (.val _), .sht, rfl, endP h⟩))))
def S19 : FS := fun os ds κ => os = [] ∧ ∃ a d b, ds = [.tuple [a, d, b]] ∧ κ (.sh b) []
theorem w19 {X : Cx} {G : Gx} (c : C19 X) : WB X G 1 1 0 st19 S19 := by
  rintro os ds κ - - ⟨rfl, a, d, b, rfl, h⟩
  show Exs X G [.val (.sh (.tuple [a, d, b]))] _ _
  exact exs_one (ex_ret (ev_ixN c 0 (ev_int (is_I ⟨_, _, _, hat rfl (.val _), .sht, rfl, endP h⟩))))
def S20 : FS := fun os ds κ => os = [] ∧ ∃ n zs, ds = [treeD n zs] ∧ OkT n zs ∧ κ (.ls (nearT n zs)) []
theorem w20 {X : Cx} {G : Gx} (c : C20 X) (h13 : F13 X 0 S13) : WB X G 1 1 0 st20 S20 := by
  rintro os ds κ - - ⟨rfl, n, zs, rfl, ok, h⟩
  show Exs X G [.val (.sh (treeD n zs))] _ _
  exact exs_one (ex_ret (ev_call c 0 h13 (av_cons (ev_ixN c 0 (ev_int (is_I ⟨_, _, .int n, hat rfl (.val _), .sht, rfl, av_cons (ev_ixN c 0 (ev_int (is_I ⟨_, _, .tuple (eP zs), hat rfl (.val _), .sht, rfl, av_nil ⟨[.int n, .tuple (eP zs)], rfl, rfl, rfl, n, zs, rfl, ok, endP h⟩⟩)))⟩))))))
def S21 : FS := fun os ds κ => os = [] ∧ ∃ n zs, ds = [treeD n zs] ∧ GT n zs ∧ κ (.sh (treeD n zs)) []
theorem w21 {X : Cx} {G : Gx} (c : C21 X) (h15 : F15 X 0 S15) : WB X G 1 1 0 st21 S21 := by
  rintro os ds κ - - ⟨rfl, n, zs, rfl, g, h⟩
  show Exs X G [.val (.sh (treeD n zs))] _ _
  refine exs_cons (ex_if (tv_not (tv_val (ev_call c 0 h15 (av_cons (ev_nm c 0 (av_nil ⟨[treeD n zs], rfl, rfl, rfl, n, zs, rfl, g, is_B ⟨(fun z => nomatch z), fun _ => ?_⟩⟩)))))))
  exact exs_nil (exs_one (ex_ret (ev_nm c 0 (endP h))))
/-! stretches -/
def Strs (L : List (Nat × Nat)) : Prop := L.length ≤ 40 ∧ ∀ z ∈ L, z.1 ≤ z.2 ∧ z.2 < 100
def prN (z : Nat × Nat) : PyData := pr ((z.1 : Int), (z.2 : Int))
def S25 : FS := fun os ds κ => os = [] ∧ ∃ z : Nat × Nat, ds = [prN z] ∧ z.1 ≤ z.2 ∧ z.2 < 100 ∧ κ (oB true) []
theorem w25 {X : Cx} {G : Gx} (c : C25 X) (hB : BN X) (hN : GlI X "MOST_NUMBER" 99) (h7 : F7 X 0 S7) (h6 : F6 X 0 S6) : WB X G 2 1 0 st25 S25 := by
  rintro os ds κ - - ⟨rfl, z, rfl, h1, h2, h⟩
  show Exs X G [.val (.sh (prN z)), .un] _ _
  refine exs_cons (ex_if (tv_w (wv_or (tv_not (tv_val (ev_call c 0 h7 (av_cons (ev_nm c 0 (av_cons (ev_int (av_nil ⟨[prN z, .int 2], rfl, rfl, rfl, _, _, rfl, is_B ⟨(fun z => nomatch z), fun _ => ?_⟩⟩)))))))))))
  refine wv_or1 (tv_not (tv_val (ev_allC c 0 ow25_0 (fun o => ∃ x : Nat, x < 100 ∧ o = oI x) [.val (.sh (prN z)), .un] (iv_tup (ev_nm c 0 (is_T (ds := eN [z.1, z.2]) ⟨?_, rfl, fun o ho => ?_, is_B ⟨(fun z => nomatch z), fun _ => ?_⟩⟩))) ?_)))
  · show 2 < 16777216; decide
  · obtain ⟨x, hx, rfl⟩ := eN_mem ho
    refine ⟨x, ?_, rfl⟩
    simp at hx
    rcases hx with rfl | rfl <;> omega
  · refine exs_nil (exs_one (ex_ret (ev_le (ev_ixN c 0 (ev_int (is_I ⟨_, _, .int z.1, hat rfl (.val _), .sht, rfl, is_I (ev_ixN c 0 (ev_int (is_I ⟨_, _, .int z.2, hat rfl (.val _), .sht, rfl, is_I ?_⟩)))⟩))))))
    rw [decide_eq_true (by omega)]
    exact endP h
  · rintro o ⟨x, hx, rfl⟩ s H C cl fp
    refine tw_nm (kb25_0 c hB s H C cl fp) 1 fun s H C cl fp => ev_call (kb25_0 c hB s H C cl fp) 0 h6 (av_cons (ev_nm (kb25_0 c hB s H C cl fp) 1 (av_cons (ev_add (ev_glI (kb25_0 c hB s H C cl fp) 1 hN (is_I (ev_int (is_I (av_nil ⟨[.int x, .int 100], rfl, rfl, rfl, _, _, rfl, rfl, ?_⟩)))))))))
    rw [show isBel (.int x) 100 = true from bel_ok (n := 100) hx]
def S26 : FS := fun os ds κ => os = [] ∧ ∃ L, ds = [.tuple (eP L)] ∧ Strs L ∧ κ (oB true) []
theorem w26 {X : Cx} {G : Gx} (c : C26 X) (hB : BN X) (hM : GlI X "MOST_LAID" 40) (h25 : F25 X 0 S25) : WB X G 2 1 0 st26 S26 := by
  rintro os ds κ - - ⟨rfl, L, rfl, ⟨hl, hs⟩, h⟩
  show Exs X G [.val (.sh (.tuple (eP L))), .un] _ _
  refine exs_one (ex_ret (ev_and (ev_isi c 0 1 isi_tuple boot_tuple (pv_nm c 0 (is_B ⟨fun _ => ?_, fun z => no_tup z⟩)))))
  refine ev_and (ev_le (ev_len c 2 (pv_nm c 0 (is_st (is_I (ev_glI c 0 hM (is_I (is_B ?_))))))))
  rw [decide_eq_true (by rw [eP_len]; omega)]
  refine ⟨fun _ => ev_one (ev_allC c 3 ow26_0 (fun o => ∃ z ∈ L, o = .sh (pr ((z.1 : Int), (z.2 : Int)))) [.val (.sh (.tuple (eP L))), .un] (iv_tup (ev_nm c 0 (is_T ⟨?_, rfl, fun o ho => eP_mem ho, endP h⟩))) ?_), fun z => nomatch z⟩
  · rw [shs_len, eP_len]; omega
  · rintro o ⟨z, hz, rfl⟩ s H C cl fp
    exact tw_nm (kb26_0 c hB s H C cl fp) 1 fun s H C cl fp => ev_call (kb26_0 c hB s H C cl fp) 0 h25 (av_cons (ev_nm (kb26_0 c hB s H C cl fp) 1 (av_nil ⟨[prN z], rfl, rfl, rfl, z, rfl, (hs z hz).1, (hs z hz).2, rfl, rfl⟩)))
def meetB (z w : Nat × Nat) : Bool := decide (z.1 ≤ w.2) && decide (w.1 ≤ z.2)
def S27 : FS := fun os ds κ => os = [] ∧ ∃ z w : Nat × Nat, ds = [prN z, prN w] ∧ κ (oB (meetB z w)) []
theorem w27 {X : Cx} {G : Gx} (c : C27 X) : WB X G 2 2 0 st27 S27 := by
  rintro os ds κ - - ⟨rfl, z, w, rfl, h⟩
  show Exs X G [.val (.sh (prN z)), .val (.sh (prN w))] _ _
  refine exs_one (ex_ret (ev_and (ev_le (ev_ixN c 0 (ev_int (is_I ⟨_, _, .int z.1, hat rfl (.val _), .sht, rfl, is_I (ev_ixN c 1 (ev_int (is_I ⟨_, _, .int w.2, hat rfl (.val _), .sht, rfl, is_I (is_B ⟨fun h1 => ?_, fun h1 => ?_⟩)⟩)))⟩)))))) 
  · refine ev_one (ev_le (ev_ixN c 1 (ev_int (is_I ⟨_, _, .int w.1, hat rfl (.val _), .sht, rfl, is_I (ev_ixN c 0 (ev_int (is_I ⟨_, _, .int z.2, hat rfl (.val _), .sht, rfl, is_I ?_⟩)))⟩))))
    have e1 : decide (z.1 ≤ w.2) = true := by simpa using h1
    have e2 : decide ((w.1 : Int) ≤ (z.2 : Int)) = decide (w.1 ≤ z.2) := by
      by_cases h : w.1 ≤ z.2
      · rw [decide_eq_true h, decide_eq_true (by omega)]
      · rw [decide_eq_false h, decide_eq_false (by omega)]
    unfold meetB at h
    rw [e1, Bool.true_and] at h
    rw [e2]
    exact endP h
  · have e1 : decide (z.1 ≤ w.2) = false := by simpa using h1
    unfold meetB at h
    rw [e1, Bool.false_and] at h
    exact endP h
/-- what meets -/
def row (L : List (Nat × Nat)) (i : Nat) : List (Nat × Nat) := (List.range' (i + 1) (L.length - (i + 1))).filterMap fun j => if meetB (L.getD i (0, 0)) (L.getD j (0, 0)) = true then some (i, j) else none
def meets (L : List (Nat × Nat)) : List (Nat × Nat) := (List.range L.length).flatMap (row L)
theorem rngL_map : ∀ (m lo : Nat), rngL lo m = (List.range' lo m).map fun (v : Nat) => oI v
  | 0, _ => rfl
  | m + 1, lo => by
    rw [List.range'_succ, List.map_cons, ← rngL_map m (lo + 1)]
    rfl
theorem eP_app (l m : List (Nat × Nat)) : eP (l ++ m) = eP l ++ eP m := by simp [eP, prs, iP]
theorem row_len (L : List (Nat × Nat)) (i : Nat) : (row L i).length ≤ L.length := by
  unfold row
  refine Nat.le_trans (List.length_filterMap_le _ _) ?_
  rw [List.length_range']; omega
theorem fm_row (L : List (Nat × Nat)) (i : Nat) : List.filterMap (fun o => match o with | OT.sh (.int v) => (if meetB (L.getD i (0, 0)) (L.getD v.toNat (0, 0)) = true then some (prN (i, v.toNat)) else none) | _ => none) (rngL ((i + 1 : Nat) : Int) (L.length - (i + 1))) = eP (row L i) := by
  rw [rngL_map, List.filterMap_map]
  unfold row eP prs iP
  rw [List.map_map, List.map_filterMap]
  congr 1
  funext v
  simp only [Function.comp]
  show (if meetB (L.getD i (0, 0)) (L.getD (v : Int).toNat (0, 0)) = true then some (prN (i, (v : Int).toNat)) else none) = _
  rw [Int.toNat_natCast]
  split <;> rfl
theorem flat_len (L : List (Nat × Nat)) : ∀ i, ((List.range i).flatMap (row L)).length ≤ i * L.length
  | 0 => by simp
  | i + 1 => by
    rw [List.range_succ, List.flatMap_append, List.length_append]
    have a := flat_len L i
    have b := row_len L i
    simp only [List.flatMap_cons, List.flatMap_nil, List.append_nil]
    rw [Nat.succ_mul]; omega
def S28 : FS := fun os ds κ => os = [] ∧ ∃ L, ds = [.tuple (eP L)] ∧ L.length ≤ 40 ∧ κ (.sh (.list (eP (meets L)))) []
theorem enumI_mem {ds : List PyData} {rest : List PyData} {i : Nat} {x : PyData} (h : enumI i ds = x :: rest) : ∃ d ds', ds = d :: ds' ∧ x = .tuple [.int i, d] ∧ rest = enumI (i + 1) ds' := by
  cases ds with
  | nil => cases h
  | cons d ds' => injection h with h1 h2; exact ⟨d, ds', rfl, h1.symm, h2.symm⟩
theorem w28 {X : Cx} {G : Gx} (c : C28 X) (hB : BN X) (h27 : F27 X 0 S27) : WB X G 5 1 0 st28 S28 := by
  rintro os ds κ - - ⟨rfl, L, rfl, hl, h⟩
  show Exs X G [.val (.sh (.tuple (eP L))), .un, .un, .un, .un] _ _
  refine exs_cons (ex_set c 1 (ev_lstS (av_nil ⟨[], rfl, by decide, rfl, ?_⟩)))
  refine exs_cons (ex_for c (fun rest ρ => ∃ i s2 s3, i ≤ L.length ∧ rest = shs (enumI i (eP (L.drop i))) ∧ ρ = [.val (.sh (.tuple (eP L))), .val (.ls (eP ((List.range i).flatMap (row L)))), s2, s3, .un])
    (iv_enumT c 0 (ev_nm c 0 (is_T ⟨0, .un, .un, Nat.zero_le _, rfl, rfl⟩))) ?_ ?_)
  · rintro x rest ρ ⟨i, s2, s3, hi, e1, rfl⟩
    have hlt : i < L.length := by
      rcases Nat.lt_or_ge i L.length with q | q
      · exact q
      · rw [List.drop_eq_nil_of_le q] at e1; cases e1
    rw [List.drop_eq_getElem_cons hlt] at e1
    injection e1 with ex er
    subst ex er
    have hg : L.getD i (0, 0) = L[i] := by rw [List.getD_eq_getElem?_getD, List.getElem?_eq_getElem hlt]; rfl
    refine tg_tupS c (tgs_cons (tg_nm c 2 (tgs_cons (tg_nm c 3 (tgs_nil ?_)))))
    refine exs_one (ex_expr (ev_extend c 1 (ev_lcF c ow28_0 (fun o => match o with | OT.sh (.int v) => (if meetB (L.getD i (0, 0)) (L.getD v.toNat (0, 0)) = true then some (prN (i, v.toNat)) else none) | _ => none) (fun o => ∃ v : Nat, v < L.length ∧ o = oI v) [.val (.sh (.tuple (eP L))), .val (.ls (eP ((List.range i).flatMap (row L)))), .val (oI i), .val (.sh (prN L[i])), .un]
      (iv_range2 c 1 (ev_add (ev_nm c 2 (is_I (ev_int (is_I (is_I (ev_len c 2 (pv_nm c 0 (is_st (is_I ⟨?_, ?_, ?_, rfl, ?_, ?_⟩))))))))))) ?_)))
    · unfold R62; omega
    · unfold R62; rw [eP_len]; omega
    · rw [rngL_len, eP_len]; omega
    · rw [eP_len]
      intro o ho
      rw [show ((i : Int) + 1) = ((i + 1 : Nat) : Int) by omega, show (((L.length : Nat) : Int) - ((i + 1 : Nat) : Int)).toNat = L.length - (i + 1) by omega, rngL_map] at ho
      obtain ⟨v, hv, rfl⟩ := List.mem_map.mp ho
      rw [List.mem_range'_1] at hv
      exact ⟨v, by omega, rfl⟩
    · rw [eP_len, show ((i : Int) + 1) = ((i + 1 : Nat) : Int) by omega, show (((L.length : Nat) : Int) - ((i + 1 : Nat) : Int)).toNat = L.length - (i + 1) by omega, fm_row]
      refine ⟨_, _, _, rfl, .val _, .ls ?_, i + 1, .val (oI i), .val (.sh (prN L[i])), by omega, rfl, ?_⟩
      · rw [eP_len, eP_len]
        have h1 := row_len L i
        have h2 := flat_len L i
        have h3 : i * L.length ≤ 40 * 40 := Nat.mul_le_mul (by omega) hl
        omega
      · rw [List.range_succ, List.flatMap_append, List.flatMap_cons, List.flatMap_nil, List.append_nil, eP_app]
        rfl
    · rintro o ⟨v, hv, rfl⟩ s H C cl fp
      have hgv : L.getD v (0, 0) = L[v] := by rw [List.getD_eq_getElem?_getD, List.getElem?_eq_getElem hv]; rfl
      refine tw_nm (kb28_0 c hB s H C cl fp) 4 fun s H C cl fp => ts_one (tv_val (ev_call (kb28_0 c hB s H C cl fp) 0 h27 (av_cons (ev_nm (kb28_0 c hB s H C cl fp) 3 (av_cons (ev_ixN (kb28_0 c hB s H C cl fp) 0 (ev_nm (kb28_0 c hB s H C cl fp) 4 (is_I ⟨_, _, prN L[v], hat rfl (.val _), .sht, ?_, av_nil ⟨[prN L[i], prN L[v]], rfl, rfl, rfl, _, _, rfl, is_B ⟨fun hb s H C cl fp => ?_, fun hb => ⟨rfl, ?_⟩⟩⟩⟩))))))))
      · rw [atI_nat _ _ (by rw [eP_len]; exact hv), eP_get, List.getElem?_eq_getElem hv]; rfl
      · refine ev_tupS (av_cons (ev_nm (kb28_0 c hB s H C cl fp) 2 (av_cons (ev_nm (kb28_0 c hB s H C cl fp) 4 (av_nil ⟨[.int i, .int v], rfl, by simp, rfl, _, ?_, rfl⟩)))))
        show (if meetB (L.getD i (0, 0)) (L.getD (v : Int).toNat (0, 0)) = true then some (prN (i, (v : Int).toNat)) else none) = _
        rw [Int.toNat_natCast, hg, hgv, hb, if_pos rfl]; rfl
      · show (if meetB (L.getD i (0, 0)) (L.getD (v : Int).toNat (0, 0)) = true then some (prN (i, (v : Int).toNat)) else none) = _
        rw [Int.toNat_natCast, hg, hgv, hb]; rfl
  · rintro ρ ⟨i, s2, s3, hi, e1, rfl⟩
    have hge : L.length ≤ i := by
      rcases Nat.lt_or_ge i L.length with q | q
      · rw [List.drop_eq_getElem_cons q] at e1; cases e1
      · exact q
    have ei : i = L.length := by omega
    subst ei
    exact exs_one (ex_ret (ev_nmF (o := .ls (eP (meets L))) c 1 (endP h)))
end Pd
set_option Elab.async false
set_option linter.all false
set_option maxRecDepth 100000
set_option autoImplicit false
namespace Pd
open PySem PySem.Spec PyProof.Rows L2
theorem shp_eP {L : List (Nat × Nat)} : shp (.list (eP L)) := (Nm.list (Nm.prs 0 _)).shp (by decide)
theorem iP_inj {l m : List (Nat × Nat)} : iP l = iP m ↔ l = m := by
  constructor
  · intro h
    induction l generalizing m with
    | nil => cases m with
      | nil => rfl
      | cons => cases h
    | cons x l ih => cases m with
      | nil => cases h
      | cons y m =>
        simp only [iP, List.map_cons, List.cons.injEq, Prod.mk.injEq] at h
        rw [ih h.2]
        congr 1
        obtain ⟨a, b⟩ := x
        obtain ⟨c, d⟩ := y
        simp at h ⊢
        omega
  · exact fun h => by rw [h]
theorem eqv_eP (l m : List (Nat × Nat)) : PyData.eqv (.list (eP l)) (.list (eP m)) = decide (l = m) := by
  show PyData.eqvAll (prs (iP l)) (prs (iP m)) = _
  rw [eqvAll_prs]
  by_cases h : l = m
  · rw [decide_eq_true h, decide_eq_true (iP_inj.mpr h)]
  · rw [decide_eq_false h, decide_eq_false (fun e => h (iP_inj.mp e))]
def S29 : FS := fun os ds κ => os = [] ∧ ∃ n zs L, ds = [treeD n zs, .tuple (eP L)] ∧ Strs L ∧ L.length = n ∧ κ (oB (decide (meets L = zs))) []
theorem w29 {X : Cx} {G : Gx} (c : C29 X) (h26 : F26 X 0 S26) (h18 : F18 X 0 S18) (h19 : F19 X 0 S19) (h28 : F28 X 0 S28) : WB X G 2 2 0 st29 S29 := by
  rintro os ds κ - - ⟨rfl, n, zs, L, rfl, hs, hl, h⟩
  show Exs X G [.val (.sh (treeD n zs)), .val (.sh (.tuple (eP L)))] _ _
  refine exs_cons (ex_if (tv_w (wv_or (tv_not (tv_val (ev_call c 0 h26 (av_cons (ev_nm c 1 (av_nil ⟨[.tuple (eP L)], rfl, rfl, rfl, L, rfl, hs, is_B ⟨(fun z => nomatch z), fun _ => ?_⟩⟩)))))))))
  refine wv_or1 (tv_cmp (ev_ne c (ev_len c 0 (pv_nm c 1 (is_st (ev_call c 1 h18 (av_cons (ev_nm c 0 (av_nil ⟨[treeD n zs], rfl, rfl, rfl, _, .int n, _, rfl, shp_int _, shp_int _, is_B ?_⟩)))))))))
  rw [show PyData.eqv (OT.sh (.int ((eP L).length : Int))).frz (OT.sh (.int (n : Int))).frz = true by
    show PyData.eqv (.int _) (.int _) = true
    rw [eqv_int, eP_len, hl]; simp]
  refine ⟨(fun z => nomatch z), fun _ => exs_nil ?_⟩
  refine exs_one (ex_ret (ev_eq c (ev_call c 2 h28 (av_cons (ev_nm c 1 (av_nil ⟨[.tuple (eP L)], rfl, rfl, rfl, L, rfl, hs.1, ?_⟩))))))
  refine ev_list c 1 (pv_ev (ev_call c 3 h19 (av_cons (ev_nm c 0 (av_nil ⟨[treeD n zs], rfl, rfl, rfl, _, _, .tuple (eP zs), rfl, is_st ⟨shp_eP, shp_eP, ?_⟩⟩)))))
  rw [show PyData.eqv (OT.sh (.list (eP (meets L)))).frz (OT.ls (eP zs)).frz = decide (meets L = zs) from eqv_eP _ _]
  exact endP h
/-- all the stretches are as long -/
def gaps (L : List (Nat × Nat)) : List Int := L.map fun z => (z.2 : Int) - (z.1 : Int)
def S33 : FS := fun os ds κ => os = [] ∧ ∃ n zs L, ds = [treeD n zs, .tuple (eP L)] ∧ Strs L ∧ L.length = n ∧ κ (oB (decide (meets L = zs) && decide ((ddL [] (gaps L)).length = 1))) []
theorem fm_gaps (L : List (Nat × Nat)) : List.filterMap (fun o => match o with | OT.sh (.tuple [.int b, .int e]) => some (PyData.int (e - b)) | _ => none) (shs (eP L)) = nums (gaps L) := by
  unfold shs eP prs iP nums gaps
  rw [List.map_map, List.map_map, List.filterMap_map, List.map_map, ← List.filterMap_eq_map]
  rfl
theorem w33 {X : Cx} {G : Gx} (c : C33 X) (hB : BN X) (h29 : F29 X 0 S29) : WB X G 4 2 0 st33 S33 := by
  rintro os ds κ - - ⟨rfl, n, zs, L, rfl, hs, hl, h⟩
  show Exs X G [.val (.sh (treeD n zs)), .val (.sh (.tuple (eP L))), .un, .un] _ _
  refine exs_cons (ex_if (tv_not (tv_val (ev_call c 0 h29 (av_cons (ev_nm c 0 (av_cons (ev_nm c 1 (av_nil ⟨[treeD n zs, .tuple (eP L)], rfl, rfl, rfl, n, zs, L, rfl, hs, hl, is_B ⟨fun h1 => ?_, fun h1 => ?_⟩⟩)))))))))
  · have e : decide (meets L = zs) = false := by simpa using h1
    rw [e, Bool.false_and] at h
    exact exs_one (ex_ret (ev_bl (endP h)))
  · have e : decide (meets L = zs) = true := by simpa using h1
    rw [e, Bool.true_and] at h
    refine exs_nil (exs_one (ex_ret (ev_eq c (ev_lenset c 0 1 (ev_lcF c ow33_0 (fun o => match o with | OT.sh (.tuple [.int b, .int e]) => some (PyData.int (e - b)) | _ => none) (fun o => ∃ z ∈ L, o = .sh (pr ((z.1 : Int), (z.2 : Int)))) [.val (.sh (treeD n zs)), .val (.sh (.tuple (eP L))), .un, .un]
      (iv_tup (ev_nm c 1 (is_T ⟨?_, rfl, fun o ho => eP_mem ho, ?_⟩))) ?_)))))
    · rw [shs_len, eP_len]; have := hs.1; omega
    · rw [fm_gaps]
      refine ⟨gaps L, .ls _, ?_, ev_int ⟨shp_int _, shp_int _, ?_⟩⟩
      · simp [gaps]; have := hs.1; omega
      · rw [show PyData.eqv (OT.sh (.int ((ddL [] (gaps L)).length : Int))).frz (OT.sh (.int 1)).frz = decide ((ddL [] (gaps L)).length = 1) by
          show PyData.eqv (.int _) (.int _) = _
          rw [eqv_int]
          by_cases q : (ddL [] (gaps L)).length = 1
          · rw [decide_eq_true q, decide_eq_true (by omega)]
          · rw [decide_eq_false q, decide_eq_false (by omega)]]
        exact endP h
    · rintro o ⟨z, hz, rfl⟩ s H C cl fp
      exact tw_tupS (kb33_0 c hB s H C cl fp) (tws_cons (tw_nm (kb33_0 c hB s H C cl fp) 2 (tws_cons (tw_nm (kb33_0 c hB s H C cl fp) 3 (tws_nil fun s H C cl fp => ts_nil ⟨fun _ s H C cl fp => ev_sub (ev_nm (kb33_0 c hB s H C cl fp) 3 (is_I (ev_nm (kb33_0 c hB s H C cl fp) 2 (is_I ⟨rfl, _, rfl, rfl⟩)))), fun z => nomatch z⟩)))))
end Pd
set_option Elab.async false
set_option linter.all false
set_option maxRecDepth 100000
set_option autoImplicit false
namespace Pd
/-! trees whose places have two neighbours at most -/
theorem GT.all {n : Nat} {zs : List (Nat × Nat)} (g : GT n zs) (S : Nat → Prop) (u : Nat) (hu : u < n) (h0 : S u) (cl : ∀ i j, S i → j ∈ nbrs zs i → S j) : ∀ i, i < n → S i := by
  by_cases h : S 0
  · exact g.hang S h cl
  · have := g.hang (fun j => ¬ S j) h fun i j hi hj hs => hi (cl j i hs (g.sym hj))
    exact absurd h0 (this u hu)
def deg (zs : List (Nat × Nat)) (i : Nat) : Nat := (nbrs zs i).length
theorem nbrs_cons (z : Nat × Nat) (zs : List (Nat × Nat)) (i : Nat) : nbrs (z :: zs) i = if z.1 = i then z.2 :: nbrs zs i else if z.2 = i then z.1 :: nbrs zs i else nbrs zs i := by
  unfold nbrs
  rw [List.filterMap_cons]
  by_cases h1 : z.1 = i
  · simp [h1]
  · by_cases h2 : z.2 = i <;> simp [h1, h2]
theorem sum_one (a : Nat) : ∀ n, ((List.range n).map fun i => if i = a then 1 else 0).sum = if a < n then 1 else 0
  | 0 => by simp
  | n + 1 => by
    rw [List.range_succ, List.map_append, List.sum_append, sum_one a n]
    simp only [List.map_cons, List.map_nil, List.sum_cons, List.sum_nil]
    by_cases h1 : a < n
    · rw [if_pos h1, if_neg (by omega), if_pos (by omega)]; rfl
    · by_cases h2 : n = a
      · rw [if_neg h1, if_pos h2, if_pos (by omega)]; rfl
      · rw [if_neg h1, if_neg h2, if_neg (by omega)]; rfl
theorem sum_add (f g : Nat → Nat) : ∀ l : List Nat, (l.map fun i => f i + g i).sum = (l.map f).sum + (l.map g).sum
  | [] => rfl
  | x :: l => by
    simp only [List.map_cons, List.sum_cons, sum_add f g l]
    omega
theorem hands {n : Nat} : ∀ zs : List (Nat × Nat), (∀ z ∈ zs, z.1 < z.2 ∧ z.2 < n) → ((List.range n).map (deg zs)).sum = 2 * zs.length
  | [], _ => by
    have : (List.range n).map (deg []) = (List.range n).map fun _ => 0 := List.map_congr_left fun i _ => rfl
    rw [this]
    induction n with
    | zero => rfl
    | succ n ih => rw [List.range_succ, List.map_append, List.sum_append, ih (by simp) (List.map_congr_left fun _ _ => rfl)]; rfl
  | z :: zs, h => by
    have hz := h z List.mem_cons_self
    have ih := hands zs fun w hw => h w (List.mem_cons_of_mem _ hw)
    have e : (List.range n).map (deg (z :: zs)) = (List.range n).map fun i => ((if i = z.1 then 1 else 0) + (if i = z.2 then 1 else 0)) + deg zs i := List.map_congr_left fun i _ => by
      unfold deg
      rw [nbrs_cons]
      by_cases h1 : z.1 = i
      · have h2 : i ≠ z.2 := by omega
        rw [if_pos h1, if_pos h1.symm, if_neg h2, List.length_cons]; omega
      · by_cases h2 : z.2 = i
        · rw [if_neg h1, if_pos h2, if_neg (fun e => h1 e.symm), if_pos h2.symm, List.length_cons]; omega
        · rw [if_neg h1, if_neg h2, if_neg (fun e => h1 e.symm), if_neg (fun e => h2 e.symm)]; omega
    rw [e, sum_add, sum_add, sum_one, sum_one, ih, if_pos (by omega), if_pos hz.2, List.length_cons]
    omega
theorem sum_ge {f : Nat → Nat} {k : Nat} : ∀ l : List Nat, (∀ i ∈ l, k ≤ f i) → k * l.length ≤ (l.map f).sum
  | [], _ => by simp
  | x :: l, h => by
    have := sum_ge l fun i hi => h i (List.mem_cons_of_mem _ hi)
    have h2 := h x List.mem_cons_self
    rw [List.map_cons, List.sum_cons, List.length_cons, Nat.mul_succ]
    omega
/-- a leaf -/
theorem GT.leaf {n : Nat} {zs : List (Nat × Nat)} (g : GT n zs) : ∃ p, p < n ∧ deg zs p < 2 := by
  apply Classical.byContradiction
  intro h
  have h1 := sum_ge (f := deg zs) (k := 2) (List.range n) fun i hi => by
    rcases Nat.lt_or_ge (deg zs i) 2 with q | q
    · exact absurd ⟨i, List.mem_range.mp hi, q⟩ h
    · exact q
  rw [hands zs g.lt, List.length_range] at h1
  have := g.len
  omega
theorem two_of {l : List Nat} {a b x : Nat} (h : l.length ≤ 2) (ha : a ∈ l) (hb : b ∈ l) (hab : a ≠ b) (hx : x ∈ l) : x = a ∨ x = b := by
  match l, h with
  | [], _ => cases ha
  | [c], _ => simp at ha hb; omega
  | [c, d], _ =>
    simp at ha hb hx
    omega
structure WayPre (n : Nat) (zs : List (Nat × Nat)) (w : List Nat) : Prop where
  nd : w.Nodup
  lt : ∀ x ∈ w, x < n
  ne : w ≠ []
  adj : ∀ i u v, w[i]? = some u → w[i + 1]? = some v → v ∈ nbrs zs u
  fst : ∀ u, w[0]? = some u → deg zs u < 2
theorem WayPre.more {n : Nat} {zs : List (Nat × Nat)} (g : GT n zs) (hd : ∀ p, p < n → deg zs p ≤ 2) {w : List Nat} (h : WayPre n zs w) (hl : w.length < n) {v : Nat} (hv : w[w.length - 1]? = some v) : ∃ j ∈ nbrs zs v, j ∉ w := by
  apply Classical.byContradiction
  intro hno
  have hlen : 0 < w.length := List.length_pos_iff.mpr h.ne
  have all := g.all (fun i => i ∈ w) v (h.lt v (List.mem_of_getElem? hv)) (List.mem_of_getElem? hv) fun i j hi hj => by
    obtain ⟨k, hk⟩ := List.mem_iff_getElem?.mp hi
    have hkl := (List.getElem?_eq_some_iff.mp hk).1
    by_cases hkv : k = w.length - 1
    · subst hkv
      rw [hv] at hk; cases hk
      exact Classical.byContradiction fun q => hno ⟨j, hj, q⟩
    · have h1 : k + 1 < w.length := by omega
      have a1 := h.adj k i _ hk (List.getElem?_eq_getElem h1)
      by_cases hk0 : k = 0
      · subst hk0
        have := h.fst i hk
        unfold deg at this
        match hn : nbrs zs i, this with
        | [], _ => rw [hn] at hj; cases hj
        | [c], _ =>
          rw [hn] at hj a1
          simp at hj a1
          rw [hj, ← a1]; exact List.getElem_mem h1
      · have h0 : k - 1 < w.length := by omega
        have a0 := h.adj (k - 1) _ i (List.getElem?_eq_getElem h0) (by rw [show k - 1 + 1 = k by omega]; exact hk)
        have a2 := g.sym a0
        have hne : w[k - 1] ≠ w[k + 1] := fun e => by
          have := (List.getElem_inj h.nd).mp e
          omega
        rcases two_of (hd i (h.lt i hi)) a2 a1 hne hj with e | e
        · rw [e]; exact List.getElem_mem h0
        · rw [e]; exact List.getElem_mem h1
  have := L2.nat_nodup_len (List.range n) w List.nodup_range fun x hx => all x (List.mem_range.mp hx)
  rw [List.length_range] at this
  omega
theorem WayPre.snoc {n : Nat} {zs : List (Nat × Nat)} (g : GT n zs) {w : List Nat} (h : WayPre n zs w) {v j : Nat} (hv : w[w.length - 1]? = some v) (hj : j ∈ nbrs zs v) (hw : j ∉ w) : WayPre n zs (w ++ [j]) := by
  have hlen : 0 < w.length := List.length_pos_iff.mpr h.ne
  refine ⟨?_, fun x hx => ?_, by simp, fun i u x hu hx => ?_, fun u hu => h.fst u (by rw [List.getElem?_append_left hlen] at hu; exact hu)⟩
  · rw [List.nodup_append]
    refine ⟨h.nd, by simp, fun a ha b hb e => ?_⟩
    simp at hb
    subst hb e
    exact hw ha
  · rcases List.mem_append.mp hx with q | q
    · exact h.lt x q
    · simp at q
      subst q
      exact (g.nb hj).2.1
  · have hx1 := (List.getElem?_eq_some_iff.mp hx).1
    rw [List.length_append, List.length_singleton] at hx1
    by_cases q : i + 1 < w.length
    · rw [List.getElem?_append_left (by omega)] at hu
      rw [List.getElem?_append_left q] at hx
      exact h.adj i u x hu hx
    · have : i = w.length - 1 := by omega
      subst this
      rw [List.getElem?_append_left (by omega), hv] at hu
      cases hu
      rw [List.getElem?_append_right (by omega), show w.length - 1 + 1 - w.length = 0 by omega] at hx
      cases hx
      exact hj
structure WayOk (n : Nat) (zs : List (Nat × Nat)) (w : List Nat) : Prop where
  len : w.length = n
  nd : w.Nodup
  lt : ∀ x ∈ w, x < n
  adj : ∀ i u v, w[i]? = some u → w[i + 1]? = some v → v ∈ nbrs zs u
  fst : ∀ u, w[0]? = some u → deg zs u < 2
  two : ∀ p, p < n → deg zs p ≤ 2
end Pd
set_option Elab.async false
set_option linter.all false
set_option maxRecDepth 100000
set_option autoImplicit false
namespace Pd
open PySem PySem.Spec PyProof.Rows L2
theorem nearT_get {n : Nat} {zs : List (Nat × Nat)} {i : Nat} (h : i < n) : L2.atI (nearT n zs) (i : Int) = some (.tuple (eN (srt (nbrs zs i)))) := by
  rw [atI_nat _ _ (by simp [nearT, near]; exact h)]
  simp [nearT, near, h]
theorem srt_len (l : List Nat) : (srt l).length = l.length := (srt_perm l).length_eq
theorem rng0 (n : Nat) : rngL 0 n = (List.range n).map fun (v : Nat) => oI v := by
  have := rngL_map n 0
  rw [show ((0 : Nat) : Int) = 0 by rfl] at this
  rw [this, List.range_eq_range']
theorem toNat_nat (n : Nat) : ((n : Int)).toNat = n := Int.toNat_natCast n
theorem rng_mem {n : Nat} {o : OT} (h : o ∈ rngL 0 n) : ∃ v : Nat, v < n ∧ o = oI v := by
  rw [rng0] at h
  obtain ⟨v, hv, rfl⟩ := List.mem_map.mp h
  exact ⟨v, List.mem_range.mp hv, rfl⟩
/-- what of the numbers passes -/
def pass (p : Nat → Bool) : OT → Option PyData
  | .sh (.int v) => if p v.toNat = true then some (.int v) else none
  | _ => none
theorem pass_nat (p : Nat → Bool) (x : Nat) : pass p (oI x) = if p x = true then some (.int x) else none := by
  show (if p ((x : Int)).toNat = true then some (PyData.int x) else none) = _
  rw [toNat_nat]
theorem fm_filter (p : Nat → Bool) (l : List Nat) : List.filterMap (pass p) (l.map fun (v : Nat) => oI v) = eN (l.filter p) := by
  induction l with
  | nil => rfl
  | cons x l ih =>
    have e := pass_nat p x
    cases h : p x with
    | true =>
      rw [h, if_pos rfl] at e
      rw [List.map_cons, List.filterMap_cons_some e, ih, List.filter_cons_of_pos h]; rfl
    | false =>
      rw [h, if_neg (by simp)] at e
      rw [List.map_cons, List.filterMap_cons_none e, ih, List.filter_cons_of_neg (by simp [h])]
theorem atI0 {α : Type} (d : α) (ds : List α) : L2.atI (d :: ds) 0 = some d := by
  have := atI_nat (d :: ds) 0 (by simp)
  simpa using this
theorem shs_eN (l : List Nat) : shs (eN l) = l.map fun (v : Nat) => oI v := by
  simp [shs, eN, nums, iN]
def S34 : FS := fun os ds κ => os = [] ∧ ∃ n zs, ds = [treeD n zs] ∧ GT n zs ∧ (∀ p, p < n → deg zs p ≤ 2) ∧ ∀ w, WayOk n zs w → κ (.tpd (eN w)) []
theorem w34 {X : Cx} {G : Gx} (c : C34 X) (hB : BN X) (h20 : F20 X 0 S20) (h18 : F18 X 0 S18) : WB X G 4 1 0 st34 S34 := by
  rintro os ds κ - - ⟨rfl, n, zs, rfl, g, hd, h⟩
  show Exs X G [.val (.sh (treeD n zs)), .un, .un, .un] _ _
  have hn := g.small
  have hp := g.pos
  refine exs_cons (ex_set c 1 (ev_call c 0 h20 (av_cons (ev_nm c 0 (av_nil ⟨[treeD n zs], rfl, rfl, rfl, n, zs, rfl, g.ok, rfl, ?_⟩)))))
  refine exs_cons (ex_set c 2 (ev_lstS (av_cons (ev_min c 0 (pv_ev (ev_lcF c ow34_0 (pass fun v => decide (deg zs v < 2)) (fun o => ∃ v : Nat, v < n ∧ o = oI v) [.val (.sh (treeD n zs)), .val (.ls (nearT n zs)), .un, .un]
    (iv_range c 1 (ev_call c 1 h18 (av_cons (ev_nm c 0 (av_nil ⟨[treeD n zs], rfl, rfl, rfl, _, .int n, _, rfl, is_I ⟨⟨?_, ?_⟩, ?_, rfl, ?_, ?_⟩⟩))))) ?_))))))
  · omega
  · omega
  · rw [rngL_len]; omega
  · intro o ho
    rw [toNat_nat] at ho
    exact rng_mem ho
  · rw [toNat_nat, rng0, fm_filter (fun v => decide (deg zs v < 2))]
    refine ⟨iN ((List.range n).filter fun v => decide (deg zs v < 2)), .ls _, ?_, fun m hm _ => ?_⟩
    · obtain ⟨p, hp, hdp⟩ := g.leaf
      have : p ∈ (List.range n).filter fun v => decide (deg zs v < 2) := List.mem_filter.mpr ⟨List.mem_range.mpr hp, by simpa using hdp⟩
      have := List.length_pos_of_mem this
      simpa [iN] using this
    · obtain ⟨p, hp, rfl⟩ := List.mem_map.mp hm
      rw [List.mem_filter, List.mem_range] at hp
      obtain ⟨hpn, hpd⟩ := hp
      have hpd : deg zs p < 2 := by simpa using hpd
      refine av_nil ⟨[.int p], rfl, by simp, rfl, ?_⟩
      refine exs_cons (ex_while c (fun m ρ => ∃ w, WayPre n zs w ∧ w.length ≤ n ∧ m = n - w.length ∧ ρ = [.val (.sh (treeD n zs)), .val (.ls (nearT n zs)), .val (.ls (eN w)), .un]) ⟨n - 1, [p], ⟨by simp, by simpa using hpn, by simp, by intro i u v _ hv; simp at hv, by intro u hu; simp at hu; rw [← hu]; exact hpd⟩, by simp; omega, rfl, rfl⟩ ?_)
      rintro m ρ ⟨w, hw, hwl, rfl, rfl⟩
      refine tv_cmp (ev_lt (ev_len c 2 (pv_nm c 2 (is_ls (is_I (ev_call c 1 h18 (av_cons (ev_nm c 0 (av_nil ⟨[treeD n zs], rfl, rfl, rfl, _, .int n, _, rfl, is_I (is_B ⟨fun h1 => ?_, fun h1 => ?_⟩)⟩)))))))))
      · rw [eN_len] at h1
        have hlt : w.length < n := by simpa using h1
        have h0 : 0 < w.length := List.length_pos_iff.mpr hw.ne
        obtain ⟨v, hv⟩ : ∃ v, w[w.length - 1]? = some v := ⟨w[w.length - 1], List.getElem?_eq_getElem (by omega)⟩
        have hvn : v < n := hw.lt v (List.mem_of_getElem? hv)
        obtain ⟨j0, hj0, hjw0⟩ := hw.more g hd hlt hv
        have hne : (srt (nbrs zs v)).filter (fun x => !decide (x ∈ w)) ≠ [] := fun e => by
          have : j0 ∈ (srt (nbrs zs v)).filter (fun x => !decide (x ∈ w)) := List.mem_filter.mpr ⟨(srt_perm _).mem_iff.mpr hj0, by simpa using hjw0⟩
          rw [e] at this; cases this
        refine exs_one (ex_expr (ev_append c 2 (ev_ix (ev_lcF c ow34_1 (pass fun x => !decide (x ∈ w)) (fun o => ∃ x : Nat, o = oI x) [.val (.sh (treeD n zs)), .val (.ls (nearT n zs)), .val (.ls (eN w)), .un]
          (iv_tup (ev_ixN c 1 (ev_ixN c 2 (ev_neg (ev_int (is_I (is_I ⟨_, _, .int v, hat rfl (.val _), .ls, ?_, is_I ⟨_, _, _, hat rfl (.val _), .ls, nearT_get hvn, is_T ⟨?_, rfl, ?_, ?_⟩⟩⟩))))))) ?_))))
        · unfold L2.atI ixN
          rw [eN_len, if_neg (by omega), if_pos (by omega)]
          show (eN w)[(-1 + (w.length : Int)).toNat]? = _
          rw [show (-1 + (w.length : Int)).toNat = w.length - 1 by omega, eN_get, hv]; rfl
        · rw [shs_len, eN_len, srt_len]
          have := hd v hvn
          unfold deg at this
          omega
        · intro o ho
          obtain ⟨x, _, rfl⟩ := eN_mem ho
          exact ⟨x, rfl⟩
        · rw [shs_eN, fm_filter (fun x => !decide (x ∈ w))]
          obtain ⟨j, l, hjl⟩ : ∃ j l, (srt (nbrs zs v)).filter (fun x => !decide (x ∈ w)) = j :: l := List.exists_cons_of_ne_nil hne
          have hjm : j ∈ (srt (nbrs zs v)).filter (fun x => !decide (x ∈ w)) := by rw [hjl]; simp
          rw [List.mem_filter] at hjm
          have hj : j ∈ nbrs zs v := (srt_perm _).mem_iff.mp hjm.1
          have hjw : j ∉ w := by simpa using hjm.2
          rw [hjl]
          refine ⟨_, .ls, ev_int (is_I ⟨.int j, atI0 _ _, _, _, _, rfl, .val _, .ls ?_, n - (w ++ [j]).length, ?_, w ++ [j], hw.snoc g hv hj hjw, ?_, rfl, ?_⟩)⟩
          · rw [eN_len]; omega
          · rw [List.length_append, List.length_singleton]; omega
          · rw [List.length_append, List.length_singleton]; omega
          · rw [eN_app]; rfl
        · rintro o ⟨x, rfl⟩ s H C cl fp
          refine tw_nm (kb34_1 c hB s H C cl fp) 3 fun s H C cl fp => ts_one (tv_cmp (ev_ninIN (kb34_1 c hB s H C cl fp) 2 (ev_nm (kb34_1 c hB s H C cl fp) 3 (is_I ⟨_, iN w, hat rfl (.val _), .ls, is_B ⟨fun hb s H C cl fp => ev_nm (kb34_1 c hB s H C cl fp) 3 ⟨rfl, .int x, ?_, rfl⟩, fun hb => ⟨rfl, ?_⟩⟩⟩)) (by rfl)))
          · have hx : x ∉ w := fun q => by
              have := iN_mem.mpr q
              simp [this] at hb
            rw [pass_nat, if_pos (by simpa using hx)]
          · have hx : x ∈ w := iN_mem.mp (by simpa using hb)
            rw [pass_nat, if_neg (by simpa using hx)]
      · rw [eN_len] at h1
        have hge : ¬ w.length < n := by simpa using h1
        exact exs_one (ex_ret (ev_tupleD c 3 (pv_nm c 2 ⟨eN w, .ls _, endP (h w ⟨by omega, hw.nd, hw.lt, hw.adj, hw.fst, hd⟩)⟩)))
  · rintro o ⟨v, hv, rfl⟩ s H C cl fp
    refine tw_nm (kb34_0 c hB s H C cl fp) 3 fun s H C cl fp => ts_one (tv_cmp (ev_lt (ev_len (kb34_0 c hB s H C cl fp) 0 (pv_ev (ev_ixN (kb34_0 c hB s H C cl fp) 1 (ev_nm (kb34_0 c hB s H C cl fp) 3 (is_I ⟨_, _, _, hat rfl (.val _), .ls, nearT_get hv, is_st (is_I (ev_int (is_I (is_B ⟨fun hb s H C cl fp => ev_nm (kb34_0 c hB s H C cl fp) 3 ⟨rfl, .int v, ?_, rfl⟩, fun hb => ⟨rfl, ?_⟩⟩))))⟩)))))))
    · skip
      rw [eN_len, srt_len] at hb
      have hb := of_decide_eq_true hb
      rw [pass_nat, if_pos (decide_eq_true (by unfold deg; omega))]
    · skip
      rw [eN_len, srt_len] at hb
      have hb := of_decide_eq_false hb
      rw [pass_nat, decide_eq_false (by unfold deg; omega), if_neg (by simp)]
end Pd
set_option Elab.async false
set_option linter.all false
set_option maxRecDepth 100000
set_option autoImplicit false
namespace Pd
open PySem PySem.Spec PyProof.Rows L2
def layL (n : Nat) (w : List Nat) : List (Nat × Nat) := (List.range n).map fun p => (w.idxOf p, w.idxOf p + 1)
theorem WayOk.mem {n : Nat} {zs : List (Nat × Nat)} {w : List Nat} (h : WayOk n zs w) {p : Nat} (hp : p < n) : p ∈ w := by
  apply Classical.byContradiction
  intro q
  have hn : (p :: w).Nodup := List.nodup_cons.mpr ⟨q, h.nd⟩
  have hb : ∀ x ∈ p :: w, x < n := fun x hx => by
    rcases List.mem_cons.mp hx with rfl | hx
    · exact hp
    · exact h.lt x hx
  have hl := nodup_le hn hb
  rw [List.length_cons, h.len] at hl
  omega
theorem idx_iN (w : List Nat) (p : Nat) : (iN w).idxOf (p : Int) = w.idxOf p := by
  induction w with
  | nil => rfl
  | cons x w ih =>
    show ((x : Int) :: iN w).idxOf (p : Int) = _
    rw [List.idxOf_cons, List.idxOf_cons, ih]
    by_cases h : x = p
    · subst h; simp
    · have : ¬ ((x : Int) = (p : Int)) := by omega
      have h1 : (x == p) = false := by simpa using h
      have h2 : ((x : Int) == (p : Int)) = false := by simpa using this
      rw [h1, h2]
def layF (w : List Nat) : OT → Option PyData
  | .sh (.int v) => some (prN (w.idxOf v.toNat, w.idxOf v.toNat + 1))
  | _ => none
theorem layF_nat (w : List Nat) (v : Nat) : layF w (oI v) = some (prN (w.idxOf v, w.idxOf v + 1)) := by
  show some (prN (w.idxOf ((v : Int)).toNat, w.idxOf ((v : Int)).toNat + 1)) = _
  rw [toNat_nat]
theorem fm_lay (w : List Nat) (n : Nat) : List.filterMap (layF w) (rngL 0 n) = eP (layL n w) := by
  rw [rng0]
  unfold layL eP prs iP
  rw [List.map_map, List.map_map]
  induction (List.range n) with
  | nil => rfl
  | cons x l ih =>
    rw [List.map_cons, List.filterMap_cons_some (layF_nat w x), ih]; rfl
def S35 : FS := fun os ds κ => os = [] ∧ ∃ n zs, ds = [treeD n zs] ∧ GT n zs ∧ (∀ p, p < n → deg zs p ≤ 2) ∧ ∀ w, WayOk n zs w → κ (.sh (.tuple (eP (layL n w)))) []
theorem w35 {X : Cx} {G : Gx} (c : C35 X) (hB : BN X) (h34 : F34 X 0 S34) (h18 : F18 X 0 S18) : WB X G 3 1 0 st35 S35 := by
  rintro os ds κ - - ⟨rfl, n, zs, rfl, g, hd, h⟩
  show Exs X G [.val (.sh (treeD n zs)), .un, .un] _ _
  have hn := g.small
  refine exs_cons (ex_set c 1 (ev_call c 0 h34 (av_cons (ev_nm c 0 (av_nil ⟨[treeD n zs], rfl, rfl, rfl, n, zs, rfl, g, hd, fun w hw => ⟨rfl, ?_⟩⟩)))))
  refine exs_one (ex_ret (ev_tuple c 0 (pv_ev (ev_lcF c ow35_0 (layF w) (fun o => ∃ v : Nat, v < n ∧ o = oI v) [.val (.sh (treeD n zs)), .val (.tpd (eN w)), .un]
    (iv_range c 1 (ev_call c 1 h18 (av_cons (ev_nm c 0 (av_nil ⟨[treeD n zs], rfl, rfl, rfl, _, .int n, _, rfl, is_I ⟨⟨?_, ?_⟩, ?_, rfl, ?_, ?_⟩⟩))))) ?_))))
  · omega
  · omega
  · rw [rngL_len]; omega
  · intro o ho
    rw [toNat_nat] at ho
    exact rng_mem ho
  · rw [toNat_nat, fm_lay]
    exact is_ls (endP (h w hw))
  · rintro o ⟨v, hv, rfl⟩ s H C cl fp
    have hm : (v : Int) ∈ iN w := iN_mem.mpr (hw.mem hv)
    refine tw_nm (kb35_0 c hB s H C cl fp) 2 fun s H C cl fp => ts_nil ⟨fun _ s H C cl fp => ev_tupS (av_cons (ev_tindex (kb35_0 c hB s H C cl fp) 1 (ds := eN w) (ev_nm (kb35_0 c hB s H C cl fp) 2 (is_I ⟨iN w, hat rfl (.val _), hm, av_cons (ev_add (ev_tindex (kb35_0 c hB s H C cl fp) 1 (ds := eN w) (ev_nm (kb35_0 c hB s H C cl fp) 2 (is_I ⟨iN w, hat rfl (.val _), hm, is_I (ev_int (is_I (av_nil ⟨[.int ((iN w).idxOf (v : Int) : Nat), .int (((iN w).idxOf (v : Int) : Nat) + 1)], rfl, by simp, rfl, _, layF_nat w v, ?_⟩)))⟩))))⟩)))), fun z => nomatch z⟩
    rw [idx_iN]; rfl
def S36 : FS := fun os ds κ => os = [] ∧ ∃ n zs p l, ds = [treeD n zs, .tuple [.int (p : Nat), .tuple (eN l)]] ∧ GT n zs ∧ p < n ∧ l.length = 3 ∧ l.Pairwise (· < ·) ∧ (∀ x ∈ l, x ∈ nbrs zs p) ∧ κ (oB true) []
theorem w36 {X : Cx} {G : Gx} (c : C36 X) (hB : BN X) (h7 : F7 X 0 S7) (h16 : F16 X 0 S16) (h17 : F17 X 0 S17) (h20 : F20 X 0 S20) : WB X G 4 2 0 st36 S36 := by
  rintro os ds κ - - ⟨rfl, n, zs, p, l, rfl, g, hp, h3, hs, hm, h⟩
  show Exs X G [.val (.sh (treeD n zs)), .val (.sh (.tuple [.int p, .tuple (eN l)])), .un, .un] _ _
  have hn := g.small
  refine exs_cons (ex_if (tv_w (wv_or (tv_not (tv_val (ev_call c 0 h7 (av_cons (ev_nm c 1 (av_cons (ev_int (av_nil ⟨[.tuple [.int p, .tuple (eN l)], .int 2], rfl, rfl, rfl, _, _, rfl, is_B ⟨(fun z => nomatch z), fun _ => ?_⟩⟩)))))))))))
  refine wv_or (tv_not (tv_val (ev_call c 1 h16 (av_cons (ev_nm c 0 (av_cons (ev_ixN c 1 (ev_int (is_I ⟨_, _, .int p, hat rfl (.val _), .sht, rfl, av_nil ⟨[treeD n zs, .int p], rfl, rfl, rfl, _, _, _, _, rfl, is_B ?_⟩⟩)))))))))
  rw [bel_ok hp]
  refine ⟨(fun z => nomatch z), fun _ => ?_⟩
  refine wv_or1 (tv_not (tv_val (ev_call c 2 h17 (av_cons (ev_nm c 0 (av_cons (ev_ixN c 1 (ev_int (is_I ⟨_, _, .tuple (eN l), hat rfl (.val _), .sht, rfl, av_nil ⟨[treeD n zs, .tuple (eN l)], rfl, rfl, rfl, _, n, _, l, rfl, by omega, fun x hx => (g.nb (hm x hx)).2.1, hs, is_B ⟨(fun z => nomatch z), fun _ => ?_⟩⟩⟩)))))))))
  refine exs_nil (exs_cons (ex_set c 2 (ev_ix (ev_call c 3 h20 (av_cons (ev_nm c 0 (av_nil ⟨[treeD n zs], rfl, rfl, rfl, n, zs, rfl, g.ok, _, .ls, ev_ixN c 1 (ev_int (is_I ⟨_, _, .int p, hat rfl (.val _), .sht, rfl, is_I ⟨_, nearT_get hp, rfl, ?_⟩⟩))⟩)))))))
  refine exs_one (ex_ret (ev_and (ev_eq c (ev_len c 0 (pv_ev (ev_ixN c 1 (ev_int (is_I ⟨_, _, .tuple (eN l), hat rfl (.val _), .sht, rfl, is_st (ev_int ⟨shp_int _, shp_int _, is_B ?_⟩)⟩))))))))
  rw [show PyData.eqv (OT.sh (.int ((eN l).length : Int))).frz (OT.sh (.int 3)).frz = true by
    show PyData.eqv (.int _) (.int _) = true
    rw [eqv_int, eN_len, h3]; rfl]
  refine ⟨fun _ => ev_one (ev_allC c 1 ow36_0 (fun o => ∃ x ∈ l, o = oI x) [.val (.sh (treeD n zs)), .val (.sh (.tuple [.int p, .tuple (eN l)])), .val (.sh (.tuple (eN (srt (nbrs zs p))))), .un]
    (iv_tup (ev_ixN c 1 (ev_int (is_I ⟨_, _, .tuple (eN l), hat rfl (.val _), .sht, rfl, is_T ⟨?_, rfl, fun o ho => eN_mem ho, endP h⟩⟩)))) ?_), fun z => nomatch z⟩
  · rw [shs_len, eN_len]; omega
  · rintro o ⟨x, hx, rfl⟩ s H C cl fp
    refine tw_nm (kb36_0 c hB s H C cl fp) 3 fun s H C cl fp => ev_inIN (kb36_0 c hB s H C cl fp) 2 (ev_nm (kb36_0 c hB s H C cl fp) 3 (is_I ⟨_, iN (srt (nbrs zs p)), hat rfl (.val _), .sht, rfl, ?_⟩)) (by rfl)
    rw [decide_eq_true (iN_mem.mpr ((srt_perm _).mem_iff.mpr (hm x hx)))]
end Pd
set_option Elab.async false
set_option linter.all false
set_option maxRecDepth 100000
set_option autoImplicit false
namespace Pd
open PySem PySem.Spec PyProof.Rows L2
theorem cut_from (ds : List PyData) (k : Nat) : cutD ds (some (k : Int)) none = ds.drop k := by
  unfold cutD
  have h1 : HT.sIx ds.length 0 (some (k : Int)) = min k ds.length := by unfold HT.sIx; simp; omega
  have h2 : HT.sIx ds.length ds.length none = ds.length := rfl
  rw [h1, h2]
  rcases Nat.le_total k ds.length with h | h
  · rw [Nat.min_eq_left h, List.take_of_length_le (by rw [List.length_drop]; exact Nat.le_refl _)]
  · rw [Nat.min_eq_right h, List.drop_eq_nil_of_le (Nat.le_refl _), List.drop_eq_nil_of_le h, List.take_nil]
theorem cut_to (ds : List PyData) (k : Nat) : cutD ds none (some (k : Int)) = ds.take k := by
  unfold cutD
  have h1 : HT.sIx ds.length ds.length (some (k : Int)) = min k ds.length := by unfold HT.sIx; simp; omega
  have h2 : HT.sIx ds.length 0 none = 0 := rfl
  rw [h1, h2, List.drop_zero, Nat.sub_zero]
  rcases Nat.le_total k ds.length with h | h
  · rw [Nat.min_eq_left h]
  · rw [Nat.min_eq_right h, List.take_of_length_le (Nat.le_refl _), List.take_of_length_le h]
theorem eN_drop (l : List Nat) (k : Nat) : (eN l).drop k = eN (l.drop k) := by simp [eN, nums, iN]
theorem eN_take (l : List Nat) (k : Nat) : (eN l).take k = eN (l.take k) := by simp [eN, nums, iN]
def trip (l : List Nat) (a b : Nat) : List (List Nat) := (l.drop (b + 1)).map fun t => [l.getD a 0, l.getD b 0, t]
def twos (l : List Nat) (a : Nat) (m : Nat) : List (List Nat) := (List.range' (a + 1) m).flatMap (trip l a)
def threes (l : List Nat) : List (List Nat) := (List.range l.length).flatMap fun a => twos l a (l.length - (a + 1))
def enc3 (T : List (List Nat)) : List PyData := T.map fun t => .tuple (eN t)
theorem enc3_app (a b : List (List Nat)) : enc3 (a ++ b) = enc3 a ++ enc3 b := by simp [enc3]
theorem enc3_len (a : List (List Nat)) : (enc3 a).length = a.length := by simp [enc3]
theorem flat_le {α β : Type} (f : α → List β) (k : Nat) : ∀ l : List α, (∀ x ∈ l, (f x).length ≤ k) → (l.flatMap f).length ≤ l.length * k
  | [], _ => by simp
  | x :: l, h => by
    have a := flat_le f k l fun y hy => h y (List.mem_cons_of_mem _ hy)
    have b := h x List.mem_cons_self
    rw [List.flatMap_cons, List.length_append, List.length_cons, Nat.succ_mul]
    omega
theorem trip_le (l : List Nat) (a b : Nat) : (trip l a b).length ≤ l.length := by simp [trip]
theorem twos_le (l : List Nat) (a m : Nat) : (twos l a m).length ≤ m * l.length := by
  have := flat_le (trip l a) l.length (List.range' (a + 1) m) fun x _ => trip_le l a x
  rw [List.length_range'] at this
  exact this
theorem outer_le (l : List Nat) (i : Nat) : ((List.range i).flatMap fun a => twos l a (l.length - (a + 1))).length ≤ i * (l.length * l.length) := by
  have := flat_le (fun a => twos l a (l.length - (a + 1))) (l.length * l.length) (List.range i) fun x _ => Nat.le_trans (twos_le l x _) (Nat.mul_le_mul (by omega) (Nat.le_refl _))
  rw [List.length_range] at this
  exact this
def tripF (x y : Nat) : OT → Option PyData
  | .sh (.int v) => some (.tuple (eN [x, y, v.toNat]))
  | _ => none
theorem tripF_nat (x y v : Nat) : tripF x y (oI v) = some (.tuple (eN [x, y, v])) := by
  show some (PyData.tuple (eN [x, y, ((v : Int)).toNat])) = _
  rw [toNat_nat]
theorem fm_trip (l : List Nat) (a b : Nat) : List.filterMap (tripF (l.getD a 0) (l.getD b 0)) (shs (eN (l.drop (b + 1)))) = enc3 (trip l a b) := by
  rw [shs_eN]
  unfold trip enc3
  rw [List.map_map]
  induction l.drop (b + 1) with
  | nil => rfl
  | cons x m ih => rw [List.map_cons, List.filterMap_cons_some (tripF_nat _ _ x), ih]; rfl
def S37 : FS := fun os ds κ => os = [] ∧ ∃ l, ds = [.tuple (eN l)] ∧ l.length ≤ 40 ∧ κ (.sh (.list (enc3 (threes l)))) []
theorem w37 {X : Cx} {G : Gx} (c : C37 X) (hB : BN X) : WB X G 6 1 0 st37 S37 := by
  rintro os ds κ - - ⟨rfl, l, rfl, hl, h⟩
  show Exs X G [.val (.sh (.tuple (eN l))), .un, .un, .un, .un, .un] _ _
  have b40 : l.length * l.length ≤ 40 * 40 := Nat.mul_le_mul hl hl
  refine exs_cons (ex_set c 1 (ev_lstS (av_nil ⟨[], rfl, by decide, rfl, ?_⟩)))
  refine exs_cons (ex_for c (fun rest ρ => ∃ i s2 s3 s4, i ≤ l.length ∧ rest = shs (enumI i (eN (l.drop i))) ∧ ρ = [.val (.sh (.tuple (eN l))), .val (.ls (enc3 ((List.range i).flatMap fun a => twos l a (l.length - (a + 1))))), s2, s3, s4, .un])
    (iv_enumT c 0 (ev_nm c 0 (is_T ⟨0, .un, .un, .un, Nat.zero_le _, rfl, rfl⟩))) ?_ ?_)
  · rintro x rest ρ ⟨i, s2, s3, s4, hi, e1, rfl⟩
    have hlt : i < l.length := by
      rcases Nat.lt_or_ge i l.length with q | q
      · exact q
      · rw [List.drop_eq_nil_of_le q] at e1; cases e1
    rw [List.drop_eq_getElem_cons hlt] at e1
    injection e1 with ex er
    subst ex er
    have hg : l.getD i 0 = l[i] := by rw [List.getD_eq_getElem?_getD, List.getElem?_eq_getElem hlt]; rfl
    have ho := outer_le l i
    have ho2 : i * (l.length * l.length) ≤ 40 * (40 * 40) := Nat.mul_le_mul (by omega) b40
    refine tg_tupS c (tgs_cons (tg_nm c 2 (tgs_cons (tg_nm c 3 (tgs_nil ?_)))))
    refine exs_one (ex_for c (fun rest ρ => ∃ j m s4, rest = rngL ((i + 1 + j : Nat) : Int) m ∧ i + 1 + j + m = l.length ∧ ρ = [.val (.sh (.tuple (eN l))), .val (.ls (enc3 (((List.range i).flatMap fun a => twos l a (l.length - (a + 1))) ++ twos l i j))), .val (oI i), .val (oI (l[i] : Nat)), s4, .un])
      (iv_range2 c 1 (ev_add (ev_nm c 2 (is_I (ev_int (is_I (is_I (ev_len c 2 (pv_nm c 0 (is_st (is_I ⟨?_, ?_, 0, l.length - (i + 1), s4, ?_, ?_, ?_⟩))))))))))) ?_ ?_)
    · unfold R62; omega
    · unfold R62; rw [eN_len]; omega
    · rw [eN_len, show (((l.length : Nat) : Int) - ((i : Int) + 1)).toNat = l.length - (i + 1) by omega]; rfl
    · omega
    · show _ = [_, Slot.val (OT.ls (enc3 (_ ++ []))), _, _, _, _]
      rw [List.append_nil]; rfl
    · rintro x rest ρ ⟨j, m, s4, e1, hm, rfl⟩
      match m, e1 with
      | m + 1, e1 =>
        injection e1 with ex er
        subst ex er
        have hjl : i + 1 + j < l.length := by omega
        have hgj : l.getD (i + 1 + j) 0 = l[i + 1 + j] := by rw [List.getD_eq_getElem?_getD, List.getElem?_eq_getElem hjl]; rfl
        refine tg_nm c 4 (exs_one (ex_expr (ev_extend c 1 (ev_lcF c ow37_0 (tripF (l.getD i 0) (l.getD (i + 1 + j) 0)) (fun o => ∃ v : Nat, o = oI v) [.val (.sh (.tuple (eN l))), .val (.ls (enc3 (((List.range i).flatMap fun a => twos l a (l.length - (a + 1))) ++ twos l i j))), .val (oI i), .val (oI (l[i] : Nat)), .val (oI ((i + 1 + j : Nat) : Int)), .un]
          (iv_tup (ev_slN c 0 (ov_some (ev_add (ev_nm c 4 (is_I (ev_int (is_I (is_I (ov_none ⟨_, _, hat rfl (.val _), .sht, is_T ⟨?_, rfl, ?_, ?_⟩⟩)))))))))) ?_))))
        · rw [show (((i + 1 + j : Nat) : Int) + 1) = ((i + 1 + j + 1 : Nat) : Int) by omega, cut_from, eN_drop, shs_len, eN_len, List.length_drop]; omega
        · rw [show (((i + 1 + j : Nat) : Int) + 1) = ((i + 1 + j + 1 : Nat) : Int) by omega, cut_from, eN_drop]
          intro o ho
          obtain ⟨v, _, rfl⟩ := eN_mem ho
          exact ⟨v, rfl⟩
        · rw [show (((i + 1 + j : Nat) : Int) + 1) = ((i + 1 + j + 1 : Nat) : Int) by omega, cut_from, eN_drop, fm_trip]
          refine ⟨_, _, _, rfl, .val _, .ls ?_, j + 1, m, .val (oI ((i + 1 + j : Nat) : Int)), ?_, by omega, ?_⟩
          · rw [enc3_len, enc3_len, List.length_append]
            have h1 := trip_le l i (i + 1 + j)
            have h2 := twos_le l i j
            have h3 : j * l.length ≤ 40 * 40 := Nat.mul_le_mul (by omega) hl
            omega
          · rw [show (i + 1 + (j + 1) : Nat) = i + 1 + j + 1 by omega]
          · have : twos l i (j + 1) = twos l i j ++ trip l i (i + 1 + j) := by
              unfold twos
              rw [List.range'_1_concat, List.flatMap_append]
              simp
            rw [this, ← List.append_assoc, enc3_app _ (trip l i (i + 1 + j))]
            rfl
        · rintro o ⟨v, rfl⟩ s H C cl fp
          refine tw_nm (kb37_0 c hB s H C cl fp) 5 fun s H C cl fp => ts_nil ⟨fun _ s H C cl fp => ev_tupS (av_cons (ev_nm (kb37_0 c hB s H C cl fp) 3 (av_cons (ev_ixN (kb37_0 c hB s H C cl fp) 0 (ev_nm (kb37_0 c hB s H C cl fp) 4 (is_I ⟨_, _, .int (l[i + 1 + j] : Nat), hat rfl (.val _), .sht, ?_, av_cons (ev_nm (kb37_0 c hB s H C cl fp) 5 (av_nil ⟨[.int (l[i] : Nat), .int (l[i + 1 + j] : Nat), .int v], rfl, by simp, rfl, _, tripF_nat _ _ v, ?_⟩))⟩)))))), fun z => nomatch z⟩
          · rw [atI_nat _ _ (by rw [eN_len]; exact hjl), eN_get, List.getElem?_eq_getElem hjl]; rfl
          · rw [hg, hgj]; rfl
    · rintro ρ ⟨j, m, s4, e1, hm, rfl⟩
      have em : m = 0 := by
        cases m with
        | zero => rfl
        | succ => cases e1
      subst em
      refine ⟨i + 1, .val (oI i), .val (oI (l[i] : Nat)), s4, by omega, rfl, ?_⟩
      rw [List.range_succ, List.flatMap_append, List.flatMap_cons, List.flatMap_nil, List.append_nil, show l.length - (i + 1) = j by omega]
  · rintro ρ ⟨i, s2, s3, s4, hi, e1, rfl⟩
    have hge : l.length ≤ i := by
      rcases Nat.lt_or_ge i l.length with q | q
      · rw [List.drop_eq_getElem_cons q] at e1; cases e1
      · exact q
    have ei : i = l.length := by omega
    subst ei
    exact exs_one (ex_ret (ev_nmF (o := .ls (enc3 (threes l))) c 1 (endP h)))
end Pd
set_option Elab.async false
set_option linter.all false
set_option maxRecDepth 100000
set_option autoImplicit false
namespace Pd
open PySem PySem.Spec PyProof.Rows L2
def clawsAt (zs : List (Nat × Nat)) (p : Nat) : List (Nat × List Nat) := (threes (srt (nbrs zs p))).map fun t => (p, t)
def clawsL (n : Nat) (zs : List (Nat × Nat)) : List (Nat × List Nat) := (List.range n).flatMap (clawsAt zs)
def encC1 (c : Nat × List Nat) : PyData := .tuple [.int c.1, .tuple (eN c.2)]
def encC (C : List (Nat × List Nat)) : List PyData := C.map encC1
theorem encC_app (a b : List (Nat × List Nat)) : encC (a ++ b) = encC a ++ encC b := by simp [encC]
theorem encC_len (a : List (Nat × List Nat)) : (encC a).length = a.length := by simp [encC]
theorem threes_le {l : List Nat} (h : l.length ≤ 40) : (threes l).length ≤ 64000 := by
  have h1 := outer_le l l.length
  have h2 : l.length * (l.length * l.length) ≤ 40 * (40 * 40) := Nat.mul_le_mul h (Nat.mul_le_mul h h)
  exact Nat.le_trans h1 h2
theorem nb_le {n : Nat} {zs : List (Nat × Nat)} (g : GT n zs) (p : Nat) : (srt (nbrs zs p)).length ≤ 40 := by
  rw [srt_len]
  have := nbrs_len zs p
  have := g.zl
  omega
def pairF (p : Nat) : OT → Option PyData
  | .sh d => some (.tuple [.int p, d])
  | _ => none
theorem fm_pair (p : Nat) (T : List (List Nat)) : List.filterMap (pairF p) (shs (enc3 T)) = encC (T.map fun t => (p, t)) := by
  induction T with
  | nil => rfl
  | cons t T ih =>
    show List.filterMap (pairF p) (.sh (.tuple (eN t)) :: shs (enc3 T)) = _
    have e : pairF p (.sh (.tuple (eN t))) = some (PyData.tuple [.int p, .tuple (eN t)]) := rfl
    rw [List.filterMap_cons_some e, ih]; rfl
/-- the list of neighbours from place i on -/
def nearFrom (n : Nat) (zs : List (Nat × Nat)) (i : Nat) : List PyData := (nearT n zs).drop i
theorem nearFrom_cons {n : Nat} {zs : List (Nat × Nat)} {i : Nat} (h : i < n) : nearFrom n zs i = .tuple (eN (srt (nbrs zs i))) :: nearFrom n zs (i + 1) := by
  have hl : i < (nearT n zs).length := by simp [nearT, near]; exact h
  unfold nearFrom
  rw [List.drop_eq_getElem_cons hl]
  congr 1
  simp [nearT, near]
theorem nearFrom_nil {n : Nat} {zs : List (Nat × Nat)} {i : Nat} (h : n ≤ i) : nearFrom n zs i = [] := List.drop_eq_nil_of_le (by simp [nearT, near]; exact h)
theorem nearT_len (n : Nat) (zs : List (Nat × Nat)) : (nearT n zs).length = n := by simp [nearT, near]
def S38 : FS := fun os ds κ => os = [] ∧ ∃ n zs, ds = [treeD n zs] ∧ GT n zs ∧ κ (.sh (.list (encC (clawsL n zs)))) []
theorem clawsUpTo {n : Nat} {zs : List (Nat × Nat)} (g : GT n zs) (i : Nat) : ((List.range i).flatMap (clawsAt zs)).length ≤ i * 64000 := by
  have := flat_le (clawsAt zs) 64000 (List.range i) fun x _ => by unfold clawsAt; rw [List.length_map]; exact threes_le (nb_le g x)
  rw [List.length_range] at this
  exact this
theorem w38 {X : Cx} {G : Gx} (c : C38 X) (hB : BN X) (h20 : F20 X 0 S20) (h37 : F37 X 0 S37) : WB X G 5 1 0 st38 S38 := by
  rintro os ds κ - - ⟨rfl, n, zs, rfl, g, h⟩
  show Exs X G [.val (.sh (treeD n zs)), .un, .un, .un, .un] _ _
  have hn := g.small
  refine exs_cons (ex_set c 1 (ev_lstS (av_nil ⟨[], rfl, by decide, rfl, ?_⟩)))
  refine exs_cons (ex_for c (fun rest ρ => ∃ i s2 s3, i ≤ n ∧ rest = shs (enumI i (nearFrom n zs i)) ∧ ρ = [.val (.sh (treeD n zs)), .val (.ls (encC ((List.range i).flatMap (clawsAt zs)))), s2, s3, .un])
    (iv_enumL c 0 (ev_call c 0 h20 (av_cons (ev_nm c 0 (av_nil ⟨[treeD n zs], rfl, rfl, rfl, n, zs, rfl, g.ok, is_L2 ⟨0, .un, .un, Nat.zero_le _, rfl, rfl⟩⟩))))) ?_ ?_)
  · rintro x rest ρ ⟨i, s2, s3, hi, e1, rfl⟩
    have hlt : i < n := by
      rcases Nat.lt_or_ge i n with q | q
      · exact q
      · rw [nearFrom_nil q] at e1; cases e1
    rw [nearFrom_cons hlt] at e1
    injection e1 with ex er
    subst ex er
    refine tg_tupS c (tgs_cons (tg_nm c 2 (tgs_cons (tg_nm c 3 (tgs_nil ?_)))))
    refine exs_one (ex_expr (ev_extend c 1 (ev_lcF c ow38_0 (pairF i) (fun o => ∃ d, o = .sh d) [.val (.sh (treeD n zs)), .val (.ls (encC ((List.range i).flatMap (clawsAt zs)))), .val (oI i), .val (.sh (.tuple (eN (srt (nbrs zs i))))), .un]
      (iv_list (ev_call c 1 h37 (av_cons (ev_nm c 3 (av_nil ⟨[.tuple (eN (srt (nbrs zs i)))], rfl, rfl, rfl, _, rfl, nb_le g i, is_L1 ⟨?_, rfl, ?_, ?_⟩⟩))))) ?_)))
    · rw [shs_len, enc3_len]
      have := threes_le (nb_le g i)
      omega
    · intro o ho
      obtain ⟨d, _, rfl⟩ := List.mem_map.mp ho
      exact ⟨d, rfl⟩
    · rw [fm_pair]
      refine ⟨_, _, _, rfl, .val _, .ls ?_, i + 1, .val (oI i), .val (.sh (.tuple (eN (srt (nbrs zs i))))), by omega, rfl, ?_⟩
      · rw [encC_len, encC_len, List.length_map]
        have h1 := clawsUpTo g i
        have h2 := threes_le (nb_le g i)
        have h3 : i * 64000 ≤ 40 * 64000 := Nat.mul_le_mul (by omega) (Nat.le_refl _)
        omega
      · rw [List.range_succ, List.flatMap_append, List.flatMap_cons, List.flatMap_nil, List.append_nil, encC_app]
        rfl
    · rintro o ⟨d, rfl⟩ s H C cl fp
      exact tw_nm (kb38_0 c hB s H C cl fp) 4 fun s H C cl fp => ts_nil ⟨fun _ s H C cl fp => ev_tupS (av_cons (ev_nm (kb38_0 c hB s H C cl fp) 2 (av_cons (ev_nm (kb38_0 c hB s H C cl fp) 4 (av_nil ⟨[.int i, d], rfl, by simp, rfl, _, rfl, rfl⟩))))), fun z => nomatch z⟩
  · rintro ρ ⟨i, s2, s3, hi, e1, rfl⟩
    have hge : n ≤ i := by
      rcases Nat.lt_or_ge i n with q | q
      · rw [nearFrom_cons q] at e1; cases e1
      · exact q
    have ei : i = n := by omega
    subst ei
    exact exs_one (ex_ret (ev_nmF (o := .ls (encC (clawsL i zs))) c 1 (endP h)))
def clawD (zs : List (Nat × Nat)) (p : Nat) : PyData := encC1 (p, (srt (nbrs zs p)).take 3)
def S39 : FS := fun os ds κ => os = [] ∧ ∃ n zs, ds = [treeD n zs] ∧ GT n zs ∧ (∀ p, p < n → 2 < deg zs p → κ (.sh (clawD zs p)) []) ∧ ((∀ p, p < n → deg zs p ≤ 2) → κ oN [])
theorem w39 {X : Cx} {G : Gx} (c : C39 X) (h20 : F20 X 0 S20) : WB X G 3 1 0 st39 S39 := by
  rintro os ds κ - - ⟨rfl, n, zs, rfl, g, h1, h2⟩
  show Exs X G [.val (.sh (treeD n zs)), .un, .un] _ _
  refine exs_cons (ex_for c (fun rest ρ => ∃ i s2 s3, i ≤ n ∧ rest = shs (enumI i (nearFrom n zs i)) ∧ (∀ p, p < i → deg zs p ≤ 2) ∧ ρ = [.val (.sh (treeD n zs)), s2, s3])
    (iv_enumL c 0 (ev_call c 0 h20 (av_cons (ev_nm c 0 (av_nil ⟨[treeD n zs], rfl, rfl, rfl, n, zs, rfl, g.ok, is_L2 ⟨0, .un, .un, Nat.zero_le _, rfl, (fun p hp => absurd hp (Nat.not_lt_zero p)), rfl⟩⟩))))) ?_ ?_)
  · rintro x rest ρ ⟨i, s2, s3, hi, e1, hd, rfl⟩
    have hlt : i < n := by
      rcases Nat.lt_or_ge i n with q | q
      · exact q
      · rw [nearFrom_nil q] at e1; cases e1
    rw [nearFrom_cons hlt] at e1
    injection e1 with ex er
    subst ex er
    refine tg_tupS c (tgs_cons (tg_nm c 1 (tgs_cons (tg_nm c 2 (tgs_nil ?_)))))
    refine exs_one (ex_if (tv_cmp (ev_gt (ev_len c 1 (pv_nm c 2 (is_st (is_I (ev_int (is_I (is_B ⟨fun hb => ?_, fun hb => ?_⟩))))))))))
    · have hb := of_decide_eq_true hb
      rw [eN_len, srt_len] at hb
      refine exs_one (ex_ret (ev_tupS (av_cons (ev_nm c 1 (av_cons (ev_tuple c 2 (pv_ev (ev_slN c 2 (ov_none (ov_some (ev_int (is_I ⟨_, _, hat rfl (.val _), .sht, is_st (av_nil ⟨[.int i, .tuple (cutD (eN (srt (nbrs zs i))) none (some 3))], rfl, by simp, ?_⟩)⟩))))))))))))
      have e : cutD (eN (srt (nbrs zs i))) none (some 3) = eN ((srt (nbrs zs i)).take 3) := by rw [show (3 : Int) = ((3 : Nat) : Int) by rfl, cut_to, eN_take]
      rw [e]
      exact endP (h1 i hlt (by unfold deg; omega))
    · have hb := of_decide_eq_false hb
      rw [eN_len, srt_len] at hb
      refine exs_nil ⟨i + 1, .val (oI i), .val (.sh (.tuple (eN (srt (nbrs zs i))))), by omega, rfl, fun p hp => ?_, rfl⟩
      by_cases q : p < i
      · exact hd p q
      · have : p = i := by omega
        subst this
        unfold deg; omega
  · rintro ρ ⟨i, s2, s3, hi, e1, hd, rfl⟩
    have hge : n ≤ i := by
      rcases Nat.lt_or_ge i n with q | q
      · rw [nearFrom_cons q] at e1; cases e1
      · exact q
    exact exs_one (ex_ret (ev_non (endP (h2 fun p hp => hd p (by omega)))))
theorem clawD_notN (zs : List (Nat × Nat)) (p : Nat) : isN (clawD zs p) = false := rfl
def S40 : FS := fun os ds κ => os = [] ∧ ∃ n zs, ds = [treeD n zs] ∧ GT n zs ∧ (∀ p, p < n → 2 < deg zs p → κ (.sh (.tuple [.str "claw", clawD zs p])) []) ∧ ((∀ p, p < n → deg zs p ≤ 2) → ∀ w, WayOk n zs w → κ (.sh (.tuple [.str "even", .tuple (eP (layL n w))])) [])
theorem w40 {X : Cx} {G : Gx} (c : C40 X) (hE : GlS X "EVEN" "even") (hC : GlS X "CLAW" "claw") (h39 : F39 X 0 S39) (h35 : F35 X 0 S35) : WB X G 2 1 0 st40 S40 := by
  rintro os ds κ - - ⟨rfl, n, zs, rfl, g, h1, h2⟩
  show Exs X G [.val (.sh (treeD n zs)), .un] _ _
  refine exs_cons (ex_set c 1 (ev_call c 0 h39 (av_cons (ev_nm c 0 (av_nil ⟨[treeD n zs], rfl, rfl, rfl, n, zs, rfl, g, fun p hp hd => ⟨rfl, ?_⟩, fun hd => ⟨rfl, ?_⟩⟩)))))
  · refine exs_one (ex_ret (ev_ife (tv_cmp (ev_isN (ev_nm c 1 (is_Sh (is_B ⟨fun z => ?_, fun _ => ?_⟩)))))))
    · exact absurd (show false = true from z) (by decide)
    exact ev_tupS (av_cons (ev_glS c 3 hC (av_cons (ev_nm c 1 (av_nil ⟨[.str "claw", clawD zs p], rfl, by simp, endP (h1 p hp hd)⟩)))))
  · refine exs_one (ex_ret (ev_ife (tv_cmp (ev_isN (ev_nm c 1 (is_Sh (is_B ⟨fun _ => ?_, fun z => ?_⟩)))))))
    rotate_left
    · exact absurd (show true = false from z) (by decide)
    exact ev_tupS (av_cons (ev_glS c 1 hE (av_cons (ev_call c 2 h35 (av_cons (ev_nm c 0 (av_nil ⟨[treeD n zs], rfl, rfl, rfl, n, zs, rfl, g, hd, fun w hw => av_nil ⟨[.str "even", .tuple (eP (layL n w))], rfl, by simp, endP (h2 hd w hw)⟩⟩)))))))
theorem shp_even : shp (.str "even") := by unfold shp; decide +kernel
theorem shp_claw : shp (.str "claw") := by unfold shp; decide +kernel
def S41 : FS := fun os ds κ => os = [] ∧ ∃ n zs, GT n zs ∧ ((∃ L, ds = [treeD n zs, .tuple [.str "even", .tuple (eP L)]] ∧ Strs L ∧ L.length = n ∧ κ (oB (decide (meets L = zs) && decide ((ddL [] (gaps L)).length = 1))) []) ∨
  ∃ p l, ds = [treeD n zs, .tuple [.str "claw", encC1 (p, l)]] ∧ p < n ∧ l.length = 3 ∧ l.Pairwise (· < ·) ∧ (∀ x ∈ l, x ∈ nbrs zs p) ∧ κ (oB true) [])
theorem w41 {X : Cx} {G : Gx} (c : C41 X) (hE : GlS X "EVEN" "even") (hC : GlS X "CLAW" "claw") (h7 : F7 X 0 S7) (h33 : F33 X 0 S33) (h36 : F36 X 0 S36) : WB X G 2 2 0 st41 S41 := by
  rintro os ds κ - - ⟨rfl, n, zs, g, ⟨L, rfl, hs, hl, h⟩ | ⟨p, l, rfl, hp, h3, hs, hm, h⟩⟩
  · show Exs X G [.val (.sh (treeD n zs)), .val (.sh (.tuple [.str "even", .tuple (eP L)]))] _ _
    refine exs_cons (ex_if (tv_w (wv_or (tv_not (tv_val (ev_call c 0 h7 (av_cons (ev_nm c 1 (av_cons (ev_int (av_nil ⟨[.tuple [.str "even", .tuple (eP L)], .int 2], rfl, rfl, rfl, _, _, rfl, is_B ⟨(fun z => nomatch z), fun _ => ?_⟩⟩)))))))))))
    refine wv_or1 (tv_not (tv_val (ev_isi c 0 1 isi_str boot_str (pv_ev (ev_ixN c 1 (ev_int (is_I ⟨_, _, .str "even", hat rfl (.val _), .sht, rfl, is_B ⟨(fun z => nomatch z), fun _ => ?_⟩⟩)))))))
    refine exs_nil (exs_cons (ex_if (tv_cmp (ev_eq c (ev_ixN c 1 (ev_int (is_I ⟨_, _, .str "even", hat rfl (.val _), .sht, rfl, ev_glS c 1 hE ⟨shp_even, shp_even, is_B ?_⟩⟩)))))))
    rw [show PyData.eqv (OT.sh (.str "even")).frz (OT.sh (.str "even")).frz = true from eqv_rfl _ (SeqAt.canLay_of_shaped shp_even)]
    refine ⟨fun _ => ?_, fun z => nomatch z⟩
    exact exs_one (ex_ret (ev_call c 2 h33 (av_cons (ev_nm c 0 (av_cons (ev_ixN c 1 (ev_int (is_I ⟨_, _, .tuple (eP L), hat rfl (.val _), .sht, rfl, av_nil ⟨[treeD n zs, .tuple (eP L)], rfl, rfl, rfl, n, zs, L, rfl, hs, hl, endP h⟩⟩))))))))
  · show Exs X G [.val (.sh (treeD n zs)), .val (.sh (.tuple [.str "claw", encC1 (p, l)]))] _ _
    refine exs_cons (ex_if (tv_w (wv_or (tv_not (tv_val (ev_call c 0 h7 (av_cons (ev_nm c 1 (av_cons (ev_int (av_nil ⟨[.tuple [.str "claw", encC1 (p, l)], .int 2], rfl, rfl, rfl, _, _, rfl, is_B ⟨(fun z => nomatch z), fun _ => ?_⟩⟩)))))))))))
    refine wv_or1 (tv_not (tv_val (ev_isi c 0 1 isi_str boot_str (pv_ev (ev_ixN c 1 (ev_int (is_I ⟨_, _, .str "claw", hat rfl (.val _), .sht, rfl, is_B ⟨(fun z => nomatch z), fun _ => ?_⟩⟩)))))))
    refine exs_nil (exs_cons (ex_if (tv_cmp (ev_eq c (ev_ixN c 1 (ev_int (is_I ⟨_, _, .str "claw", hat rfl (.val _), .sht, rfl, ev_glS c 1 hE ⟨shp_claw, shp_even, is_B ?_⟩⟩)))))))
    rw [show PyData.eqv (OT.sh (.str "claw")).frz (OT.sh (.str "even")).frz = false by show PyData.eqv (.str _) (.str _) = false; simp only [PyData.eqv]; decide +kernel]
    refine ⟨(fun z => nomatch z), fun _ => exs_nil ?_⟩
    refine exs_one (ex_ret (ev_and (ev_eq c (ev_ixN c 1 (ev_int (is_I ⟨_, _, .str "claw", hat rfl (.val _), .sht, rfl, ev_glS c 3 hC ⟨shp_claw, shp_claw, is_B ?_⟩⟩))))))
    rw [show PyData.eqv (OT.sh (.str "claw")).frz (OT.sh (.str "claw")).frz = true from eqv_rfl _ (SeqAt.canLay_of_shaped shp_claw)]
    refine ⟨fun _ => ?_, fun z => nomatch z⟩
    exact ev_one (ev_call c 4 h36 (av_cons (ev_nm c 0 (av_cons (ev_ixN c 1 (ev_int (is_I ⟨_, _, encC1 (p, l), hat rfl (.val _), .sht, rfl, av_nil ⟨[treeD n zs, encC1 (p, l)], rfl, rfl, rfl, n, zs, p, l, rfl, g, hp, h3, hs, hm, endP h⟩⟩)))))))
def S42 : FS := fun os ds κ => os = [] ∧ ∃ n zs L, ds = [treeD n zs, .tuple (eP L)] ∧ GT n zs ∧ Strs L ∧ L.length = n ∧ κ (oB (decide (meets L = zs) && decide ((ddL [] (gaps L)).length = 1))) []
theorem w42 {X : Cx} {G : Gx} (c : C42 X) (h33 : F33 X 0 S33) (h21 : F21 X 0 S21) : WB X G 2 2 0 st42 S42 := by
  rintro os ds κ - - ⟨rfl, n, zs, L, rfl, g, hs, hl, h⟩
  show Exs X G [.val (.sh (treeD n zs)), .val (.sh (.tuple (eP L)))] _ _
  exact exs_one (ex_ret (ev_call c 0 h33 (av_cons (ev_call c 1 h21 (av_cons (ev_nm c 0 (av_nil ⟨[treeD n zs], rfl, rfl, rfl, n, zs, rfl, g, av_cons (ev_nm c 1 (av_nil ⟨[treeD n zs, .tuple (eP L)], rfl, rfl, rfl, n, zs, L, rfl, hs, hl, endP h⟩))⟩)))))))
def S43 : FS := S38
theorem w43 {X : Cx} {G : Gx} (c : C43 X) (h38 : F38 X 0 S38) (h21 : F21 X 0 S21) : WB X G 1 1 0 st43 S43 := by
  rintro os ds κ - - ⟨rfl, n, zs, rfl, g, h⟩
  show Exs X G [.val (.sh (treeD n zs))] _ _
  exact exs_one (ex_ret (ev_call c 0 h38 (av_cons (ev_call c 1 h21 (av_cons (ev_nm c 0 (av_nil ⟨[treeD n zs], rfl, rfl, rfl, n, zs, rfl, g, av_nil ⟨[treeD n zs], rfl, rfl, rfl, n, zs, rfl, g, endP h⟩⟩)))))))
def S44 : FS := S40
theorem w44 {X : Cx} {G : Gx} (c : C44 X) (h40 : F40 X 0 S40) (h21 : F21 X 0 S21) : WB X G 1 1 0 st44 S44 := by
  rintro os ds κ - - ⟨rfl, n, zs, rfl, g, h1, h2⟩
  show Exs X G [.val (.sh (treeD n zs))] _ _
  exact exs_one (ex_ret (ev_call c 0 h40 (av_cons (ev_call c 1 h21 (av_cons (ev_nm c 0 (av_nil ⟨[treeD n zs], rfl, rfl, rfl, n, zs, rfl, g, av_nil ⟨[treeD n zs], rfl, rfl, rfl, n, zs, rfl, g, fun p hp hd => endP (h1 p hp hd), fun hd w hw => endP (h2 hd w hw)⟩⟩)))))))
def S45 : FS := S41
theorem w45 {X : Cx} {G : Gx} (c : C45 X) (h41 : F41 X 0 S41) (h21 : F21 X 0 S21) : WB X G 2 2 0 st45 S45 := by
  rintro os ds κ - - ⟨rfl, n, zs, g, ⟨L, rfl, hs, hl, h⟩ | ⟨p, l, rfl, hp, h3, hs, hm, h⟩⟩
  · show Exs X G [.val (.sh (treeD n zs)), .val (.sh (.tuple [.str "even", .tuple (eP L)]))] _ _
    exact exs_one (ex_ret (ev_call c 0 h41 (av_cons (ev_call c 1 h21 (av_cons (ev_nm c 0 (av_nil ⟨[treeD n zs], rfl, rfl, rfl, n, zs, rfl, g, av_cons (ev_nm c 1 (av_nil ⟨[treeD n zs, .tuple [.str "even", .tuple (eP L)]], rfl, rfl, rfl, n, zs, g, .inl ⟨L, rfl, hs, hl, endP h⟩⟩))⟩)))))))
  · show Exs X G [.val (.sh (treeD n zs)), .val (.sh (.tuple [.str "claw", encC1 (p, l)]))] _ _
    exact exs_one (ex_ret (ev_call c 0 h41 (av_cons (ev_call c 1 h21 (av_cons (ev_nm c 0 (av_nil ⟨[treeD n zs], rfl, rfl, rfl, n, zs, rfl, g, av_cons (ev_nm c 1 (av_nil ⟨[treeD n zs, .tuple [.str "claw", encC1 (p, l)]], rfl, rfl, rfl, n, zs, g, .inr ⟨p, l, rfl, hp, h3, hs, hm, endP h⟩⟩))⟩)))))))
end Pd
set_option Elab.async false
set_option linter.all false
set_option maxRecDepth 100000
set_option autoImplicit false
namespace Pd
open PySem PySem.Spec PyProof.Rows L2
section
variable {X : Cx} {N : List Str} {sc : Scope} {vi li : List Nat} {gs bs : List Str} {k : Nat} {G : Gx} {ρ : List Slot} {a b e : Expr} {pos p p2 q2 : Pos} {Ψ : Post}
def seqI (n : Nat) : List Int := (List.range n).map fun (i : Nat) => (i : Int)
/-- list(range(n)) -/
theorem ev_listR (c : Cn X N sc vi li gs bs k) (j j2 : Nat) (h : Ev X G ρ e (isI fun z ρ1 => 0 ≤ z ∧ z ≤ 16777216 ∧ Ψ (.ls (nums (seqI z.toNat))) ρ1)) (hj : bs[j]? = some ("list" : Str) := by rfl) (hj2 : bs[j2]? = some ("range" : Str) := by rfl) (na : NoStar e := by exact fun _ _ => rfl) :
    Ev X G ρ (.Call (.Name "list" p) [.Call (.Name "range" p2) [e] [] q2] [] pos) Ψ :=
  pe_imp (pe_listRg c.cm (c.bg j hj) (c.bm j hj) (prg_1 (c.bg j2 hj2) (c.bm j2 hj2) h (na _ _)) rfl) fun σ H Q ⟨τ, x, q⟩ => ⟨τ, x, fun o ρ1 ⟨z, eo, h0, h1, hp⟩ v H1 y => by
    subst eo
    refine ⟨z, y.headI, RgOk.of_le (by omega) h1 (by omega) h0, fun l hl => q _ _ hp _ _ ?_⟩
    obtain ⟨Fe, Ft, y2⟩ := y.drop
    have e1 : rgV 0 z = (seqI z.toNat).map V.int := by
      unfold rgV seqI
      rw [List.map_map, Int.sub_zero]
      apply List.map_congr_left
      intro i _
      show V.int (0 + (i : Nat)) = V.int (i : Nat)
      rw [Int.zero_add]
    rw [e1]
    exact y2.newL (Rps.ofNums _) hl⟩
end
theorem endP1 {κ : OT → List OT → Prop} {r o : OT} {ρ : List Slot} (h : κ r [o]) : EndsF 1 κ (.rt r (.bor 0 o :: ρ)) := ⟨[o], ρ, rfl, rfl, h⟩
end Pd
set_option Elab.async false
set_option linter.all false
set_option maxRecDepth 100000
set_option autoImplicit false
namespace Pd
open PySem PySem.Spec PyProof.Rows L2
def Pot (a b : Int) : Prop := 0 ≤ a ∧ 0 ≤ b ∧ b < 4294967296
def potO (a b : Int) : OT := .ls (nums [a, b])
def S47 : FS := fun os ds κ => os = [] ∧ ∃ (ns : List Int) (k : Nat), ds = [.list (nums ns), .int k] ∧ k ≤ 1000 ∧ ∀ a b, Pot a b → κ (potO a b) []
theorem nums_len (ns : List Int) : (nums ns).length = ns.length := by simp [nums]
theorem w47 {X : Cx} {G : Gx} (c : C47 X) : WB X G 3 2 0 st47 S47 := by
  rintro os ds κ - - ⟨rfl, ns, k, rfl, hk2, h⟩
  show Exs X G [.val (.sh (.list (nums ns))), .val (oI k), .un] _ _
  have fin : ∀ cell : Int, Exs X G [.val (.sh (.list (nums ns))), .val (oI k), .val (oI cell)] [(defBody st47).getD 2 (.Pass ⟨0, 0, 0, 0⟩)] (EndsF 0 κ) := fun cell => by
    refine exs_one (ex_ret (ev_lstS (av_cons (ev_max2 c 2 (ev_int (is_I (ev_sub (ev_nm c 2 (is_I (ev_pow (ev_int (is_I (ev_int (is_I ⟨?_, is_I (is_I ?_)⟩))))))))))))))
    · unfold CPow; decide
    · refine av_cons (ev_add (ev_mod (ev_intI c 3 (ev_add (ev_add (ev_mul (ev_mod (ev_intI c 3 (ev_nm c 2 (is_I (is_I ?_)))))))))))
      refine ev_int (is_I ⟨by decide, is_I ?_⟩)
      refine ev_int (is_I ⟨?_, is_I ?_⟩)
      · left; constructor
        · have := Int.emod_nonneg cell (show (2147483549 : Int) ≠ 0 by decide); omega
        · have := Int.emod_lt_of_pos cell (show (0 : Int) < 2147483549 by decide); omega
      refine ev_mul (ev_int (is_I (ev_nm c 1 (is_I ⟨?_, is_I (is_I ?_)⟩))))
      · left; constructor <;> decide
      refine ev_int (is_I (is_I (is_I ?_)))
      refine ev_int (is_I ⟨by decide, is_I ?_⟩)
      refine ev_int (is_I (av_nil ⟨[.int _, .int _], rfl, by simp, endP (h _ _ ?_)⟩))
      refine ⟨?_, ?_, ?_⟩
      · split <;> omega
      · have := Int.emod_nonneg (cell % 2147483549 * 41213 + 641 * k + 59) (show (2147483563 : Int) ≠ 0 by decide); omega
      · have := Int.emod_lt_of_pos (cell % 2147483549 * 41213 + 641 * k + 59) (show (0 : Int) < 2147483563 by decide); omega
  refine exs_cons (ex_set c 2 (ev_add (ev_mul (ev_int (is_I (ev_nm c 1 (is_I ⟨?_, is_I (ev_int (is_I ⟨rfl, ?_⟩))⟩)))))))
  · left; constructor <;> decide
  · refine exs_cons (ex_if (tv_cmp (ev_lt (ev_nm c 1 (is_I (ev_len c 0 (pv_nm c 0 (is_sl (is_I (is_B ⟨fun h1 => ?_, fun _ => exs_nil (fin _)⟩))))))))))
    have h1 := of_decide_eq_true h1
    rw [nums_len] at h1
    have hi : k < ns.length := by omega
    have hg : L2.atI (nums ns) (k : Int) = some (.int ns[k]) := by
      rw [atI_nat _ _ (by rw [nums_len]; exact hi)]
      simp [nums, hi]
    exact exs_one (ex_set c 2 (ev_abs c 1 (ev_ixN c 0 (ev_nm c 1 (is_I ⟨_, _, _, hat rfl (.val _), .shl, hg, is_I ⟨rfl, fin _⟩⟩)))))
def S48 : FS := fun os ds κ => ∃ (a b : Int) (m : Nat), os = [potO a b] ∧ Pot a b ∧ ds = [.int m] ∧ 1 ≤ m ∧ m ≤ 1000 ∧ ∀ (a' b' : Int) (d : Nat), Pot a' b' → d < m → κ (oI d) [potO a' b']
theorem w48 {X : Cx} {G : Gx} (c : C48 X) : WB X G 3 2 1 st48 S48 := by
  rintro os ds κ - - ⟨a, b, m, rfl, ⟨ha, hb, hb2⟩, rfl, hm, hm2, h⟩
  show Exs X G [.bor 0 (potO a b), .val (oI m), .un] _ _
  refine exs_cons (ex_if (tv_cmp (ev_gt (ev_ixN c 0 (ev_int (is_I ⟨_, _, .int a, hat rfl (.bor 0 _), .ls, rfl, is_I (ev_int (is_I (is_B ⟨fun h1 => ?_, fun h1 => ?_⟩)))⟩))))))
  · have h1 := of_decide_eq_true h1
    refine exs_cons (ex_asg c (ev_divmod c 0 (ev_ixN c 0 (ev_int (is_I ⟨_, _, .int a, hat rfl (.bor 0 _), .ls, rfl, is_I (ev_nm c 1 (is_I ⟨?_, ?_⟩))⟩)))))
    · exact ⟨by omega, by omega⟩
    · refine tg_tupS c (tgs_cons (tg_setL c 0 (ev_int (is_I ⟨_, _, _, 0, _, rfl, .bor 0 _, .ls _, rfl, .ls (by simp [nums]), ?_⟩))))
      refine tgs_cons (tg_nm c 2 (tgs_nil ?_))
      have e : a % (m : Int) = ((a % (m : Int)).toNat : Int) := by
        have := Int.emod_nonneg a (show (m : Int) ≠ 0 by omega)
        omega
      have hlt : (a % (m : Int)).toNat < m := by
        have := Int.emod_lt_of_pos a (show (0 : Int) < m by omega)
        omega
      refine exs_one (ex_ret (ev_nm c 2 (endP1 (o := potO (a / m) b) ?_)))
      have q := h (a / m) b (a % (m : Int)).toNat ⟨Int.ediv_nonneg ha (by omega), hb, hb2⟩ hlt
      rw [← e] at q
      exact q
  · refine exs_nil (exs_cons (ex_asg c (ev_mod (ev_intI c 1 (ev_add (ev_mul (ev_ixN c 0 (ev_int (is_I ⟨_, _, .int b, hat rfl (.bor 0 _), .ls, rfl, is_I ?_⟩)))))))))
    refine ev_int (is_I ⟨?_, is_I ?_⟩)
    · left; constructor <;> omega
    refine ev_int (is_I (is_I (is_I ?_)))
    refine ev_int (is_I ⟨by decide, ?_⟩)
    · refine tg_setL c 0 (ev_int (is_I ⟨_, _, _, 1, _, rfl, .bor 0 _, .ls _, rfl, .ls (by simp [nums]), ?_⟩))
      have b0 : 0 ≤ (b * 48271 + 1069) % 2147483587 := Int.emod_nonneg _ (by decide)
      have b1 : (b * 48271 + 1069) % 2147483587 < 2147483587 := Int.emod_lt_of_pos _ (by decide)
      show Exs X G [.bor 0 (potO a ((b * 48271 + 1069) % 2147483587)), .val (oI m), .un] _ _
      generalize (b * 48271 + 1069) % 2147483587 = b' at b0 b1
      refine exs_one (ex_ret (ev_mod (ev_intI c 1 (ev_fdiv (ev_mod (ev_intI c 1 (ev_mul (ev_ixN c 0 (ev_int (is_I ⟨_, _, .int b', hat rfl (.bor 0 _), .ls, rfl, is_I ?_⟩))))))))))
      refine ev_ixN c 0 (ev_int (is_I ⟨_, _, .int b', hat rfl (.bor 0 _), .ls, rfl, is_I ⟨?_, is_I (is_I ?_)⟩⟩))
      · left; constructor <;> omega
      refine ev_int (is_I ⟨by decide, is_I ?_⟩)
      refine ev_int (is_I ⟨⟨by decide, by decide⟩, is_I (is_I ?_)⟩)
      refine ev_nm c 1 (is_I ⟨?_, ?_⟩)
      · omega
      · generalize hx : b' * b' % 2147483563 / 19 = x
        have e : x % (m : Int) = ((x % (m : Int)).toNat : Int) := by
          have := Int.emod_nonneg x (show (m : Int) ≠ 0 by omega)
          omega
        have hlt : (x % (m : Int)).toNat < m := by
          have := Int.emod_lt_of_pos x (show (0 : Int) < m by omega)
          omega
        have q := h a b' (x % (m : Int)).toNat ⟨ha, b0, by omega⟩ hlt
        rw [← e] at q
        exact endP1 q
end Pd
set_option Elab.async false
set_option linter.all false
set_option maxRecDepth 100000
set_option autoImplicit false
namespace Pd
/-! a tree by fathers and names -/
theorem perm_inv {α β : Type} (f : α → β) {l m : List β} (h : l.Perm m) : ∀ qs : List α, m = qs.map f → ∃ zs : List α, zs.Perm qs ∧ l = zs.map f := by
  induction h with
  | nil => intro qs e; exact ⟨qs, .refl _, e⟩
  | cons x p ih =>
    intro qs e
    match qs, e with
    | q :: qs, e =>
      injection e with e1 e2
      obtain ⟨zs, p1, e3⟩ := ih qs e2
      exact ⟨q :: zs, .cons q p1, by rw [e1, e3]; rfl⟩
  | swap x y l =>
    intro qs e
    match qs, e with
    | q1 :: q2 :: qs, e =>
      injection e with e1 e2
      injection e2 with e2 e3
      exact ⟨q2 :: q1 :: qs, .swap .., by rw [e1, e2, e3]; rfl⟩
  | trans p1 p2 ih1 ih2 =>
    intro qs e
    obtain ⟨z2, p3, e2⟩ := ih2 qs e
    obtain ⟨z3, p4, e3⟩ := ih1 z2 e2
    exact ⟨z3, p4.trans p3, e3⟩
def mm (x y : Nat) : Nat × Nat := (min x y, max x y)
theorem mm_or (x y : Nat) : mm x y = (x, y) ∨ mm x y = (y, x) := by
  unfold mm
  rcases Nat.le_total x y with h | h
  · left; rw [Nat.min_eq_left h, Nat.max_eq_right h]
  · right; rw [Nat.min_eq_right h, Nat.max_eq_left h]
/-- es: each place but 0 with a lesser one -/
structure PT (n : Nat) (par : Nat → Nat) : Prop where
  pos : 1 ≤ n
  small : n ≤ 40
  lt : ∀ p, 1 ≤ p → p < n → par p < p
def esOf (n : Nat) (par : Nat → Nat) : List (Nat × Nat) := (List.range' 1 (n - 1)).map fun p => (par p, p)
def qsOf (n : Nat) (par : Nat → Nat) (g : Nat → Nat) : List (Nat × Nat) := (List.range' 1 (n - 1)).map fun p => mm (g (par p)) (g p)
theorem tree_ok {n : Nat} {par : Nat → Nat} (t : PT n par) {names : List Nat} (hn : names.Perm (List.range n)) {zs : List (Nat × Nat)} (hz : zs.Perm (qsOf n par fun i => names.getD i 0))
    (hs : zs.Pairwise fun z w => z.1 * 64 + z.2 ≤ w.1 * 64 + w.2) : GT n zs := by
  have hp := t.pos
  have h40 := t.small
  have hl : names.length = n := by rw [hn.length_eq, List.length_range]
  have nd : names.Nodup := hn.nodup_iff.mpr List.nodup_range
  have gd : ∀ i (hi : i < n), names.getD i 0 = names[i]'(by omega) := fun i hi => by rw [List.getD_eq_getElem?_getD, List.getElem?_eq_getElem (by omega)]; rfl
  have inj : ∀ i j, i < n → j < n → names.getD i 0 = names.getD j 0 → i = j := fun i j hi hj e => by
    rw [gd i hi, gd j hj] at e
    exact (List.getElem_inj nd).mp e
  have glt : ∀ i, i < n → names.getD i 0 < n := fun i hi => by
    rw [gd i hi]
    exact List.mem_range.mp (hn.mem_iff.mp (List.getElem_mem _))
  have gsur : ∀ x, x < n → ∃ i, i < n ∧ names.getD i 0 = x := fun x hx => by
    obtain ⟨i, hi⟩ := List.mem_iff_getElem?.mp (hn.mem_iff.mpr (List.mem_range.mpr hx))
    have h1 := (List.getElem?_eq_some_iff.mp hi).1
    refine ⟨i, by omega, ?_⟩
    rw [List.getD_eq_getElem?_getD, hi]; rfl
  generalize hg : (fun i => names.getD i 0) = g at hz
  have ge : ∀ i, names.getD i 0 = g i := fun i => by rw [← hg]
  simp only [ge] at inj glt gsur
  have mem : ∀ z ∈ zs, ∃ p, 1 ≤ p ∧ p < n ∧ z = mm (g (par p)) (g p) := fun z hzm => by
    obtain ⟨p, hpm, e⟩ := List.mem_map.mp (hz.mem_iff.mp hzm)
    rw [List.mem_range'_1] at hpm
    exact ⟨p, by omega, by omega, e.symm⟩
  have zlt : ∀ z ∈ zs, z.1 < z.2 ∧ z.2 < n := fun z hzm => by
    obtain ⟨p, h1, h2, e⟩ := mem z hzm
    have h3 := t.lt p h1 h2
    have a := glt p h2
    have b := glt (par p) (by omega)
    have ne : g (par p) ≠ g p := fun e => by have := inj _ _ (by omega) h2 e; omega
    subst e
    rcases mm_or (g (par p)) (g p) with q | q
    · have : mm (g (par p)) (g p) = (min (g (par p)) (g p), max (g (par p)) (g p)) := rfl
      rw [this]
      show min _ _ < max _ _ ∧ max _ _ < n
      omega
    · have : mm (g (par p)) (g p) = (min (g (par p)) (g p), max (g (par p)) (g p)) := rfl
      rw [this]
      show min _ _ < max _ _ ∧ max _ _ < n
      omega
  have qnd : (qsOf n par g).Nodup := by
    unfold qsOf
    rw [List.Nodup, List.pairwise_map]
    refine List.Pairwise.imp_of_mem ?_ (List.nodup_range' (s := 1) (n := n - 1))
    intro p q hpm hqm hpq e
    rw [List.mem_range'_1] at hpm hqm
    have h1 := t.lt p (by omega) (by omega)
    have h2 := t.lt q (by omega) (by omega)
    have i1 := inj p q (by omega) (by omega)
    have i2 := inj (par p) q (by omega) (by omega)
    have i3 := inj p (par q) (by omega) (by omega)
    have e1 : min (g (par p)) (g p) = min (g (par q)) (g q) := congrArg Prod.fst e
    have e2 : max (g (par p)) (g p) = max (g (par q)) (g q) := congrArg Prod.snd e
    have n1 : g p ≠ g q := fun e => hpq (i1 e)
    have n2 : ¬ (g (par p) = g q ∧ g p = g (par q)) := fun ⟨a, b⟩ => by
      have := i2 a
      have := i3 b
      omega
    omega
  have znd : zs.Nodup := hz.nodup_iff.mpr qnd
  have adj : ∀ p, 1 ≤ p → p < n → g p ∈ nbrs zs (g (par p)) ∧ g (par p) ∈ nbrs zs (g p) := fun p h1 h2 => by
    have h3 := t.lt p h1 h2
    have ne : g (par p) ≠ g p := fun e => by have := inj _ _ (by omega) h2 e; omega
    have hm : mm (g (par p)) (g p) ∈ zs := hz.mem_iff.mpr (List.mem_map.mpr ⟨p, List.mem_range'_1.mpr (by omega), rfl⟩)
    rcases mm_or (g (par p)) (g p) with q | q
    · rw [q] at hm
      exact ⟨mem_nbrs.mpr ⟨_, hm, .inl ⟨rfl, rfl⟩⟩, mem_nbrs.mpr ⟨_, hm, .inr ⟨ne, rfl, rfl⟩⟩⟩
    · rw [q] at hm
      exact ⟨mem_nbrs.mpr ⟨_, hm, .inr ⟨fun e => ne e.symm, rfl, rfl⟩⟩, mem_nbrs.mpr ⟨_, hm, .inl ⟨rfl, rfl⟩⟩⟩
  refine ⟨hp, h40, ?_, zlt, ?_, fun S h0 cl i hi => ?_⟩
  · rw [hz.length_eq]
    unfold qsOf
    rw [List.length_map, List.length_range']
    omega
  · refine List.Pairwise.imp_of_mem ?_ (List.Pairwise.and hs znd)
    intro z w hzm hwm ⟨a, b⟩
    have h1 := zlt z hzm
    have h2 := zlt w hwm
    have : z.1 ≠ w.1 ∨ z.2 ≠ w.2 := by
      apply Classical.byContradiction
      intro q
      exact b (Prod.ext (by omega) (by omega))
    omega
  · have up : ∀ p, p < n → S (g p) → S (g 0) := by
      intro p
      induction p using Nat.strongRecOn with
      | ind p ih =>
        intro hpn hs
        by_cases h1 : p = 0
        · rw [h1] at hs; exact hs
        · have h3 := t.lt p (by omega) hpn
          exact ih (par p) h3 (by omega) (cl _ _ hs (adj p (by omega) hpn).2)
    have dn : S (g 0) → ∀ p, p < n → S (g p) := by
      intro hr p
      induction p using Nat.strongRecOn with
      | ind p ih =>
        intro hpn
        by_cases h1 : p = 0
        · rw [h1]; exact hr
        · have h3 := t.lt p (by omega) hpn
          exact cl _ _ (ih (par p) h3 (by omega)) (adj p (by omega) hpn).1
    obtain ⟨p0, h1, e0⟩ := gsur 0 (by omega)
    obtain ⟨pi, h2, ei⟩ := gsur i hi
    rw [← ei]
    exact dn (up p0 h1 (by rw [e0]; exact h0)) pi h2
end Pd
set_option Elab.async false
set_option linter.all false
set_option maxRecDepth 100000
set_option autoImplicit false
namespace Pd
open PySem PySem.Spec PyProof.Rows L2
theorem eN_erase (l : List Nat) (d : Nat) : (eN l).eraseIdx d = eN (l.eraseIdx d) := by
  simp only [List.eraseIdx_eq_take_drop_succ, eN_take, eN_drop, eN_app]
theorem erase_perm {l : List Nat} {d : Nat} (h : d < l.length) : (l[d] :: l.eraseIdx d).Perm l := by
  rw [List.eraseIdx_eq_take_drop_succ]
  have e : l = l.take d ++ l[d] :: l.drop (d + 1) := by rw [← List.drop_eq_getElem_cons h, List.take_append_drop]
  conv => rhs; rw [e]
  exact List.perm_middle.symm
theorem shp_eN {l : List Nat} : shp (.list (eN l)) := (Nm.list (Nm.nums 0 _)).shp (by decide)
theorem eqv_eN (l m : List Nat) : PyData.eqv (.list (eN l)) (.list (eN m)) = decide (l = m) := by
  show PyData.eqvAll (nums (iN l)) (nums (iN m)) = _
  rw [eqvAll_nums]
  by_cases h : l = m
  · rw [decide_eq_true h, decide_eq_true (by rw [h])]
  · rw [decide_eq_false h, decide_eq_false (fun e => h (iN_inj e))]
def S49 : FS := fun os ds κ => ∃ (a b : Int) (l : List Nat), os = [potO a b] ∧ Pot a b ∧ ds = [.list (eN l)] ∧ l.length ≤ 1000 ∧ ∀ (a' b' : Int) (m : List Nat), Pot a' b' → m.Perm l → κ (.sh (.list (eN m))) [potO a' b']
theorem w49 {X : Cx} {G : Gx} (c : C49 X) (h48 : F48 X 1 S48) : WB X G 4 2 1 st49 S49 := by
  rintro os ds κ - - ⟨a, b, l, rfl, hpot, rfl, hl, h⟩
  show Exs X G [.bor 0 (potO a b), .val (.sh (.list (eN l))), .un, .un] _ _
  refine exs_cons (ex_par c 2 3 (av_cons (ev_list c 0 (pv_nm c 1 (is_sl (av_cons (ev_lstS (av_nil ⟨[], rfl, by decide, av_nil ⟨_, _, rfl, rfl, rfl, ?_⟩⟩))))))))
  refine exs_cons (ex_while c (fun m ρ => ∃ a b l1 f, Pot a b ∧ m = l1.length ∧ (f ++ l1).Perm l ∧ ρ = [.bor 0 (potO a b), .val (.sh (.list (eN l))), .val (.ls (eN l1)), .val (.ls (eN f))]) ⟨l.length, a, b, l, [], hpot, rfl, .refl _, rfl⟩ ?_)
  rintro m ρ ⟨a, b, l1, f, hpot, rfl, hp, rfl⟩
  have hlen := hp.length_eq
  rw [List.length_append] at hlen
  refine tv_cmp (ev_neN c 2 (ev_lstS (av_nil ⟨[], rfl, by decide, _, hat rfl (.val _), shp_eN, shp_eN (l := []), is_B ⟨fun h1 => ?_, fun h1 => ?_⟩⟩)))
  · have h1 : (!PyData.eqv (.list (eN l1)) (.list (eN []))) = true := h1
    rw [eqv_eN] at h1
    have hne : l1 ≠ [] := by simpa using h1
    have hpos := List.length_pos_iff.mpr hne
    refine exs_one (ex_expr (ev_append c 3 (ev_popAt c 2 (ev_callP c 0 0 h48 (av_cons (ev_len c 1 (pv_nm c 2 (is_ls (av_nil ⟨[.int (eN l1).length], _, potO a b, _, _, rfl, rfl, rfl, .bor 0 _, .ls _, a, b, (eN l1).length, rfl, hpot, rfl, ?_, ?_, fun a' b' d hp' hd => ⟨_, rfl, is_I ⟨_, _, _, .sh (.int (l1.getD d 0)), d, rfl, .val _, rfl, .ls ?_ ?_, _, _, _, rfl, .val _, .ls ?_, (l1.eraseIdx d).length, ?_, a', b', l1.eraseIdx d, f ++ [l1.getD d 0], hp', rfl, ?_, ?_⟩⟩⟩)))))))))
    · rw [eN_len]; omega
    · rw [eN_len]; omega
    · rw [eN_len] at hd
      rw [eN_get, List.getElem?_eq_getElem hd, List.getD_eq_getElem?_getD, List.getElem?_eq_getElem hd]; rfl
    · rw [eN_len]; omega
    · rw [eN_len]; omega
    · rw [eN_len] at hd
      rw [List.length_eraseIdx, if_pos hd]; omega
    · rw [eN_len] at hd
      have e : l1.getD d 0 = l1[d] := by rw [List.getD_eq_getElem?_getD, List.getElem?_eq_getElem hd]; rfl
      rw [e, List.append_assoc]
      exact (List.Perm.append (.refl f) (erase_perm hd)).trans hp
    · rw [← eN_erase, eN_app]; rfl
  · have h1 : (!PyData.eqv (.list (eN l1)) (.list (eN []))) = false := h1
    rw [eqv_eN] at h1
    have he : l1 = [] := by simpa using h1
    subst he
    rw [List.append_nil] at hp
    exact exs_one (ex_ret (ev_nmF (o := .ls (eN f)) c 3 (endP1 (h a b f hpot hp))))
def treeF (m : List Nat) : OT → Option PyData
  | .sh (.tuple [.int x, .int y]) => some (prN (mm (m.getD x.toNat 0) (m.getD y.toNat 0)))
  | _ => none
theorem treeF_nat (m : List Nat) (x y : Nat) : treeF m (.sh (pr ((x : Int), (y : Int)))) = some (prN (mm (m.getD x 0) (m.getD y 0))) := by
  show some (prN (mm (m.getD ((x : Int)).toNat 0) (m.getD ((y : Int)).toNat 0))) = _
  rw [toNat_nat, toNat_nat]
theorem fm_tree (m : List Nat) (es : List (Nat × Nat)) : List.filterMap (treeF m) (shs (eP es)) = eP (es.map fun z => mm (m.getD z.1 0) (m.getD z.2 0)) := by
  induction es with
  | nil => rfl
  | cons z es ih =>
    show List.filterMap (treeF m) (.sh (pr ((z.1 : Int), (z.2 : Int))) :: shs (eP es)) = _
    rw [List.filterMap_cons_some (treeF_nat m z.1 z.2), ih]; rfl
theorem sort2 {x y : Nat} {b : List Int} (hp : b.Perm [(x : Int), (y : Int)]) (hs : b.Pairwise (· ≤ ·)) : b = [((mm x y).1 : Int), ((mm x y).2 : Int)] := by
  refine perm_sorted ?_ hs ?_
  · rcases mm_or x y with e | e
    · rw [e]; exact hp
    · rw [e]; exact hp.trans (.swap ..)
  · refine .cons (fun z hz => ?_) (.cons (fun z hz => nomatch hz) .nil)
    simp at hz
    subst hz
    show ((min x y : Nat) : Int) ≤ ((max x y : Nat) : Int)
    omega
def S50 : FS := fun os ds κ => ∃ (a b : Int) (n : Nat) (par : Nat → Nat), os = [potO a b] ∧ Pot a b ∧ ds = [.int n, .list (eP (esOf n par))] ∧ PT n par ∧ ∀ (a' b' : Int) zs, Pot a' b' → GT n zs → κ (.sh (treeD n zs)) [potO a' b']
theorem esOf_len (n : Nat) (par : Nat → Nat) : (esOf n par).length = n - 1 := by simp [esOf]
theorem w50 {X : Cx} {G : Gx} (c : C50 X) (hB : BN X) (h49 : F49 X 1 S49) : WB X G 6 3 1 st50 S50 := by
  rintro os ds κ - - ⟨a, b, n, par, rfl, hpot, rfl, t, h⟩
  show Exs X G [.bor 0 (potO a b), .val (oI n), .val (.sh (.list (eP (esOf n par)))), .un, .un, .un] _ _
  have hn := t.small
  refine exs_cons (ex_set c 3 (ev_callP c 0 0 h49 (av_cons (ev_frz (ev_listR c 0 1 (ev_nm c 1 (is_I ⟨?_, ?_, av_nil ⟨[.list (nums (seqI (n : Int).toNat))], _, potO a b, _, _, rfl, rfl, rfl, .bor 0 _, .ls _, a, b, List.range n, rfl, hpot, ?_, ?_, fun a' b' m hp' hm => ⟨_, rfl, rfl, ?_⟩⟩⟩)))))))
  · omega
  · omega
  · rw [toNat_nat]; rfl
  · rw [List.length_range]; omega
  · have hml : m.length = n := by rw [hm.length_eq, List.length_range]
    have eq : (esOf n par).map (fun z => mm (m.getD z.1 0) (m.getD z.2 0)) = qsOf n par fun i => m.getD i 0 := by
      unfold esOf qsOf
      rw [List.map_map]; rfl
    have bnd : ∀ z ∈ iP (qsOf n par fun i => m.getD i 0), 0 ≤ z.1 ∧ z.1 < 64 ∧ 0 ≤ z.2 ∧ z.2 < 64 := by
      intro z hz
      obtain ⟨w, hw, rfl⟩ := List.mem_map.mp hz
      obtain ⟨p, hpm, rfl⟩ := List.mem_map.mp hw
      rw [List.mem_range'_1] at hpm
      have gl : ∀ i, m.getD i 0 < 64 := fun i => by
        rw [List.getD_eq_getElem?_getD]
        cases e : m[i]? with
        | none => show 0 < 64; decide
        | some v =>
          have := List.mem_range.mp (hm.mem_iff.mp (List.mem_of_getElem? e))
          show v < 64; omega
      have h1 := gl (par p)
      have h2 := gl p
      show 0 ≤ ((min (m.getD (par p) 0) (m.getD p 0) : Nat) : Int) ∧ ((min (m.getD (par p) 0) (m.getD p 0) : Nat) : Int) < 64 ∧ 0 ≤ ((max (m.getD (par p) 0) (m.getD p 0) : Nat) : Int) ∧ ((max (m.getD (par p) 0) (m.getD p 0) : Nat) : Int) < 64
      omega
    refine exs_one (ex_ret (ev_tupS (av_cons (ev_str (av_cons (ev_nm c 1 (av_cons (ev_tuple c 2 (pv_ev (ev_sortedP c 3 (pv_ev (ev_lcF c ow50_0 (treeF m) (fun o => ∃ z ∈ esOf n par, o = .sh (pr ((z.1 : Int), (z.2 : Int)))) [.bor 0 (potO a' b'), .val (oI n), .val (.sh (.list (eP (esOf n par)))), .val (.sh (.list (eN m))), .un, .un]
      (iv_list (ev_nm c 2 (is_L1 ⟨?_, rfl, fun o ho => eP_mem ho, ?_⟩))) ?_))))))))))))
    · rw [shs_len, eP_len, esOf_len]; omega
    · rw [fm_tree, eq]
      refine ⟨iP (qsOf n par fun i => m.getD i 0), .ls _, ?_, bnd, fun zs' hp hs => ?_⟩
      · simp [iP, qsOf]; omega
      · obtain ⟨zs, hz, rfl⟩ := perm_inv _ hp _ rfl
        have hs2 : zs.Pairwise fun z w => z.1 * 64 + z.2 ≤ w.1 * 64 + w.2 := by
          rw [List.pairwise_map] at hs
          exact hs.imp fun h => by simp at h; omega
        have g := tree_ok t hm hz hs2
        exact is_ls (av_nil ⟨[.str "tree", .int n, .tuple (eP zs)], rfl, by simp, endP1 (h a' b' zs hp' g)⟩)
    · rintro o ⟨z, hz, rfl⟩ s H C cl fp
      obtain ⟨p, hpm, ez⟩ := List.mem_map.mp hz
      rw [List.mem_range'_1] at hpm
      have hpar := t.lt p (by omega) (by omega)
      have z1 : z.1 < m.length := by rw [← ez, hml]; show par p < n; omega
      have z2 : z.2 < m.length := by rw [← ez, hml]; show p < n; omega
      have g1 : m.getD z.1 0 = m[z.1] := by rw [List.getD_eq_getElem?_getD, List.getElem?_eq_getElem z1]; rfl
      have g2 : m.getD z.2 0 = m[z.2] := by rw [List.getD_eq_getElem?_getD, List.getElem?_eq_getElem z2]; rfl
      refine tw_tupS (kb50_0 c hB s H C cl fp) (tws_cons (tw_nm (kb50_0 c hB s H C cl fp) 4 (tws_cons (tw_nm (kb50_0 c hB s H C cl fp) 5 (tws_nil fun s H C cl fp => ts_nil ⟨fun _ s H C cl fp => ?_, fun z => nomatch z⟩)))))
      refine ev_tuple (kb50_0 c hB s H C cl fp) 0 (pv_ev (ev_sorted (kb50_0 c hB s H C cl fp) 1 (pv_ev (ev_lstS (av_cons (ev_ixN (kb50_0 c hB s H C cl fp) 3 (ev_nm (kb50_0 c hB s H C cl fp) 4 (is_I ⟨_, _, .int (m[z.1] : Nat), hat rfl (.val _), .shl, ?_, ?_⟩))))))))
      · rw [atI_nat _ _ (by rw [eN_len]; exact z1), eN_get, List.getElem?_eq_getElem z1]; rfl
      · refine av_cons (ev_ixN (kb50_0 c hB s H C cl fp) 3 (ev_nm (kb50_0 c hB s H C cl fp) 5 (is_I ⟨_, _, .int (m[z.2] : Nat), hat rfl (.val _), .shl, ?_, av_nil ⟨[.int (m[z.1] : Nat), .int (m[z.2] : Nat)], rfl, by simp, [(m[z.1] : Int), (m[z.2] : Int)], .ls _, fun b' hp hs => is_ls ⟨rfl, _, treeF_nat m z.1 z.2, ?_⟩⟩⟩)))
        · rw [atI_nat _ _ (by rw [eN_len]; exact z2), eN_get, List.getElem?_eq_getElem z2]; rfl
        · rw [sort2 hp hs, g1, g2]; rfl
end Pd
set_option Elab.async false
set_option linter.all false
set_option maxRecDepth 100000
set_option autoImplicit false
namespace Pd
open PySem PySem.Spec PyProof.Rows L2
theorem rngL_inv {lo : Int} {m : Nat} {x : OT} {r : List OT} (h : x :: r = rngL lo m) : ∃ m', m = m' + 1 ∧ x = oI lo ∧ r = rngL (lo + 1) m' := by
  cases m with
  | zero => cases h
  | succ m => injection h with e1 e2; exact ⟨m, rfl, e1, e2⟩
/-- ties from lo on -/
def esR (lo m : Nat) (par : Nat → Nat) : List (Nat × Nat) := (List.range' lo m).map fun p => (par p, p)
theorem esR_put {lo m : Nat} {par : Nat → Nat} {d : Nat} : esR lo (m + 1) (fun p => if p = lo + m then d else par p) = esR lo m par ++ [(d, lo + m)] := by
  unfold esR
  rw [← List.range'_append_1, List.map_append]
  have e : ∀ p ∈ List.range' lo m, ((if p = lo + m then d else par p), p) = (par p, p) := fun p hp => by
    rw [List.mem_range'_1] at hp
    rw [if_neg (by omega)]
  rw [List.map_congr_left e]
  simp
def S51 : FS := fun os ds κ => ∃ (a b : Int) (m : Nat), os = [potO a b] ∧ Pot a b ∧ ds = [.int m] ∧ 1 ≤ m ∧ m ≤ 40 ∧ ∀ (a' b' : Int) n zs, Pot a' b' → n ≤ m → GT n zs → κ (.sh (treeD n zs)) [potO a' b']
theorem w51 {X : Cx} {G : Gx} (c : C51 X) (hB : BN X) (h48 : F48 X 1 S48) (h50 : F50 X 1 S50) : WB X G 4 2 1 st51 S51 := by
  rintro os ds κ - - ⟨a, b, m, rfl, hpot, rfl, hm, hm2, h⟩
  show Exs X G [.bor 0 (potO a b), .val (oI m), .un, .un] _ _
  refine exs_cons (ex_set c 2 (ev_add (ev_int (is_I (ev_callP c 0 0 h48 (av_cons (ev_nm c 1 (av_nil ⟨[.int m], _, potO a b, _, _, rfl, rfl, rfl, .bor 0 _, .ls _, a, b, m, rfl, hpot, rfl, hm, by omega, fun a1 b1 d hp1 hd => ⟨_, rfl, is_I ⟨rfl, ?_⟩⟩⟩))))))))
  rw [show (1 + (d : Int)) = ((d + 1 : Nat) : Int) by omega]
  generalize hn : d + 1 = n
  have hnm : n ≤ m := by omega
  have hn1 : 1 ≤ n := by omega
  refine exs_one (ex_ret (ev_callP c 1 0 h50 (av_cons (ev_nm c 2 (av_cons (ev_frz (ev_lsOf (ev_lc c ow51_0 (fun rest acc ρ => ∃ a2 b2 k par, Pot a2 b2 ∧ k + 1 ≤ n ∧ (∀ p, 1 ≤ p → p < 1 + k → par p < p) ∧ rest = rngL ((1 + k : Nat) : Int) (n - 1 - k) ∧ acc = (eP (esR 1 k par)).map OT.sh ∧ ρ = [.bor 0 (potO a2 b2), .val (oI m), .val (oI n), .un])
    (iv_range2 c 0 (ev_int (is_I (ev_nm c 2 (is_I ⟨?_, ?_, ?_, ?_⟩))))) ?_ ?_ (by decide +kernel)))))))))
  · exact ⟨by omega, by omega⟩
  · exact ⟨by omega, by omega⟩
  · rw [rngL_len]; omega
  · refine ⟨a1, b1, 0, fun _ => 0, hp1, by omega, fun p h1 h2 => by omega, ?_, rfl, rfl⟩
    rw [show ((n : Int) - 1).toNat = n - 1 - 0 by omega]; rfl
  · rintro x rest acc ρ ⟨a2, b2, k, par, hp2, hk, hpar, hr, rfl, rfl⟩ s H C cl fp
    obtain ⟨m', hm', rfl, rfl⟩ := rngL_inv hr
    refine tw_nm (kb51_0 c hB s H C cl fp) 3 fun s H C cl fp => ts_nil ⟨fun _ s H C cl fp => ?_, fun z => nomatch z⟩
    refine ev_tupS (av_cons (ev_callP (kb51_0 c hB s H C cl fp) 0 0 h48 (av_cons (ev_nm (kb51_0 c hB s H C cl fp) 3 (av_nil ⟨[.int ((1 + k : Nat) : Int)], _, potO a2 b2, _, _, rfl, rfl, rfl, .bor 0 _, .ls _, a2, b2, 1 + k, rfl, hp2, rfl, by omega, by omega, fun a3 b3 d hp3 hd => ⟨_, rfl, ?_⟩⟩)))))
    refine av_cons (ev_nm (kb51_0 c hB s H C cl fp) 3 (av_nil ⟨[.int (d : Int), .int ((1 + k : Nat) : Int)], rfl, by simp, a3, b3, k + 1, fun p => if p = 1 + k then d else par p, hp3, by omega, fun p h1 h2 => ?_, ?_, ?_, rfl⟩))
    · show (if p = 1 + k then d else par p) < p
      split
      · omega
      · exact hpar p h1 (by omega)
    · rw [show n - 1 - (k + 1) = m' by omega]
      congr 1
    · rw [esR_put]
      simp [eP, iP, prs, pr]
  · rintro acc ρ ⟨a2, b2, k, par, hp2, hk, hpar, hr, rfl, rfl⟩
    have hk2 : k = n - 1 := by
      have := congrArg List.length hr
      rw [rngL_len] at this
      simp at this
      omega
    refine ⟨eP (esR 1 k par), rfl, av_nil ⟨[.int n, .list (eP (esR 1 k par))], _, potO a2 b2, _, _, rfl, rfl, rfl, .bor 0 _, .ls _, a2, b2, n, par, rfl, hp2, ?_, ⟨hn1, by omega, fun p h1 h2 => hpar p h1 (by omega)⟩, fun a3 b3 zs hp3 g => ⟨_, rfl, endP1 (h a3 b3 n zs hp3 hnm g)⟩⟩⟩
    rw [hk2]; rfl
end Pd
set_option Elab.async false
set_option linter.all false
set_option maxRecDepth 100000
set_option autoImplicit false
namespace Pd
open PySem PySem.Spec PyProof.Rows L2
def tieF : OT → Option PyData
  | .sh (.int x) => some (pr (x - 1, x))
  | _ => none
theorem fm_tie : ∀ (m lo : Nat), 1 ≤ lo → List.filterMap tieF (rngL (lo : Int) m) = eP (esR lo m (· - 1))
  | 0, _, _ => rfl
  | m + 1, lo, h => by
    show List.filterMap tieF (.sh (.int lo) :: rngL ((lo : Int) + 1) m) = _
    rw [List.filterMap_cons_some (f := tieF) (b := pr ((lo : Int) - 1, (lo : Int))) rfl, show (lo : Int) + 1 = ((lo + 1 : Nat) : Int) by omega, fm_tie m (lo + 1) (by omega)]
    unfold esR
    rw [List.range'_succ]
    show _ = pr (((lo - 1 : Nat) : Int), (lo : Int)) :: _
    rw [show (lo : Int) - 1 = ((lo - 1 : Nat) : Int) by omega]
    rfl
theorem rngL_mem {lo : Int} {m : Nat} {x : OT} (h : x ∈ rngL lo m) : ∃ i : Nat, i < m ∧ x = oI (lo + i) := by
  obtain ⟨i, hi⟩ := List.mem_iff_getElem?.mp h
  rw [rngL_get] at hi
  split at hi
  · cases hi; exact ⟨i, by assumption, rfl⟩
  · cases hi
theorem esR_join {sp n : Nat} {par : Nat → Nat} (h1 : 1 ≤ sp) (h2 : sp ≤ n) : esR 1 (sp - 1) (· - 1) ++ esR sp (n - sp) par = esOf n fun p => if p < sp then p - 1 else par p := by
  unfold esR esOf
  have e : List.range' 1 (n - 1) = List.range' 1 (sp - 1) ++ List.range' sp (n - sp) := by
    have := List.range'_append_1 (s := 1) (m := sp - 1) (n := n - sp)
    rw [show 1 + (sp - 1) = sp by omega, show sp - 1 + (n - sp) = n - 1 by omega] at this
    exact this.symm
  rw [e, List.map_append]
  congr 1
  · apply List.map_congr_left
    intro p hp
    rw [List.mem_range'_1] at hp
    show _ = ((if p < sp then p - 1 else par p), p)
    rw [if_pos (by omega)]
  · apply List.map_congr_left
    intro p hp
    rw [List.mem_range'_1] at hp
    show _ = ((if p < sp then p - 1 else par p), p)
    rw [if_neg (by omega)]
theorem esR_len {lo m : Nat} {par : Nat → Nat} : (esR lo m par).length = m := by simp [esR]
theorem w52 {X : Cx} {G : Gx} (c : C52 X) (hB : BN X) (h48 : F48 X 1 S48) (h50 : F50 X 1 S50) : WB X G 6 2 1 st52 S51 := by
  rintro os ds κ - - ⟨a, b, m, rfl, hpot, rfl, hm, hm2, h⟩
  show Exs X G [.bor 0 (potO a b), .val (oI m), .un, .un, .un, .un] _ _
  refine exs_cons (ex_set c 2 (ev_add (ev_int (is_I (ev_callP c 0 0 h48 (av_cons (ev_nm c 1 (av_nil ⟨[.int m], _, potO a b, _, _, rfl, rfl, rfl, .bor 0 _, .ls _, a, b, m, rfl, hpot, rfl, hm, by omega, fun a1 b1 d hp1 hd => ⟨_, rfl, is_I ⟨rfl, ?_⟩⟩⟩))))))))
  rw [show (1 + (d : Int)) = ((d + 1 : Nat) : Int) by omega]
  generalize hn : d + 1 = n
  have hnm : n ≤ m := by omega
  have hn1 : 1 ≤ n := by omega
  clear hn hd
  show Exs X G [.bor 0 (potO a1 b1), .val (oI m), .val (oI n), .un, .un, .un] _ _
  refine exs_cons (ex_set c 3 (ev_add (ev_int (is_I (ev_callP c 0 0 h48 (av_cons (ev_nm c 2 (av_nil ⟨[.int n], _, potO a1 b1, _, _, rfl, rfl, rfl, .bor 0 _, .ls _, a1, b1, n, rfl, hp1, rfl, hn1, by omega, fun a2 b2 d hp2 hd => ⟨_, rfl, is_I ⟨rfl, ?_⟩⟩⟩))))))))
  rw [show (1 + (d : Int)) = ((d + 1 : Nat) : Int) by omega]
  generalize hs : d + 1 = sp
  have hsn : sp ≤ n := by omega
  have hs1 : 1 ≤ sp := by omega
  clear hs hd
  show Exs X G [.bor 0 (potO a2 b2), .val (oI m), .val (oI n), .val (oI sp), .un, .un] _ _
  refine exs_cons (ex_setLcF c 4 ow52_0 tieF (fun o => ∃ i : Nat, o = oI (1 + i) ∧ i < sp) [.bor 0 (potO a2 b2), .val (oI m), .val (oI n), .val (oI sp), .un, .un]
    (iv_range2 c 0 (ev_int (is_I (ev_nm c 3 (is_I ⟨?_, ?_, ?_, rfl, ?_, rfl, ?_⟩))))) ?_)
  · exact ⟨by omega, by omega⟩
  · exact ⟨by omega, by omega⟩
  · rw [rngL_len]; omega
  · intro x hx
    obtain ⟨i, hi, e⟩ := rngL_mem hx
    exact ⟨i, e, by omega⟩
  · rw [show ((sp : Int) - 1).toNat = sp - 1 by omega]
    have ft := fm_tie (sp - 1) 1 (by omega)
    rw [show ((1 : Nat) : Int) = 1 from rfl] at ft
    rw [ft]
    show Exs X G [.bor 0 (potO a2 b2), .val (oI m), .val (oI n), .val (oI sp), .val (.ls (eP (esR 1 (sp - 1) (· - 1)))), .un] _ _
    refine exs_one (ex_ret (ev_callP c 1 0 h50 (av_cons (ev_nm c 2 (av_cons (ev_frz (ev_catN c 4 (ev_lsOf (ev_lc c ow52_1 (fun rest acc ρ => ∃ a2 b2 k par, Pot a2 b2 ∧ k + sp ≤ n ∧ (∀ p, sp ≤ p → p < sp + k → par p < sp) ∧ rest = rngL ((sp + k : Nat) : Int) (n - sp - k) ∧ acc = (eP (esR sp k par)).map OT.sh ∧ ρ = [.bor 0 (potO a2 b2), .val (oI m), .val (oI n), .val (oI sp), .val (.ls (eP (esR 1 (sp - 1) (· - 1)))), .un])
      (iv_range2 c 0 (ev_nm c 3 (is_I (ev_nm c 2 (is_I ⟨?_, ?_, ?_, ?_⟩))))) ?_ ?_ (by decide +kernel))))))))))
    · exact ⟨by omega, by omega⟩
    · exact ⟨by omega, by omega⟩
    · rw [rngL_len]; omega
    · refine ⟨a2, b2, 0, fun _ => 0, hp2, by omega, fun p h1 h2 => by omega, ?_, rfl, rfl⟩
      rw [show ((n : Int) - (sp : Int)).toNat = n - sp - 0 by omega]; rfl
    · rintro x rest acc ρ ⟨a2, b2, k, par, hp2, hk, hpar, hr, rfl, rfl⟩ s H C cl fp
      obtain ⟨m', hm', rfl, rfl⟩ := rngL_inv hr
      refine tw_nm (kb52_1 c hB s H C cl fp) 5 fun s H C cl fp => ts_nil ⟨fun _ s H C cl fp => ?_, fun z => nomatch z⟩
      refine ev_tupS (av_cons (ev_callP (kb52_1 c hB s H C cl fp) 0 0 h48 (av_cons (ev_nm (kb52_1 c hB s H C cl fp) 3 (av_nil ⟨[.int (sp : Int)], _, potO a2 b2, _, _, rfl, rfl, rfl, .bor 0 _, .ls _, a2, b2, sp, rfl, hp2, rfl, by omega, by omega, fun a3 b3 d hp3 hd => ⟨_, rfl, ?_⟩⟩)))))
      refine av_cons (ev_nm (kb52_1 c hB s H C cl fp) 5 (av_nil ⟨[.int (d : Int), .int ((sp + k : Nat) : Int)], rfl, by simp, a3, b3, k + 1, fun p => if p = sp + k then d else par p, hp3, by omega, fun p h1 h2 => ?_, ?_, ?_, rfl⟩))
      · show (if p = sp + k then d else par p) < sp
        split
        · omega
        · exact hpar p h1 (by omega)
      · rw [show n - sp - (k + 1) = m' by omega]
        congr 1
      · rw [esR_put]
        simp [eP, iP, prs, pr]
    · rintro acc ρ ⟨a2, b2, k, par, hp2, hk, hpar, hr, rfl, rfl⟩
      have hk2 : k = n - sp := by
        have := congrArg List.length hr
        rw [rngL_len] at this
        simp at this
        omega
      subst hk2
      have ej := esR_join (par := par) hs1 hsn
      refine ⟨eP (esR sp (n - sp) par), rfl, .ls (eP (esR 1 (sp - 1) (· - 1))), .ls (eP (esR 1 (sp - 1) (· - 1)) ++ eP (esR sp (n - sp) par)), hat rfl (.val _), .ll ?_, ?_⟩
      · rw [eP_len, eP_len, esR_len, esR_len]; omega
      · rw [← eP_app, ej]
        refine av_nil ⟨[.int n, .list (eP (esOf n _))], _, potO a2 b2, _, _, rfl, rfl, rfl, .bor 0 _, .ls _, a2, b2, n, _, rfl, hp2, rfl, ⟨hn1, by omega, fun p h1 h2 => ?_⟩, fun a3 b3 zs hp3 g => ⟨_, rfl, endP1 (h a3 b3 n zs hp3 hnm g)⟩⟩
        show (if p < sp then p - 1 else par p) < p
        split
        · omega
        · have := hpar p (by omega) (by omega); omega
  · rintro o ⟨i, rfl, hi⟩ s H C cl fp
    refine tw_nm (kb52_0 c hB s H C cl fp) 5 fun s H C cl fp => ts_nil ⟨fun _ s H C cl fp => ?_, fun z => nomatch z⟩
    exact ev_tupS (av_cons (ev_sub (ev_nm (kb52_0 c hB s H C cl fp) 5 (is_I (ev_int (is_I (av_cons (ev_nm (kb52_0 c hB s H C cl fp) 5 (av_nil ⟨[.int (1 + (i : Int) - 1), .int (1 + (i : Int))], rfl, by simp, rfl, _, rfl, rfl⟩)))))))))
abbrev S53 : FS := S51
theorem w53 {X : Cx} {G : Gx} (c : C53 X) (h48 : F48 X 1 S48) (h51 : F51 X 1 S51) (h52 : F52 X 1 S51) : WB X G 2 2 1 st53 S53 := by
  rintro os ds κ - - ⟨a, b, m, rfl, hpot, rfl, hm, hm2, h⟩
  show Exs X G [.bor 0 (potO a b), .val (oI m)] _ _
  refine exs_one (ex_ret (ev_ife (tv_cmp (ev_eq c (ev_callP c 0 0 h48 (av_cons (ev_int (av_nil ⟨[.int 2], _, potO a b, _, _, rfl, rfl, rfl, .bor 0 _, .ls _, a, b, 2, rfl, hpot, rfl, by decide, by decide, fun a1 b1 d hp1 hd => ⟨_, rfl, ev_int ⟨rfl, rfl, ?_⟩⟩⟩))))))))
  refine is_B ⟨fun _ => ?_, fun _ => ?_⟩
  · exact ev_callP c 1 0 h52 (av_cons (ev_nm c 1 (av_nil ⟨[.int m], _, potO a1 b1, _, _, rfl, rfl, rfl, .bor 0 _, .ls _, a1, b1, m, rfl, hp1, rfl, hm, hm2, fun a2 b2 n zs hp2 hn g => ⟨_, rfl, endP1 (h a2 b2 n zs hp2 hn g)⟩⟩)))
  · exact ev_callP c 2 0 h51 (av_cons (ev_nm c 1 (av_nil ⟨[.int m], _, potO a1 b1, _, _, rfl, rfl, rfl, .bor 0 _, .ls _, a1, b1, m, rfl, hp1, rfl, hm, hm2, fun a2 b2 n zs hp2 hn g => ⟨_, rfl, endP1 (h a2 b2 n zs hp2 hn g)⟩⟩)))
end Pd
set_option Elab.async false
set_option linter.all false
set_option maxRecDepth 100000
set_option autoImplicit false
namespace Pd
open PySem PySem.Spec PyProof.Rows L2
def S54 : FS := fun os ds κ => os = [] ∧ ∃ (n : Nat) (zs : List (Nat × Nat)), ds = [treeD n zs] ∧ OkT n zs ∧ κ (.ls (nearLs n zs)) []
theorem w54 {X : Cx} {G : Gx} (c : C54 X) (hB : BN X) : WB X G 6 1 0 st54 S54 := by
  rintro os ds κ - - ⟨rfl, n, zs, rfl, ok, h⟩
  show Exs X G [.val (.sh (treeD n zs)), .un, .un, .un, .un, .un] _ _
  refine exs_cons (ex_setLc c 1 ow54_0 (fun rest acc ρ => ρ = [.val (.sh (treeD n zs)), .un, .un, .un, .un, .un] ∧ ∃ m, acc = List.replicate m (.ls []) ∧ rest.length + m = n)
    (iv_range c 0 (ev_ixN c 0 (ev_int (is_I ⟨_, _, .int n, hat rfl (.val _), .sht, rfl, is_I ⟨⟨?_, ?_⟩, ?_, rfl, 0, rfl, ?_⟩⟩)))) ?_ ?_ (by decide +kernel))
  · omega
  · have := ok.small; omega
  · rw [rngL_len]; have := ok.small; omega
  · rw [rngL_len]; omega
  · rintro x rest acc ρ ⟨rfl, m, rfl, hl⟩ s H C cl fp
    refine tw_nm (kb54_0 c hB s H C cl fp) 4 fun s H C cl fp => ts_nil ⟨fun _ s H C cl fp => ev_lstS (av_nil ⟨[], rfl, by decide, rfl, m + 1, ?_, ?_⟩), fun z => nomatch z⟩
    · rw [List.replicate_succ']
    · rw [List.length_cons] at hl; omega
  · rintro acc ρ ⟨rfl, m, rfl, hl⟩
    have : m = n := by simpa using hl
    subst this
    refine ⟨rfl, _, .inl rfl, ?_⟩
    rw [← fnd_nil]
    refine exs_cons (ex_for c (fun rest ρ => ∃ pre post s3 s4, rest = shs (eP post) ∧ zs = pre ++ post ∧ ρ = [.val (.sh (treeD m zs)), .val (.lst (fnd m pre)), s3, s4, .un, .un])
      (iv_tup (ev_ixN c 0 (ev_int (is_I ⟨_, _, .tuple (eP zs), hat rfl (.val _), .sht, rfl, is_T ⟨[], zs, .un, .un, rfl, rfl, rfl⟩⟩)))) ?_ ?_)
    · rintro x rest ρ ⟨pre, post, s3, s4, e1, e2, rfl⟩
      match post, e1 with
      | z :: post, e1 =>
        injection e1 with ex er
        subst ex er
        obtain ⟨a, b⟩ := z
        have hz := ok.lt (a, b) (by rw [e2]; simp)
        have hlen : ∀ i, (eN (nbrs pre i)).length < 16777216 := fun i => by
          rw [eN_len]
          have h1 := nbrs_len pre i
          have h2 : pre.length ≤ zs.length := by rw [e2]; simp
          have := ok.len
          omega
        refine tg_tupS c (tgs_cons (tg_nm c 2 (tgs_cons (tg_nm c 3 (tgs_nil ?_)))))
        refine exs_cons (ex_expr (ev_appendAt c 1 (ev_nm c 2 (is_I ⟨_, _, _, _, _, _, _, rfl, .val _, .lst (fnd_get hz.1), by rw [fnd_len]; exact ixN_nat hz.1, .ls _, fun G' => ev_nm c 3 ⟨_, rfl, .ls (hlen a), ?_⟩⟩))))
        refine exs_one (ex_expr (ev_appendAt c 1 (ev_nm c 3 (is_I ⟨_, _, _, _, _, _, _, rfl, .val _, .lst (j := b) (n := .ls (eN (nbrs pre b))) (by rw [List.getElem?_set_ne hz.2.2]; exact fnd_get hz.2.1), by rw [List.length_set, fnd_len]; exact ixN_nat hz.2.1, .ls _, fun G' => ev_nm c 2 ⟨_, rfl, .ls (hlen b), ?_⟩⟩))))
        refine ⟨pre ++ [(a, b)], post, .val (oI a), .val (oI b), rfl, by rw [e2, List.append_assoc]; rfl, ?_⟩
        rw [← fnd_step hz.1 hz.2.1 hz.2.2]
        rfl
    · rintro ρ ⟨pre, post, s3, s4, e1, e2, rfl⟩
      have ep : post = [] := by
        cases post with
        | nil => rfl
        | cons => cases e1
      subst ep
      rw [List.append_nil] at e2
      subst e2
      refine exs_one (ex_ret (ev_lcF c ow54_1 (fun o => match o with | .sh (.list l) => some (.list (eN (srt (unN l)))) | _ => none) (fun o => ∃ l, o = .sh (.list (eN l))) [.val (.sh (treeD m zs)), .val (.sh (.list (frzs (fnd m zs)))), s3, s4, .un, .un]
        (iv_list (ev_nmF (o := .lst (fnd m zs)) c 1 (is_L1 (ds := frzs (fnd m zs)) ⟨?_, rfl, ?_, ?_⟩))) ?_))
      · show (shs (frzs (fnd m zs))).length < _
        rw [frz_fnd]
        simp [shs]
        have := ok.small; omega
      · show ∀ x ∈ shs (frzs (fnd m zs)), _
        rw [frz_fnd]
        intro x hx
        simp only [shs, List.map_map, List.mem_map] at hx
        obtain ⟨i, _, rfl⟩ := hx
        exact ⟨_, rfl⟩
      · refine endP ?_
        show κ (.ls (List.filterMap _ (shs (frzs (fnd m zs))))) []
        have e : List.filterMap (fun o => match o with | OT.sh (.list l) => some (PyData.list (eN (srt (unN l)))) | _ => none) (shs (frzs (fnd m zs))) = nearLs m zs := by
          rw [frz_fnd]
          unfold shs nearLs near
          rw [List.map_map, List.map_map, List.filterMap_map]
          rw [← List.filterMap_eq_map]
          congr 1
          funext i
          show some (PyData.list (eN (srt (unN (eN (nbrs zs i)))))) = _
          rw [unN_eN]; rfl
        rw [e]
        exact h
      · rintro x ⟨l, rfl⟩ s H C cl fp
        refine tw_nm (kb54_1 c hB s H C cl fp) 5 fun s H C cl fp => ts_nil ⟨fun _ s H C cl fp => ev_frz (ev_sorted (kb54_1 c hB s H C cl fp) 0 (pv_nm (kb54_1 c hB s H C cl fp) 5 ⟨iN l, .sh _, fun b' hp hs => ⟨rfl, _, ?_, rfl⟩⟩)), fun z => nomatch z⟩
        show some (PyData.list (eN (srt (unN (eN l))))) = _
        rw [unN_eN, srt_eq hp hs]; rfl
end Pd
set_option Elab.async false
set_option linter.all false
set_option maxRecDepth 100000
set_option autoImplicit false
namespace Pd
open PySem PySem.Spec PyProof.Rows L2
def S55 : FS := fun os ds κ => os = [] ∧ ∃ z w : Nat × Nat, ds = [prN z, prN w] ∧ z.1 ≤ z.2 ∧ w.1 ≤ w.2 ∧ κ (oB (meetB z w)) []
theorem w55 {X : Cx} {G : Gx} (c : C55 X) : WB X G 2 2 0 st55 S55 := by
  rintro os ds κ - - ⟨rfl, z, w, rfl, hz, hw, h⟩
  show Exs X G [.val (.sh (prN z)), .val (.sh (prN w))] _ _
  refine exs_one (ex_ret (ev_le (ev_max2 c 0 (ev_ixN c 0 (ev_int (is_I ⟨_, _, .int z.1, hat rfl (.val _), .sht, rfl, is_I ?_⟩)))) ))
  refine ev_ixN c 1 (ev_int (is_I ⟨_, _, .int w.1, hat rfl (.val _), .sht, rfl, is_I (is_I ?_)⟩))
  refine ev_min2 c 1 (ev_ixN c 0 (ev_int (is_I ⟨_, _, .int z.2, hat rfl (.val _), .sht, rfl, is_I ?_⟩)))
  refine ev_ixN c 1 (ev_int (is_I ⟨_, _, .int w.2, hat rfl (.val _), .sht, rfl, is_I (is_I (endP ?_))⟩))
  have e : decide ((if (w.1 : Int) > (z.1 : Int) then (w.1 : Int) else (z.1 : Int)) ≤ (if (w.2 : Int) < (z.2 : Int) then (w.2 : Int) else (z.2 : Int))) = meetB z w := by
    unfold meetB
    rw [← Bool.decide_and]
    apply decide_eq_decide.mpr
    split <;> split <;> omega
  rw [e]
  exact h
def rowF (L : List (Nat × Nat)) (i : Nat) : OT → Option PyData
  | .sh (.int v) => if meetB (L.getD i (0, 0)) (L.getD v.toNat (0, 0)) = true then some (prN (i, v.toNat)) else none
  | _ => none
theorem fm_rowF (L : List (Nat × Nat)) (i : Nat) : List.filterMap (rowF L i) (rngL ((i + 1 : Nat) : Int) (L.length - (i + 1))) = eP (row L i) := by
  rw [← fm_row]
  congr 1
def S56 : FS := fun os ds κ => os = [] ∧ ∃ L, ds = [.tuple (eP L)] ∧ Strs L ∧ κ (.sh (.list (eP (meets L)))) []
theorem w56 {X : Cx} {G : Gx} (c : C56 X) (hB : BN X) (h55 : F55 X 0 S55) : WB X G 4 1 0 st56 S56 := by
  rintro os ds κ - - ⟨rfl, L, rfl, hs, h⟩
  have hl := hs.1
  show Exs X G [.val (.sh (.tuple (eP L))), .un, .un, .un] _ _
  refine exs_cons (ex_set c 1 (ev_lstS (av_nil ⟨[], rfl, by decide, rfl, ?_⟩)))
  refine exs_cons (ex_for c (fun rest ρ => ∃ i s2, i ≤ L.length ∧ rest = rngL ((i : Nat) : Int) (L.length - i) ∧ ρ = [.val (.sh (.tuple (eP L))), .val (.ls (eP ((List.range i).flatMap (row L)))), s2, .un])
    (iv_range c 0 (ev_len c 1 (pv_nm c 0 (is_st (is_I ⟨?_, 0, .un, Nat.zero_le _, ?_, rfl⟩))))) ?_ ?_)
  · unfold R62; rw [eP_len]; omega
  · rw [eP_len]; rfl
  · rintro x rest ρ ⟨i, s2, hi, e1, rfl⟩
    obtain ⟨m', hm', rfl, rfl⟩ := rngL_inv e1
    have hlt : i < L.length := by omega
    have hg : L.getD i (0, 0) = L[i] := by rw [List.getD_eq_getElem?_getD, List.getElem?_eq_getElem hlt]; rfl
    refine tg_nm c 2 ?_
    refine exs_one (ex_expr (ev_extend c 1 (ev_lcF c ow56_0 (rowF L i) (fun o => ∃ v : Nat, v < L.length ∧ o = oI v) [.val (.sh (.tuple (eP L))), .val (.ls (eP ((List.range i).flatMap (row L)))), .val (oI i), .un]
      (iv_range2 c 0 (ev_add (ev_nm c 2 (is_I (ev_int (is_I (is_I (ev_len c 1 (pv_nm c 0 (is_st (is_I ⟨?_, ?_, ?_, rfl, ?_, ?_⟩))))))))))) ?_)))
    · unfold R62; omega
    · unfold R62; rw [eP_len]; omega
    · rw [rngL_len, eP_len]; omega
    · rw [eP_len]
      intro o ho
      rw [show ((i : Int) + 1) = ((i + 1 : Nat) : Int) by omega, show (((L.length : Nat) : Int) - ((i + 1 : Nat) : Int)).toNat = L.length - (i + 1) by omega, rngL_map] at ho
      obtain ⟨v, hv, rfl⟩ := List.mem_map.mp ho
      rw [List.mem_range'_1] at hv
      exact ⟨v, by omega, rfl⟩
    · rw [eP_len, show ((i : Int) + 1) = ((i + 1 : Nat) : Int) by omega, show (((L.length : Nat) : Int) - ((i + 1 : Nat) : Int)).toNat = L.length - (i + 1) by omega, fm_rowF]
      refine ⟨_, _, _, rfl, .val _, .ls ?_, i + 1, .val (oI i), by omega, ?_, ?_⟩
      · rw [eP_len, eP_len]
        have h1 := row_len L i
        have h2 := flat_len L i
        have h3 : i * L.length ≤ 40 * 40 := Nat.mul_le_mul (by omega) hl
        omega
      · rw [show L.length - (i + 1) = m' by omega]
      · rw [List.range_succ, List.flatMap_append, List.flatMap_cons, List.flatMap_nil, List.append_nil, eP_app]
        rfl
    · rintro o ⟨v, hv, rfl⟩ s H C cl fp
      have hgv : L.getD v (0, 0) = L[v] := by rw [List.getD_eq_getElem?_getD, List.getElem?_eq_getElem hv]; rfl
      refine tw_nm (kb56_0 c hB s H C cl fp) 3 fun s H C cl fp => ts_one (tv_val (ev_call (kb56_0 c hB s H C cl fp) 0 h55 (av_cons (ev_ixN (kb56_0 c hB s H C cl fp) 0 (ev_nm (kb56_0 c hB s H C cl fp) 2 (is_I ⟨_, _, prN L[i], hat rfl (.val _), .sht, ?_, ?_⟩))))))
      · rw [atI_nat _ _ (by rw [eP_len]; exact hlt), eP_get, List.getElem?_eq_getElem hlt]; rfl
      refine av_cons (ev_ixN (kb56_0 c hB s H C cl fp) 0 (ev_nm (kb56_0 c hB s H C cl fp) 3 (is_I ⟨_, _, prN L[v], hat rfl (.val _), .sht, ?_, av_nil ⟨[prN L[i], prN L[v]], rfl, rfl, rfl, _, _, rfl, (hs.2 _ (List.getElem_mem _)).1, (hs.2 _ (List.getElem_mem _)).1, is_B ⟨fun hb s H C cl fp => ?_, fun hb => ⟨rfl, ?_⟩⟩⟩⟩)))
      · rw [atI_nat _ _ (by rw [eP_len]; exact hv), eP_get, List.getElem?_eq_getElem hv]; rfl
      · refine ev_tupS (av_cons (ev_nm (kb56_0 c hB s H C cl fp) 2 (av_cons (ev_nm (kb56_0 c hB s H C cl fp) 3 (av_nil ⟨[.int i, .int v], rfl, by simp, rfl, _, ?_, rfl⟩)))))
        show (if meetB (L.getD i (0, 0)) (L.getD (v : Int).toNat (0, 0)) = true then some (prN (i, (v : Int).toNat)) else none) = _
        rw [Int.toNat_natCast, hg, hgv, hb, if_pos rfl]; rfl
      · show (if meetB (L.getD i (0, 0)) (L.getD (v : Int).toNat (0, 0)) = true then some (prN (i, (v : Int).toNat)) else none) = _
        rw [Int.toNat_natCast, hg, hgv, hb]; rfl
  · rintro ρ ⟨i, s2, hi, e1, rfl⟩
    have hge : L.length - i = 0 := by
      have := congrArg List.length e1
      rw [rngL_len] at this
      simpa using this.symm
    have ei : i = L.length := by omega
    subst ei
    exact exs_one (ex_ret (ev_nmF (o := .ls (eP (meets L))) c 1 (endP h)))
end Pd
set_option Elab.async false
set_option linter.all false
set_option maxRecDepth 100000
set_option autoImplicit false
namespace Pd
open PySem PySem.Spec PyProof.Rows L2
def S57 : FS := fun os ds κ => os = [] ∧ ∃ n zs L, ds = [treeD n zs, .tuple (eP L)] ∧ Strs L ∧ L.length = n ∧ κ (oB (decide (meets L = zs))) []
theorem w57 {X : Cx} {G : Gx} (c : C57 X) (h56 : F56 X 0 S56) : WB X G 2 2 0 st57 S57 := by
  rintro os ds κ - - ⟨rfl, n, zs, L, rfl, hs, hl, h⟩
  show Exs X G [.val (.sh (treeD n zs)), .val (.sh (.tuple (eP L)))] _ _
  refine exs_one (ex_ret (ev_and (ev_eq c (ev_len c 0 (pv_nm c 1 (is_st (ev_ixN c 0 (ev_int (is_I ⟨_, _, .int n, hat rfl (.val _), .sht, rfl, shp_int _, shp_int _, is_B ?_⟩)))))))))
  rw [show PyData.eqv (OT.sh (.int ((eP L).length : Int))).frz (OT.sh (.int (n : Int))).frz = true by
    show PyData.eqv (.int _) (.int _) = true
    rw [eqv_int, eP_len, hl]; simp]
  refine ⟨fun _ => ev_one (ev_eq c (ev_call c 0 h56 (av_cons (ev_nm c 1 (av_nil ⟨[.tuple (eP L)], rfl, rfl, rfl, L, rfl, hs, ?_⟩))))), fun z => nomatch z⟩
  refine ev_list c 1 (pv_ev (ev_ixN c 0 (ev_int (is_I ⟨_, _, .tuple (eP zs), hat rfl (.val _), .sht, rfl, is_st ⟨shp_eP, shp_eP, ?_⟩⟩))))
  rw [show PyData.eqv (OT.sh (.list (eP (meets L)))).frz (OT.ls (eP zs)).frz = decide (meets L = zs) from eqv_eP _ _]
  exact endP h
end Pd
set_option Elab.async false
set_option linter.all false
set_option maxRecDepth 100000
set_option autoImplicit false
namespace Pd
open PySem PySem.Spec PyProof.Rows L2
def cF (p x y : Nat) : OT → Option PyData
  | .sh (.int v) => some (encC1 (p, [x, y, v.toNat]))
  | _ => none
theorem cF_nat (p x y v : Nat) : cF p x y (oI v) = some (encC1 (p, [x, y, v])) := by
  show some (encC1 (p, [x, y, ((v : Int)).toNat])) = _
  rw [toNat_nat]
def cs (p : Nat) (T : List (List Nat)) : List (Nat × List Nat) := T.map fun t => (p, t)
theorem fm_c (p : Nat) (l : List Nat) (a b : Nat) : List.filterMap (cF p (l.getD a 0) (l.getD b 0)) (shs (eN (l.drop (b + 1)))) = encC (cs p (trip l a b)) := by
  rw [shs_eN]
  unfold trip encC cs
  rw [List.map_map, List.map_map]
  induction l.drop (b + 1) with
  | nil => rfl
  | cons x m ih => rw [List.map_cons, List.filterMap_cons_some (cF_nat _ _ _ x), ih]; rfl
theorem nearLs_at {n : Nat} {zs : List (Nat × Nat)} {p : Nat} (h : p < n) : L2.atI (nearLs n zs) (p : Int) = some (.list (eN (srt (nbrs zs p)))) := by
  have hl : p < (nearLs n zs).length := by simp [nearLs, near]; exact h
  rw [atI_nat _ _ hl, List.getElem?_eq_getElem hl]
  simp [nearLs, near]
def S58 : FS := fun os ds κ => os = [] ∧ ∃ n zs, ds = [treeD n zs] ∧ GT n zs ∧ κ (.sh (.list (encC (clawsL n zs)))) []
theorem w58 {X : Cx} {G : Gx} (c : C58 X) (hB : BN X) (h54 : F54 X 0 S54) : WB X G 8 1 0 st58 S58 := by
  rintro os ds κ - - ⟨rfl, n, zs, rfl, g, h⟩
  show Exs X G [.val (.sh (treeD n zs)), .un, .un, .un, .un, .un, .un, .un] _ _
  have hn := g.small
  refine exs_cons (ex_asg c (ev_tup (av_cons (ev_frz (ev_call c 0 h54 (av_cons (ev_nm c 0 (av_nil ⟨[treeD n zs], rfl, rfl, rfl, n, zs, rfl, g.ok, ?_⟩))))))))
  refine av_cons (ev_lstS (av_nil ⟨[], rfl, by decide, av_nil ⟨by simp, tg_tup c (tgs_cons (tg_nm c 1 (tgs_cons (tg_nm c 2 (tgs_nil ?_)))))⟩⟩))
  show Thn X G _ _ (.nx [.val (.sh (treeD n zs)), .val (.sh (.list (nearLs n zs))), .val (.ls []), .un, .un, .un, .un, .un])
  refine exs_cons (ex_for c (fun rest ρ => ∃ p s3 s4 s5 s6, p ≤ n ∧ rest = rngL ((p : Nat) : Int) (n - p) ∧ ρ = [.val (.sh (treeD n zs)), .val (.sh (.list (nearLs n zs))), .val (.ls (encC ((List.range p).flatMap (clawsAt zs)))), s3, s4, s5, s6, .un])
    (iv_range c 0 (ev_ixN c 0 (ev_int (is_I ⟨_, _, .int n, hat rfl (.val _), .sht, rfl, is_I ⟨?_, 0, .un, .un, .un, .un, Nat.zero_le _, ?_, rfl⟩⟩)))) ?_ ?_)
  · unfold R62; omega
  · rw [toNat_nat]; rfl
  · rintro x rest ρ ⟨p, s3, s4, s5, s6, hp, e1, rfl⟩
    obtain ⟨m', hm', rfl, rfl⟩ := rngL_inv e1
    have hpn : p < n := by omega
    have hat0 := nearLs_at (zs := zs) hpn
    have hl := nb_le g p
    have eC : clawsAt zs p = cs p (threes (srt (nbrs zs p))) := rfl
    have hD := clawsUpTo g p
    have hD2 : p * 64000 ≤ 40 * 64000 := Nat.mul_le_mul (by omega) (Nat.le_refl _)
    have next : (List.range (p + 1)).flatMap (clawsAt zs) = (List.range p).flatMap (clawsAt zs) ++ cs p (threes (srt (nbrs zs p))) := by
      rw [List.range_succ, List.flatMap_append, List.flatMap_cons, List.flatMap_nil, List.append_nil, eC]
    generalize (List.range p).flatMap (clawsAt zs) = D at *
    generalize srt (nbrs zs p) = l at *
    have b40 : l.length * l.length ≤ 40 * 40 := Nat.mul_le_mul hl hl
    refine tg_nm c 3 (exs_one (ex_for c (fun rest ρ => ∃ i s4 s5 s6, i ≤ l.length ∧ rest = shs (enumI i (eN (l.drop i))) ∧ ρ = [.val (.sh (treeD n zs)), .val (.sh (.list (nearLs n zs))), .val (.ls (encC (D ++ cs p ((List.range i).flatMap fun a => twos l a (l.length - (a + 1)))))), .val (oI p), s4, s5, s6, .un])
      (iv_enumL c 1 (ev_ixN c 1 (ev_nm c 3 (is_I ⟨_, _, .list (eN l), hat rfl (.val _), .shl, hat0, is_L1 ⟨0, s4, s5, s6, Nat.zero_le _, rfl, ?_⟩⟩)))) ?_ ?_))
    · show _ = [_, _, Slot.val (OT.ls (encC (D ++ []))), _, _, _, _, _]
      rw [List.append_nil]; rfl
    · rintro x rest ρ ⟨i, s4, s5, s6, hi, e1, rfl⟩
      have hlt : i < l.length := by
        rcases Nat.lt_or_ge i l.length with q | q
        · exact q
        · rw [List.drop_eq_nil_of_le q] at e1; cases e1
      rw [List.drop_eq_getElem_cons hlt] at e1
      injection e1 with ex er
      subst ex er
      have hg : l.getD i 0 = l[i] := by rw [List.getD_eq_getElem?_getD, List.getElem?_eq_getElem hlt]; rfl
      have ho := outer_le l i
      have ho2 : i * (l.length * l.length) ≤ 40 * (40 * 40) := Nat.mul_le_mul (by omega) b40
      refine tg_tupS c (tgs_cons (tg_nm c 4 (tgs_cons (tg_nm c 5 (tgs_nil ?_)))))
      refine exs_one (ex_for c (fun rest ρ => ∃ j m s6, rest = rngL ((i + 1 + j : Nat) : Int) m ∧ i + 1 + j + m = l.length ∧ ρ = [.val (.sh (treeD n zs)), .val (.sh (.list (nearLs n zs))), .val (.ls (encC (D ++ cs p (((List.range i).flatMap fun a => twos l a (l.length - (a + 1))) ++ twos l i j)))), .val (oI p), .val (oI i), .val (oI (l[i] : Nat)), s6, .un])
        (iv_range2 c 0 (ev_add (ev_nm c 4 (is_I (ev_int (is_I (is_I (ev_len c 2 (pv_ev (ev_ixN c 1 (ev_nm c 3 (is_I ⟨_, _, .list (eN l), hat rfl (.val _), .shl, hat0, is_sl (is_I ⟨?_, ?_, 0, l.length - (i + 1), s6, ?_, ?_, ?_⟩)⟩)))))))))))) ?_ ?_)
      · unfold R62; omega
      · unfold R62; rw [eN_len]; omega
      · rw [eN_len, show (((l.length : Nat) : Int) - ((i : Int) + 1)).toNat = l.length - (i + 1) by omega]; rfl
      · omega
      · show _ = [_, _, Slot.val (OT.ls (encC (D ++ cs p (_ ++ [])))), _, _, _, _, _]
        rw [List.append_nil]; rfl
      · rintro x rest ρ ⟨j, m, s6, e1, hm, rfl⟩
        obtain ⟨m2, hm2, rfl, rfl⟩ := rngL_inv e1
        subst hm2
        have hjl : i + 1 + j < l.length := by omega
        have hgj : l.getD (i + 1 + j) 0 = l[i + 1 + j] := by rw [List.getD_eq_getElem?_getD, List.getElem?_eq_getElem hjl]; rfl
        refine tg_nm c 6 (exs_one (ex_expr (ev_extend c 2 (ev_lcF c ow58_0 (cF p (l.getD i 0) (l.getD (i + 1 + j) 0)) (fun o => ∃ v : Nat, o = oI v) [.val (.sh (treeD n zs)), .val (.sh (.list (nearLs n zs))), .val (.ls (encC (D ++ cs p (((List.range i).flatMap fun a => twos l a (l.length - (a + 1))) ++ twos l i j)))), .val (oI p), .val (oI i), .val (oI (l[i] : Nat)), .val (oI ((i + 1 + j : Nat) : Int)), .un]
          (iv_list (ev_sl (ev_ixN c 1 (ev_nm c 3 (is_I ⟨_, _, .list (eN l), hat rfl (.val _), .shl, hat0, ov_some (ev_add (ev_nm c 6 (is_I (ev_int (is_I (is_I (ov_none ⟨_, .shl, is_L2 ⟨?_, rfl, ?_, ?_⟩⟩)))))))⟩))))) ?_))))
        · rw [show (((i + 1 + j : Nat) : Int) + 1) = ((i + 1 + j + 1 : Nat) : Int) by omega, cut_from, eN_drop, shs_len, eN_len, List.length_drop]; omega
        · rw [show (((i + 1 + j : Nat) : Int) + 1) = ((i + 1 + j + 1 : Nat) : Int) by omega, cut_from, eN_drop]
          intro o ho
          obtain ⟨v, _, rfl⟩ := eN_mem ho
          exact ⟨v, rfl⟩
        · rw [show (((i + 1 + j : Nat) : Int) + 1) = ((i + 1 + j + 1 : Nat) : Int) by omega, cut_from, eN_drop, fm_c]
          refine ⟨_, _, _, rfl, .val _, .ls ?_, j + 1, m2, .val (oI ((i + 1 + j : Nat) : Int)), ?_, by omega, ?_⟩
          · rw [encC_len, encC_len, List.length_append]
            have h1 := trip_le l i (i + 1 + j)
            have h2 := twos_le l i j
            have h3 : j * l.length ≤ 40 * 40 := Nat.mul_le_mul (by omega) hl
            simp only [cs, List.length_map, List.length_append]
            omega
          · rw [show (i + 1 + (j + 1) : Nat) = i + 1 + j + 1 by omega]
          · have : twos l i (j + 1) = twos l i j ++ trip l i (i + 1 + j) := by
              unfold twos
              rw [List.range'_1_concat, List.flatMap_append]
              simp
            rw [this, ← List.append_assoc, show cs p (((List.range i).flatMap fun a => twos l a (l.length - (a + 1))) ++ twos l i j ++ trip l i (i + 1 + j)) = cs p (((List.range i).flatMap fun a => twos l a (l.length - (a + 1))) ++ twos l i j) ++ cs p (trip l i (i + 1 + j)) from by simp [cs], ← List.append_assoc, encC_app _ (cs p (trip l i (i + 1 + j)))]
            rfl
        · rintro o ⟨v, rfl⟩ s H C cl fp
          refine tw_nm (kb58_0 c hB s H C cl fp) 7 fun s H C cl fp => ts_nil ⟨fun _ s H C cl fp => ?_, fun z => nomatch z⟩
          refine ev_tupS (av_cons (ev_nm (kb58_0 c hB s H C cl fp) 3 (av_cons (ev_tupS (av_cons (ev_nm (kb58_0 c hB s H C cl fp) 5 ?_))))))
          refine av_cons (ev_ix (ev_ixN (kb58_0 c hB s H C cl fp) 1 (ev_nm (kb58_0 c hB s H C cl fp) 3 (is_I ⟨_, _, .list (eN l), hat rfl (.val _), .shl, hat0, _, .shl, ev_nm (kb58_0 c hB s H C cl fp) 6 (is_I ⟨.int (l[i + 1 + j] : Nat), ?_, ?_⟩)⟩))))
          · rw [atI_nat _ _ (by rw [eN_len]; exact hjl), eN_get, List.getElem?_eq_getElem hjl]; rfl
          · exact av_cons (ev_nm (kb58_0 c hB s H C cl fp) 7 (av_nil ⟨[.int (l[i] : Nat), .int (l[i + 1 + j] : Nat), .int v], rfl, by simp, av_nil ⟨[.int p, .tuple [.int (l[i] : Nat), .int (l[i + 1 + j] : Nat), .int v]], rfl, by simp, rfl, _, cF_nat _ _ _ v, by rw [hg, hgj]; rfl⟩⟩))
      · rintro ρ ⟨j, m, s6, e1, hm, rfl⟩
        have em : m = 0 := by
          cases m with
          | zero => rfl
          | succ => cases e1
        subst em
        refine ⟨i + 1, .val (oI i), .val (oI (l[i] : Nat)), s6, by omega, rfl, ?_⟩
        rw [List.range_succ, List.flatMap_append, List.flatMap_cons, List.flatMap_nil, List.append_nil, show l.length - (i + 1) = j by omega]
    · rintro ρ ⟨i, s4, s5, s6, hi, e1, rfl⟩
      have hge : l.length ≤ i := by
        rcases Nat.lt_or_ge i l.length with q | q
        · rw [List.drop_eq_getElem_cons q] at e1; cases e1
        · exact q
      have ei : i = l.length := by omega
      subst ei
      refine ⟨p + 1, .val (oI p), s4, s5, s6, by omega, ?_, ?_⟩
      · rw [show n - (p + 1) = m' by omega]; rfl
      · rw [next]; rfl
  · rintro ρ ⟨p, s3, s4, s5, s6, hp, e1, rfl⟩
    have hge : n - p = 0 := by
      have := congrArg List.length e1
      rw [rngL_len] at this
      simpa using this.symm
    have ei : p = n := by omega
    subst ei
    exact exs_one (ex_ret (ev_nmF (o := .ls (encC (clawsL p zs))) c 2 (endP h)))
end Pd
set_option Elab.async false
set_option linter.all false
set_option maxRecDepth 100000
set_option autoImplicit false
namespace Pd
open PySem PySem.Spec PyProof.Rows L2
def S59 : FS := fun os ds κ => ∃ (a b : Int), os = [potO a b] ∧ Pot a b ∧ ds = [] ∧ ∀ (a' b' : Int), Pot a' b' → κ (oB true) [potO a' b']
def S60 : FS := fun os ds κ => os = [] ∧ ∃ (ns : List Int), ds = [.list (nums ns)] ∧ κ (oB true) []
theorem lawS (ns : List Int) (_ : ns.length ≤ 63) : S60 [] [.list (nums ns)] fun r _ => r = oB true := ⟨rfl, ns, rfl, rfl⟩
theorem w60 {X : Cx} {G : Gx} (c : C60 X) (h47 : F47 X 0 S47) (h59 : F59 X 1 S59) : WB X G 4 1 0 st60 S60 := by
  rintro os ds κ - - ⟨rfl, ns, rfl, h⟩
  show Exs X G [.val (.sh (.list (nums ns))), .un, .un, .un] _ _
  refine exs_cons (ex_for c (fun rest ρ => ∃ ks s1 s2 s3, rest = shs (eN ks) ∧ (∀ k ∈ ks, k ≤ 1000) ∧ ρ = [.val (.sh (.list (nums ns))), s1, s2, s3])
    (iv_tup (ev_tupS (av_cons (ev_int (av_cons (ev_int (av_nil ⟨[.int 0, .int 1], rfl, by simp, is_T ⟨[0, 1], .un, .un, .un, rfl, by simp, rfl⟩⟩))))))) ?_ ?_)
  · rintro x rest ρ ⟨ks, s1, s2, s3, e1, hk, rfl⟩
    match ks, e1 with
    | k :: ks, e1 =>
      injection e1 with ex er
      subst ex er
      refine tg_nm c 1 (exs_cons (ex_set c 2 (ev_call c 0 h47 (av_cons (ev_nm c 0 (av_cons (ev_nm c 1 (av_nil ⟨[.list (nums ns), .int k], rfl, rfl, rfl, ns, k, rfl, hk k List.mem_cons_self, fun a b hp => ⟨rfl, ?_⟩⟩))))))))
      refine exs_one (ex_for c (fun rest ρ => ∃ a b s3, Pot a b ∧ ρ = [.val (.sh (.list (nums ns))), .val (oI k), .val (potO a b), s3])
        (iv_range c 0 (ev_int (is_I ⟨⟨by decide, by decide⟩, a, b, s3, hp, rfl⟩))) ?_ ?_)
      · rintro x rest ρ ⟨a, b, s3, hp, rfl⟩
        refine tg_nm c 3 (exs_one (ex_if (tv_not (tv_val (ev_callP c 1 2 h59 (av_nil ⟨[], _, potO a b, _, _, rfl, rfl, rfl, .val _, .ls _, a, b, rfl, hp, rfl, fun a' b' hp' => ⟨_, rfl, is_B ⟨(fun z => nomatch z), fun _ => exs_nil ⟨a', b', _, hp', rfl⟩⟩⟩⟩))))))
      · rintro ρ ⟨a, b, s3, hp, rfl⟩
        exact ⟨ks, _, _, _, rfl, fun x hx => hk x (List.mem_cons_of_mem _ hx), rfl⟩
  · rintro ρ ⟨ks, s1, s2, s3, e1, hk, rfl⟩
    exact exs_one (ex_ret (ev_bl (endP h)))
end Pd
set_option Elab.async false
set_option linter.all false
set_option maxRecDepth 100000
set_option autoImplicit false
namespace Pd
def Lx (z w : Nat × Nat) : Prop := z.1 < w.1 ∨ (z.1 = w.1 ∧ z.2 < w.2)
theorem Lx.irr {z : Nat × Nat} : ¬ Lx z z := fun h => by rcases h with h | ⟨_, h⟩ <;> omega
theorem Lx.asym {z w : Nat × Nat} (a : Lx z w) (b : Lx w z) : False := by
  rcases a with a | ⟨a, a2⟩ <;> rcases b with b | ⟨b, b2⟩ <;> omega
theorem eq_of_lex : ∀ {l m : List (Nat × Nat)}, l.Pairwise Lx → m.Pairwise Lx → (∀ x, x ∈ l ↔ x ∈ m) → l = m
  | [], [], _, _, _ => rfl
  | [], y :: m, _, _, h => nomatch (h y).mpr List.mem_cons_self
  | x :: l, [], _, _, h => nomatch (h x).mp List.mem_cons_self
  | x :: l, y :: m, hl, hm, h => by
    rw [List.pairwise_cons] at hl hm
    have e : x = y := by
      rcases List.mem_cons.mp ((h x).mp List.mem_cons_self) with e | a
      · exact e
      rcases List.mem_cons.mp ((h y).mpr List.mem_cons_self) with e | b
      · exact e.symm
      exact (Lx.asym (hl.1 y b) (hm.1 x a)).elim
    subst e
    congr 1
    refine eq_of_lex hl.2 hm.2 fun z => ⟨fun hz => ?_, fun hz => ?_⟩
    · rcases List.mem_cons.mp ((h z).mp (List.mem_cons_of_mem _ hz)) with e | a
      · subst e; exact (Lx.irr (hl.1 _ hz)).elim
      · exact a
    · rcases List.mem_cons.mp ((h z).mpr (List.mem_cons_of_mem _ hz)) with e | a
      · subst e; exact (Lx.irr (hm.1 _ hz)).elim
      · exact a
theorem sub_all {α : Type} : ∀ {l m : List α}, l.Nodup → (∀ x ∈ l, x ∈ m) → m.length ≤ l.length → ∀ x ∈ m, x ∈ l
  | [], m, _, _, h, x, hx => by
    have : m = [] := List.length_eq_zero_iff.mp (Nat.le_zero.mp h)
    rw [this] at hx
    exact hx
  | a :: l, m, hn, hs, h, x, hx => by
    rw [List.nodup_cons] at hn
    obtain ⟨m1, m2, e⟩ := List.append_of_mem (hs a List.mem_cons_self)
    subst e
    have h2 := sub_all (l := l) (m := m1 ++ m2) hn.2 (fun y hy => by
      have hm := hs y (List.mem_cons_of_mem _ hy)
      have : y ≠ a := fun e => hn.1 (e ▸ hy)
      simp only [List.mem_append, List.mem_cons] at hm ⊢
      rcases hm with h | h | h
      · exact .inl h
      · exact (this h).elim
      · exact .inr h) (by
      simp only [List.length_append, List.length_cons] at h ⊢
      omega)
    simp only [List.mem_append, List.mem_cons] at hx
    rcases hx with h | h | h
    · exact List.mem_cons_of_mem _ (h2 x (List.mem_append_left _ h))
    · rw [h]; exact List.mem_cons_self
    · exact List.mem_cons_of_mem _ (h2 x (List.mem_append_right _ h))
theorem idx_at {w : List Nat} (h : w.Nodup) {k : Nat} (hk : k < w.length) : w.idxOf w[k] = k := by
  have hlt : w.idxOf w[k] < w.length := List.idxOf_lt_length_of_mem (List.getElem_mem hk)
  have e : w[w.idxOf w[k]] = w[k] := List.getElem_idxOf hlt
  exact (List.getElem_inj h).mp e
theorem mem_meets {L : List (Nat × Nat)} {z : Nat × Nat} : z ∈ meets L ↔ z.1 < z.2 ∧ z.2 < L.length ∧ meetB (L.getD z.1 (0, 0)) (L.getD z.2 (0, 0)) = true := by
  unfold meets row
  simp only [List.mem_flatMap, List.mem_range, List.mem_filterMap, List.mem_range'_1]
  constructor
  · rintro ⟨i, hi, j, hj, h⟩
    split at h
    · rename_i hm
      cases h
      exact ⟨by show i < j; omega, by show j < L.length; omega, hm⟩
    · cases h
  · rintro ⟨h1, h2, h3⟩
    exact ⟨z.1, by omega, z.2, by omega, by rw [if_pos h3]⟩
theorem meets_ord (L : List (Nat × Nat)) : (meets L).Pairwise Lx := by
  unfold meets
  rw [List.flatMap, List.pairwise_flatten]
  refine ⟨fun l hl => ?_, ?_⟩
  · obtain ⟨i, _, rfl⟩ := List.mem_map.mp hl
    unfold row
    rw [List.pairwise_filterMap]
    refine List.Pairwise.imp ?_ (List.pairwise_lt_range' (s := i + 1) (n := L.length - (i + 1)))
    intro a b hab x hx y hy
    split at hx
    · split at hy
      · cases hx; cases hy
        exact .inr ⟨rfl, hab⟩
      · cases hy
    · cases hx
  · rw [List.pairwise_map]
    refine List.Pairwise.imp ?_ (List.pairwise_lt_range (n := L.length))
    intro a b hab x hx y hy
    unfold row at hx hy
    obtain ⟨j, _, hx⟩ := List.mem_filterMap.mp hx
    obtain ⟨k, _, hy⟩ := List.mem_filterMap.mp hy
    split at hx
    · split at hy
      · cases hx; cases hy
        exact .inl hab
      · cases hy
    · cases hx
theorem meets_lay {n : Nat} {zs : List (Nat × Nat)} {w : List Nat} (g : GT n zs) (h : WayOk n zs w) : meets (layL n w) = zs := by
  have hlen := h.len
  refine eq_of_lex (meets_ord _) g.ord fun z => ?_
  rw [mem_meets]
  have hL : (layL n w).length = n := by simp [layL]
  have gd : ∀ i, i < n → (layL n w).getD i (0, 0) = (w.idxOf i, w.idxOf i + 1) := fun i hi => by
    rw [List.getD_eq_getElem?_getD, List.getElem?_eq_getElem (by omega)]
    simp [layL]
  rw [hL]
  have adj : ∀ k (hk : k + 1 < w.length), mm w[k] w[k + 1] ∈ zs := fun k hk => by
    have ha := h.adj k _ _ (List.getElem?_eq_getElem (by omega)) (List.getElem?_eq_getElem hk)
    obtain ⟨y, hy, q⟩ := mem_nbrs.mp ha
    have := g.lt y hy
    rcases q with ⟨a, b⟩ | ⟨_, a, b⟩
    · rw [← a, ← b]
      have : mm y.1 y.2 = y := Prod.ext (show min y.1 y.2 = y.1 by omega) (show max y.1 y.2 = y.2 by omega)
      rw [this]; exact hy
    · rw [← a, ← b]
      have : mm y.2 y.1 = y := Prod.ext (show min y.2 y.1 = y.1 by omega) (show max y.2 y.1 = y.2 by omega)
      rw [this]; exact hy
  have ne : ∀ i j (hi : i < w.length) (hj : j < w.length), w[i] = w[j] → i = j := fun i j hi hj e => (List.getElem_inj h.nd).mp e
  constructor
  · rintro ⟨h1, h2, h3⟩
    rw [gd _ (by omega), gd _ h2] at h3
    unfold meetB at h3
    simp only [Bool.and_eq_true, decide_eq_true_eq] at h3
    have m1 := h.mem (p := z.1) (by omega)
    have m2 := h.mem (p := z.2) h2
    have l1 := List.idxOf_lt_length_of_mem m1
    have l2 := List.idxOf_lt_length_of_mem m2
    have e1 : w[w.idxOf z.1] = z.1 := List.getElem_idxOf l1
    have e2 : w[w.idxOf z.2] = z.2 := List.getElem_idxOf l2
    generalize w.idxOf z.1 = a at *
    generalize w.idxOf z.2 = b at *
    have hab : a ≠ b := fun e => by subst e; omega
    have : b = a + 1 ∨ a = b + 1 := by omega
    rcases this with e | e
    · subst e
      have := adj a l2
      rw [e1, e2] at this
      have q : mm z.1 z.2 = z := Prod.ext (show min z.1 z.2 = z.1 by omega) (show max z.1 z.2 = z.2 by omega)
      rw [q] at this; exact this
    · subst e
      have := adj b l1
      rw [e1, e2] at this
      have q : mm z.2 z.1 = z := Prod.ext (show min z.2 z.1 = z.1 by omega) (show max z.2 z.1 = z.2 by omega)
      rw [q] at this; exact this
  · intro hz
    have hlt := g.lt z hz
    let es := (List.range (n - 1)).map fun k => mm (w.getD k 0) (w.getD (k + 1) 0)
    have gw : ∀ k (hk : k < w.length), w.getD k 0 = w[k] := fun k hk => by rw [List.getD_eq_getElem?_getD, List.getElem?_eq_getElem hk]; rfl
    have nd : es.Nodup := by
      show ((List.range (n - 1)).map fun k => mm (w.getD k 0) (w.getD (k + 1) 0)).Nodup
      rw [List.Nodup, List.pairwise_map]
      refine List.Pairwise.imp_of_mem ?_ (List.nodup_range (n := n - 1))
      intro a b ha hb hab e
      rw [List.mem_range] at ha hb
      rw [gw a (by omega), gw (a + 1) (by omega), gw b (by omega), gw (b + 1) (by omega)] at e
      have n1 := ne a b (by omega) (by omega)
      have n2 := ne a (b + 1) (by omega) (by omega)
      have n3 := ne (a + 1) b (by omega) (by omega)
      have e1 : min w[a] w[a + 1] = min w[b] w[b + 1] := congrArg Prod.fst e
      have e2 : max w[a] w[a + 1] = max w[b] w[b + 1] := congrArg Prod.snd e
      omega
    have hm := sub_all nd (fun x hx => by
      obtain ⟨k, hk, rfl⟩ := List.mem_map.mp hx
      rw [List.mem_range] at hk
      rw [gw k (by omega), gw (k + 1) (by omega)]
      exact adj k (by omega)) (by
      have := g.len
      show zs.length ≤ ((List.range (n - 1)).map fun k => mm (w.getD k 0) (w.getD (k + 1) 0)).length
      rw [List.length_map, List.length_range]; omega) z hz
    obtain ⟨k, hk, e⟩ := List.mem_map.mp hm
    rw [List.mem_range] at hk
    rw [gw k (by omega), gw (k + 1) (by omega)] at e
    refine ⟨hlt.1, hlt.2, ?_⟩
    rw [gd _ (by omega), gd _ hlt.2]
    unfold meetB
    simp only [Bool.and_eq_true, decide_eq_true_eq]
    have i1 := idx_at h.nd (k := k) (by omega)
    have i2 := idx_at h.nd (k := k + 1) (by omega)
    rcases mm_or w[k] w[k + 1] with q | q
    · rw [q] at e
      rw [← e]
      show w.idxOf w[k] ≤ w.idxOf w[k + 1] + 1 ∧ w.idxOf w[k + 1] ≤ w.idxOf w[k] + 1
      omega
    · rw [q] at e
      rw [← e]
      show w.idxOf w[k + 1] ≤ w.idxOf w[k] + 1 ∧ w.idxOf w[k] ≤ w.idxOf w[k + 1] + 1
      omega
end Pd
set_option Elab.async false
set_option linter.all false
set_option maxRecDepth 100000
set_option autoImplicit false
namespace Pd
open PySem PySem.Spec PyProof.Rows L2
theorem idx_lt {n : Nat} {zs : List (Nat × Nat)} {w : List Nat} (h : WayOk n zs w) {p : Nat} (hp : p < n) : w.idxOf p < n := by
  have := List.idxOf_lt_length_of_mem (h.mem hp)
  rw [h.len] at this
  exact this
theorem lay_len (n : Nat) (w : List Nat) : (layL n w).length = n := by simp [layL]
theorem lay_strs {n : Nat} {zs : List (Nat × Nat)} {w : List Nat} (g : GT n zs) (h : WayOk n zs w) : Strs (layL n w) := by
  have hs := g.small
  refine ⟨by rw [lay_len]; exact hs, fun z hz => ?_⟩
  obtain ⟨p, hp, rfl⟩ := List.mem_map.mp hz
  have := idx_lt h (List.mem_range.mp hp)
  exact ⟨Nat.le_succ _, by show w.idxOf p + 1 < 100; omega⟩
theorem ddL_ones : ∀ (k : Nat) (acc : List Int), acc = [1] → ddL acc (List.replicate k 1) = [1]
  | 0, _, h => h
  | k + 1, acc, h => by
    subst h
    exact ddL_ones k _ rfl
theorem lay_gaps (n : Nat) (w : List Nat) : gaps (layL n w) = List.replicate n 1 := by
  unfold gaps layL
  rw [List.map_map]
  apply List.ext_getElem
  · simp
  · intro i h1 h2
    simp
    omega
theorem lay_dd {n : Nat} (hn : 1 ≤ n) (w : List Nat) : (ddL [] (gaps (layL n w))).length = 1 := by
  rw [lay_gaps]
  match n, hn with
  | k + 1, _ =>
    show (ddL [1] (List.replicate k 1)).length = 1
    rw [ddL_ones k _ rfl]; rfl
/-! claws -/
theorem nbrs_nodup {n : Nat} {zs : List (Nat × Nat)} (g : GT n zs) (i : Nat) : (nbrs zs i).Nodup := by
  unfold nbrs
  rw [List.Nodup, List.pairwise_filterMap]
  refine List.Pairwise.imp_of_mem ?_ g.ord
  intro z w hz hw hzw x hx y hy e
  have h1 := g.lt z hz
  have h2 := g.lt w hw
  split at hx
  · have hx := Option.some.inj hx
    split at hy
    · have hy := Option.some.inj hy; omega
    · split at hy
      · have hy := Option.some.inj hy; omega
      · cases hy
  · split at hx
    · have hx := Option.some.inj hx
      split at hy
      · have hy := Option.some.inj hy; omega
      · split at hy
        · have hy := Option.some.inj hy; omega
        · cases hy
    · cases hx
theorem srt_strict {n : Nat} {zs : List (Nat × Nat)} (g : GT n zs) (i : Nat) : (srt (nbrs zs i)).Pairwise (· < ·) := by
  have nd : (srt (nbrs zs i)).Nodup := (srt_perm _).nodup_iff.mpr (nbrs_nodup g i)
  exact (List.Pairwise.and (srt_sorted _) nd).imp fun ⟨a, b⟩ => by omega
theorem mem_threes {l : List Nat} {t : List Nat} (h : t ∈ threes l) (hs : l.Pairwise (· < ·)) : t.length = 3 ∧ t.Pairwise (· < ·) ∧ ∀ x ∈ t, x ∈ l := by
  unfold threes twos trip at h
  simp only [List.mem_flatMap, List.mem_range, List.mem_range'_1, List.mem_map] at h
  obtain ⟨a, ha, b, hb, c, hc, rfl⟩ := h
  obtain ⟨k, hk, e⟩ := List.mem_iff_getElem.mp hc
  rw [List.length_drop] at hk
  rw [List.getElem_drop] at e
  have ga : l.getD a 0 = l[a] := by rw [List.getD_eq_getElem?_getD, List.getElem?_eq_getElem ha]; rfl
  have hb' : b < l.length := by omega
  have gb : l.getD b 0 = l[b] := by rw [List.getD_eq_getElem?_getD, List.getElem?_eq_getElem hb']; rfl
  rw [ga, gb, ← e]
  have hp := List.pairwise_iff_getElem.mp hs
  have p1 := hp a b ha hb' (by omega)
  have p2 := hp b (b + 1 + k) hb' (by omega) (by omega)
  refine ⟨rfl, ?_, ?_⟩
  · refine .cons (fun x hx => ?_) (.cons (fun x hx => ?_) (.cons (fun x hx => nomatch hx) .nil))
    · simp only [List.mem_cons, List.not_mem_nil, or_false] at hx
      rcases hx with rfl | rfl
      · exact p1
      · exact Nat.lt_trans p1 p2
    · simp only [List.mem_cons, List.not_mem_nil, or_false] at hx
      subst hx; exact p2
  · intro x hx
    simp only [List.mem_cons, List.not_mem_nil, or_false] at hx
    rcases hx with rfl | rfl | rfl
    · exact List.getElem_mem _
    · exact List.getElem_mem _
    · exact List.getElem_mem _
theorem take_three {l : List Nat} (h : 2 < l.length) : l.take 3 ∈ threes l := by
  match l, h with
  | x :: y :: z :: l, _ =>
    unfold threes twos trip
    simp only [List.mem_flatMap, List.mem_range, List.mem_range'_1, List.mem_map]
    exact ⟨0, by simp, 1, by simp, z, by simp, rfl⟩
theorem threes_nil {l : List Nat} (h : l.length ≤ 2) : threes l = [] := by
  apply List.eq_nil_iff_forall_not_mem.mpr
  intro t ht
  unfold threes twos trip at ht
  simp only [List.mem_flatMap, List.mem_range, List.mem_range'_1, List.mem_map] at ht
  obtain ⟨a, ha, b, hb, c, hc, rfl⟩ := ht
  rw [List.drop_eq_nil_of_le (by omega)] at hc
  cases hc
theorem claws_nil {n : Nat} {zs : List (Nat × Nat)} (h : ∀ p, p < n → deg zs p ≤ 2) : clawsL n zs = [] := by
  apply List.eq_nil_iff_forall_not_mem.mpr
  intro t ht
  obtain ⟨p, hp, ht⟩ := List.mem_flatMap.mp ht
  unfold clawsAt at ht
  rw [threes_nil (by rw [srt_len]; exact h p (List.mem_range.mp hp))] at ht
  cases ht
theorem claws_mem {n : Nat} {zs : List (Nat × Nat)} {p : Nat} (hp : p < n) (h : 2 < deg zs p) : (p, (srt (nbrs zs p)).take 3) ∈ clawsL n zs :=
  List.mem_flatMap.mpr ⟨p, List.mem_range.mpr hp, List.mem_map.mpr ⟨_, take_three (by rw [srt_len]; exact h), rfl⟩⟩
theorem claws_ok {n : Nat} {zs : List (Nat × Nat)} (g : GT n zs) {x : Nat × List Nat} (h : x ∈ clawsL n zs) : x.1 < n ∧ x.2.length = 3 ∧ x.2.Pairwise (· < ·) ∧ ∀ y ∈ x.2, y ∈ nbrs zs x.1 := by
  obtain ⟨p, hp, ht0⟩ := List.mem_flatMap.mp h
  have hc : clawsAt zs p = (threes (srt (nbrs zs p))).map fun t => (p, t) := rfl
  rw [hc] at ht0
  obtain ⟨t, ht, rfl⟩ := List.mem_map.mp ht0
  obtain ⟨h1, h2, h3⟩ := mem_threes ht (srt_strict g p)
  exact ⟨List.mem_range.mp hp, h1, h2, fun y hy => (srt_perm _).mem_iff.mp (h3 y hy)⟩
theorem claws_four {n : Nat} {zs : List (Nat × Nat)} (g : GT n zs) {p : Nat} (hp : p < n) (h : 2 < deg zs p) : 4 ≤ n := by
  have hn : (p :: nbrs zs p).Nodup := List.nodup_cons.mpr ⟨fun q => (g.nb q).2.2 rfl, nbrs_nodup g p⟩
  have := nodup_le hn (n := n) fun x hx => by
    rcases List.mem_cons.mp hx with rfl | hx
    · exact hp
    · exact (g.nb hx).2.1
  rw [List.length_cons] at this
  unfold deg at h
  omega
/-- all bars on one place: they meet, each two -/
theorem zeros_meet {n : Nat} {zs : List (Nat × Nat)} (g : GT n zs) (h : 4 ≤ n) : meets (List.replicate n (0, 0)) ≠ zs := by
  intro e
  have gd : ∀ i, i < n → (List.replicate n ((0, 0) : Nat × Nat)).getD i (0, 0) = (0, 0) := fun i hi => by
    rw [List.getD_eq_getElem?_getD, List.getElem?_eq_getElem (by rw [List.length_replicate]; exact hi)]
    simp
  have hm : ∀ i j, i < j → j < n → (i, j) ∈ zs := fun i j hij hj => by
    rw [← e]
    refine mem_meets.mpr ⟨hij, by rw [List.length_replicate]; exact hj, ?_⟩
    rw [gd i (by omega), gd j hj]; rfl
  have a := g.len
  let all : List (Nat × Nat) := (List.range' 1 (n - 1)).map (fun j => (0, j)) ++ [(1, 2)]
  have nd : all.Nodup := by
    show ((List.range' 1 (n - 1)).map (fun j => (0, j)) ++ [(1, 2)]).Nodup
    rw [List.nodup_append]
    refine ⟨?_, by simp, ?_⟩
    · rw [List.Nodup, List.pairwise_map]
      exact (List.nodup_range' (s := 1) (n := n - 1)).imp fun h e => h (congrArg Prod.snd e)
    · intro x hx y hy
      obtain ⟨j, _, rfl⟩ := List.mem_map.mp hx
      simp at hy
      subst hy
      intro e
      have := congrArg Prod.fst e
      cases this
  have zn : zs.Nodup := g.ord.imp fun {x y} h e => by subst e; omega
  have sub : ∀ x ∈ all, x ∈ zs := fun x hx => by
    rcases List.mem_append.mp hx with hx | hx
    · obtain ⟨j, hj, rfl⟩ := List.mem_map.mp hx
      rw [List.mem_range'_1] at hj
      exact hm 0 j (by omega) (by omega)
    · simp at hx
      subst hx
      exact hm 1 2 (by omega) (by omega)
  have al : all.length = n := by
    show ((List.range' 1 (n - 1)).map (fun j => (0, j)) ++ [(1, 2)]).length = n
    rw [List.length_append, List.length_map, List.length_range']
    simp; omega
  match hz : all, nd, sub, al with
  | x :: rest, nd, sub, al =>
    have s2 := sub_all (l := rest) (m := zs) (List.nodup_cons.mp nd).2 (fun y hy => sub y (List.mem_cons_of_mem _ hy)) (by rw [List.length_cons] at al; omega) x (sub x List.mem_cons_self)
    exact (List.nodup_cons.mp nd).1 s2
  | [], _, _, al => simp at al; omega
end Pd
set_option Elab.async false
set_option linter.all false
set_option maxRecDepth 100000
set_option autoImplicit false
namespace Pd
open PySem PySem.Spec PyProof.Rows L2
theorem short40 : ∀ i : Nat, i < 40 → PyData.leavesShort 8 (.int (i : Int)) = true := by decide +kernel
theorem show40 : ∀ i : Nat, i < 40 → PyData.showable (.int (i : Int)) = true := by decide +kernel
theorem claws_few {n : Nat} {zs : List (Nat × Nat)} (g : GT n zs) (h : n ≤ 16) : (clawsL n zs).length ≤ 54000 := by
  have := flat_le (clawsAt zs) 3375 (List.range n) fun x _ => by
    have hc : clawsAt zs x = (threes (srt (nbrs zs x))).map fun t => (x, t) := rfl
    have h1 := outer_le (srt (nbrs zs x)) (srt (nbrs zs x)).length
    have h2 : (srt (nbrs zs x)).length ≤ 15 := by
      rw [srt_len]
      have := nbrs_len zs x
      have := g.len
      omega
    have h3 : (srt (nbrs zs x)).length * ((srt (nbrs zs x)).length * (srt (nbrs zs x)).length) ≤ 15 * (15 * 15) := Nat.mul_le_mul h2 (Nat.mul_le_mul h2 h2)
    rw [hc, List.length_map]
    exact Nat.le_trans h1 h3
  rw [List.length_range] at this
  exact Nat.le_trans this (by omega)
structure Small (d : PyData) (k : Nat) : Prop where
  short : PyData.leavesShort 8 d = true
  bulk : d.bulk ≤ k
  sh : d.showable = true
  nd : d.hasDict = false
theorem small_all {k : Nat} : ∀ {ds : List PyData}, (∀ d ∈ ds, Small d k) → PyData.leavesShortAll 8 ds = true ∧ PyData.bulkAll ds ≤ ds.length * (k + 1) ∧ PyData.showableAll ds = true ∧ PyData.hasDictAll ds = false
  | [], _ => ⟨rfl, Nat.zero_le _, rfl, rfl⟩
  | d :: ds, h => by
    obtain ⟨h1, h2, h3, h4⟩ := small_all (k := k) (ds := ds) fun d hd => h d (List.mem_cons_of_mem _ hd)
    have g := h d List.mem_cons_self
    have g2 := g.bulk
    refine ⟨?_, ?_, ?_, ?_⟩
    · simp [PyData.leavesShortAll, h1, g.short]
    · simp only [PyData.bulkAll, List.length_cons, Nat.succ_mul]; omega
    · simp [PyData.showableAll, h3, g.sh]
    · simp [PyData.hasDictAll, h4, g.nd]
theorem small_list {k : Nat} {ds : List PyData} (h : ∀ d ∈ ds, Small d k) : Small (.list ds) (ds.length * (k + 1)) := by
  obtain ⟨h1, h2, h3, h4⟩ := small_all h
  exact ⟨by simpa [PyData.leavesShort] using h1, by simpa [PyData.bulk] using h2, by simpa [PyData.showable] using h3, by simpa [PyData.hasDict] using h4⟩
theorem small_tuple {k : Nat} {ds : List PyData} (h : ∀ d ∈ ds, Small d k) : Small (.tuple ds) (ds.length * (k + 1)) := by
  obtain ⟨h1, h2, h3, h4⟩ := small_all h
  exact ⟨by simpa [PyData.leavesShort] using h1, by simpa [PyData.bulk] using h2, by simpa [PyData.showable] using h3, by simpa [PyData.hasDict] using h4⟩
theorem small_nat {i : Nat} (h : i < 40) : Small (.int (i : Int)) 0 := ⟨short40 i h, by simp [PyData.bulk], show40 i h, by simp [PyData.hasDict]⟩
theorem Small.mono {d : PyData} {k m : Nat} (h : Small d k) (hk : k ≤ m) : Small d m := ⟨h.short, Nat.le_trans h.bulk hk, h.sh, h.nd⟩
theorem small_eN {l : List Nat} (h : ∀ x ∈ l, x < 40) : Small (.tuple (eN l)) l.length := by
  have := small_tuple (k := 0) (ds := eN l) fun d hd => by
    unfold eN nums iN at hd
    simp only [List.map_map, List.mem_map] at hd
    obtain ⟨x, hx, rfl⟩ := hd
    exact small_nat (h x hx)
  rw [eN_len] at this
  exact this.mono (by omega)
theorem small_claw {n : Nat} {zs : List (Nat × Nat)} (g : GT n zs) (hn : n ≤ 16) {x : Nat × List Nat} (h : x ∈ clawsL n zs) : Small (encC1 x) 8 := by
  obtain ⟨h1, h2, h3, h4⟩ := claws_ok g h
  have s1 := small_eN (l := x.2) fun y hy => by have := (g.nb (h4 y hy)).2.1; omega
  rw [h2] at s1
  exact (small_tuple (k := 3) (ds := [.int x.1, .tuple (eN x.2)]) fun d hd => by
    simp only [List.mem_cons, List.not_mem_nil, or_false] at hd
    rcases hd with rfl | rfl
    · exact (small_nat (by omega)).mono (by omega)
    · exact s1).mono (by simp)
theorem small_due {n : Nat} {zs : List (Nat × Nat)} (g : GT n zs) (hn : n ≤ 16) : Small (.list [.list (encC (clawsL n zs)), .list (encC (clawsL n zs))]) 972002 := by
  have hf := claws_few g hn
  have s := small_list (k := 8) (ds := encC (clawsL n zs)) fun d hd => by
    obtain ⟨x, hx, rfl⟩ := List.mem_map.mp hd
    exact small_claw g hn hx
  rw [encC_len] at s
  have s2 := s.mono (m := 486000) (by omega)
  exact (small_list (k := 486000) (ds := [.list (encC (clawsL n zs)), .list (encC (clawsL n zs))]) fun d hd => by
    simp only [List.mem_cons, List.not_mem_nil, or_false] at hd
    rcases hd with rfl | rfl <;> exact s2).mono (by simp)
theorem due_shown {n : Nat} {zs : List (Nat × Nat)} (g : GT n zs) (hn : n ≤ 16) : (PyData.list [.list (encC (clawsL n zs)), .list (encC (clawsL n zs))]).shown.length ≤ 16777216 := by
  have s := small_due g hn
  have := PyData.shown_le_bulk 8 (by decide) _ s.short
  have := s.bulk
  omega
theorem nm_claw (x : Nat × List Nat) : Nm 2 (encC1 x) := .tuple fun d hd => by
  simp only [List.mem_cons, List.not_mem_nil, or_false] at hd
  rcases hd with rfl | rfl
  · exact .int _ _
  · exact .tuple (.nums 0 _)
theorem nm_due (C : List (Nat × List Nat)) : Nm 3 (.list (encC C)) := .list fun d hd => by
  obtain ⟨x, _, rfl⟩ := List.mem_map.mp hd
  exact nm_claw x
theorem nm_due2 (C : List (Nat × List Nat)) : Nm 4 (.list [.list (encC C), .list (encC C)]) := .list fun d hd => by
  simp only [List.mem_cons, List.not_mem_nil, or_false] at hd
  rcases hd with rfl | rfl <;> exact nm_due C
end Pd
set_option Elab.async false
set_option linter.all false
set_option maxRecDepth 100000
set_option autoImplicit false
namespace Pd
open PySem PySem.Spec PyProof.Rows L2
section
variable {X : Cx} {G : Gx} {ρ : List Slot} {a b : Expr} {pos : Pos} {Ψ : Post}
/-- two texts -/
theorem ev_neS (h : Ev X G ρ a fun oa ρ1 => Ev X G ρ1 b fun ob ρ2 => ∃ x y : Str, oa = oS x ∧ ob = oS y ∧ Ψ (oB (!decide (x = y))) ρ2) : Ev X G ρ (.Compare a [.NotEq] [b] pos) Ψ :=
  ev_cmp (C := fun oa ob ρ2 => ∃ x y : Str, oa = oS x ∧ ob = oS y ∧ Ψ (oB (!decide (x = y))) ρ2) op_ne (nomark _) h fun oa ob ρ2 τ σ H v w ⟨x, y, e1, e2, hp⟩ s Q q => by
    subst e1 e2
    obtain rfl := s.drop.headStr
    obtain rfl := s.headStr
    refine ⟨rfl, ?_⟩
    have e : decide (V.str x = V.str y) = decide (x = y) := by
      rw [Bool.eq_iff_iff]; simp
    rw [e]
    exact q _ _ hp _ H (s.drop.drop.pB _)
end
end Pd
set_option Elab.async false
set_option linter.all false
set_option maxRecDepth 100000
set_option autoImplicit false
namespace Pd
open PySem PySem.Spec PyProof.Rows L2
abbrev dueD (t : Nat × List (Nat × Nat)) : PyData := .list (encC (clawsL t.1 t.2))
abbrev trD (t : Nat × List (Nat × Nat)) : PyData := treeD t.1 t.2
theorem iP_rep : ∀ n : Nat, (List.replicate n [pr (0, 0)]).flatten = eP (List.replicate n (0, 0))
  | 0 => rfl
  | n + 1 => by
    show pr (0, 0) :: (List.replicate n [pr (0, 0)]).flatten = pr (0, 0) :: eP (List.replicate n (0, 0))
    rw [iP_rep n]
theorem eqv_claw (x : Nat × List Nat) : PyData.eqv (encC1 x) (encC1 x) = true := by
  show (PyData.eqv (.int (x.1 : Int)) (.int (x.1 : Int)) && (PyData.eqvAll (nums (iN x.2)) (nums (iN x.2)) && true)) = true
  rw [eqv_int, eqvAll_nums]
  simp
def gapF : OT → Option PyData
  | .sh (.tuple [.int b, .int e]) => some (PyData.int (e - b))
  | _ => none
theorem fm_gapF (L : List (Nat × Nat)) : List.filterMap gapF (shs (eP L)) = nums (gaps L) := by
  unfold shs eP prs iP nums gaps
  rw [List.map_map, List.map_map, List.filterMap_map, List.map_map, ← List.filterMap_eq_map]
  rfl
theorem cut_mem {ds : List PyData} {lo hi : Option Int} {d : PyData} (h : d ∈ cutD ds lo hi) : d ∈ ds := by
  unfold cutD at h
  exact List.mem_of_mem_drop (List.mem_of_mem_take h)
def Good (t : Nat × List (Nat × Nat)) (d : PyData) : Prop := (∃ p, p < t.1 ∧ 2 < deg t.2 p ∧ d = .tuple [.str "claw", clawD t.2 p]) ∨ ((∀ p, p < t.1 → deg t.2 p ≤ 2) ∧ ∃ w, WayOk t.1 t.2 w ∧ d = .tuple [.str "even", .tuple (eP (layL t.1 w))])
theorem s44_good {t : Nat × List (Nat × Nat)} (g : GT t.1 t.2) {κ : OT → List OT → Prop} (h : ∀ d, Good t d → κ (.sh d) []) : S44 [] [trD t] κ :=
  ⟨rfl, _, _, rfl, g, fun p hp hd => h _ (.inl ⟨p, hp, hd, rfl⟩), fun hd w hw => h _ (.inr ⟨hd, w, hw, rfl⟩)⟩
theorem w59 {X : Cx} {G : Gx} (c : C59 X) (hB : BN X) (h48 : F48 X 1 S48) (h50 : F50 X 1 S50) (h53 : F53 X 1 S53) (h58 : F58 X 0 S58) (h43 : F43 X 0 S43) (h44 : F44 X 0 S44) (h45 : F45 X 0 S45) (h57 : F57 X 0 S57) (h42 : F42 X 0 S42) : WB X G 10 1 1 st59 S59 := by
  rintro os ds κ - - ⟨a, b, rfl, hpot, rfl, h⟩
  show Exs X G [.bor 0 (potO a b), .un, .un, .un, .un, .un, .un, .un, .un, .un] _ _
  refine exs_cons (ex_set c 1 (ev_add (ev_int (is_I (ev_callP c 0 0 h48 (av_cons (ev_int (av_nil ⟨[.int 16], _, potO a b, _, _, rfl, rfl, rfl, .bor 0 _, .ls _, a, b, 16, rfl, hpot, rfl, by decide, by decide, fun a1 b1 d hp1 hd => ⟨_, rfl, is_I ⟨rfl, ?_⟩⟩⟩))))))))
  rw [show (1 + (d : Int)) = ((d + 1 : Nat) : Int) by omega]
  generalize hn : d + 1 = n
  have hn1 : 1 ≤ n := by omega
  have hn16 : n ≤ 16 := by omega
  clear hn hd
  show Exs X G [.bor 0 (potO a1 b1), .val (oI n), .un, .un, .un, .un, .un, .un, .un, .un] _ _
  refine exs_cons (ex_set c 2 (ev_callP c 1 0 h50 (av_cons (ev_nm c 1 (av_cons (ev_frz (ev_lcF c ow59_0 tieF (fun o => ∃ i : Nat, o = oI (1 + i) ∧ i < n) [.bor 0 (potO a1 b1), .val (oI n), .un, .un, .un, .un, .un, .un, .un, .un]
    (iv_range2 c 0 (ev_int (is_I (ev_nm c 1 (is_I ⟨?_, ?_, ?_, rfl, ?_, ?_⟩))))) ?_)))))))
  · exact ⟨by omega, by omega⟩
  · exact ⟨by omega, by omega⟩
  · rw [rngL_len]; omega
  · intro x hx
    obtain ⟨i, hi, e⟩ := rngL_mem hx
    exact ⟨i, e, by omega⟩
  · rw [show ((n : Int) - 1).toNat = n - 1 by omega]
    have ft := fm_tie (n - 1) 1 (by omega)
    rw [show ((1 : Nat) : Int) = 1 from rfl] at ft
    rw [ft]
    refine av_nil ⟨[.int n, .list (eP (esOf n (· - 1)))], _, potO a1 b1, _, _, rfl, rfl, rfl, .bor 0 _, .ls _, a1, b1, n, (· - 1), rfl, hp1, rfl, ⟨hn1, by omega, fun p h1 h2 => by show p - 1 < p; omega⟩, fun a2 b2 zs hp2 g => ⟨_, rfl, rfl, ?_⟩⟩
    show Exs X G [.bor 0 (potO a2 b2), .val (oI n), .val (.sh (treeD n zs)), .un, .un, .un, .un, .un, .un, .un] _ _
    refine exs_cons (ex_for c (fun rest ρ => ∃ ts a b s3 s4 s5, Pot a b ∧ rest = shs (List.map trD ts) ∧ (∀ t ∈ ts, GT t.1 t.2 ∧ t.1 ≤ 16) ∧ (ts = [] → ∃ t, GT t.1 t.2 ∧ t.1 ≤ 16 ∧ s3 = .val (.sh (trD t)) ∧ s4 = .val (.sh (dueD t))) ∧ ρ = [.bor 0 (potO a b), .val (oI n), .val (.sh (treeD n zs)), s3, s4, s5, .un, .un, .un, .un])
      (iv_tup (ev_tupS (av_cons (ev_nm c 2 (av_cons (ev_callP c 2 0 h53 (av_cons (ev_int (av_nil ⟨[.int 14], _, potO a2 b2, _, _, rfl, rfl, rfl, .bor 0 _, .ls _, a2, b2, 14, rfl, hp2, rfl, by decide, by decide, fun a3 b3 n2 zs2 hp3 hn2 g2 => ⟨_, rfl, ?_⟩⟩))))))))) ?_ ?_)
    · refine av_nil ⟨[treeD n zs, treeD n2 zs2], rfl, by simp, is_T ⟨[(n, zs), (n2, zs2)], a3, b3, .un, .un, .un, hp3, rfl, ?_, (fun e => nomatch e), rfl⟩⟩
      intro t ht
      simp only [List.mem_cons, List.not_mem_nil, or_false] at ht
      rcases ht with rfl | rfl
      · exact ⟨g, hn16⟩
      · exact ⟨g2, by show n2 ≤ 16; omega⟩
    · rintro x rest ρ ⟨ts, a, b, s3, s4, s5, hpt, e1, hts, _, rfl⟩
      match ts, e1, hts with
      | t :: ts, e1, hts =>
        injection e1 with ex er
        subst ex er
        obtain ⟨g, h16⟩ := hts t List.mem_cons_self
        refine tg_nm c 3 (exs_cons (ex_set c 4 (ev_call c 3 h58 (av_cons (ev_nm c 3 (av_nil ⟨[trD t], rfl, rfl, rfl, _, _, rfl, g, rfl, ?_⟩))))))
        show Exs X G [.bor 0 (potO a b), .val (oI n), .val (.sh (treeD n zs)), .val (.sh (trD t)), .val (.sh (dueD t)), s5, .un, .un, .un, .un] _ _
        have hsm := small_due g h16
        have hsh := due_shown g h16
        have hnm := (nm_due2 (clawsL t.1 t.2)).shp (by decide)
        refine exs_cons (ex_if (tv_cmp (ev_neS (ev_repr c 1 (ev_lstS (av_cons (ev_call c 4 h43 (av_cons (ev_nm c 3 (av_nil ⟨[trD t], rfl, rfl, rfl, _, _, rfl, g, ?_⟩))))))))))
        refine av_cons (ev_callK c 4 h43 (ev_nm c 3 ⟨_, rfl, rfl, _, _, rfl, g, av_nil ⟨[dueD t, dueD t], rfl, by simp, ⟨_, .inl .ls⟩, hnm, hsm.sh, hsm.nd, hsh, ?_⟩⟩))
        refine ev_repr c 1 (ev_lstS (av_cons (ev_nm c 4 (av_cons (ev_nm c 4 (av_nil ⟨[dueD t, dueD t], rfl, by simp, ⟨_, .inl .ls⟩, hnm, hsm.sh, hsm.nd, hsh, _, _, rfl, rfl, is_B ⟨fun q => ?_, fun _ => exs_nil ?_⟩⟩))))))
        · rw [decide_eq_true rfl] at q
          exact absurd q (by decide)
        refine exs_cons (ex_for c (fun rest ρ => ∃ ds s5, rest = shs ds ∧ (∀ d ∈ ds, Good t d) ∧ ρ = [.bor 0 (potO a b), .val (oI n), .val (.sh (treeD n zs)), .val (.sh (trD t)), .val (.sh (dueD t)), s5, .un, .un, .un, .un])
          (iv_tup (ev_tupS (av_cons (ev_call c 5 h44 (av_cons (ev_nm c 3 (av_nil ⟨[trD t], rfl, rfl, s44_good g fun d1 g1 => ?_⟩))))))) ?_ ?_)
        · refine av_cons (ev_callK c 5 h44 (ev_nm c 3 ⟨_, rfl, s44_good g fun d2 g2 => av_nil ⟨[d1, d2], rfl, by simp, is_T ⟨[d1, d2], s5, rfl, ?_, rfl⟩⟩⟩))
          intro d hd
          simp only [List.mem_cons, List.not_mem_nil, or_false] at hd
          rcases hd with rfl | rfl
          · exact g1
          · exact g2
        · rintro x rest ρ ⟨ds, s5, e1, hds, rfl⟩
          match ds, e1, hds with
          | d :: ds, e1, hds =>
            injection e1 with ex er
            subst ex er
            have hd := hds d List.mem_cons_self
            refine tg_nm c 5 ?_
            rcases hd with ⟨p, hp, hdg, rfl⟩ | ⟨hall, w, hw, rfl⟩
            · have hm := claws_mem hp hdg
              have hne : PyData.eqv (dueD t) (.list []) = false := by
                unfold dueD
                cases e : clawsL t.1 t.2 with
                | nil => rw [e] at hm; cases hm
                | cons x C => rfl
              show Exs X G [.bor 0 (potO a b), .val (oI n), .val (.sh (treeD n zs)), .val (.sh (trD t)), .val (.sh (dueD t)), .val (.sh (.tuple [.str "claw", clawD t.2 p])), .un, .un, .un, .un] _ _
              refine exs_cons (ex_if (tv_w (wv_or (tv_cmp (ev_ne c (ev_ixN c 5 (ev_int (is_I ⟨_, _, .str "claw", hat rfl (.val _), .sht, rfl, ?_⟩))))))))
              refine ev_ife (tv_cmp (ev_neN c 4 (ev_lstS (av_nil ⟨[], rfl, by decide, _, hat rfl (.val _), (nm_due _).shp (by decide), shp_eN (l := []), is_B ⟨fun _ => ev_str ⟨shp_claw, shp_claw, is_B ⟨fun q => ?_, fun _ => ?_⟩⟩, fun q => ?_⟩⟩))))
              · exact absurd q (by decide +kernel)
              · obtain ⟨h1, h2, h3, h4⟩ := claws_ok g hm
                refine wv_or1 (tv_cmp (ev_isnotB (ev_call c 6 h45 (av_cons (ev_nm c 3 (av_cons (ev_nm c 5 (av_nil ⟨[trD t, .tuple [.str "claw", clawD t.2 p]], rfl, rfl, rfl, _, _, g, .inr ⟨p, _, rfl, h1, h2, h3, h4, is_B (ev_bl (is_B (is_B ⟨fun q => absurd q (by decide), fun _ => exs_nil ?_⟩)))⟩⟩))))))))
                refine exs_cons (ex_if (tv_w (wv_and (tv_cmp (ev_neN c 4 (ev_lstS (av_nil ⟨[], rfl, by decide, _, hat rfl (.val _), (nm_due _).shp (by decide), shp_eN (l := []), is_B ⟨fun _ => ?_, fun q => ?_⟩⟩)))))))
                · refine wv_and1 (tv_cmp (ev_ninL c rfl (ev_ixN c 5 (ev_int (is_I ⟨_, _, clawD t.2 p, hat rfl (.val _), .sht, rfl, ev_nm c 4 ⟨_, rfl, (nm_claw _).shp (by decide), (nm_due _).shp (by decide), is_B ⟨fun q => ?_, fun _ => exs_nil ?_⟩⟩⟩)))))
                  · have q2 : (!(encC (clawsL t.1 t.2)).any fun z => PyData.eqv z (clawD t.2 p)) = true := q
                    have hany : ((encC (clawsL t.1 t.2)).any fun z => PyData.eqv z (clawD t.2 p)) = true := List.any_eq_true.mpr ⟨_, List.mem_map.mpr ⟨_, hm, rfl⟩, eqv_claw _⟩
                    rw [hany] at q2; cases q2
                  · refine exs_one (ex_if (tv_w (wv_and (tv_cmp (ev_eqN c 4 (ev_lstS (av_nil ⟨[], rfl, by decide, _, hat rfl (.val _), (nm_due _).shp (by decide), shp_eN (l := []), is_B ⟨fun q => ?_, fun _ => ⟨(fun z => nomatch z), fun _ => exs_nil ?_⟩⟩⟩)))))))
                    · have q2 : PyData.eqv (dueD t) (.list []) = true := q
                      rw [hne] at q2; cases q2
                    · exact ⟨ds, _, rfl, fun d h' => hds d (List.mem_cons_of_mem _ h'), rfl⟩
                · have q2 : (!PyData.eqv (dueD t) (.list [])) = false := q
                  rw [hne] at q2; cases q2
              · have q2 : (!PyData.eqv (dueD t) (.list [])) = false := q
                rw [hne] at q2; cases q2
            · have g2 := g.small
              have hz : dueD t = .list [] := by unfold dueD; rw [claws_nil hall]; rfl
              have hne : PyData.eqv (dueD t) (.list []) = true := by rw [hz]; rfl
              have hst := lay_strs g hw
              have hL := lay_len t.1 w
              have hme := meets_lay g hw
              have hdd := lay_dd g.pos w
              generalize layL t.1 w = L at *
              show Exs X G [.bor 0 (potO a b), .val (oI n), .val (.sh (treeD n zs)), .val (.sh (trD t)), .val (.sh (dueD t)), .val (.sh (.tuple [.str "even", .tuple (eP L)])), .un, .un, .un, .un] _ _
              refine exs_cons (ex_if (tv_w (wv_or (tv_cmp (ev_ne c (ev_ixN c 5 (ev_int (is_I ⟨_, _, .str "even", hat rfl (.val _), .sht, rfl, ?_⟩))))))))
              refine ev_ife (tv_cmp (ev_neN c 4 (ev_lstS (av_nil ⟨[], rfl, by decide, _, hat rfl (.val _), (nm_due _).shp (by decide), shp_eN (l := []), is_B ⟨fun q => ?_, fun _ => ev_str ⟨shp_even, shp_even, is_B ⟨fun q => ?_, fun _ => ?_⟩⟩⟩⟩))))
              · have q2 : (!PyData.eqv (dueD t) (.list [])) = true := q
                rw [hne] at q2; cases q2
              · exact absurd q (by decide +kernel)
              · refine wv_or1 (tv_cmp (ev_isnotB (ev_call c 6 h45 (av_cons (ev_nm c 3 (av_cons (ev_nm c 5 (av_nil ⟨[trD t, .tuple [.str "even", .tuple (eP L)]], rfl, rfl, rfl, _, _, g, .inl ⟨L, rfl, hst, hL, ?_⟩⟩))))))))
                rw [decide_eq_true hme, decide_eq_true hdd]
                refine is_B (ev_bl (is_B (is_B ⟨fun q => absurd q (by decide), fun _ => exs_nil ?_⟩)))
                refine exs_cons (ex_if (tv_w (wv_and (tv_cmp (ev_neN c 4 (ev_lstS (av_nil ⟨[], rfl, by decide, _, hat rfl (.val _), (nm_due _).shp (by decide), shp_eN (l := []), is_B ⟨fun q => ?_, fun _ => ⟨(fun z => nomatch z), fun _ => exs_nil ?_⟩⟩⟩)))))))
                · have q2 : (!PyData.eqv (dueD t) (.list [])) = true := q
                  rw [hne] at q2; cases q2
                refine exs_one (ex_if (tv_w (wv_and (tv_cmp (ev_eqN c 4 (ev_lstS (av_nil ⟨[], rfl, by decide, _, hat rfl (.val _), (nm_due _).shp (by decide), shp_eN (l := []), is_B ⟨fun _ => ?_, fun q => ?_⟩⟩)))))))
                · refine wv_and1 (tv_w (wv_or (tv_not (tv_val (ev_call c 7 h57 (av_cons (ev_nm c 3 (av_cons (ev_ixN c 5 (ev_int (is_I ⟨_, _, .tuple (eP L), hat rfl (.val _), .sht, rfl, av_nil ⟨[trD t, .tuple (eP L)], rfl, rfl, rfl, _, _, L, rfl, hst, hL, ?_⟩⟩)))))))))))
                  rw [decide_eq_true hme]
                  refine is_B ⟨(fun z => nomatch z), fun _ => ?_⟩
                  refine wv_or (tv_cmp (ev_ne c (ev_lenset c 2 3 (ev_lcF c ow59_1 gapF (fun o => ∃ z ∈ L, o = .sh (pr ((z.1 : Int), (z.2 : Int)))) [.bor 0 (potO a b), .val (oI n), .val (.sh (treeD n zs)), .val (.sh (trD t)), .val (.sh (dueD t)), .val (.sh (.tuple [.str "even", .tuple (eP L)])), .un, .un, .un, .un]
                    (iv_tup (ev_ixN c 5 (ev_int (is_I ⟨_, _, .tuple (eP L), hat rfl (.val _), .sht, rfl, is_T ⟨?_, rfl, fun o ho => eP_mem ho, ?_⟩⟩)))) ?_))))
                  · rw [shs_len, eP_len]; have := hst.1; omega
                  · rw [fm_gapF]
                    refine ⟨gaps L, .ls _, ?_, ev_int ⟨shp_int _, shp_int _, is_B ?_⟩⟩
                    · simp [gaps]; have := hst.1; omega
                    · rw [hdd]
                      refine ⟨fun q => absurd q (by decide +kernel), fun _ => ?_⟩
                      refine wv_or1 (tv_cmp (ev_isnotB (ev_call c 8 h42 (av_cons (ev_nm c 3 (av_cons (ev_ixN c 5 (ev_int (is_I ⟨_, _, .tuple (eP L), hat rfl (.val _), .sht, rfl, av_nil ⟨[trD t, .tuple (eP L)], rfl, rfl, rfl, _, _, L, rfl, g, hst, hL, ?_⟩⟩)))))))))
                      rw [decide_eq_true hme, decide_eq_true hdd]
                      refine is_B (ev_bl (is_B (is_B ⟨(fun q => absurd q (by decide)), fun _ => exs_nil ?_⟩)))
                      exact ⟨ds, _, rfl, fun d h' => hds d (List.mem_cons_of_mem _ h'), rfl⟩
                  · rintro o ⟨z, hz, rfl⟩ s H C cl fp
                    exact tw_tupS (kb59_1 c hB s H C cl fp) (tws_cons (tw_nm (kb59_1 c hB s H C cl fp) 7 (tws_cons (tw_nm (kb59_1 c hB s H C cl fp) 8 (tws_nil fun s H C cl fp => ts_nil ⟨fun _ s H C cl fp => ev_sub (ev_nm (kb59_1 c hB s H C cl fp) 8 (is_I (ev_nm (kb59_1 c hB s H C cl fp) 7 (is_I ⟨rfl, _, rfl, rfl⟩)))), fun z => nomatch z⟩)))))
                · have q2 : PyData.eqv (dueD t) (.list []) = false := q
                  rw [hne] at q2; cases q2
        · rintro ρ ⟨ds, s5, e1, hds, rfl⟩
          refine exs_one (ex_if (tv_cmp (ev_ne c (ev_lcF c ow59_2 (fun _ => none) (fun o => ∃ x ∈ clawsL t.1 t.2, o = .sh (encC1 x)) [.bor 0 (potO a b), .val (oI n), .val (.sh (treeD n zs)), .val (.sh (trD t)), .val (.sh (dueD t)), s5, .un, .un, .un, .un]
            (iv_list (ev_slN c 4 (ov_none (ov_some (ev_int (is_I ⟨_, _, hat rfl (.val _), .shl, is_L2 ⟨?_, rfl, ?_, ?_⟩⟩)))))) ?_))))
          · show (shs (cutD (encC (clawsL t.1 t.2)) none (some 9))).length < _
            have hf := claws_few g h16
            rw [shs_len]
            refine Nat.lt_of_le_of_lt (show _ ≤ (encC (clawsL t.1 t.2)).length from ?_) (by rw [encC_len]; omega)
            unfold cutD
            rw [List.length_take, List.length_drop]; omega
          · intro o ho
            obtain ⟨d, hd, rfl⟩ := List.mem_map.mp ho
            obtain ⟨x, hx, rfl⟩ := List.mem_map.mp (cut_mem hd)
            exact ⟨x, hx, rfl⟩
          · rw [show List.filterMap (fun _ : OT => (none : Option PyData)) (shs (cutD (encC (clawsL t.1 t.2)) none (some 9))) = [] by rw [List.filterMap_eq_nil_iff]; intro _ _; rfl]
            refine ev_lstS (av_nil ⟨[], rfl, by decide, shp_eN (l := []), shp_eN (l := []), is_B ⟨fun q => ?_, fun _ => exs_nil ?_⟩⟩)
            · exact absurd q (by decide +kernel)
            · exact ⟨ts, a, b, _, _, _, hpt, rfl, fun t' h' => hts t' (List.mem_cons_of_mem _ h'), fun _ => ⟨t, g, h16, rfl, rfl⟩, rfl⟩
          · rintro o ⟨x, hx, rfl⟩ s H C cl fp
            refine tw_nm (kb59_2 c hB s H C cl fp) 9 fun s H C cl fp => ts_one (tv_cmp (ev_isnotB (ev_call (kb59_2 c hB s H C cl fp) 0 h45 (av_cons (ev_nm (kb59_2 c hB s H C cl fp) 3 (av_cons (ev_tupS (av_cons (ev_str (av_cons (ev_nm (kb59_2 c hB s H C cl fp) 9 (av_nil ⟨[.str "claw", encC1 x], rfl, by simp, ?_⟩))))))))))))
            obtain ⟨h1, h2, h3, h4⟩ := claws_ok g hx
            exact av_nil ⟨[trD t, .tuple [.str "claw", encC1 x]], rfl, rfl, rfl, _, _, g, .inr ⟨x.1, x.2, rfl, h1, h2, h3, h4, is_B (ev_bl (is_B (is_B ⟨fun q => absurd q (by decide), fun _ => ⟨rfl, rfl⟩⟩)))⟩⟩
    · rintro ρ ⟨ts, a, b, s3, s4, s5, hpt, e1, hts, hl, rfl⟩
      have : ts = [] := by
        cases ts with
        | nil => rfl
        | cons => cases e1
      obtain ⟨t, g, h16, rfl, rfl⟩ := hl this
      refine exs_one (ex_ret (ev_or (ev_eqN c 4 (ev_lstS (av_nil ⟨[], rfl, by decide, _, hat rfl (.val _), (nm_due _).shp (by decide), shp_eN (l := []), is_B ⟨fun q => endP1 (h a b hpt), fun q => ?_⟩⟩)))))
      have h4 : 4 ≤ t.1 := by
        apply Classical.byContradiction
        intro hc
        have hall : ∀ p, p < t.1 → deg t.2 p ≤ 2 := fun p hp => by
          apply Classical.byContradiction
          intro hd
          exact hc (claws_four g hp (by omega))
        have q2 : PyData.eqv (.list (encC (clawsL t.1 t.2))) (.list []) = false := q
        rw [claws_nil hall] at q2
        exact absurd q2 (by decide +kernel)
      refine ev_one (ev_isB (ev_call c 8 h42 (av_cons (ev_nm c 3 (av_cons (ev_rep (ev_tupS (av_cons (ev_tupS (av_cons (ev_int (av_cons (ev_int (av_nil ⟨[.int 0, .int 0], rfl, by simp, ?_⟩))))))))))))))
      refine av_nil ⟨[pr (0, 0)], rfl, by simp, _, rfl, ev_ixN c 3 (ev_int (is_I ⟨_, _, .int t.1, hat rfl (.val _), .sht, rfl, is_I ⟨by simp, by simp, by omega, by omega, ?_⟩⟩))⟩
      rw [toNat_nat, iP_rep]
      refine av_nil ⟨[trD t, .tuple (eP (List.replicate t.1 (0, 0)))], rfl, rfl, rfl, _, _, _, rfl, g, ⟨by rw [List.length_replicate]; omega, fun z hz => ?_⟩, List.length_replicate, ?_⟩
      · rw [List.eq_of_mem_replicate hz]; decide
      · rw [decide_eq_false (zeros_meet g h4), Bool.false_and]
        exact is_B (ev_bl (is_B (endP1 (h a b hpt))))
  · rintro o ⟨i, rfl, hi⟩ s H C cl fp
    refine tw_nm (kb59_0 c hB s H C cl fp) 6 fun s H C cl fp => ts_nil ⟨fun _ s H C cl fp => ?_, fun z => nomatch z⟩
    exact ev_tupS (av_cons (ev_sub (ev_nm (kb59_0 c hB s H C cl fp) 6 (is_I (ev_int (is_I (av_cons (ev_nm (kb59_0 c hB s H C cl fp) 6 (av_nil ⟨[.int (1 + (i : Int) - 1), .int (1 + (i : Int))], rfl, by simp, rfl, _, rfl, rfl⟩)))))))))
end Pd
set_option Elab.async false
set_option linter.all false
set_option maxRecDepth 100000
set_option autoImplicit false
namespace Pd
open PySem PySem.Spec PyProof.Rows L2
variable {P : Program} {w : World} {K : PySem.W.Frag} {mg mb : Str → Option Value} {k : Nat} {fa a : Addr} {x : Str} {s₁ : Shared} {vs : List Value} {ns : List Int}
/-- what the script's abstract heap has to keep -/
structure Sc (K : PySem.W.Frag) (P : Program) (w : World) (s₁ : Shared) (a : Addr) (ns : List Int) (T : Hp) : Prop where
  only : Only T
  sq : SqL K T a (ns.map V.int)
  ok : HOk P w T s₁.heap
  at_ : ∀ b, T b ≠ none → b = a
  free : T a ≠ none → K.lookup a = none
theorem sc_of (KX : K.In s₁.heap) (ha : s₁.heap.get? a = some { cls := .type "list", data := .seq vs.toArray }) (hi : IntsAre vs ns) (hl : ns.length ≤ sizeLine) : ∃ T, Sc K P w s₁ a ns T := by
  have rv := vals_ints hi
  cases lk : K.lookup a with
  | some o =>
    have eo := KX a o lk
    rw [ha] at eo
    obtain rfl := Option.some.inj eo
    refine ⟨fun _ => none, fun _ => .inl rfl, .inr ⟨_, vs.toArray, _, lk, rfl, rfl, rfl, ?_, by simpa using rv⟩, (fun _ _ z => nomatch z), (fun _ z => (z rfl).elim), fun z => (z rfl).elim⟩
    rw [List.size_toArray, hi.length]; exact hl
  | none =>
    let ob : Obj := { cls := .type "list", data := .seq vs.toArray }
    have e1 : (fun b => if b = a then some (HO.frz ob (.lst (ns.map V.int))) else none) a = some (HO.frz ob (.lst (ns.map V.int))) := if_pos rfl
    refine ⟨fun b => if b = a then some (.frz ob (.lst (ns.map V.int))) else none, fun b => ?_, .inl (.inr ⟨ob, e1⟩), fun b u z => ?_, fun b z => ?_, fun _ => lk⟩
    · by_cases h : b = a
      · subst h; exact .inr ⟨_, _, e1⟩
      · exact .inl (if_neg h)
    · by_cases h : b = a
      · subst h
        obtain rfl := Option.some.inj (e1.symm.trans z)
        exact ⟨ha, by rw [List.length_map]; exact hl, vs, _, rv, ha⟩
      · exact nomatch ((if_neg h).symm.trans z : (none : Option HO) = some u)
    · exact Classical.byContradiction fun h => z (if_neg h)
/-- the law's call, from a promise that looks at no guard -/
theorem law_callG {sp : Sp} (KX : K.In s₁.heap) (hns : s₁.heap.Ns mainGlobals mg) (hb : s₁.heap.Ns builtinsNs mb) (hbb : ∀ x : Str, x ≠ "__name__" → mb x = bootBuiltins x) (hlim : s₁.heap.NoLimit) (hg : s₁.gens = #[])
    (ha : s₁.heap.get? a = some { cls := .type "list", data := .seq vs.toArray }) (hi : IntsAre vs ns) (hl : ns.length ≤ sizeLine) (hr : Room k callerA)
    (F : ∀ base : Heap, K.In base → base.Ns mainGlobals mg → ∃ fd : FuncData, (∀ u : Value, BindsTo s₁ fd ⟨[u], []⟩ [(x, u)]) ∧ FnG P w K mg base k fa fd [x] sp)
    (hsp : ∀ H : Hp, Only H → SqL K H a (ns.map V.int) → sp [.ref a] H (fun v _ => v = .bl true) E0) :
    codeAny (model P w) callerA (.call (.ref fa) ⟨[.ref a], []⟩) (fun r s' => r = .ok (.ret (.bool true)) ∧ OldK s₁.heap s'.heap ∧ s'.os = s₁.os ∧ AllBare s'.gens) s₁ := by
  obtain ⟨T, t⟩ := sc_of (P := P) (w := w) KX ha hi hl
  have free : ∀ {b : Addr} {o : Obj}, s₁.heap.get? b = some o → (∃ es ep, o.data = .dict es ep) → T b = none := fun {b o} eb ⟨es, ep, ed⟩ => by
    apply Classical.byContradiction
    intro h
    have ea := t.at_ b h
    rw [ea, ha] at eb
    have eo := Option.some.inj eb
    rw [← eo] at ed
    exact nomatch ed
  have ns2 : ∀ {b : Addr} {m : Str → Option Value}, s₁.heap.Ns b m → (hidT s₁.heap T).Ns b m := fun ⟨o, es, ep, e, d, r⟩ => ⟨o, es, ep, hidT_get e (free e ⟨es, ep, d⟩), d, r⟩
  have kin : K.In (hidT s₁.heap T) := fun b o lk => hidT_get (KX b o lk) (Classical.byContradiction fun h => by
    have ea := t.at_ b h
    subst ea
    rw [t.free h] at lk
    cases lk)
  obtain ⟨mc, l1, l2⟩ := hlim
  have en : Env0 P w K mg (hidT s₁.heap T) callerA [] s₁ T := ⟨rfl, ⟨kin, ns2 hns, ⟨mb, ns2 hb, hbb⟩, mc, ns2 l1, l2⟩, fun _ _ e => of_hidT e, Nat.le_of_eq (hidT_size _ _), trivial, (fun _ z => nomatch z), t.ok, .of_eq hg⟩
  obtain ⟨fd, hbind, F⟩ := F _ kin (ns2 hns)
  refine codeAny_mono (F.run callerA [] s₁ T ⟨[.ref a], []⟩ [.ref a] [.ref a] _ hr rfl en (hbind (.ref a)) (.cons rfl .nil) (hsp T t.only t.sq)) fun r s' out => ?_
  match r, out with
  | .ok (.ret u), ⟨v, H', os, bare, un, ok', r', q⟩ =>
    subst q
    obtain rfl : u = Value.bool true := r'
    refine ⟨rfl, OldK.of_keep fun b o eb => ?_, os, bare⟩
    cases tb : T b with
    | none => exact un.keep b o eb tb (fun z => nomatch z) (by simp)
    | some u =>
      rcases t.only b with z | ⟨ob, xs, z⟩
      · rw [tb] at z; cases z
      · have z2 := ok' b _ (un.frzs b ob _ z)
        have z1 := t.ok b _ z
        have e3 : s₁.heap.get? b = some ob := z1.1
        rw [eb] at e3
        obtain rfl := Option.some.inj e3
        exact z2.1
end Pd
set_option Elab.async false
set_option linter.all false
set_option maxRecDepth 100000
set_option autoImplicit false
namespace Pd
open PySem PySem.Spec PyProof.Rows L2
theorem FunD.bindsK {K : PySem.W.Frag} {x qual : Str} {params : Arguments} {body : List Stmt} {scope : Scope} {kws : List (Str × V)} {f : Addr} {fd : FuncData} {ps : List Str} (F : FunD K x qual params body scope [] kws f fd)
    (h : ∀ (kV doc pm : Value) (an : Option Addr) (cdv ct : Value) (us : List Value), us.length = ps.length → bindArgs (PySem.W.fnOf x qual params body scope .none kV doc pm an cdv ct) ⟨[], ps.zip us⟩ = pure (ps.zip us)) {p0 : Str} (ep : ps = [p0]) (s : Shared) (u : Value) : BindsTo s fd ⟨[], [p0].zip [u]⟩ ([p0].zip [u]) := by
  subst ep
  obtain ⟨oc, od, dV, kV, doc, pm, an, cdv, ct, osl, rfl, lk, hcd, hD, hK⟩ := F.ex
  rcases hD with ⟨_, rfl⟩ | ⟨e, _⟩
  · exact .of_eq (h kV doc pm an cdv ct [u] rfl)
  · exact absurd rfl e
theorem bsub {bs BL : List Str} (h : bs.all BL.elem = true) {x : Str} (hx : x ∈ bs) : x ∈ BL := List.elem_iff.mp (List.all_eq_true.mp h x hx)
/-- .. of a def that promises over data -/
theorem spS_law {K : PySem.W.Frag} {S : FS} {H : Hp} {a : Addr} {ns : List Int} (hO : Only H) (hS : SqL K H a (ns.map V.int)) (h : S [] [.list (nums ns)] fun r _ => r = oB true) : spS K 1 0 S [.ref a] H (fun v _ => v = .bl true) E0 := by
  refine ⟨fun _ => False, [], [], [], [.list (nums ns)], [.ref a], _, rfl, rfl, rfl, fun _ z => z.elim, ⟨rfl, rfl⟩, List.nodup_nil, ⟨_, _, rfl, ⟨a, ns.map V.int, rfl, ?_, Rps.ofNums _⟩, rfl⟩, h, ?_⟩
  · rcases hS with hS | hS
    · exact .inl ⟨hS, fun z => z.elim id fun q => nomatch q⟩
    · exact .inr (.inr hS)
  · rintro r os' rfl v H' F' Fr _ _ ⟨_, r⟩ _ _
    exact r
/-- the walk of a law's call -/
theorem walk_ofG {l : PySem.W.OpenLaw} {n k : Nat} {q : Program} {loose : List Str} {XP : (Str → Option Value) → Heap → Prop} {YP : World → Heap → Prop} {d : DefRec} {x : Str}
    (hn : l.most = some n) (hn2 : n ≤ sizeLine) (hdf : d.params.defaults = []) (hr : Room k callerA)
    (F : ∀ (w : World) (mg : Str → Option Value) (h : Heap), YP w h → h.Ns mainGlobals mg → ∃ (K : PySem.W.Frag) (S : FS), K.In h ∧ (∀ ns : List Int, ns.length ≤ n → S [] [.list (nums ns)] fun r _ => r = oB true) ∧
        ∀ base : Heap, K.In base → base.Ns mainGlobals mg → FnD l.prog w K mg base d.name [x] k 0 S) :
    PySem.W.WalkO q loose XP YP l.row.toRowW d [] (fun f vs => PySem.call f vs) := by
  refine Att.attach_call hn hdf fun w s₀ s₁ mg mb fa o pm cd doc a vs ns G Y ho hd hcd hmg hobj hints hlen hg => ?_
  obtain ⟨K, S, KX, hsp, hF⟩ := F w mg _ Y G.T.g
  refine law_callG (x := x) (k := k) (sp := spS K 1 0 S) KX G.T.g G.T.b G.T.builtins G.T.nolimit hg hobj hints (Nat.le_trans hlen hn2) hr (fun base kb bb => ?_) fun H hO hS => spS_law hO hS (hsp ns hlen)
  obtain ⟨f, fd, hm, _, hb, _, Fg⟩ := (hF base kb bb).ex
  have e : fa = f := by
    have := hmg.symm.trans hm
    simpa using this
  subst e
  exact ⟨fd, fun u => hb s₁ [u] KX rfl, Fg⟩
end Pd
set_option Elab.async false
set_option linter.all false
set_option maxRecDepth 100000
set_option maxHeartbeats 0
set_option autoImplicit false
namespace Pd
open PySem PySem.Spec PyProof.Rows L2
section
variable {P : Program} {w : World} {K : PySem.W.Frag} {h base : Heap} {mg : Str → Option Value}
theorem blsOk (X : K.In h) (G : h.Ns mainGlobals mg) (e : He.SaysD fa fn K) : ∀ x ∈ BLs, mg x = none := by
  intro x hx
  simp only [BLs, List.mem_cons, List.not_mem_nil, or_false] at hx
  rcases hx with rfl | rfl | rfl | rfl | rfl | rfl | rfl | rfl | rfl | rfl | rfl | rfl | rfl | rfl | rfl | rfl | rfl | rfl
  · exact He.free_ok X G (e.fact 47 rfl)
  · exact He.free_ok X G (e.fact 48 rfl)
  · exact He.free_ok X G (e.fact 49 rfl)
  · exact He.free_ok X G (e.fact 50 rfl)
  · exact He.free_ok X G (e.fact 51 rfl)
  · exact He.free_ok X G (e.fact 52 rfl)
  · exact He.free_ok X G (e.fact 53 rfl)
  · exact He.free_ok X G (e.fact 54 rfl)
  · exact He.free_ok X G (e.fact 55 rfl)
  · exact He.free_ok X G (e.fact 56 rfl)
  · exact He.free_ok X G (e.fact 57 rfl)
  · exact He.free_ok X G (e.fact 58 rfl)
  · exact He.free_ok X G (e.fact 59 rfl)
  · exact He.free_ok X G (e.fact 60 rfl)
  · exact He.free_ok X G (e.fact 61 rfl)
  · exact He.free_ok X G (e.fact 62 rfl)
  · exact He.free_ok X G (e.fact 63 rfl)
  · exact He.free_ok X G (e.fact 64 rfl)
theorem j4 (X : K.In h) (G : h.Ns mainGlobals mg) (e : He.SaysD fa fn K) : FnD P w K mg base "is_integer" ["value"] 1 0 S4 := by
  obtain ⟨fd, F⟩ := e.def_ 0 (d := dd4) rfl
  have hB : ∀ x ∈ BLs, mg x = none := blsOk X G e
  exact fnd_of F (He.glo_ok X G (e.fact 0 rfl)) (FunD.bindsN (ps := ["value"]) F fun _ _ _ _ _ _ us hl => match us, hl with | [_], _ => rfl) (fun p0 ep s u hK => FunD.bindsK F (ps := ["value"]) (fun _ _ _ _ _ _ us hl => match us, hl with | [_], _ => rfl) ep s u) sk4 ck4 (fun x hx => hB x (bsub (by decide +kernel) hx)) fun cdv A outer s H G2 c => w4 c
theorem j7 (X : K.In h) (G : h.Ns mainGlobals mg) (e : He.SaysD fa fn K) : FnD P w K mg base "is_row" ["value", "many"] 1 0 S7 := by
  obtain ⟨fd, F⟩ := e.def_ 3 (d := dd7) rfl
  have hB : ∀ x ∈ BLs, mg x = none := blsOk X G e
  exact fnd_of F (He.glo_ok X G (e.fact 3 rfl)) (FunD.bindsN (ps := ["value", "many"]) F fun _ _ _ _ _ _ us hl => match us, hl with | [_, _], _ => rfl) (fun p0 ep => by cases ep) sk7 ck7 (fun x hx => hB x (bsub (by decide +kernel) hx)) fun cdv A outer s H G2 c => w7 c
theorem j8 (X : K.In h) (G : h.Ns mainGlobals mg) (e : He.SaysD fa fn K) : FnD P w K mg base "is_rising" ["items"] 1 0 S8 := by
  obtain ⟨fd, F⟩ := e.def_ 4 (d := dd8) rfl
  have hB : ∀ x ∈ BLs, mg x = none := blsOk X G e
  exact fnd_of F (He.glo_ok X G (e.fact 4 rfl)) (FunD.bindsN (ps := ["items"]) F fun _ _ _ _ _ _ us hl => match us, hl with | [_], _ => rfl) (fun p0 ep s u hK => FunD.bindsK F (ps := ["items"]) (fun _ _ _ _ _ _ us hl => match us, hl with | [_], _ => rfl) ep s u) sk8 ck8 (fun x hx => hB x (bsub (by decide +kernel) hx)) fun cdv A outer s H G2 c => w8 c hB
theorem j13 (X : K.In h) (G : h.Ns mainGlobals mg) (e : He.SaysD fa fn K) : FnD P w K mg base "near_by" ["many", "ties"] 1 0 S13 := by
  obtain ⟨fd, F⟩ := e.def_ 6 (d := dd13) rfl
  have hB : ∀ x ∈ BLs, mg x = none := blsOk X G e
  exact fnd_of F (He.glo_ok X G (e.fact 6 rfl)) (FunD.bindsN (ps := ["many", "ties"]) F fun _ _ _ _ _ _ us hl => match us, hl with | [_, _], _ => rfl) (fun p0 ep => by cases ep) sk13 ck13 (fun x hx => hB x (bsub (by decide +kernel) hx)) fun cdv A outer s H G2 c => w13 c hB
theorem j18 (X : K.In h) (G : h.Ns mainGlobals mg) (e : He.SaysD fa fn K) : FnD P w K mg base "many_of" ["tree"] 1 0 S18 := by
  obtain ⟨fd, F⟩ := e.def_ 11 (d := dd18) rfl
  have hB : ∀ x ∈ BLs, mg x = none := blsOk X G e
  exact fnd_of F (He.glo_ok X G (e.fact 11 rfl)) (FunD.bindsN (ps := ["tree"]) F fun _ _ _ _ _ _ us hl => match us, hl with | [_], _ => rfl) (fun p0 ep s u hK => FunD.bindsK F (ps := ["tree"]) (fun _ _ _ _ _ _ us hl => match us, hl with | [_], _ => rfl) ep s u) sk18 ck18 (fun x hx => hB x (bsub (by decide +kernel) hx)) fun cdv A outer s H G2 c => w18 c
theorem j19 (X : K.In h) (G : h.Ns mainGlobals mg) (e : He.SaysD fa fn K) : FnD P w K mg base "ties_of" ["tree"] 1 0 S19 := by
  obtain ⟨fd, F⟩ := e.def_ 12 (d := dd19) rfl
  have hB : ∀ x ∈ BLs, mg x = none := blsOk X G e
  exact fnd_of F (He.glo_ok X G (e.fact 12 rfl)) (FunD.bindsN (ps := ["tree"]) F fun _ _ _ _ _ _ us hl => match us, hl with | [_], _ => rfl) (fun p0 ep s u hK => FunD.bindsK F (ps := ["tree"]) (fun _ _ _ _ _ _ us hl => match us, hl with | [_], _ => rfl) ep s u) sk19 ck19 (fun x hx => hB x (bsub (by decide +kernel) hx)) fun cdv A outer s H G2 c => w19 c
theorem j27 (X : K.In h) (G : h.Ns mainGlobals mg) (e : He.SaysD fa fn K) : FnD P w K mg base "do_meet" ["one", "other"] 1 0 S27 := by
  obtain ⟨fd, F⟩ := e.def_ 17 (d := dd27) rfl
  have hB : ∀ x ∈ BLs, mg x = none := blsOk X G e
  exact fnd_of F (He.glo_ok X G (e.fact 17 rfl)) (FunD.bindsN (ps := ["one", "other"]) F fun _ _ _ _ _ _ us hl => match us, hl with | [_, _], _ => rfl) (fun p0 ep => by cases ep) sk27 ck27 (fun x hx => hB x (bsub (by decide +kernel) hx)) fun cdv A outer s H G2 c => w27 c
theorem j37 (X : K.In h) (G : h.Ns mainGlobals mg) (e : He.SaysD fa fn K) : FnD P w K mg base "threes_of" ["some"] 1 0 S37 := by
  obtain ⟨fd, F⟩ := e.def_ 24 (d := dd37) rfl
  have hB : ∀ x ∈ BLs, mg x = none := blsOk X G e
  exact fnd_of F (He.glo_ok X G (e.fact 24 rfl)) (FunD.bindsN (ps := ["some"]) F fun _ _ _ _ _ _ us hl => match us, hl with | [_], _ => rfl) (fun p0 ep s u hK => FunD.bindsK F (ps := ["some"]) (fun _ _ _ _ _ _ us hl => match us, hl with | [_], _ => rfl) ep s u) sk37 ck37 (fun x hx => hB x (bsub (by decide +kernel) hx)) fun cdv A outer s H G2 c => w37 c hB
theorem j47 (X : K.In h) (G : h.Ns mainGlobals mg) (e : He.SaysD fa fn K) : FnD P w K mg base "_law_pot" ["script", "k"] 1 0 S47 := by
  obtain ⟨fd, F⟩ := e.def_ 33 (d := dd47) rfl
  have hB : ∀ x ∈ BLs, mg x = none := blsOk X G e
  exact fnd_of F (He.glo_ok X G (e.fact 33 rfl)) (FunD.bindsN (ps := ["script", "k"]) F fun _ _ _ _ _ _ us hl => match us, hl with | [_, _], _ => rfl) (fun p0 ep => by cases ep) sk47 ck47 (fun x hx => hB x (bsub (by decide +kernel) hx)) fun cdv A outer s H G2 c => w47 c
theorem j48 (X : K.In h) (G : h.Ns mainGlobals mg) (e : He.SaysD fa fn K) : FnD P w K mg base "_law_draw" ["pot", "many"] 1 1 S48 := by
  obtain ⟨fd, F⟩ := e.def_ 34 (d := dd48) rfl
  have hB : ∀ x ∈ BLs, mg x = none := blsOk X G e
  exact fnd_of F (He.glo_ok X G (e.fact 34 rfl)) (FunD.bindsN (ps := ["pot", "many"]) F fun _ _ _ _ _ _ us hl => match us, hl with | [_, _], _ => rfl) (fun p0 ep => by cases ep) sk48 ck48 (fun x hx => hB x (bsub (by decide +kernel) hx)) fun cdv A outer s H G2 c => w48 c
theorem j54 (X : K.In h) (G : h.Ns mainGlobals mg) (e : He.SaysD fa fn K) : FnD P w K mg base "_law_near" ["tree"] 1 0 S54 := by
  obtain ⟨fd, F⟩ := e.def_ 40 (d := dd54) rfl
  have hB : ∀ x ∈ BLs, mg x = none := blsOk X G e
  exact fnd_of F (He.glo_ok X G (e.fact 40 rfl)) (FunD.bindsN (ps := ["tree"]) F fun _ _ _ _ _ _ us hl => match us, hl with | [_], _ => rfl) (fun p0 ep s u hK => FunD.bindsK F (ps := ["tree"]) (fun _ _ _ _ _ _ us hl => match us, hl with | [_], _ => rfl) ep s u) sk54 ck54 (fun x hx => hB x (bsub (by decide +kernel) hx)) fun cdv A outer s H G2 c => w54 c hB
theorem j55 (X : K.In h) (G : h.Ns mainGlobals mg) (e : He.SaysD fa fn K) : FnD P w K mg base "_law_do_meet" ["one", "other"] 1 0 S55 := by
  obtain ⟨fd, F⟩ := e.def_ 41 (d := dd55) rfl
  have hB : ∀ x ∈ BLs, mg x = none := blsOk X G e
  exact fnd_of F (He.glo_ok X G (e.fact 41 rfl)) (FunD.bindsN (ps := ["one", "other"]) F fun _ _ _ _ _ _ us hl => match us, hl with | [_, _], _ => rfl) (fun p0 ep => by cases ep) sk55 ck55 (fun x hx => hB x (bsub (by decide +kernel) hx)) fun cdv A outer s H G2 c => w55 c
theorem j5 (X : K.In h) (G : h.Ns mainGlobals mg) (e : He.SaysD fa fn K) : FnD P w K mg base "is_count" ["value"] 2 0 S5 := by
  obtain ⟨fd, F⟩ := e.def_ 1 (d := dd5) rfl
  have hB : ∀ x ∈ BLs, mg x = none := blsOk X G e
  exact fnd_of F (He.glo_ok X G (e.fact 1 rfl)) (FunD.bindsN (ps := ["value"]) F fun _ _ _ _ _ _ us hl => match us, hl with | [_], _ => rfl) (fun p0 ep s u hK => FunD.bindsK F (ps := ["value"]) (fun _ _ _ _ _ _ us hl => match us, hl with | [_], _ => rfl) ep s u) sk5 ck5 (fun x hx => hB x (bsub (by decide +kernel) hx)) fun cdv A outer s H G2 c => w5 c (j4 X G e)
theorem j12 (X : K.In h) (G : h.Ns mainGlobals mg) (e : He.SaysD fa fn K) : FnD P w K mg base "do_hang" ["many", "ties"] 2 0 S12 := by
  obtain ⟨fd, F⟩ := e.def_ 5 (d := dd12) rfl
  have hB : ∀ x ∈ BLs, mg x = none := blsOk X G e
  exact fnd_of F (He.glo_ok X G (e.fact 5 rfl)) (FunD.bindsN (ps := ["many", "ties"]) F fun _ _ _ _ _ _ us hl => match us, hl with | [_, _], _ => rfl) (fun p0 ep => by cases ep) sk12 ck12 (fun x hx => hB x (bsub (by decide +kernel) hx)) fun cdv A outer s H G2 c => w12 c (j13 X G e)
theorem j20 (X : K.In h) (G : h.Ns mainGlobals mg) (e : He.SaysD fa fn K) : FnD P w K mg base "near_of" ["tree"] 2 0 S20 := by
  obtain ⟨fd, F⟩ := e.def_ 13 (d := dd20) rfl
  have hB : ∀ x ∈ BLs, mg x = none := blsOk X G e
  exact fnd_of F (He.glo_ok X G (e.fact 13 rfl)) (FunD.bindsN (ps := ["tree"]) F fun _ _ _ _ _ _ us hl => match us, hl with | [_], _ => rfl) (fun p0 ep s u hK => FunD.bindsK F (ps := ["tree"]) (fun _ _ _ _ _ _ us hl => match us, hl with | [_], _ => rfl) ep s u) sk20 ck20 (fun x hx => hB x (bsub (by decide +kernel) hx)) fun cdv A outer s H G2 c => w20 c (j13 X G e)
theorem j28 (X : K.In h) (G : h.Ns mainGlobals mg) (e : He.SaysD fa fn K) : FnD P w K mg base "meetings_of" ["lay"] 2 0 S28 := by
  obtain ⟨fd, F⟩ := e.def_ 18 (d := dd28) rfl
  have hB : ∀ x ∈ BLs, mg x = none := blsOk X G e
  exact fnd_of F (He.glo_ok X G (e.fact 18 rfl)) (FunD.bindsN (ps := ["lay"]) F fun _ _ _ _ _ _ us hl => match us, hl with | [_], _ => rfl) (fun p0 ep s u hK => FunD.bindsK F (ps := ["lay"]) (fun _ _ _ _ _ _ us hl => match us, hl with | [_], _ => rfl) ep s u) sk28 ck28 (fun x hx => hB x (bsub (by decide +kernel) hx)) fun cdv A outer s H G2 c => w28 c hB (j27 X G e)
theorem j49 (X : K.In h) (G : h.Ns mainGlobals mg) (e : He.SaysD fa fn K) : FnD P w K mg base "_law_shuffled" ["pot", "some"] 2 1 S49 := by
  obtain ⟨fd, F⟩ := e.def_ 35 (d := dd49) rfl
  have hB : ∀ x ∈ BLs, mg x = none := blsOk X G e
  exact fnd_of F (He.glo_ok X G (e.fact 35 rfl)) (FunD.bindsN (ps := ["pot", "some"]) F fun _ _ _ _ _ _ us hl => match us, hl with | [_, _], _ => rfl) (fun p0 ep => by cases ep) sk49 ck49 (fun x hx => hB x (bsub (by decide +kernel) hx)) fun cdv A outer s H G2 c => w49 c (j48 X G e)
theorem j56 (X : K.In h) (G : h.Ns mainGlobals mg) (e : He.SaysD fa fn K) : FnD P w K mg base "_law_meetings" ["lay"] 2 0 S56 := by
  obtain ⟨fd, F⟩ := e.def_ 42 (d := dd56) rfl
  have hB : ∀ x ∈ BLs, mg x = none := blsOk X G e
  exact fnd_of F (He.glo_ok X G (e.fact 42 rfl)) (FunD.bindsN (ps := ["lay"]) F fun _ _ _ _ _ _ us hl => match us, hl with | [_], _ => rfl) (fun p0 ep s u hK => FunD.bindsK F (ps := ["lay"]) (fun _ _ _ _ _ _ us hl => match us, hl with | [_], _ => rfl) ep s u) sk56 ck56 (fun x hx => hB x (bsub (by decide +kernel) hx)) fun cdv A outer s H G2 c => w56 c hB (j55 X G e)
theorem j58 (X : K.In h) (G : h.Ns mainGlobals mg) (e : He.SaysD fa fn K) : FnD P w K mg base "_law_claws" ["tree"] 2 0 S58 := by
  obtain ⟨fd, F⟩ := e.def_ 44 (d := dd58) rfl
  have hB : ∀ x ∈ BLs, mg x = none := blsOk X G e
  exact fnd_of F (He.glo_ok X G (e.fact 44 rfl)) (FunD.bindsN (ps := ["tree"]) F fun _ _ _ _ _ _ us hl => match us, hl with | [_], _ => rfl) (fun p0 ep s u hK => FunD.bindsK F (ps := ["tree"]) (fun _ _ _ _ _ _ us hl => match us, hl with | [_], _ => rfl) ep s u) sk58 ck58 (fun x hx => hB x (bsub (by decide +kernel) hx)) fun cdv A outer s H G2 c => w58 c hB (j54 X G e)
theorem j6 (X : K.In h) (G : h.Ns mainGlobals mg) (e : He.SaysD fa fn K) : FnD P w K mg base "is_below" ["value", "many"] 3 0 S6 := by
  obtain ⟨fd, F⟩ := e.def_ 2 (d := dd6) rfl
  have hB : ∀ x ∈ BLs, mg x = none := blsOk X G e
  exact fnd_of F (He.glo_ok X G (e.fact 2 rfl)) (FunD.bindsN (ps := ["value", "many"]) F fun _ _ _ _ _ _ us hl => match us, hl with | [_, _], _ => rfl) (fun p0 ep => by cases ep) sk6 ck6 (fun x hx => hB x (bsub (by decide +kernel) hx)) fun cdv A outer s H G2 c => w6 c (j5 X G e)
theorem j34 (X : K.In h) (G : h.Ns mainGlobals mg) (e : He.SaysD fa fn K) : FnD P w K mg base "path_from_end" ["tree"] 3 0 S34 := by
  obtain ⟨fd, F⟩ := e.def_ 21 (d := dd34) rfl
  have hB : ∀ x ∈ BLs, mg x = none := blsOk X G e
  exact fnd_of F (He.glo_ok X G (e.fact 21 rfl)) (FunD.bindsN (ps := ["tree"]) F fun _ _ _ _ _ _ us hl => match us, hl with | [_], _ => rfl) (fun p0 ep s u hK => FunD.bindsK F (ps := ["tree"]) (fun _ _ _ _ _ _ us hl => match us, hl with | [_], _ => rfl) ep s u) sk34 ck34 (fun x hx => hB x (bsub (by decide +kernel) hx)) fun cdv A outer s H G2 c => w34 c hB (j20 X G e) (j18 X G e)
theorem j38 (X : K.In h) (G : h.Ns mainGlobals mg) (e : He.SaysD fa fn K) : FnD P w K mg base "claws_of" ["tree"] 3 0 S38 := by
  obtain ⟨fd, F⟩ := e.def_ 25 (d := dd38) rfl
  have hB : ∀ x ∈ BLs, mg x = none := blsOk X G e
  exact fnd_of F (He.glo_ok X G (e.fact 25 rfl)) (FunD.bindsN (ps := ["tree"]) F fun _ _ _ _ _ _ us hl => match us, hl with | [_], _ => rfl) (fun p0 ep s u hK => FunD.bindsK F (ps := ["tree"]) (fun _ _ _ _ _ _ us hl => match us, hl with | [_], _ => rfl) ep s u) sk38 ck38 (fun x hx => hB x (bsub (by decide +kernel) hx)) fun cdv A outer s H G2 c => w38 c hB (j20 X G e) (j37 X G e)
theorem j39 (X : K.In h) (G : h.Ns mainGlobals mg) (e : He.SaysD fa fn K) : FnD P w K mg base "first_claw" ["tree"] 3 0 S39 := by
  obtain ⟨fd, F⟩ := e.def_ 26 (d := dd39) rfl
  have hB : ∀ x ∈ BLs, mg x = none := blsOk X G e
  exact fnd_of F (He.glo_ok X G (e.fact 26 rfl)) (FunD.bindsN (ps := ["tree"]) F fun _ _ _ _ _ _ us hl => match us, hl with | [_], _ => rfl) (fun p0 ep s u hK => FunD.bindsK F (ps := ["tree"]) (fun _ _ _ _ _ _ us hl => match us, hl with | [_], _ => rfl) ep s u) sk39 ck39 (fun x hx => hB x (bsub (by decide +kernel) hx)) fun cdv A outer s H G2 c => w39 c (j20 X G e)
theorem j50 (X : K.In h) (G : h.Ns mainGlobals mg) (e : He.SaysD fa fn K) : FnD P w K mg base "_law_tree_by" ["pot", "many", "ties"] 3 1 S50 := by
  obtain ⟨fd, F⟩ := e.def_ 36 (d := dd50) rfl
  have hB : ∀ x ∈ BLs, mg x = none := blsOk X G e
  exact fnd_of F (He.glo_ok X G (e.fact 36 rfl)) (FunD.bindsN (ps := ["pot", "many", "ties"]) F fun _ _ _ _ _ _ us hl => match us, hl with | [_, _, _], _ => rfl) (fun p0 ep => by cases ep) sk50 ck50 (fun x hx => hB x (bsub (by decide +kernel) hx)) fun cdv A outer s H G2 c => w50 c hB (j49 X G e)
theorem j57 (X : K.In h) (G : h.Ns mainGlobals mg) (e : He.SaysD fa fn K) : FnD P w K mg base "_law_are_stretches" ["tree", "lay"] 3 0 S57 := by
  obtain ⟨fd, F⟩ := e.def_ 43 (d := dd57) rfl
  have hB : ∀ x ∈ BLs, mg x = none := blsOk X G e
  exact fnd_of F (He.glo_ok X G (e.fact 43 rfl)) (FunD.bindsN (ps := ["tree", "lay"]) F fun _ _ _ _ _ _ us hl => match us, hl with | [_, _], _ => rfl) (fun p0 ep => by cases ep) sk57 ck57 (fun x hx => hB x (bsub (by decide +kernel) hx)) fun cdv A outer s H G2 c => w57 c (j56 X G e)
theorem j14 (X : K.In h) (G : h.Ns mainGlobals mg) (e : He.SaysD fa fn K) : FnD P w K mg base "are_ties" ["many", "value"] 4 0 S14 := by
  obtain ⟨fd, F⟩ := e.def_ 7 (d := dd14) rfl
  have hB : ∀ x ∈ BLs, mg x = none := blsOk X G e
  exact fnd_of F (He.glo_ok X G (e.fact 7 rfl)) (FunD.bindsN (ps := ["many", "value"]) F fun _ _ _ _ _ _ us hl => match us, hl with | [_, _], _ => rfl) (fun p0 ep => by cases ep) sk14 ck14 (fun x hx => hB x (bsub (by decide +kernel) hx)) fun cdv A outer s H G2 c => w14 c hB (j6 X G e) (j7 X G e) (j8 X G e)
theorem j16 (X : K.In h) (G : h.Ns mainGlobals mg) (e : He.SaysD fa fn K) : FnD P w K mg base "is_place_of" ["tree", "value"] 4 0 S16 := by
  obtain ⟨fd, F⟩ := e.def_ 9 (d := dd16) rfl
  have hB : ∀ x ∈ BLs, mg x = none := blsOk X G e
  exact fnd_of F (He.glo_ok X G (e.fact 9 rfl)) (FunD.bindsN (ps := ["tree", "value"]) F fun _ _ _ _ _ _ us hl => match us, hl with | [_, _], _ => rfl) (fun p0 ep => by cases ep) sk16 ck16 (fun x hx => hB x (bsub (by decide +kernel) hx)) fun cdv A outer s H G2 c => w16 c (j6 X G e)
theorem j25 (X : K.In h) (G : h.Ns mainGlobals mg) (e : He.SaysD fa fn K) : FnD P w K mg base "is_stretch" ["value"] 4 0 S25 := by
  obtain ⟨fd, F⟩ := e.def_ 15 (d := dd25) rfl
  have hB : ∀ x ∈ BLs, mg x = none := blsOk X G e
  exact fnd_of F (He.glo_ok X G (e.fact 15 rfl)) (FunD.bindsN (ps := ["value"]) F fun _ _ _ _ _ _ us hl => match us, hl with | [_], _ => rfl) (fun p0 ep s u hK => FunD.bindsK F (ps := ["value"]) (fun _ _ _ _ _ _ us hl => match us, hl with | [_], _ => rfl) ep s u) sk25 ck25 (fun x hx => hB x (bsub (by decide +kernel) hx)) fun cdv A outer s H G2 c => w25 c hB (He.int_ok X G (e.fact 68 rfl)) (j7 X G e) (j6 X G e)
theorem j35 (X : K.In h) (G : h.Ns mainGlobals mg) (e : He.SaysD fa fn K) : FnD P w K mg base "told_even" ["tree"] 4 0 S35 := by
  obtain ⟨fd, F⟩ := e.def_ 22 (d := dd35) rfl
  have hB : ∀ x ∈ BLs, mg x = none := blsOk X G e
  exact fnd_of F (He.glo_ok X G (e.fact 22 rfl)) (FunD.bindsN (ps := ["tree"]) F fun _ _ _ _ _ _ us hl => match us, hl with | [_], _ => rfl) (fun p0 ep s u hK => FunD.bindsK F (ps := ["tree"]) (fun _ _ _ _ _ _ us hl => match us, hl with | [_], _ => rfl) ep s u) sk35 ck35 (fun x hx => hB x (bsub (by decide +kernel) hx)) fun cdv A outer s H G2 c => w35 c hB (j34 X G e) (j18 X G e)
theorem j51 (X : K.In h) (G : h.Ns mainGlobals mg) (e : He.SaysD fa fn K) : FnD P w K mg base "_law_any_tree" ["pot", "most"] 4 1 S51 := by
  obtain ⟨fd, F⟩ := e.def_ 37 (d := dd51) rfl
  have hB : ∀ x ∈ BLs, mg x = none := blsOk X G e
  exact fnd_of F (He.glo_ok X G (e.fact 37 rfl)) (FunD.bindsN (ps := ["pot", "most"]) F fun _ _ _ _ _ _ us hl => match us, hl with | [_, _], _ => rfl) (fun p0 ep => by cases ep) sk51 ck51 (fun x hx => hB x (bsub (by decide +kernel) hx)) fun cdv A outer s H G2 c => w51 c hB (j48 X G e) (j50 X G e)
theorem j52 (X : K.In h) (G : h.Ns mainGlobals mg) (e : He.SaysD fa fn K) : FnD P w K mg base "_law_caterpillar" ["pot", "most"] 4 1 S51 := by
  obtain ⟨fd, F⟩ := e.def_ 38 (d := dd52) rfl
  have hB : ∀ x ∈ BLs, mg x = none := blsOk X G e
  exact fnd_of F (He.glo_ok X G (e.fact 38 rfl)) (FunD.bindsN (ps := ["pot", "most"]) F fun _ _ _ _ _ _ us hl => match us, hl with | [_, _], _ => rfl) (fun p0 ep => by cases ep) sk52 ck52 (fun x hx => hB x (bsub (by decide +kernel) hx)) fun cdv A outer s H G2 c => w52 c hB (j48 X G e) (j50 X G e)
theorem j15 (X : K.In h) (G : h.Ns mainGlobals mg) (e : He.SaysD fa fn K) : FnD P w K mg base "is_tree_of" ["value"] 5 0 S15 := by
  obtain ⟨fd, F⟩ := e.def_ 8 (d := dd15) rfl
  have hB : ∀ x ∈ BLs, mg x = none := blsOk X G e
  exact fnd_of F (He.glo_ok X G (e.fact 8 rfl)) (FunD.bindsN (ps := ["value"]) F fun _ _ _ _ _ _ us hl => match us, hl with | [_], _ => rfl) (fun p0 ep s u hK => FunD.bindsK F (ps := ["value"]) (fun _ _ _ _ _ _ us hl => match us, hl with | [_], _ => rfl) ep s u) sk15 ck15 (fun x hx => hB x (bsub (by decide +kernel) hx)) fun cdv A outer s H G2 c => w15 c (He.str_ok X G (e.fact 65 rfl)) (He.int_ok X G (e.fact 66 rfl)) (j7 X G e) (j4 X G e) (j14 X G e) (j12 X G e)
theorem j17 (X : K.In h) (G : h.Ns mainGlobals mg) (e : He.SaysD fa fn K) : FnD P w K mg base "are_places_of" ["tree", "value"] 5 0 S17 := by
  obtain ⟨fd, F⟩ := e.def_ 10 (d := dd17) rfl
  have hB : ∀ x ∈ BLs, mg x = none := blsOk X G e
  exact fnd_of F (He.glo_ok X G (e.fact 10 rfl)) (FunD.bindsN (ps := ["tree", "value"]) F fun _ _ _ _ _ _ us hl => match us, hl with | [_, _], _ => rfl) (fun p0 ep => by cases ep) sk17 ck17 (fun x hx => hB x (bsub (by decide +kernel) hx)) fun cdv A outer s H G2 c => w17 c hB (j16 X G e) (j8 X G e)
theorem j26 (X : K.In h) (G : h.Ns mainGlobals mg) (e : He.SaysD fa fn K) : FnD P w K mg base "is_lay_of" ["value"] 5 0 S26 := by
  obtain ⟨fd, F⟩ := e.def_ 16 (d := dd26) rfl
  have hB : ∀ x ∈ BLs, mg x = none := blsOk X G e
  exact fnd_of F (He.glo_ok X G (e.fact 16 rfl)) (FunD.bindsN (ps := ["value"]) F fun _ _ _ _ _ _ us hl => match us, hl with | [_], _ => rfl) (fun p0 ep s u hK => FunD.bindsK F (ps := ["value"]) (fun _ _ _ _ _ _ us hl => match us, hl with | [_], _ => rfl) ep s u) sk26 ck26 (fun x hx => hB x (bsub (by decide +kernel) hx)) fun cdv A outer s H G2 c => w26 c hB (He.int_ok X G (e.fact 67 rfl)) (j25 X G e)
theorem j40 (X : K.In h) (G : h.Ns mainGlobals mg) (e : He.SaysD fa fn K) : FnD P w K mg base "paper_of" ["tree"] 5 0 S40 := by
  obtain ⟨fd, F⟩ := e.def_ 27 (d := dd40) rfl
  have hB : ∀ x ∈ BLs, mg x = none := blsOk X G e
  exact fnd_of F (He.glo_ok X G (e.fact 27 rfl)) (FunD.bindsN (ps := ["tree"]) F fun _ _ _ _ _ _ us hl => match us, hl with | [_], _ => rfl) (fun p0 ep s u hK => FunD.bindsK F (ps := ["tree"]) (fun _ _ _ _ _ _ us hl => match us, hl with | [_], _ => rfl) ep s u) sk40 ck40 (fun x hx => hB x (bsub (by decide +kernel) hx)) fun cdv A outer s H G2 c => w40 c (He.str_ok X G (e.fact 69 rfl)) (He.str_ok X G (e.fact 70 rfl)) (j39 X G e) (j35 X G e)
theorem j53 (X : K.In h) (G : h.Ns mainGlobals mg) (e : He.SaysD fa fn K) : FnD P w K mg base "_law_tree" ["pot", "most"] 5 1 S53 := by
  obtain ⟨fd, F⟩ := e.def_ 39 (d := dd53) rfl
  have hB : ∀ x ∈ BLs, mg x = none := blsOk X G e
  exact fnd_of F (He.glo_ok X G (e.fact 39 rfl)) (FunD.bindsN (ps := ["pot", "most"]) F fun _ _ _ _ _ _ us hl => match us, hl with | [_, _], _ => rfl) (fun p0 ep => by cases ep) sk53 ck53 (fun x hx => hB x (bsub (by decide +kernel) hx)) fun cdv A outer s H G2 c => w53 c (j48 X G e) (j51 X G e) (j52 X G e)
theorem j21 (X : K.In h) (G : h.Ns mainGlobals mg) (e : He.SaysD fa fn K) : FnD P w K mg base "want_tree" ["value"] 6 0 S21 := by
  obtain ⟨fd, F⟩ := e.def_ 14 (d := dd21) rfl
  have hB : ∀ x ∈ BLs, mg x = none := blsOk X G e
  exact fnd_of F (He.glo_ok X G (e.fact 14 rfl)) (FunD.bindsN (ps := ["value"]) F fun _ _ _ _ _ _ us hl => match us, hl with | [_], _ => rfl) (fun p0 ep s u hK => FunD.bindsK F (ps := ["value"]) (fun _ _ _ _ _ _ us hl => match us, hl with | [_], _ => rfl) ep s u) sk21 ck21 (fun x hx => hB x (bsub (by decide +kernel) hx)) fun cdv A outer s H G2 c => w21 c (j15 X G e)
theorem j29 (X : K.In h) (G : h.Ns mainGlobals mg) (e : He.SaysD fa fn K) : FnD P w K mg base "are_stretches_of" ["tree", "value"] 6 0 S29 := by
  obtain ⟨fd, F⟩ := e.def_ 19 (d := dd29) rfl
  have hB : ∀ x ∈ BLs, mg x = none := blsOk X G e
  exact fnd_of F (He.glo_ok X G (e.fact 19 rfl)) (FunD.bindsN (ps := ["tree", "value"]) F fun _ _ _ _ _ _ us hl => match us, hl with | [_, _], _ => rfl) (fun p0 ep => by cases ep) sk29 ck29 (fun x hx => hB x (bsub (by decide +kernel) hx)) fun cdv A outer s H G2 c => w29 c (j26 X G e) (j18 X G e) (j19 X G e) (j28 X G e)
theorem j36 (X : K.In h) (G : h.Ns mainGlobals mg) (e : He.SaysD fa fn K) : FnD P w K mg base "is_claw_of" ["tree", "value"] 6 0 S36 := by
  obtain ⟨fd, F⟩ := e.def_ 23 (d := dd36) rfl
  have hB : ∀ x ∈ BLs, mg x = none := blsOk X G e
  exact fnd_of F (He.glo_ok X G (e.fact 23 rfl)) (FunD.bindsN (ps := ["tree", "value"]) F fun _ _ _ _ _ _ us hl => match us, hl with | [_, _], _ => rfl) (fun p0 ep => by cases ep) sk36 ck36 (fun x hx => hB x (bsub (by decide +kernel) hx)) fun cdv A outer s H G2 c => w36 c hB (j7 X G e) (j16 X G e) (j17 X G e) (j20 X G e)
theorem j33 (X : K.In h) (G : h.Ns mainGlobals mg) (e : He.SaysD fa fn K) : FnD P w K mg base "are_even_of" ["tree", "value"] 7 0 S33 := by
  obtain ⟨fd, F⟩ := e.def_ 20 (d := dd33) rfl
  have hB : ∀ x ∈ BLs, mg x = none := blsOk X G e
  exact fnd_of F (He.glo_ok X G (e.fact 20 rfl)) (FunD.bindsN (ps := ["tree", "value"]) F fun _ _ _ _ _ _ us hl => match us, hl with | [_, _], _ => rfl) (fun p0 ep => by cases ep) sk33 ck33 (fun x hx => hB x (bsub (by decide +kernel) hx)) fun cdv A outer s H G2 c => w33 c hB (j29 X G e)
theorem j43 (X : K.In h) (G : h.Ns mainGlobals mg) (e : He.SaysD fa fn K) : FnD P w K mg base "claws" ["tree"] 7 0 S43 := by
  obtain ⟨fd, F⟩ := e.def_ 30 (d := dd43) rfl
  have hB : ∀ x ∈ BLs, mg x = none := blsOk X G e
  exact fnd_of F (He.glo_ok X G (e.fact 30 rfl)) (FunD.bindsN (ps := ["tree"]) F fun _ _ _ _ _ _ us hl => match us, hl with | [_], _ => rfl) (fun p0 ep s u hK => FunD.bindsK F (ps := ["tree"]) (fun _ _ _ _ _ _ us hl => match us, hl with | [_], _ => rfl) ep s u) sk43 ck43 (fun x hx => hB x (bsub (by decide +kernel) hx)) fun cdv A outer s H G2 c => w43 c (j38 X G e) (j21 X G e)
theorem j44 (X : K.In h) (G : h.Ns mainGlobals mg) (e : He.SaysD fa fn K) : FnD P w K mg base "even_paper" ["tree"] 7 0 S44 := by
  obtain ⟨fd, F⟩ := e.def_ 31 (d := dd44) rfl
  have hB : ∀ x ∈ BLs, mg x = none := blsOk X G e
  exact fnd_of F (He.glo_ok X G (e.fact 31 rfl)) (FunD.bindsN (ps := ["tree"]) F fun _ _ _ _ _ _ us hl => match us, hl with | [_], _ => rfl) (fun p0 ep s u hK => FunD.bindsK F (ps := ["tree"]) (fun _ _ _ _ _ _ us hl => match us, hl with | [_], _ => rfl) ep s u) sk44 ck44 (fun x hx => hB x (bsub (by decide +kernel) hx)) fun cdv A outer s H G2 c => w44 c (j40 X G e) (j21 X G e)
theorem j41 (X : K.In h) (G : h.Ns mainGlobals mg) (e : He.SaysD fa fn K) : FnD P w K mg base "is_paper_of" ["tree", "value"] 8 0 S41 := by
  obtain ⟨fd, F⟩ := e.def_ 28 (d := dd41) rfl
  have hB : ∀ x ∈ BLs, mg x = none := blsOk X G e
  exact fnd_of F (He.glo_ok X G (e.fact 28 rfl)) (FunD.bindsN (ps := ["tree", "value"]) F fun _ _ _ _ _ _ us hl => match us, hl with | [_, _], _ => rfl) (fun p0 ep => by cases ep) sk41 ck41 (fun x hx => hB x (bsub (by decide +kernel) hx)) fun cdv A outer s H G2 c => w41 c (He.str_ok X G (e.fact 69 rfl)) (He.str_ok X G (e.fact 70 rfl)) (j7 X G e) (j33 X G e) (j36 X G e)
theorem j42 (X : K.In h) (G : h.Ns mainGlobals mg) (e : He.SaysD fa fn K) : FnD P w K mg base "are_even" ["tree", "value"] 8 0 S42 := by
  obtain ⟨fd, F⟩ := e.def_ 29 (d := dd42) rfl
  have hB : ∀ x ∈ BLs, mg x = none := blsOk X G e
  exact fnd_of F (He.glo_ok X G (e.fact 29 rfl)) (FunD.bindsN (ps := ["tree", "value"]) F fun _ _ _ _ _ _ us hl => match us, hl with | [_, _], _ => rfl) (fun p0 ep => by cases ep) sk42 ck42 (fun x hx => hB x (bsub (by decide +kernel) hx)) fun cdv A outer s H G2 c => w42 c (j33 X G e) (j21 X G e)
theorem j45 (X : K.In h) (G : h.Ns mainGlobals mg) (e : He.SaysD fa fn K) : FnD P w K mg base "is_even_paper" ["tree", "value"] 9 0 S45 := by
  obtain ⟨fd, F⟩ := e.def_ 32 (d := dd45) rfl
  have hB : ∀ x ∈ BLs, mg x = none := blsOk X G e
  exact fnd_of F (He.glo_ok X G (e.fact 32 rfl)) (FunD.bindsN (ps := ["tree", "value"]) F fun _ _ _ _ _ _ us hl => match us, hl with | [_, _], _ => rfl) (fun p0 ep => by cases ep) sk45 ck45 (fun x hx => hB x (bsub (by decide +kernel) hx)) fun cdv A outer s H G2 c => w45 c (j41 X G e) (j21 X G e)
theorem j59 (X : K.In h) (G : h.Ns mainGlobals mg) (e : He.SaysD fa fn K) : FnD P w K mg base "_law_right" ["pot"] 10 1 S59 := by
  obtain ⟨fd, F⟩ := e.def_ 45 (d := dd59) rfl
  have hB : ∀ x ∈ BLs, mg x = none := blsOk X G e
  exact fnd_of F (He.glo_ok X G (e.fact 45 rfl)) (FunD.bindsN (ps := ["pot"]) F fun _ _ _ _ _ _ us hl => match us, hl with | [_], _ => rfl) (fun p0 ep s u hK => FunD.bindsK F (ps := ["pot"]) (fun _ _ _ _ _ _ us hl => match us, hl with | [_], _ => rfl) ep s u) sk59 ck59 (fun x hx => hB x (bsub (by decide +kernel) hx)) fun cdv A outer s H G2 c => w59 c hB (j48 X G e) (j50 X G e) (j53 X G e) (j58 X G e) (j43 X G e) (j44 X G e) (j45 X G e) (j57 X G e) (j42 X G e)
theorem j60 (X : K.In h) (G : h.Ns mainGlobals mg) (e : He.SaysD fa fn K) : FnD P w K mg base "law" ["script"] 11 0 S60 := by
  obtain ⟨fd, F⟩ := e.def_ 46 (d := dd60) rfl
  have hB : ∀ x ∈ BLs, mg x = none := blsOk X G e
  exact fnd_of F (He.glo_ok X G (e.fact 46 rfl)) (FunD.bindsN (ps := ["script"]) F fun _ _ _ _ _ _ us hl => match us, hl with | [_], _ => rfl) (fun p0 ep s u hK => FunD.bindsK F (ps := ["script"]) (fun _ _ _ _ _ _ us hl => match us, hl with | [_], _ => rfl) ep s u) sk60 ck60 (fun x hx => hB x (bsub (by decide +kernel) hx)) fun cdv A outer s H G2 c => w60 c (j47 X G e) (j59 X G e)
end
abbrev R : PySem.W.OpenRow := PySem.W.OpenLaw.row RL
abbrev hk : PySem.W.Hook := He.hookD 61 fa fn
def ob (s : PySem.W.SharedT) : He.AlD := He.obsDG 61 fa fn (HandSHeadRun.getT s)
theorem ob_eq (s : PySem.W.SharedT) : ob s = hk.obs s.abs := He.obsDG_eq (HandSHeadRun.getT_eq s)
theorem run (w : World) : HandSHeadRun.RunEq R (PySem.W.view R.prog [60]) hk ob 20000 lo w := by
  intro os
  kernel_rfl
end Pd
open PySem PySem.W PySem.Calls PyProof.Rows
set_option maxRecDepth 100000 in
set_option maxHeartbeats 0 in
theorem PySem.Challenge.cw_caterpillars_k42_whole_even_or_claw_holds : PySem.Challenge.rw_caterpillars_k42_whole_even_or_claw.Holds := by
  w_on; o_law
  refine HandSHeadRun.head_any (r := OpenLaw.row PySem.Challenge.rw_caterpillars_k42_whole_even_or_claw) (q := view (OpenLaw.row PySem.Challenge.rw_caterpillars_k42_whole_even_or_claw).prog [60]) (H := Pd.hk) (ob := Pd.ob) (M := 20000) (loose := Pd.lo) (d := HandSHeadRun.topDef (OpenLaw.row PySem.Challenge.rw_caterpillars_k42_whole_even_or_claw).prog 60) (kwd := []) Pd.ob_eq
    (by kernel_rfl) (fun s => by kernel_rfl) Pd.run (by kernel_rfl) (by kernel_rfl) (by kernel_rfl) (by rfl) (by first | assumption | decide +kernel) (by decide +kernel) ⟨rfl, rfl, rfl, rfl, rfl, by decide +kernel⟩ ?hw ?hc
  case hw => w_witness2
  case hc =>
    refine Pd.walk_ofG (l := PySem.Challenge.rw_caterpillars_k42_whole_even_or_claw) (n := 63) (k := 11) (x := "script") rfl (by decide) (by kernel_rfl) ⟨rfl, by decide, by decide⟩ ?F
    intro w mg h Y G
    obtain ⟨K, KX, c⟩ := Y
    have e : (HandSHeadRun.topDef (OpenLaw.row PySem.Challenge.rw_caterpillars_k42_whole_even_or_claw).prog 60).name = ("law" : PySem.Str) := by kernel_rfl
    rw [e]
    exact ⟨K, Pd.S60, KX, Pd.lawS, fun base _ _ => Pd.j60 KX G c⟩
