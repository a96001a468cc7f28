import PyProof.Rows.All
import Wide.All
import OpenK.AllK
import Wide.FinOn
import HandS.ForList
import HandS.ForMost
import HandS.ForExc
import HandS.Evl
import HandS.Walk
import HandS.More
import HandS.Bytes
import HandS.BytesMake
import HandS.Strs
import HandS.Lambda
import HandS.TupAny
import HandS.Sort
import KE.GoesMore
import HandS.IsInst
import KE.KBytesJoin
import HandS.Style
import HandS.Flow
import HandS.RevTup
import KE.GoesZip
import KE.KBytesMore
import HandS.WordsDict
import HandS.SortInts
import KE.KDictSum
import HandS.Conv
import HandS.SetFor
import HandS.SetBool
import HandS.DictComp
import HandS.Records
import HandS.DictTup
import HandS.SortOrd
import HandS.ListItems
import KE.SortData
import KE.DataMinMax
import PyProof.Rows.SetFrom
import HandS.WordsExc
import HandS.ExcInit
import HandS.ExcOwn
import HandS.ExcField
import KE.KExcIs
import HandS.ExcIs
import HandS.EndTab
import KE.KNestM
import KE.KBytesFind
import KE.DataCmp
import KE.KDflt
import KE.KAssignIn
import KE.KTupSum
import KE.KBytesWalk
import KE.LtSeq
import KE.LtData
import KE.KBytesEq
import HandS.Text
import HandS.Iter
import PySem.Challenge.RW_patchover_k61_patches_written_and_read
set_option Elab.async false
set_option linter.all false
set_option maxRecDepth 100000
set_option maxHeartbeats 16000000
namespace Po
open PySem PySem.Spec PyProof.Rows L2
open Evl (Ex)
open PySem.W in
set_option maxRecDepth 100000 in
set_option maxHeartbeats 0 in
open_top head for PySem.Challenge.rw_patchover_k61_patches_written_and_read

inductive D where
  | non
  | bl (b : Bool)
  | int (i : Int)
  | str (s : Str)
  | byt (ns : List Int)
  | raw (v : V)
  | lst (xs : List D)
  | rl (xs : List D)
  | tup (xs : List D)
  | dic (ks : List Key) (xs : List D)
  | ml (xs : List D)
  | md (ks : List Key) (xs : List D)
  | mi (C : Addr) (ns : List Str) (xs : List D)
  | ms (w : World) (ns : List Int)

section
variable (K : PySem.W.Frag) (Hs : Hp)
mutual
def Is : D → V → Prop
  | .non, v => v = .non
  | .bl b, v => v = .bl b
  | .int i, v => v = .int i
  | .str s, v => v = .str s
  | .byt ns, v => v = .byt (byteArr ns) ∧ B8 ns
  | .raw w, v => v = w
  | .lst xs, v => ∃ a vs, v = .ref a ∧ Hs a = some (.lst vs) ∧ IsA xs vs
  | .rl xs, v => ∃ a vs, v = .ref a ∧ SqL K Hs a vs ∧ IsA xs vs
  | .tup xs, v => ∃ a vs, v = .ref a ∧ SqT K Hs a vs ∧ IsA xs vs
  | .dic ks xs, v => ∃ a kvs o, v = .ref a ∧ Hs a = some (.frz o (.dK kvs)) ∧ kvs.map Prod.fst = ks ∧ IsA xs (kvs.map Prod.snd)
  | .ml _, _ => False
  | .md _ _, _ => False
  | .mi _ _ _, _ => False
  | .ms _ _, _ => False
def IsA : List D → List V → Prop
  | [], vs => vs = []
  | d :: r, vs => ∃ v vr, vs = v :: vr ∧ Is d v ∧ IsA r vr
end
variable (H : Hp)
mutual
def Ow : D → V → List Addr → Prop
  | .non, v, F => F = [] ∧ v = .non
  | .bl b, v, F => F = [] ∧ v = .bl b
  | .int i, v, F => F = [] ∧ v = .int i
  | .str s, v, F => F = [] ∧ v = .str s
  | .byt ns, v, F => F = [] ∧ v = .byt (byteArr ns) ∧ B8 ns
  | .raw w, v, F => F = [] ∧ v = w
  | .lst xs, v, F => F = [] ∧ Is K Hs (.lst xs) v
  | .rl xs, v, F => F = [] ∧ Is K Hs (.rl xs) v
  | .tup xs, v, F => F = [] ∧ Is K Hs (.tup xs) v
  | .dic ks xs, v, F => F = [] ∧ Is K Hs (.dic ks xs) v
  | .ml xs, v, F => ∃ a vs, v = .ref a ∧ F = [a] ∧ H a = some (.lst vs) ∧ IsA K Hs xs vs
  | .md ks xs, v, F => ∃ a kvs G, v = .ref a ∧ F = a :: G ∧ H a = some (.dK kvs) ∧ kvs.map Prod.fst = ks ∧ OwA xs (kvs.map Prod.snd) G
  | .mi C ns xs, v, F => ∃ a dx fs G, v = .ref a ∧ F = a :: dx :: G ∧ H a = some (.ins C dx fs) ∧ H dx = some (.own a) ∧ fs.map Prod.fst = ns ∧ OwA xs (fs.map Prod.snd) G
  | .ms w ns, v, F => ∃ a S, v = .ref a ∧ F = [a] ∧ H a = some (SetO w a S ns.length) ∧ (∀ k, S k = decide (k ∈ ns)) ∧ ns.Nodup
def OwA : List D → List V → List Addr → Prop
  | [], vs, F => vs = [] ∧ F = []
  | d :: r, vs, F => ∃ v vr F1 F2, vs = v :: vr ∧ F = F1 ++ F2 ∧ Ow d v F1 ∧ OwA r vr F2
end
end

section
variable {K : PySem.W.Frag} {Hs Hs' H H' : Hp}
mutual
theorem Is.mono (e : Ex Hs Hs') : ∀ (d : D) (v : V), Is K Hs d v → Is K Hs' d v
  | .non, _, h => h
  | .bl _, _, h => h
  | .int _, _, h => h
  | .str _, _, h => h
  | .byt _, _, h => h
  | .raw _, _, h => h
  | .lst xs, v, h => by
    obtain ⟨a, vs, h1, h2, h3⟩ := h
    exact ⟨a, vs, h1, e _ _ h2, IsA.mono e xs vs h3⟩
  | .rl xs, v, h => by
    obtain ⟨a, vs, h1, h2, h3⟩ := h
    exact ⟨a, vs, h1, Evl.ex_l e h2, IsA.mono e xs vs h3⟩
  | .tup xs, v, h => by
    obtain ⟨a, vs, h1, h2, h3⟩ := h
    exact ⟨a, vs, h1, Evl.ex_t e h2, IsA.mono e xs vs h3⟩
  | .dic ks xs, v, h => by
    obtain ⟨a, kvs, o, h1, h2, h3, h4⟩ := h
    exact ⟨a, kvs, o, h1, e _ _ h2, h3, IsA.mono e xs _ h4⟩
  | .ml _, _, h => h.elim
  | .md _ _, _, h => h.elim
  | .mi _ _ _, _, h => h.elim
  | .ms _ _, _, h => h.elim
theorem IsA.mono (e : Ex Hs Hs') : ∀ (ds : List D) (vs : List V), IsA K Hs ds vs → IsA K Hs' ds vs
  | [], _, h => h
  | d :: r, vs, h => by
    obtain ⟨v, vr, h1, h2, h3⟩ := h
    exact ⟨v, vr, h1, Is.mono e d v h2, IsA.mono e r vr h3⟩
end
theorem IsA.len : ∀ {ds : List D} {vs : List V}, IsA K Hs ds vs → vs.length = ds.length
  | [], _, h => by
    have e : _ = [] := h
    rw [e]
    rfl
  | d :: r, vs, h => by
    obtain ⟨v, vr, rfl, _, h3⟩ := h
    simp [IsA.len h3]
theorem IsA.get : ∀ {ds : List D} {vs : List V} {i : Nat} {d : D}, IsA K Hs ds vs → ds[i]? = some d → ∃ v, vs[i]? = some v ∧ Is K Hs d v
  | [], _, i, d, _, h => by simp at h
  | d :: r, vs, 0, d', h, e => by
    obtain ⟨v, vr, rfl, h2, _⟩ := h
    have e' : d = d' := by simpa using e
    subst e'
    exact ⟨v, rfl, h2⟩
  | d :: r, vs, i + 1, d', h, e => by
    obtain ⟨v, vr, rfl, _, h3⟩ := h
    obtain ⟨u, hu, q⟩ := IsA.get h3 (by simpa using e)
    exact ⟨u, by simpa using hu, q⟩
theorem IsA.app : ∀ {ds es : List D} {vs us : List V}, IsA K Hs ds vs → IsA K Hs es us → IsA K Hs (ds ++ es) (vs ++ us)
  | [], _, _, _, h, g => by
    have e : _ = [] := h
    subst e
    exact g
  | d :: r, es, vs, us, h, g => by
    obtain ⟨v, vr, rfl, h2, h3⟩ := h
    exact ⟨v, vr ++ us, rfl, h2, IsA.app h3 g⟩
theorem IsA.one {d : D} {v : V} (h : Is K Hs d v) : IsA K Hs [d] [v] := ⟨v, [], rfl, h, rfl⟩
theorem IsA.cons {d : D} {v : V} {ds : List D} {vs : List V} (h : Is K Hs d v) (g : IsA K Hs ds vs) : IsA K Hs (d :: ds) (v :: vs) := ⟨v, vs, rfl, h, g⟩
theorem IsA.set : ∀ {ds : List D} {vs : List V} (i : Nat) {d : D} {v : V}, IsA K Hs ds vs → Is K Hs d v → IsA K Hs (ds.set i d) (vs.set i v)
  | [], _, _, _, _, h, _ => by
    have e : _ = [] := h
    subst e
    rfl
  | d :: r, vs, 0, d', v', h, g => by
    obtain ⟨v, vr, rfl, h2, h3⟩ := h
    exact ⟨v', vr, rfl, g, h3⟩
  | d :: r, vs, i + 1, d', v', h, g => by
    obtain ⟨v, vr, rfl, h2, h3⟩ := h
    exact ⟨v, vr.set i v', rfl, h2, IsA.set i h3 g⟩
theorem IsA.take : ∀ {ds : List D} {vs : List V} (n : Nat), IsA K Hs ds vs → IsA K Hs (ds.take n) (vs.take n)
  | _, _, 0, _ => rfl
  | [], _, n + 1, h => by
    have e : _ = [] := h
    subst e
    rfl
  | d :: r, vs, n + 1, h => by
    obtain ⟨v, vr, rfl, h2, h3⟩ := h
    exact ⟨v, vr.take n, rfl, h2, IsA.take n h3⟩
theorem IsA.drop : ∀ {ds : List D} {vs : List V} (n : Nat), IsA K Hs ds vs → IsA K Hs (ds.drop n) (vs.drop n)
  | _, _, 0, h => h
  | [], _, n + 1, h => by
    have e : _ = [] := h
    subst e
    rfl
  | d :: r, vs, n + 1, h => by
    obtain ⟨v, vr, rfl, h2, h3⟩ := h
    exact IsA.drop n h3
theorem IsA.ints : ∀ (ns : List Int), IsA K Hs (ns.map D.int) (ns.map V.int)
  | [] => rfl
  | n :: r => ⟨.int n, _, rfl, rfl, IsA.ints r⟩
theorem IsA.ints_inv : ∀ {ns : List Int} {vs : List V}, IsA K Hs (ns.map D.int) vs → vs = ns.map V.int
  | [], _, h => h
  | n :: r, _, h => by
    obtain ⟨v, vr, rfl, h2, h3⟩ := h
    have e : v = .int n := h2
    rw [e, IsA.ints_inv h3]
    rfl
mutual
theorem Ow.frame (e : Ex Hs Hs') : ∀ (d : D) (v : V) (F : List Addr), (∀ p, p ∈ F → H' p = H p) → Ow K Hs H d v F → Ow K Hs' H' d v F
  | .non, _, _, _, h => h
  | .bl _, _, _, _, h => h
  | .int _, _, _, _, h => h
  | .str _, _, _, _, h => h
  | .byt _, _, _, _, h => h
  | .raw _, _, _, _, h => h
  | .lst xs, v, _, _, h => ⟨h.1, Is.mono e (.lst xs) v h.2⟩
  | .rl xs, v, _, _, h => ⟨h.1, Is.mono e (.rl xs) v h.2⟩
  | .tup xs, v, _, _, h => ⟨h.1, Is.mono e (.tup xs) v h.2⟩
  | .dic ks xs, v, _, _, h => ⟨h.1, Is.mono e (.dic ks xs) v h.2⟩
  | .ml xs, v, F, k, h => by
    obtain ⟨a, vs, h1, rfl, h3, h4⟩ := h
    exact ⟨a, vs, h1, rfl, by rw [k a (by simp)]; exact h3, IsA.mono e xs vs h4⟩
  | .md ks xs, v, F, k, h => by
    obtain ⟨a, kvs, G, h1, rfl, h3, h4, h5⟩ := h
    exact ⟨a, kvs, G, h1, rfl, by rw [k a (by simp)]; exact h3, h4, OwA.frame e xs _ G (fun p hp => k p (by simp [hp])) h5⟩
  | .mi C ns xs, v, F, k, h => by
    obtain ⟨a, dx, fs, G, h1, rfl, h3, h3', h4, h5⟩ := h
    exact ⟨a, dx, fs, G, h1, rfl, by rw [k a (by simp)]; exact h3, by rw [k dx (by simp)]; exact h3', h4, OwA.frame e xs _ G (fun p hp => k p (by simp [hp])) h5⟩
  | .ms w ns, v, F, k, h => by
    obtain ⟨a, S, h1, rfl, h3, h4⟩ := h
    exact ⟨a, S, h1, rfl, by rw [k a (by simp)]; exact h3, h4⟩
theorem OwA.frame (e : Ex Hs Hs') : ∀ (ds : List D) (vs : List V) (F : List Addr), (∀ p, p ∈ F → H' p = H p) → OwA K Hs H ds vs F → OwA K Hs' H' ds vs F
  | [], _, _, _, h => h
  | d :: r, vs, F, k, h => by
    obtain ⟨v, vr, F1, F2, h1, rfl, h3, h4⟩ := h
    exact ⟨v, vr, F1, F2, h1, rfl, Ow.frame e d v F1 (fun p hp => k p (by simp [hp])) h3, OwA.frame e r vr F2 (fun p hp => k p (by simp [hp])) h4⟩
end
mutual
theorem Ow.nn : ∀ (d : D) (v : V) (F : List Addr), Ow K Hs H d v F → ∀ p, p ∈ F → H p ≠ none
  | .non, _, _, h, p, hp => by rw [h.1] at hp; cases hp
  | .bl _, _, _, h, p, hp => by rw [h.1] at hp; cases hp
  | .int _, _, _, h, p, hp => by rw [h.1] at hp; cases hp
  | .str _, _, _, h, p, hp => by rw [h.1] at hp; cases hp
  | .byt _, _, _, h, p, hp => by rw [h.1] at hp; cases hp
  | .raw _, _, _, h, p, hp => by rw [h.1] at hp; cases hp
  | .lst xs, v, _, h, p, hp => by rw [h.1] at hp; cases hp
  | .rl xs, v, _, h, p, hp => by rw [h.1] at hp; cases hp
  | .tup xs, v, _, h, p, hp => by rw [h.1] at hp; cases hp
  | .dic ks xs, v, _, h, p, hp => by rw [h.1] at hp; cases hp
  | .ml xs, v, F, h, p, hp => by
    obtain ⟨a, vs, h1, rfl, h3, h4⟩ := h
    have e : p = a := by simpa using hp
    rw [e, h3]
    simp
  | .md ks xs, v, F, h, p, hp => by
    obtain ⟨a, kvs, G, h1, rfl, h3, h4, h5⟩ := h
    rcases List.mem_cons.mp hp with rfl | hp
    · rw [h3]; simp
    · exact OwA.nn xs _ G h5 p hp
  | .mi C ns xs, v, F, h, p, hp => by
    obtain ⟨a, dx, fs, G, h1, rfl, h3, h3', h4, h5⟩ := h
    rcases List.mem_cons.mp hp with rfl | hp
    · rw [h3]; simp
    · rcases List.mem_cons.mp hp with rfl | hp
      · rw [h3']; simp
      · exact OwA.nn xs _ G h5 p hp
  | .ms w ns, v, F, h, p, hp => by
    obtain ⟨a, S, h1, rfl, h3, h4⟩ := h
    have e : p = a := by simpa using hp
    rw [e, h3]
    simp
theorem OwA.nn : ∀ (ds : List D) (vs : List V) (F : List Addr), OwA K Hs H ds vs F → ∀ p, p ∈ F → H p ≠ none
  | [], _, _, h, p, hp => by rw [h.2] at hp; cases hp
  | d :: r, vs, F, h, p, hp => by
    obtain ⟨v, vr, F1, F2, h1, rfl, h3, h4⟩ := h
    rcases List.mem_append.mp hp with hp | hp
    · exact Ow.nn d v F1 h3 p hp
    · exact OwA.nn r vr F2 h4 p hp
end
mutual
theorem Ow.nt : ∀ (d : D) (v : V) (F : List Addr), Ow K Hs H d v F → ∀ p, p ∈ F → ∀ ps, H p ≠ some (.tbl ps)
  | .non, _, _, h, p, hp => by rw [h.1] at hp; cases hp
  | .bl _, _, _, h, p, hp => by rw [h.1] at hp; cases hp
  | .int _, _, _, h, p, hp => by rw [h.1] at hp; cases hp
  | .str _, _, _, h, p, hp => by rw [h.1] at hp; cases hp
  | .byt _, _, _, h, p, hp => by rw [h.1] at hp; cases hp
  | .raw _, _, _, h, p, hp => by rw [h.1] at hp; cases hp
  | .lst xs, v, _, h, p, hp => by rw [h.1] at hp; cases hp
  | .rl xs, v, _, h, p, hp => by rw [h.1] at hp; cases hp
  | .tup xs, v, _, h, p, hp => by rw [h.1] at hp; cases hp
  | .dic ks xs, v, _, h, p, hp => by rw [h.1] at hp; cases hp
  | .ml xs, v, F, h, p, hp => by
    obtain ⟨a, vs, h1, rfl, h3, h4⟩ := h
    have e : p = a := by simpa using hp
    intro ps z
    rw [e, h3] at z
    cases z
  | .md ks xs, v, F, h, p, hp => by
    obtain ⟨a, kvs, G, h1, rfl, h3, h4, h5⟩ := h
    rcases List.mem_cons.mp hp with rfl | hp
    · intro ps z; rw [h3] at z; cases z
    · exact OwA.nt xs _ G h5 p hp
  | .mi C ns xs, v, F, h, p, hp => by
    obtain ⟨a, dx, fs, G, h1, rfl, h3, h3', h4, h5⟩ := h
    rcases List.mem_cons.mp hp with rfl | hp
    · intro ps z; rw [h3] at z; cases z
    · rcases List.mem_cons.mp hp with rfl | hp
      · intro ps z; rw [h3'] at z; cases z
      · exact OwA.nt xs _ G h5 p hp
  | .ms w ns, v, F, h, p, hp => by
    obtain ⟨a, S, h1, rfl, h3, h4⟩ := h
    have e : p = a := by simpa using hp
    intro ps z
    rw [e, h3] at z
    have z' : HO.ext _ = HO.tbl ps := Option.some.inj z
    cases z'
theorem OwA.nt : ∀ (ds : List D) (vs : List V) (F : List Addr), OwA K Hs H ds vs F → ∀ p, p ∈ F → ∀ ps, H p ≠ some (.tbl ps)
  | [], _, _, h, p, hp => by rw [h.2] at hp; cases hp
  | d :: r, vs, F, h, p, hp => by
    obtain ⟨v, vr, F1, F2, h1, rfl, h3, h4⟩ := h
    rcases List.mem_append.mp hp with hp | hp
    · exact Ow.nt d v F1 h3 p hp
    · exact OwA.nt r vr F2 h4 p hp
end
/-- a frozen thing is owned with nothing -/
theorem Ow.of : ∀ {d : D} {v : V}, Is K Hs d v → Ow K Hs H d v []
  | .non, _, h => ⟨rfl, h⟩
  | .bl _, _, h => ⟨rfl, h⟩
  | .int _, _, h => ⟨rfl, h⟩
  | .str _, _, h => ⟨rfl, h⟩
  | .byt _, _, h => ⟨rfl, h⟩
  | .raw _, _, h => ⟨rfl, h⟩
  | .lst _, _, h => ⟨rfl, h⟩
  | .rl _, _, h => ⟨rfl, h⟩
  | .tup _, _, h => ⟨rfl, h⟩
  | .dic _ _, _, h => ⟨rfl, h⟩
  | .ml _, _, h => h.elim
  | .md _ _, _, h => h.elim
  | .mi _ _ _, _, h => h.elim
  | .ms _ _, _, h => h.elim
end

/-! ### freezing -/
def fz1 : D → D
  | .ml xs => .lst xs
  | d => d
def flat1 : D → Bool
  | .md _ _ => false
  | .ms _ _ => false
  | .mi _ _ _ => false
  | _ => true
/-- what is taken as a plain value -/
@[simp] def Fz (d : D) (k : D → Prop) : Prop := match d with
  | .ml xs => k (.lst xs)
  | .md _ _ => False
  | .mi _ _ _ => False
  | .ms _ _ => False
  | d => k d
def frzH (Hs H : Hp) (G : List Addr) : Hp := fun p => if p ∈ G then H p else Hs p
section
variable {K : PySem.W.Frag} {Hs Hs' H H' : Hp}
theorem frzH_ex {G : List Addr} (e : Ex Hs H) : Ex Hs (frzH Hs H G) := fun p o h => by
  unfold frzH
  split
  · exact e p o h
  · exact h
theorem frzH_ex2 {G : List Addr} (e : Ex Hs H) : Ex (frzH Hs H G) H := fun p o h => by
  unfold frzH at h
  split at h
  · exact h
  · exact e p o h
theorem frzH_in {G : List Addr} {p : Addr} (h : p ∈ G) : frzH Hs H G p = H p := if_pos h
theorem frzH_out {G : List Addr} {p : Addr} (h : p ∉ G) : frzH Hs H G p = Hs p := if_neg h
theorem Ow.frz1 {G : List Addr} (e : Ex Hs H) : ∀ {d : D} {v : V} {F : List Addr}, flat1 d = true → (∀ p, p ∈ F → p ∈ G) → Ow K Hs H d v F → Is K (frzH Hs H G) (fz1 d) v
  | .non, _, _, _, _, h => h.2
  | .bl _, _, _, _, _, h => h.2
  | .int _, _, _, _, _, h => h.2
  | .str _, _, _, _, _, h => h.2
  | .byt _, _, _, _, _, h => h.2
  | .raw _, _, _, _, _, h => h.2
  | .lst xs, v, _, _, _, h => Is.mono (frzH_ex e) (.lst xs) v h.2
  | .rl xs, v, _, _, _, h => Is.mono (frzH_ex e) (.rl xs) v h.2
  | .tup xs, v, _, _, _, h => Is.mono (frzH_ex e) (.tup xs) v h.2
  | .dic ks xs, v, _, _, _, h => Is.mono (frzH_ex e) (.dic ks xs) v h.2
  | .ml xs, v, F, _, g, h => by
    obtain ⟨a, vs, h1, rfl, h3, h4⟩ := h
    exact ⟨a, vs, h1, (by rw [frzH_in (g a (by simp))]; exact h3), IsA.mono (frzH_ex e) xs vs h4⟩
  | .md _ _, _, _, f, _, _ => by cases f
  | .mi _ _ _, _, _, f, _, _ => by cases f
  | .ms _ _, _, _, f, _, _ => by cases f
theorem OwA.frz1 {G : List Addr} (e : Ex Hs H) : ∀ {ds : List D} {vs : List V} {F : List Addr}, ds.all flat1 = true → (∀ p, p ∈ F → p ∈ G) → OwA K Hs H ds vs F → IsA K (frzH Hs H G) (ds.map fz1) vs
  | [], _, _, _, _, h => h.1
  | d :: r, vs, F, f, g, h => by
    obtain ⟨v, vr, F1, F2, rfl, rfl, h3, h4⟩ := h
    have f' := f
    rw [List.all_cons, Bool.and_eq_true] at f'
    exact ⟨v, vr, rfl, Ow.frz1 e f'.1 (fun p hp => g p (by simp [hp])) h3, OwA.frz1 e f'.2 (fun p hp => g p (by simp [hp])) h4⟩
theorem Ow.frz (e : Ex Hs H) {k : D → Prop} : ∀ {d : D} {v : V} {G : List Addr}, Ow K Hs H d v G → Fz d k → ∃ d', k d' ∧ Is K (frzH Hs H G) d' v
  | .non, _, _, h, q => ⟨_, q, h.2⟩
  | .bl _, _, _, h, q => ⟨_, q, h.2⟩
  | .int _, _, _, h, q => ⟨_, q, h.2⟩
  | .str _, _, _, h, q => ⟨_, q, h.2⟩
  | .byt _, _, _, h, q => ⟨_, q, h.2⟩
  | .raw _, _, _, h, q => ⟨_, q, h.2⟩
  | .lst xs, v, _, h, q => ⟨_, q, Is.mono (frzH_ex e) (.lst xs) v h.2⟩
  | .rl xs, v, _, h, q => ⟨_, q, Is.mono (frzH_ex e) (.rl xs) v h.2⟩
  | .tup xs, v, _, h, q => ⟨_, q, Is.mono (frzH_ex e) (.tup xs) v h.2⟩
  | .dic ks xs, v, _, h, q => ⟨_, q, Is.mono (frzH_ex e) (.dic ks xs) v h.2⟩
  | .ml xs, v, G, h, q => ⟨_, q, Ow.frz1 (d := .ml xs) e rfl (fun _ hp => hp) h⟩
  | .md _ _, _, _, _, q => q.elim
  | .mi _ _ _, _, _, _, q => q.elim
  | .ms _ _, _, _, _, q => q.elim
end

/-! ### the state -/
inductive Cell where
  | no
  | vl (d : D)
  | io (v : V) (d : D)
abbrev Rho := List Cell
abbrev Fp := Nat → List Addr
/-- an exception: its class, its fields -/
structure XD where
  cls : Addr
  fs : List (Str × D)
def CellOk (K : PySem.W.Frag) (Hs H : Hp) (v? : Option (Option V)) (c : Cell) (F : List Addr) : Prop := match c with
  | .no => True
  | .vl d => ∃ v, v? = some (some v) ∧ Ow K Hs H d v F
  | .io v d => v? = some (some v) ∧ Ow K Hs H d v F
structure Rl (K : PySem.W.Frag) (σ : L2.St) (H Hs : Hp) (ρ : Rho) (φ : Fp) : Prop where
  len : ρ.length = σ.length
  ex : Ex Hs H
  cell : ∀ i c, ρ[i]? = some c → CellOk K Hs H σ[i]? c (φ i)
  hs : ∀ i p, p ∈ φ i → Hs p = none
  nn : ∀ i p, p ∈ φ i → H p ≠ none
  nd : ∀ i, (φ i).Nodup
  dis : ∀ i j p, p ∈ φ i → p ∈ φ j → i = j
/-- the name of the law's lambdas -/
def qLam : Str := ("law" : Str) ++ ".<locals>." ++ "<lambda>"
/-- a table of code objects, that no slot holds; each code object that it tells bears the name q -/
def TabF (H Hs : Hp) (φ : Fp) (P : Addr) (q : Str) : Prop := ∃ ps : Array Value, H P = some (.tbl ps) ∧ TriplesOk ps.toList ∧ Hs P = none ∧ (∀ i, P ∉ φ i) ∧ (∀ (pos : Pos) (cv : Value), codeAmong pos ps.toList = some cv → ∃ c, cv = .ref c ∧ Hs c = some (LamX.CodeO c q)) ∧ q = qLam
structure Step (H Hs : Hp) (φ : Fp) (H' Hs' : Hp) (φ' : Fp) : Prop where
  e : Ex Hs Hs'
  k : ∀ p o, H p = some o → (∀ i, p ∉ φ i) → (∀ ps, o ≠ .tbl ps) → H' p = some o
  n : ∀ p, H p ≠ none → Hs p = none → (∀ i, p ∉ φ i) → Hs' p = none
  f : ∀ i p, p ∈ φ' i → (∃ j, p ∈ φ j) ∨ H p = none
  h : ∀ p, H p ≠ none → H' p ≠ none
  t : ∀ P q, TabF H Hs φ P q → TabF H' Hs' φ' P q
/-- a step that leaves all tables -/
theorem Step.mk' {H Hs H' Hs' : Hp} {φ φ' : Fp} (e : Ex Hs Hs') (k : ∀ p o, H p = some o → (∀ i, p ∉ φ i) → H' p = some o) (n : ∀ p, H p ≠ none → Hs p = none → (∀ i, p ∉ φ i) → Hs' p = none)
    (f : ∀ i p, p ∈ φ' i → (∃ j, p ∈ φ j) ∨ H p = none) (h : ∀ p, H p ≠ none → H' p ≠ none) : Step H Hs φ H' Hs' φ' :=
  ⟨e, fun p o a b _ => k p o a b, n, f, h, fun P q ⟨ps, h1, h2, h3, h4, h5, hq⟩ => ⟨ps, k P _ h1 h4, h2, n P (by rw [h1]; simp) h3 h4, fun i hi => (f i P hi).elim (fun ⟨j, hj⟩ => h4 j hj) fun z => (by rw [h1] at z; cases z), fun pos cv hc => let ⟨c, e1, e2⟩ := h5 pos cv hc; ⟨c, e1, e _ _ e2⟩, hq⟩⟩
/-- a step told from another one that leaves all tables behind it -/
theorem Step.mk3 {H Hs H1 Hs1 H' Hs' : Hp} {φ φ1 φ' : Fp} (S : Step H Hs φ H1 Hs1 φ1) (e' : Ex Hs1 Hs') (hT : ∀ P ps, H P ≠ none → (∀ i, P ∉ φ1 i) → H1 P = some (.tbl ps) → H' P = some (.tbl ps))
    (k : ∀ p o, H p = some o → (∀ i, p ∉ φ i) → (∀ ps, o ≠ .tbl ps) → H' p = some o) (n : ∀ p, H p ≠ none → Hs p = none → (∀ i, p ∉ φ i) → Hs' p = none)
    (f : ∀ i p, p ∈ φ' i → (∃ j, p ∈ φ j) ∨ H p = none) (h : ∀ p, H p ≠ none → H' p ≠ none) : Step H Hs φ H' Hs' φ' :=
  ⟨S.e.trans e', k, n, f, h, fun P q t => by
    obtain ⟨ps0, g1, _, g3, g4, _⟩ := id t
    have g1' : H P ≠ none := by rw [g1]; simp
    obtain ⟨ps, h1, h2, h3, h4, h5, hq⟩ := S.t P q t
    exact ⟨ps, hT P ps g1' h4 h1, h2, n P g1' g3 g4, fun i hi => (f i P hi).elim (fun ⟨j, hj⟩ => g4 j hj) fun z => g1' z, fun pos cv hc => let ⟨c, e1, e2⟩ := h5 pos cv hc; ⟨c, e1, e' _ _ e2⟩, hq⟩⟩
theorem Step.refl (H Hs : Hp) (φ : Fp) : Step H Hs φ H Hs φ := .mk' (fun _ _ h => h) (fun _ _ h _ => h) (fun _ _ h _ => h) (fun i _ h => .inl ⟨i, h⟩) (fun _ h => h)
theorem Step.trans {H Hs H1 Hs1 H2 Hs2 : Hp} {φ φ1 φ2 : Fp} (a : Step H Hs φ H1 Hs1 φ1) (b : Step H1 Hs1 φ1 H2 Hs2 φ2) : Step H Hs φ H2 Hs2 φ2 := by
  have nf : ∀ p, H p ≠ none → (∀ i, p ∉ φ i) → ∀ i, p ∉ φ1 i := fun p hp hn i hi => by
    rcases a.f i p hi with ⟨j, hj⟩ | hj
    · exact hn j hj
    · exact hp hj
  refine ⟨a.e.trans b.e, fun p o ho hn ht => b.k p o (a.k p o ho hn ht) (nf p (by rw [ho]; simp) hn) ht, fun p hp hs hn => b.n p (a.h p hp) (a.n p hp hs hn) (nf p hp hn), fun i p hi => ?_, fun p hp => b.h p (a.h p hp), fun P q t => b.t P q (a.t P q t)⟩
  rcases b.f i p hi with ⟨j, hj⟩ | hj
  · exact a.f j p hj
  · refine .inr ?_
    cases q : H p with
    | none => rfl
    | some o => exact absurd hj (a.h p (by rw [q]; simp))
/-- what an expression gives: d at v, with what it owns -/
structure Res (K : PySem.W.Frag) (H Hs : Hp) (φ : Fp) (d : D) (v : V) (G : List Addr) : Prop where
  ow : Ow K Hs H d v G
  nd : G.Nodup
  hs : ∀ p, p ∈ G → Hs p = none
  dj : ∀ p, p ∈ G → ∀ i, p ∉ φ i
theorem Res.of {K : PySem.W.Frag} {H Hs : Hp} {φ : Fp} {d : D} {v : V} (h : Is K Hs d v) : Res K H Hs φ d v [] := ⟨Ow.of h, .nil, fun _ z => (nomatch z), fun _ z => (nomatch z)⟩
def Frs (H : Hp) (φ : Fp) (G : List Addr) : Prop := ∀ p, p ∈ G → H p = none ∨ ∃ j, p ∈ φ j
theorem Frs.nil {H : Hp} {φ : Fp} : Frs H φ [] := fun _ z => (nomatch z)
theorem Frs.back {H Hs H1 Hs1 : Hp} {φ φ1 : Fp} {G : List Addr} (a : Step H Hs φ H1 Hs1 φ1) (g : Frs H1 φ1 G) : Frs H φ G := fun p hp => by
  rcases g p hp with h | ⟨j, hj⟩
  · left
    cases q : H p with
    | none => rfl
    | some o => exact absurd h (a.h p (by rw [q]; simp))
  · rcases a.f j p hj with h | h
    · exact .inr h
    · exact .inl h
section
variable {K : PySem.W.Frag} {σ : L2.St} {H Hs H0 Hs0 : Hp} {ρ : Rho} {φ φ0 : Fp}
theorem CellOk.frame {H' Hs' : Hp} {v? : Option (Option V)} {c : Cell} {F : List Addr} (e : Ex Hs Hs') (k : ∀ p, p ∈ F → H' p = H p) (h : CellOk K Hs H v? c F) : CellOk K Hs' H' v? c F := by
  cases c with
  | no => trivial
  | vl d => obtain ⟨v, h1, h2⟩ := h; exact ⟨v, h1, h2.frame e d v F k⟩
  | io v d => exact ⟨h.1, h.2.frame e d v F k⟩
/-- the frozen part grows, no footprint is touched -/
theorem Rl.frame {H' Hs' : Hp} (R : Rl K σ H Hs ρ φ) (e : Ex Hs Hs') (x : Ex Hs' H') (k : ∀ i p, p ∈ φ i → H' p = H p) (n : ∀ i p, p ∈ φ i → Hs' p = none) : Rl K σ H' Hs' ρ φ :=
  ⟨R.len, x, fun i c h => (R.cell i c h).frame e (k i), n, fun i p h => by rw [k i p h]; exact R.nn i p h, R.nd, R.dis⟩
/-- the same, where tables may change -/
theorem CellOk.nt {v? : Option (Option V)} {c : Cell} {F : List Addr} (h : CellOk K Hs H v? c F) (hc : c ≠ .no) : ∀ p, p ∈ F → ∀ ps, H p ≠ some (.tbl ps) := by
  cases c with
  | no => exact absurd rfl hc
  | vl d => obtain ⟨v, _, h2⟩ := h; exact h2.nt d v F
  | io v d => exact h.2.nt d v F
theorem Rl.frameT {H' Hs' : Hp} (R : Rl K σ H Hs ρ φ) (e : Ex Hs Hs') (x : Ex Hs' H') (k : ∀ i p, p ∈ φ i → (∀ ps, H p ≠ some (.tbl ps)) → H' p = H p) (h : ∀ p, H p ≠ none → H' p ≠ none) (n : ∀ i p, p ∈ φ i → Hs' p = none) : Rl K σ H' Hs' ρ φ := by
  refine ⟨R.len, x, fun i c hc => ?_, n, fun i p hp => h p (R.nn i p hp), R.nd, R.dis⟩
  have c0 := R.cell i c hc
  by_cases e0 : c = .no
  · subst e0; trivial
  · exact c0.frame e fun p hp => k i p hp (c0.nt e0 p hp)
/-- what a step gave is frozen -/
theorem Rl.frz {d : D} {v : V} {G : List Addr} {k : D → Prop} (R : Rl K σ H Hs ρ φ) (S : Step H0 Hs0 φ0 H Hs φ) (r : Res K H Hs φ d v G) (g : Frs H0 φ0 G) (q : Fz d k) :
    ∃ d' Hs', k d' ∧ Rl K σ H Hs' ρ φ ∧ Step H0 Hs0 φ0 H Hs' φ ∧ Is K Hs' d' v := by
  obtain ⟨d', hk, hi⟩ := r.ow.frz R.ex q
  have nin : ∀ i p, p ∈ φ i → p ∉ G := fun i p hp hg => r.dj p hg i hp
  refine ⟨d', frzH Hs H G, hk, R.frame (frzH_ex R.ex) (frzH_ex2 R.ex) (fun _ _ _ => rfl) (fun i p hp => by rw [frzH_out (nin i p hp)]; exact R.hs i p hp), S.mk3 (frzH_ex R.ex) (fun P ps h1 h2 h3 => h3) S.k (fun p hp hs hn => ?_) S.f S.h, hi⟩
  have : p ∉ G := fun hg => by
    rcases g p hg with z | ⟨j, z⟩
    · exact hp z
    · exact hn j z
  rw [frzH_out this]
  exact S.n p hp hs hn
/-- a new object -/
theorem Rl.ne (R : Rl K σ H Hs ρ φ) {p : Addr} (hp : H p = none) {i : Nat} {q : Addr} (hq : q ∈ φ i) : q ≠ p := fun e => R.nn i q hq (by rw [e]; exact hp)
theorem Rl.hsn (R : Rl K σ H Hs ρ φ) {p : Addr} (hp : H p = none) : Hs p = none := by
  cases q : Hs p with
  | none => rfl
  | some o => rw [R.ex p o q] at hp; cases hp
theorem Rl.newF (R : Rl K σ H Hs ρ φ) {p : Addr} {o : HO} (hp : H p = none) : Rl K σ (upd H p o) (upd Hs p o) ρ φ ∧ Step H Hs φ (upd H p o) (upd Hs p o) φ := by
  have hs := R.hsn hp
  refine ⟨R.frame (Ex.new hs) (fun a u h => ?_) (fun i q hq => upd_ne (R.ne hp hq)) (fun i q hq => by rw [upd_ne (R.ne hp hq)]; exact R.hs i q hq), .mk' (Ex.new hs) (fun q u hq _ => ?_) (fun q h1 h2 _ => ?_) (fun i q hq => .inl ⟨i, hq⟩) (fun q hq => ?_)⟩
  · by_cases e : a = p
    · subst e
      rw [upd_same] at h
      rw [upd_same]
      exact h
    · rw [upd_ne e] at h
      rw [upd_ne e]
      exact R.ex a u h
  · exact Ex.new hp q u hq
  · rw [upd_ne (fun e => h1 (by rw [e]; exact hp))]
    exact h2
  · rw [upd_ne (fun e => hq (by rw [e]; exact hp))]
    exact hq
theorem Rl.newO (R : Rl K σ H Hs ρ φ) {p : Addr} {o : HO} (hp : H p = none) : Rl K σ (upd H p o) Hs ρ φ ∧ Step H Hs φ (upd H p o) Hs φ := by
  refine ⟨R.frame (Ex.refl Hs) (fun a u h => ?_) (fun i q hq => upd_ne (R.ne hp hq)) R.hs, .mk' (Ex.refl Hs) (fun q u hq _ => Ex.new hp q u hq) (fun q h1 h2 _ => h2) (fun i q hq => .inl ⟨i, hq⟩) (fun q hq => ?_)⟩
  · exact Ex.new hp a u (R.ex a u h)
  · rw [upd_ne (fun e => hq (by rw [e]; exact hp))]
    exact hq
theorem Rl.resL (R : Rl K σ H Hs ρ φ) {p : Addr} (hp : H p = none) {ds : List D} {vs : List V} (h : IsA K Hs ds vs) : Res K (upd H p (.lst vs)) Hs φ (.ml ds) (.ref p) [p] :=
  ⟨⟨p, vs, rfl, rfl, upd_same, h⟩, by simp, fun q hq => by rw [List.mem_singleton.mp hq]; exact R.hsn hp, fun q hq i hi => R.ne hp hi (List.mem_singleton.mp hq)⟩
theorem Frs.new {H : Hp} {φ : Fp} {p : Addr} (hp : H p = none) : Frs H φ [p] := fun q hq => .inl (by rw [List.mem_singleton.mp hq]; exact hp)
end


abbrev Xi := XD → Rho → Prop
/-- the entry of the def, and what is wanted of exceptions -/
structure Oc where
  H : Hp
  Hs : Hp
  fp : Fp
  xi : Xi
abbrev WE := Xi → Rho → (D → Rho → Prop) → Prop
abbrev WT := Xi → Rho → (Bool → Rho → Prop) → Prop
abbrev WL := Xi → Rho → (List D → Rho → Prop) → Prop
def Pur (m : Bool) (ρ ρ' : Rho) (φ φ' : Fp) (H H' : Hp) : Prop := m = true → ρ' = ρ ∧ φ' = φ ∧ ∀ i p, p ∈ φ i → H' p = H p
theorem Pur.refl {m : Bool} {ρ : Rho} {φ : Fp} {H : Hp} : Pur m ρ ρ φ φ H H := fun _ => ⟨rfl, rfl, fun _ _ _ => rfl⟩
theorem Pur.of {m : Bool} {ρ : Rho} {φ : Fp} {H H' : Hp} (h : ∀ i p, p ∈ φ i → H' p = H p) : Pur m ρ ρ φ φ H H' := fun _ => ⟨rfl, rfl, h⟩
theorem Pur.trans {m m' : Bool} {ρ ρ1 ρ2 : Rho} {φ φ1 φ2 : Fp} {H H1 H2 : Hp} (a : Pur m ρ ρ1 φ φ1 H H1) (b : Pur m' ρ1 ρ2 φ1 φ2 H1 H2) : Pur (m && m') ρ ρ2 φ φ2 H H2 := fun e => by
  have e' := Bool.and_eq_true_iff.mp e
  obtain ⟨rfl, rfl, h1⟩ := a e'.1
  obtain ⟨rfl, rfl, h2⟩ := b e'.2
  exact ⟨rfl, rfl, fun i p hp => (h2 i p hp).trans (h1 i p hp)⟩
theorem Pur.thn {m : Bool} {ρ ρ1 : Rho} {φ φ1 : Fp} {H H1 H2 : Hp} (a : Pur m ρ ρ1 φ φ1 H H1) (b : ∀ i p, p ∈ φ1 i → H2 p = H1 p) : Pur m ρ ρ1 φ φ1 H H2 := fun e => by
  obtain ⟨rfl, rfl, h1⟩ := a e
  exact ⟨rfl, rfl, fun i p hp => (b i p hp).trans (h1 i p hp)⟩
theorem Pur.weak {m m' : Bool} {ρ ρ1 : Rho} {φ φ1 : Fp} {H H1 : Hp} (a : Pur m ρ ρ1 φ φ1 H H1) (e : m' = true → m = true) : Pur m' ρ ρ1 φ φ1 H H1 := fun h => a (e h)

section
variable (K : PySem.W.Frag) (O : Oc) (m : Bool)
def tauE (w : WE) : TE := fun σ H Q => ∃ ρ Hs φ P, Rl K σ H Hs ρ φ ∧ Step O.H O.Hs O.fp H Hs φ ∧ w O.xi ρ P ∧
  ∀ d ρ' v H' Hs' φ' G, P d ρ' → Rl K σ H' Hs' ρ' φ' → Step H Hs φ H' Hs' φ' → Res K H' Hs' φ' d v G → Frs H φ G → Pur m ρ ρ' φ φ' H H' → Q v H'
def tauT (w : WT) : TT := fun σ H Q => ∃ ρ Hs φ P, Rl K σ H Hs ρ φ ∧ Step O.H O.Hs O.fp H Hs φ ∧ w O.xi ρ P ∧
  ∀ b ρ' H' Hs' φ', P b ρ' → Rl K σ H' Hs' ρ' φ' → Step H Hs φ H' Hs' φ' → Pur m ρ ρ' φ φ' H H' → Q b H'
def tauL (w : WL) : TA := fun σ H Q => ∃ ρ Hs φ P, Rl K σ H Hs ρ φ ∧ Step O.H O.Hs O.fp H Hs φ ∧ w O.xi ρ P ∧
  ∀ ds ρ' vs H' Hs' φ', P ds ρ' → Rl K σ H' Hs' ρ' φ' → Step H Hs φ H' Hs' φ' → IsA K Hs' ds vs → Pur m ρ ρ' φ φ' H H' → Q vs H'
end
section
variable {K : PySem.W.Frag} {O : Oc} {m : Bool} {σ : L2.St} {H Hs : Hp} {ρ : Rho} {φ : Fp}
theorem tE {w : WE} {Q : VK} {P : D → Rho → Prop} (R : Rl K σ H Hs ρ φ) (S : Step O.H O.Hs O.fp H Hs φ) (hw : w O.xi ρ P)
    (hq : ∀ d ρ' v H' Hs' φ' G, P d ρ' → Rl K σ H' Hs' ρ' φ' → Step H Hs φ H' Hs' φ' → Step O.H O.Hs O.fp H' Hs' φ' → Res K H' Hs' φ' d v G → Frs H φ G → Pur m ρ ρ' φ φ' H H' → Q v H') : tauE K O m w σ H Q :=
  ⟨ρ, Hs, φ, P, R, S, hw, fun d ρ' v H' Hs' φ' G p R' S' r f u => hq d ρ' v H' Hs' φ' G p R' S' (S.trans S') r f u⟩
/-- taken as a plain value -/
theorem tF {w : WE} {Q : VK} {P : D → Rho → Prop} (R : Rl K σ H Hs ρ φ) (S : Step O.H O.Hs O.fp H Hs φ) (hw : w O.xi ρ (fun d ρ' => Fz d fun d' => P d' ρ'))
    (hq : ∀ d ρ' v H' Hs' φ', P d ρ' → Rl K σ H' Hs' ρ' φ' → Step H Hs φ H' Hs' φ' → Step O.H O.Hs O.fp H' Hs' φ' → Is K Hs' d v → Pur m ρ ρ' φ φ' H H' → Q v H') : tauE K O m w σ H Q :=
  tE R S hw fun d ρ' v H' Hs' φ' G p R' S' SO r f u => by
    obtain ⟨d', Hs2, p', R2, S2, i2⟩ := R'.frz S' r f p
    exact hq d' ρ' v H' Hs2 φ' p' R2 S2 (S.trans S2) i2 u
theorem tT {w : WT} {Q : Bool → Hp → Prop} {P : Bool → Rho → Prop} (R : Rl K σ H Hs ρ φ) (S : Step O.H O.Hs O.fp H Hs φ) (hw : w O.xi ρ P)
    (hq : ∀ d ρ' H' Hs' φ', P d ρ' → Rl K σ H' Hs' ρ' φ' → Step H Hs φ H' Hs' φ' → Step O.H O.Hs O.fp H' Hs' φ' → Pur m ρ ρ' φ φ' H H' → Q d H') : tauT K O m w σ H Q :=
  ⟨ρ, Hs, φ, P, R, S, hw, fun d ρ' H' Hs' φ' p R' S' u => hq d ρ' H' Hs' φ' p R' S' (S.trans S') u⟩
theorem tL {w : WL} {Q : List V → Hp → Prop} {P : List D → Rho → Prop} (R : Rl K σ H Hs ρ φ) (S : Step O.H O.Hs O.fp H Hs φ) (hw : w O.xi ρ P)
    (hq : ∀ d ρ' vs H' Hs' φ', P d ρ' → Rl K σ H' Hs' ρ' φ' → Step H Hs φ H' Hs' φ' → Step O.H O.Hs O.fp H' Hs' φ' → IsA K Hs' d vs → Pur m ρ ρ' φ φ' H H' → Q vs H') : tauL K O m w σ H Q :=
  ⟨ρ, Hs, φ, P, R, S, hw, fun d ρ' vs H' Hs' φ' p R' S' r u => hq d ρ' vs H' Hs' φ' p R' S' (S.trans S') r u⟩
end
theorem PE_imp {X : Cx} {e : Expr} {t t' : TE} (h : PE X e t) (k : ∀ σ H Q, t' σ H Q → t σ H Q) : PE X e t' := ⟨fun pins s σ H Q I q => h.run pins s σ H Q I (k σ H Q q)⟩
theorem PT_imp {X : Cx} {e : Expr} {t t' : TT} (h : PT X e t) (k : ∀ σ H Q, t' σ H Q → t σ H Q) : PT X e t' := ⟨fun pins s σ H Q I q => h.run pins s σ H Q I (k σ H Q q)⟩
theorem PA_imp {X : Cx} {e : List Expr} {t t' : TA} (h : PA X e t) (k : ∀ σ H Q, t' σ H Q → t σ H Q) : PA X e t' := ⟨fun pos pins s σ H Q I q => h.run pos pins s σ H Q I (k σ H Q q)⟩

/-! ### constants, names -/
@[simp] def wC (d : D) : WE := fun _ ρ P => P d ρ
@[simp] def Fro (d : D) (k : D → Prop) : Prop := match d with
  | .ml _ => False
  | .md _ _ => False
  | .mi _ _ _ => False
  | .ms _ _ => False
  | d => k d
@[simp] def wVp (i : Nat) : WE := fun _ ρ P => match ρ[i]? with
  | some (.vl d) => Fro d fun d => P d ρ
  | _ => False
@[simp] def wV (i : Nat) : WE := fun _ ρ P => match ρ[i]? with
  | some (.vl d) => Fz d fun d => P d (ρ.set i (.vl d))
  | _ => False
section
variable {K : PySem.W.Frag} {σ : L2.St} {H Hs : Hp} {ρ : Rho} {φ : Fp}
theorem Ow.fro {k : D → Prop} : ∀ {d : D} {v : V} {F : List Addr}, Ow K Hs H d v F → Fro d k → k d ∧ F = [] ∧ Is K Hs d v
  | .non, _, _, h, q => ⟨q, h⟩
  | .bl _, _, _, h, q => ⟨q, h⟩
  | .int _, _, _, h, q => ⟨q, h⟩
  | .str _, _, _, h, q => ⟨q, h⟩
  | .byt _, _, _, h, q => ⟨q, h⟩
  | .raw _, _, _, h, q => ⟨q, h⟩
  | .lst _, _, _, h, q => ⟨q, h⟩
  | .rl _, _, _, h, q => ⟨q, h⟩
  | .tup _, _, _, h, q => ⟨q, h⟩
  | .dic _ _, _, _, h, q => ⟨q, h⟩
  | .ml _, _, _, _, q => q.elim
  | .md _ _, _, _, _, q => q.elim
  | .mi _ _ _, _, _, _, q => q.elim
  | .ms _ _, _, _, _, q => q.elim
def putF (φ : Fp) (i : Nat) (F : List Addr) : Fp := fun j => if j = i then F else φ j
theorem putF_same {φ : Fp} {i : Nat} {F : List Addr} : putF φ i F i = F := if_pos rfl
theorem putF_ne {φ : Fp} {i j : Nat} {F : List Addr} (h : j ≠ i) : putF φ i F j = φ j := if_neg h
/-- a slot's cell is replaced: its new footprint is of the old one, or free of all -/
theorem Rl.put (R : Rl K σ H Hs ρ φ) {i : Nat} {c : Cell} {F : List Addr} {v? : Option V} (hi : i < ρ.length) (hc : CellOk K Hs H (some v?) c F) (hn : ∀ p, p ∈ F → Hs p = none ∧ H p ≠ none ∧ ∀ j, j ≠ i → p ∉ φ j) (nd : F.Nodup) :
    Rl K (σ.set i v?) H Hs (ρ.set i c) (putF φ i F) := by
  refine ⟨by simp [R.len], R.ex, fun j c' hj => ?_, fun j p hp => ?_, fun j p hp => ?_, fun j => ?_, fun j k p hj hk => ?_⟩
  · by_cases e : j = i
    · subst e
      rw [List.getElem?_set_self hi] at hj
      have e2 : c = c' := Option.some.inj hj
      subst e2
      rw [putF_same, List.getElem?_set_self (by rw [← R.len]; exact hi)]
      exact hc
    · rw [List.getElem?_set_ne (fun q => e q.symm)] at hj
      rw [putF_ne e, List.getElem?_set_ne (fun q => e q.symm)]
      exact R.cell j c' hj
  · by_cases e : j = i
    · subst e; rw [putF_same] at hp; exact (hn p hp).1
    · rw [putF_ne e] at hp; exact R.hs j p hp
  · by_cases e : j = i
    · subst e; rw [putF_same] at hp; exact (hn p hp).2.1
    · rw [putF_ne e] at hp; exact R.nn j p hp
  · by_cases e : j = i
    · subst e; rw [putF_same]; exact nd
    · rw [putF_ne e]; exact R.nd j
  · by_cases e : j = i
    · by_cases e' : k = i
      · rw [e, e']
      · subst e
        rw [putF_same] at hj
        rw [putF_ne e'] at hk
        exact absurd hk ((hn p hj).2.2 k e')
    · by_cases e' : k = i
      · subst e'
        rw [putF_same] at hk
        rw [putF_ne e] at hj
        exact absurd hj ((hn p hk).2.2 j e)
      · rw [putF_ne e] at hj
        rw [putF_ne e'] at hk
        exact R.dis j k p hj hk
theorem set_self {α : Type} {l : List α} {i : Nat} {x : α} (h : l[i]? = some x) : l.set i x = l := by
  obtain ⟨hi, e⟩ := List.getElem?_eq_some_iff.mp h
  rw [← e]
  exact List.set_getElem_self hi
theorem Rl.frzSlot (R : Rl K σ H Hs ρ φ) {i : Nat} {d : D} {k : D → Prop} (h : ρ[i]? = some (.vl d)) (q : Fz d k) :
    ∃ d' v Hs' φ', σ[i]? = some (some v) ∧ k d' ∧ Is K Hs' d' v ∧ Rl K σ H Hs' (ρ.set i (.vl d')) φ' ∧ Step H Hs φ H Hs' φ' := by
  obtain ⟨v, hv, ow⟩ := R.cell i _ h
  obtain ⟨d', hk, hi⟩ := ow.frz R.ex q
  have hil : i < ρ.length := (List.getElem?_eq_some_iff.mp h).1
  have nin : ∀ j p, j ≠ i → p ∈ φ j → p ∉ φ i := fun j p hj hp hg => hj (R.dis j i p hp hg)
  have R1 : Rl K σ H Hs (ρ.set i .no) (putF φ i []) := by
    have := R.put (i := i) (c := .no) (F := []) (v? := some v) hil trivial (fun _ z => nomatch z) .nil
    rwa [set_self hv] at this
  have R2 : Rl K σ H (frzH Hs H (φ i)) (ρ.set i .no) (putF φ i []) := R1.frame (frzH_ex R.ex) (frzH_ex2 R.ex) (fun _ _ _ => rfl) fun j p hp => by
    by_cases e : j = i
    · subst e; rw [putF_same] at hp; cases hp
    · rw [putF_ne e] at hp
      rw [frzH_out (nin j p e hp)]
      exact R.hs j p hp
  have R3 := R2.put (i := i) (c := .vl d') (F := []) (v? := some v) (by simpa using hil) ⟨v, rfl, Ow.of hi⟩ (fun _ z => nomatch z) .nil
  rw [set_self hv, List.set_set] at R3
  refine ⟨d', v, _, _, hv, hk, hi, R3, Step.mk' (frzH_ex R.ex) (fun p o hp _ => hp) (fun p _ hs hn => by rw [frzH_out (hn i)]; exact hs) (fun j p hp => ?_) (fun _ h => h)⟩
  by_cases e : j = i
  · subst e; rw [putF_same] at hp; cases hp
  · rw [putF_ne e, putF_ne e] at hp
    exact .inl ⟨j, hp⟩
end
section
variable {X : Cx} {O : Oc} {e : Expr} {pos : Pos}
theorem pd_c {d : D} {v : V} (h : PE X e (tC v)) (hi : ∀ Hs, Is X.K Hs d v) : PE X e (tauE X.K O true (wC d)) := PE_imp h fun σ H Q q => by
  obtain ⟨ρ, Hs, φ, P, R, S, hw, hq⟩ := q
  exact hq d ρ v H Hs φ [] hw R (Step.refl _ _ _) (Res.of (hi Hs)) Frs.nil Pur.refl
theorem pd_int {i : Int} {j : Nat} : PE X (.Constant (.int i) j pos) (tauE X.K O true (wC (.int i))) := pd_c pe_int fun _ => rfl
theorem pd_bl {i : Bool} {j : Nat} : PE X (.Constant (.bool i) j pos) (tauE X.K O true (wC (.bl i))) := pd_c pe_bl fun _ => rfl
theorem pd_non {j : Nat} : PE X (.Constant .none j pos) (tauE X.K O true (wC .non)) := pd_c pe_non fun _ => rfl
theorem pd_str {i : Str} {j : Nat} : PE X (.Constant (.str i) j pos) (tauE X.K O true (wC (.str i))) := pd_c pe_str fun _ => rfl
theorem pd_vp {i : Nat} (h : PE X e (tVar i)) : PE X e (tauE X.K O true (wVp i)) := PE_imp h fun σ H Q q => by
  obtain ⟨ρ, Hs, φ, P, R, S, hw, hq⟩ := q
  unfold wVp at hw
  split at hw
  · rename_i d he
    obtain ⟨v, hv, ow⟩ := R.cell i _ he
    obtain ⟨hk, hF, hi⟩ := ow.fro hw
    exact ⟨v, hv, hq d ρ v H Hs φ [] hk R (Step.refl _ _ _) (Res.of hi) Frs.nil Pur.refl⟩
  · exact hw.elim
theorem pd_v {i : Nat} (h : PE X e (tVar i)) : PE X e (tauE X.K O false (wV i)) := PE_imp h fun σ H Q q => by
  obtain ⟨ρ, Hs, φ, P, R, S, hw, hq⟩ := q
  unfold wV at hw
  split at hw
  · rename_i d he
    obtain ⟨d', v, Hs', φ', hv, hk, hi, R', S'⟩ := R.frzSlot he hw
    exact ⟨v, hv, hq d' _ v H Hs' φ' [] hk R' S' (Res.of hi) Frs.nil fun z => nomatch z⟩
  · exact hw.elim
end

/-! ### displays -/
@[simp] def wNil : WL := fun _ ρ P => P [] ρ
@[simp] def wCons (wa : WE) (wl : WL) : WL := fun xi ρ P => wa xi ρ fun d ρ1 => Fz d fun d => wl xi ρ1 fun ds ρ2 => P (d :: ds) ρ2
@[simp] def wTup (wl : WL) : WE := fun xi ρ P => wl xi ρ fun ds ρ1 => ds.length ≤ 100000 ∧ P (.tup ds) ρ1
@[simp] def wLst (wl : WL) : WE := fun xi ρ P => wl xi ρ fun ds ρ1 => ds.length ≤ 100000 ∧ P (.ml ds) ρ1
theorem sz {n : Nat} (h : n ≤ 100000) : n ≤ sizeLine := Nat.le_trans h (by decide)
section
variable {X : Cx} {O : Oc} {m m' : Bool} {e : Expr} {es : List Expr} {pos : Pos} {wa wb : WE} {wl : WL}
theorem pl_nil : PA X [] (tauL X.K O true wNil) := PA_imp pa_nil fun σ H Q q => by
  obtain ⟨ρ, Hs, φ, P, R, S, hw, hq⟩ := q
  exact hq [] ρ [] H Hs φ hw R (Step.refl _ _ _) rfl Pur.refl
theorem pl_cons (ha : PE X e (tauE X.K O m wa)) (hr : PA X es (tauL X.K O m' wl)) (hs : starEach (e :: es) X.env = (false, eval e X.env) :: starEach es X.env := by rfl) :
    PA X (e :: es) (tauL X.K O (m && m') (wCons wa wl)) := PA_imp (pa_cons ha hr hs) fun σ H Q q => by
  obtain ⟨ρ, Hs, φ, P, R, S, hw, hq⟩ := q
  refine tF R S hw fun x ρ1 v1 H1 Hs1 φ1 p1 R1 S1 SO1 i1 u1 => ?_
  refine tL R1 SO1 p1 fun ys ρ2 vs H2 Hs2 φ2 p2 R2 S2 SO2 i2 u2 => ?_
  exact hq _ ρ2 _ H2 Hs2 φ2 p2 R2 (S1.trans S2) (.cons (i1.mono S2.e x v1) i2) (u1.trans u2)
theorem pd_tup {k : Nat} (h : PA X es (tauL X.K O m wl)) : PE X (.Tuple es k pos) (tauE X.K O m (wTup wl)) := PE_imp (pe_tup h) fun σ H Q q => by
  obtain ⟨ρ, Hs, φ, P, R, S, hw, hq⟩ := q
  refine tL R S hw fun ds ρ1 vs H1 Hs1 φ1 p1 R1 S1 SO1 i1 u1 => ⟨by rw [i1.len]; exact sz p1.1, fun p hp => ?_⟩
  obtain ⟨R2, S2⟩ := R1.newF (o := .tup vs) hp
  have e1 : Ex Hs1 (upd Hs1 p (.tup vs)) := S2.e
  refine hq _ ρ1 _ _ _ φ1 [] p1.2 R2 (S1.trans S2) (Res.of ⟨p, vs, rfl, SqT.of upd_same, i1.mono e1 ds vs⟩) Frs.nil (u1.thn fun i q hq => upd_ne (R1.ne hp hq))
theorem pd_lst (h : PA X es (tauL X.K O m wl)) : PE X (.List es pos) (tauE X.K O m (wLst wl)) := PE_imp (pe_lst h) fun σ H Q q => by
  obtain ⟨ρ, Hs, φ, P, R, S, hw, hq⟩ := q
  refine tL R S hw fun ds ρ1 vs H1 Hs1 φ1 p1 R1 S1 SO1 i1 u1 => ⟨by rw [i1.len]; exact sz p1.1, fun p hp => ?_⟩
  obtain ⟨R2, S2⟩ := R1.newO (o := .lst vs) hp
  refine hq _ ρ1 _ _ _ φ1 [p] p1.2 R2 (S1.trans S2) (R1.resL hp i1) (Frs.back S1 (Frs.new hp)) (u1.thn fun i q hq => upd_ne (R1.ne hp hq))
end

/-! ### operators -/
/-- the end of an operation at a state -/
def Fin (K : PySem.W.Frag) (σ : L2.St) (H Hs : Hp) (ρ : Rho) (φ : Fp) (k : D → Prop) (Q : VK) : Prop :=
  ∀ d v H' Hs' G, k d → Rl K σ H' Hs' ρ φ → Step H Hs φ H' Hs' φ → Res K H' Hs' φ d v G → (∀ p, p ∈ G → H p = none) → (∀ i p, p ∈ φ i → H' p = H p) → Q v H'
section
variable {K : PySem.W.Frag} {σ : L2.St} {H Hs : Hp} {ρ : Rho} {φ : Fp} {k : D → Prop} {Q : VK}
theorem Fin.pure (F : Fin K σ H Hs ρ φ k Q) (R : Rl K σ H Hs ρ φ) {d : D} {v : V} (hk : k d) (i : Is K Hs d v) : Q v H :=
  F d v H Hs [] hk R (Step.refl _ _ _) (Res.of i) (fun _ z => nomatch z) fun _ _ _ => rfl
theorem Fin.lst (F : Fin K σ H Hs ρ φ k Q) (R : Rl K σ H Hs ρ φ) {ds : List D} {vs : List V} (hk : k (.ml ds)) (i : IsA K Hs ds vs) : ∀ p, H p = none → Q (.ref p) (upd H p (.lst vs)) := fun p hp => by
  obtain ⟨R2, S2⟩ := R.newO (o := .lst vs) hp
  exact F _ _ _ _ [p] hk R2 S2 (R.resL hp i) (fun q hq => by rw [List.mem_singleton.mp hq]; exact hp) fun i q hq => upd_ne (R.ne hp hq)
theorem Fin.tup (F : Fin K σ H Hs ρ φ k Q) (R : Rl K σ H Hs ρ φ) {ds : List D} {vs : List V} (hk : k (.tup ds)) (i : IsA K Hs ds vs) : ∀ p, H p = none → Q (.ref p) (upd H p (.tup vs)) := fun p hp => by
  obtain ⟨R2, S2⟩ := R.newF (o := .tup vs) hp
  have e1 : Ex Hs (upd Hs p (.tup vs)) := S2.e
  exact F _ _ _ _ [] hk R2 S2 (Res.of ⟨p, vs, rfl, SqT.of upd_same, i.mono e1 ds vs⟩) (fun _ z => nomatch z) fun i q hq => upd_ne (R.ne hp hq)
end
def OpD (X : Cx) (f : Value → Value → Sem Value) (g : D → D → (D → Prop) → Prop) : Prop :=
  ∃ r : R2, OpR X f r ∧ ∀ (σ : L2.St) (H Hs : Hp) (ρ : Rho) (φ : Fp) (x y : D) (vx vy : V) (F G : List Addr) (k : D → Prop) (Q : VK), Rl X.K σ H Hs ρ φ → Ow X.K Hs H x vx F → Ow X.K Hs H y vy G → g x y k → Fin X.K σ H Hs ρ φ k Q → r vx vy H Q
@[simp] def wOp (g : D → D → (D → Prop) → Prop) (wa wb : WE) : WE := fun xi ρ P => wa xi ρ fun x ρ1 => wb xi ρ1 fun y ρ2 => g x y fun z => P z ρ2
theorem Res.keep {K : PySem.W.Frag} {H Hs H' Hs' : Hp} {φ φ' : Fp} {d : D} {v : V} {G : List Addr} (r : Res K H Hs φ d v G) (S : Step H Hs φ H' Hs' φ') : Ow K Hs' H' d v G :=
  r.ow.frame S.e d v G fun p hp => by
    cases q : H p with
    | none => exact absurd q (r.ow.nn d v G p hp)
    | some o => exact S.k p o q (r.dj p hp) fun ps z => r.ow.nt d v G p hp ps (by rw [q, z])
theorem Frs.of {H Hs H1 Hs1 : Hp} {φ φ1 : Fp} {G : List Addr} (a : Step H Hs φ H1 Hs1 φ1) (g : ∀ p, p ∈ G → H1 p = none) : Frs H φ G := Frs.back a fun p hp => .inl (g p hp)
section
variable {X : Cx} {O : Oc} {m m' : Bool} {a b : Expr} {pos : Pos} {wa wb : WE} {g : D → D → (D → Prop) → Prop}
theorem opTau {f : Value → Value → Sem Value} {r : R2}
    (hr : ∀ (σ : L2.St) (H Hs : Hp) (ρ : Rho) (φ : Fp) (x y : D) (vx vy : V) (F G : List Addr) (k : D → Prop) (Q : VK), Rl X.K σ H Hs ρ φ → Ow X.K Hs H x vx F → Ow X.K Hs H y vy G → g x y k → Fin X.K σ H Hs ρ φ k Q → r vx vy H Q)
    (σ : L2.St) (H : Hp) (Q : VK) (q : tauE X.K O (m && m') (wOp g wa wb) σ H Q) : tOp r (tauE X.K O m wa) (tauE X.K O m' wb) σ H Q := by
  obtain ⟨ρ, Hs, φ, P, R, S, hw, hq⟩ := q
  refine tE R S hw fun x ρ1 v1 H1 Hs1 φ1 G1 p1 R1 S1 SO1 r1 f1 u1 => ?_
  refine tE R1 SO1 p1 fun y ρ2 v2 H2 Hs2 φ2 G2 p2 R2 S2 SO2 r2 f2 u2 => ?_
  refine hr σ H2 Hs2 ρ2 φ2 x y v1 v2 G1 G2 _ Q R2 (r1.keep S2) r2.ow p2 fun d v H' Hs' G' kd R' S' rs fr pu => ?_
  exact hq d ρ2 v H' Hs' φ2 G' kd R' ((S1.trans S2).trans S') rs (Frs.of (S1.trans S2) fr) ((u1.trans u2).thn pu)
theorem pd_op {op : Operator} (ho : OpD X (binaryOp op) g) (ha : PE X a (tauE X.K O m wa)) (hb : PE X b (tauE X.K O m' wb)) : PE X (.BinOp a op b pos) (tauE X.K O (m && m') (wOp g wa wb)) := by
  obtain ⟨r, h1, h2⟩ := ho
  exact PE_imp (pe_op h1 ha hb) (opTau (f := binaryOp op) h2)
theorem pd_cmp {op : CmpOp} (ho : OpD X (compareOp op) g) (ha : PE X a (tauE X.K O m wa)) (hb : PE X b (tauE X.K O m' wb)) (hm : behindInMarks op b = false) : PE X (.Compare a [op] [b] pos) (tauE X.K O (m && m') (wOp g wa wb)) := by
  obtain ⟨r, h1, h2⟩ := ho
  exact PE_imp (pe_cmpR h1 ha hb hm) (opTau (f := compareOp op) h2)
@[simp] def wB (w : WE) : WT := fun xi ρ P => w xi ρ fun d ρ1 => match d with
  | .bl b => P b ρ1
  | _ => False
theorem tB_of {w : WE} {σ : L2.St} {H : Hp} {Q : Bool → Hp → Prop} (q : tauT X.K O m (wB w) σ H Q) : tauE X.K O m w σ H fun x H' => ∃ k, x = .bl k ∧ Q k H' := by
  obtain ⟨ρ, Hs, φ, P, R, S, hw, hq⟩ := q
  refine tE R S hw fun x ρ1 v1 H1 Hs1 φ1 G1 p1 R1 S1 SO1 r1 f1 u1 => ?_
  split at p1
  · rename_i b0
    exact ⟨b0, r1.ow.2, hq b0 ρ1 H1 Hs1 φ1 p1 R1 S1 u1⟩
  · exact p1.elim
theorem pt_cmpD {op : CmpOp} (ho : OpD X (compareOp op) g) (ha : PE X a (tauE X.K O m wa)) (hb : PE X b (tauE X.K O m' wb)) (hm : behindInMarks op b = false) : PT X (.Compare a [op] [b] pos) (tauT X.K O (m && m') (wB (wOp g wa wb))) := by
  obtain ⟨r, h1, h2⟩ := ho
  exact PT_imp (pt_cmpR h1 ha hb hm) fun σ H Q q => opTau (f := compareOp op) h2 σ H _ (tB_of q)
/-- an expression whose value is True or False, as a test -/
theorem pt_b (h : PE X a (tauE X.K O m wa)) (he : ∀ whole, isTrue a X.env whole = (do let v ← whole; standAt a.pos; holding [v] (truthy v)) := by intro _; rfl) : PT X a (tauT X.K O m (wB wa)) :=
  PT_imp (pt_val h he) fun σ H Q q => tB_of q
end
section
variable {X : Cx} {O : Oc} {m m' : Bool} {a b c : Expr} {rest : List Expr} {pos : Pos} {wt wt' : WT} {wa wb : WE}
@[simp] def wAnd (t u : WT) : WT := fun xi ρ P => t xi ρ fun b ρ1 => if b = true then u xi ρ1 P else P false ρ1
@[simp] def wOr (t u : WT) : WT := fun xi ρ P => t xi ρ fun b ρ1 => if b = true then P true ρ1 else u xi ρ1 P
@[simp] def wNot (t : WT) : WT := fun xi ρ P => t xi ρ fun b ρ1 => P (!b) ρ1
theorem PW_imp {e : Expr} {t t' : TT} (h : PW X e t) (k : ∀ σ H Q, t' σ H Q → t σ H Q) : PW X e t' := ⟨fun wh pins s σ H Q I q => h.run wh pins s σ H Q I (k σ H Q q)⟩
theorem pw_andD (ha : PT X a (tauT X.K O m wt)) (hb : PW X (.BoolOp .And (b :: rest) pos) (tauT X.K O m' wt')) : PW X (.BoolOp .And (a :: b :: rest) pos) (tauT X.K O (m && m') (wAnd wt wt')) :=
  PW_imp (pw_and ha hb) fun σ H Q q => by
    obtain ⟨ρ, Hs, φ, P, R, S, hw, hq⟩ := q
    refine tT R S hw fun x ρ1 H1 Hs1 φ1 p1 R1 S1 SO1 u1 => ?_
    cases x with
    | true =>
      refine iteT ?_
      refine tT R1 SO1 (iteT_iff p1) fun y ρ2 H2 Hs2 φ2 p2 R2 S2 SO2 u2 => ?_
      exact hq y ρ2 H2 Hs2 φ2 p2 R2 (S1.trans S2) (u1.trans u2)
    | false => exact iteF (hq false ρ1 H1 Hs1 φ1 (iteF_iff p1) R1 S1 (u1.weak fun z => (Bool.and_eq_true_iff.mp z).1))
where
  iteT_iff {A B : Prop} (h : if true = true then A else B) : A := by simpa using h
  iteF_iff {A B : Prop} (h : if false = true then A else B) : B := by simpa using h
theorem pw_orD (ha : PT X a (tauT X.K O m wt)) (hb : PW X (.BoolOp .Or (b :: rest) pos) (tauT X.K O m' wt')) : PW X (.BoolOp .Or (a :: b :: rest) pos) (tauT X.K O (m && m') (wOr wt wt')) :=
  PW_imp (pw_or ha hb) fun σ H Q q => by
    obtain ⟨ρ, Hs, φ, P, R, S, hw, hq⟩ := q
    refine tT R S hw fun x ρ1 H1 Hs1 φ1 p1 R1 S1 SO1 u1 => ?_
    cases x with
    | false =>
      refine iteF ?_
      refine tT R1 SO1 (by simpa using p1) fun y ρ2 H2 Hs2 φ2 p2 R2 S2 SO2 u2 => ?_
      exact hq y ρ2 H2 Hs2 φ2 p2 R2 (S1.trans S2) (u1.trans u2)
    | true => exact iteT (hq true ρ1 H1 Hs1 φ1 (by simpa using p1) R1 S1 (u1.weak fun z => (Bool.and_eq_true_iff.mp z).1))
theorem pt_notD (ha : PT X a (tauT X.K O m wt)) : PT X (.UnaryOp .Not a pos) (tauT X.K O m (wNot wt)) := PT_imp (pt_not ha) fun σ H Q q => by
  obtain ⟨ρ, Hs, φ, P, R, S, hw, hq⟩ := q
  exact tT R S hw fun x ρ1 H1 Hs1 φ1 p1 R1 S1 SO1 u1 => hq (!x) ρ1 H1 Hs1 φ1 p1 R1 S1 u1
/-- a if t else b -/
@[simp] def wIf (t : WT) (wa wb : WE) : WE := fun xi ρ P => t xi ρ fun b ρ1 => if b = true then wa xi ρ1 P else wb xi ρ1 P
theorem pd_if {m2 : Bool} (hc : PT X c (tauT X.K O m wt)) (ha : PE X a (tauE X.K O m' wa)) (hb : PE X b (tauE X.K O m2 wb)) : PE X (.IfExp c a b pos) (tauE X.K O (m && (m' && m2)) (wIf wt wa wb)) :=
  PE_imp (pe_ifExp hc ha hb) fun σ H Q q => by
    obtain ⟨ρ, Hs, φ, P, R, S, hw, hq⟩ := q
    refine tT R S hw fun x ρ1 H1 Hs1 φ1 p1 R1 S1 SO1 u1 => ?_
    cases x with
    | true =>
      refine iteT ?_
      refine tE R1 SO1 (by simpa using p1) fun y ρ2 v2 H2 Hs2 φ2 G2 p2 R2 S2 SO2 r2 f2 u2 => ?_
      exact hq y ρ2 v2 H2 Hs2 φ2 G2 p2 R2 (S1.trans S2) r2 (Frs.back S1 f2) ((u1.trans u2).weak fun z => by revert z; cases m <;> cases m' <;> simp)
    | false =>
      refine iteF ?_
      refine tE R1 SO1 (by simpa using p1) fun y ρ2 v2 H2 Hs2 φ2 G2 p2 R2 S2 SO2 r2 f2 u2 => ?_
      exact hq y ρ2 v2 H2 Hs2 φ2 G2 p2 R2 (S1.trans S2) r2 (Frs.back S1 f2) ((u1.trans u2).weak fun z => by revert z; cases m <;> cases m2 <;> simp)
/-- and, or, not as values, of Trues and Falses -/
@[simp] def wAndV (wa wb : WE) : WE := fun xi ρ P => wa xi ρ fun d ρ1 => match d with
  | .bl b => if b = true then wb xi ρ1 P else P (.bl false) ρ1
  | _ => False
@[simp] def wOrV (wa wb : WE) : WE := fun xi ρ P => wa xi ρ fun d ρ1 => match d with
  | .bl b => if b = true then P (.bl true) ρ1 else wb xi ρ1 P
  | _ => False
@[simp] def wNotV (wa : WE) : WE := fun xi ρ P => wa xi ρ fun d ρ1 => match d with
  | .bl b => P (.bl (!b)) ρ1
  | _ => False
theorem pd_and (ha : PE X a (tauE X.K O m wa)) (hb : PE X (.BoolOp .And (b :: rest) pos) (tauE X.K O m' wb)) : PE X (.BoolOp .And (a :: b :: rest) pos) (tauE X.K O (m && m') (wAndV wa wb)) :=
  PE_imp (pe_and ha hb) fun σ H Q q => by
    obtain ⟨ρ, Hs, φ, P, R, S, hw, hq⟩ := q
    refine tE R S hw fun x ρ1 v1 H1 Hs1 φ1 G1 p1 R1 S1 SO1 r1 f1 u1 => ?_
    split at p1
    · rename_i b0
      refine ⟨b0, r1.ow.2, ?_⟩
      cases b0 with
      | true =>
        refine iteT ?_
        refine tE R1 SO1 (by simpa using p1) fun y ρ2 v2 H2 Hs2 φ2 G2 p2 R2 S2 SO2 r2 f2 u2 => ?_
        exact hq y ρ2 v2 H2 Hs2 φ2 G2 p2 R2 (S1.trans S2) r2 (Frs.back S1 f2) (u1.trans u2)
      | false => exact iteF (hq (.bl false) ρ1 _ H1 Hs1 φ1 [] (by simpa using p1) R1 S1 (Res.of (d := .bl false) rfl) Frs.nil (u1.weak fun z => (Bool.and_eq_true_iff.mp z).1))
    · exact p1.elim
end

/-! ### == of data -/
@[simp] def lstOf : D → Option (List D)
  | .lst xs => some xs
  | .ml xs => some xs
  | _ => none
@[simp] def eqLs (f : D → D → Option Bool) : List D → List D → Option Bool
  | [], [] => some true
  | x :: xs, y :: ys => match f x y, eqLs f xs ys with
    | some b, some c => some (b && c)
    | _, _ => none
  | _, _ => some false
@[simp] def eqF : Nat → D → D → Option Bool
  | 0, _, _ => none
  | n + 1, x, y => match x, y with
    | .non, .non => some true
    | .non, .int _ => some false
    | .int _, .non => some false
    | .non, .bl _ => some false
    | .bl _, .non => some false
    | .non, .str _ => some false
    | .str _, .non => some false
    | .int _, .str _ => some false
    | .str _, .int _ => some false
    | .bl _, .str _ => some false
    | .str _, .bl _ => some false
    | .bl a, .bl b => some (decide (a = b))
    | .int a, .int b => some (decide (a = b))
    | .str a, .str b => some (decide (a = b))
    | .byt a, .byt b => some (decide (a = b))
    | .tup a, .tup b => eqLs (eqF n) a b
    | x, y => match lstOf x, lstOf y with
      | some a, some b => if a.length = b.length then eqLs (eqF n) a b else some false
      | _, _ => none
theorem byteArr_inj {a b : List Int} (ha : B8 a) (hb : B8 b) (h : byteArr a = byteArr b) : a = b := by
  rw [← bi_make ha, ← bi_make hb, h]
theorem EqAt_bytes {A : Around} {s : Shared} {a b : Array UInt8} {t u : Tok} : SeqAt.EqAt A s (.bytes a t) (.bytes b u) (a.toList == b.toList) := fun prog w E Q hq => by
  unfold eqBool
  refine wpAny_holding ?_
  refine wpAny_ite_split (fun hab => ?_) (fun _ => ?_)
  · have e := eq_of_beq hab
    injection e with e1 _
    subst e1
    exact wpAny_bind (wpAny_rule (wpAny_pure (by simpa using hq)))
  · exact wpAny_bind (PySem.W.eq_bytes (wpAny_truthy_bool hq))
theorem Ow.lstD {K : PySem.W.Frag} {Hs H : Hp} (e : Ex Hs H) {d : D} {v : V} {F : List Addr} {xs : List D} (h : Ow K Hs H d v F) (q : lstOf d = some xs) : ∃ a vs, v = .ref a ∧ H a = some (.lst vs) ∧ IsA K Hs xs vs := by
  cases d
  case lst ys =>
    obtain ⟨_, a, vs, h1, h2, h3⟩ := h
    cases q
    exact ⟨a, vs, h1, e _ _ h2, h3⟩
  case ml ys =>
    obtain ⟨a, vs, h1, _, h2, h3⟩ := h
    cases q
    exact ⟨a, vs, h1, h2, h3⟩
  all_goals cases q
section
variable {X : Cx} {pins : List (Addr × Obj)} {σ : L2.St} {H Hs : Hp} {s : Shared}
theorem eqLs_at {f : D → D → Option Bool} {A : Around} (ih : ∀ x y vx vy ux uy b, f x y = some b → Is X.K Hs x vx → Is X.K Hs y vy → RelV vx ux → RelV vy uy → SeqAt.EqAt A s ux uy b) :
    ∀ (xs ys : List D) (vs ws : List V) (us ts : List Value) (b : Bool), eqLs f xs ys = some b → IsA X.K Hs xs vs → IsA X.K Hs ys ws → Vals vs us → Vals ws ts →
      ∃ e : Nat → Bool, (∀ j (h1 : j < us.length) (h2 : j < ts.length), SeqAt.EqAt A s us[j] ts[j] (e j)) ∧ ((List.range (min us.length ts.length)).all e && us.length == ts.length) = b := by
  intro xs
  induction xs with
  | nil =>
    intro ys vs ws us ts b h hv hw rv rw'
    have e1 : vs = [] := hv
    subst e1
    cases rv
    cases ys with
    | nil =>
      have e2 : ws = [] := hw
      subst e2
      cases rw'
      have e3 : true = b := Option.some.inj h
      subst e3
      exact ⟨fun _ => true, fun j h1 => absurd h1 (Nat.not_lt_zero j), rfl⟩
    | cons y ys =>
      obtain ⟨w, wr, rfl, _, _⟩ := hw
      cases rw'
      have e3 : false = b := Option.some.inj h
      subst e3
      exact ⟨fun _ => true, fun j h1 => absurd h1 (Nat.not_lt_zero j), by simp⟩
  | cons x xs ihx =>
    intro ys vs ws us ts b h hv hw rv rw'
    obtain ⟨v, vr, rfl, i1, i2⟩ := hv
    cases rv with
    | cons r1 r2 =>
      rename_i u ur
      cases ys with
      | nil =>
        have e2 : ws = [] := hw
        subst e2
        cases rw'
        have e3 : false = b := Option.some.inj h
        subst e3
        exact ⟨fun _ => true, fun j _ h2 => absurd h2 (Nat.not_lt_zero j), by simp⟩
      | cons y ys =>
        obtain ⟨w, wr, rfl, j1, j2⟩ := hw
        cases rw' with
        | cons q1 q2 =>
          rename_i t tr
          have h' : (match f x y, eqLs f xs ys with | some b, some c => some (b && c) | _, _ => none) = some b := h
          cases e1 : f x y with
          | none => rw [e1] at h'; cases h'
          | some b1 =>
            cases e2 : eqLs f xs ys with
            | none => rw [e1, e2] at h'; cases h'
            | some b2 =>
              rw [e1, e2] at h'
              have e3 : (b1 && b2) = b := Option.some.inj h'
              obtain ⟨e, he, hb⟩ := ihx ys vr wr ur tr b2 e2 i2 j2 r2 q2
              refine ⟨fun j => match j with | 0 => b1 | j + 1 => e j, fun j h1 h2 => ?_, ?_⟩
              · cases j with
                | zero => exact ih x y v w u t b1 e1 i1 j1 r1 q1
                | succ j => exact he j (by simpa using h1) (by simpa using h2)
              · rw [← e3, ← hb, List.length_cons, List.length_cons, show min (ur.length + 1) (tr.length + 1) = min ur.length tr.length + 1 by omega, List.range_succ_eq_map]
                have e4 : ((ur.length + 1 == tr.length + 1) : Bool) = (ur.length == tr.length) := by simp
                rw [e4]
                simp [List.all_map, Function.comp_def, Bool.and_assoc]
theorem eqLs_same {f : D → D → Option Bool} (ih : ∀ x y v b, f x y = some b → Is X.K Hs x v → Is X.K Hs y v → b = true) : ∀ (xs ys : List D) (vs : List V) (b : Bool), eqLs f xs ys = some b → IsA X.K Hs xs vs → IsA X.K Hs ys vs → b = true := by
  intro xs
  induction xs with
  | nil =>
    intro ys vs b h hv hw
    have e1 : vs = [] := hv
    subst e1
    cases ys with
    | nil => exact (Option.some.inj h).symm
    | cons y ys => obtain ⟨w, wr, q, _⟩ := hw; cases q
  | cons x xs ihx =>
    intro ys vs b h hv hw
    obtain ⟨v, vr, rfl, i1, i2⟩ := hv
    cases ys with
    | nil => exact absurd (show v :: vr = [] from hw) (by simp)
    | cons y ys =>
      obtain ⟨w, wr, q, j1, j2⟩ := hw
      injection q with q1 q2
      subst q1 q2
      have h' : (match f x y, eqLs f xs ys with | some b, some c => some (b && c) | _, _ => none) = some b := h
      cases e1 : f x y with
      | none => rw [e1] at h'; cases h'
      | some b1 =>
        cases e2 : eqLs f xs ys with
        | none => rw [e1, e2] at h'; cases h'
        | some b2 =>
          rw [e1, e2] at h'
          have e3 : (b1 && b2) = b := Option.some.inj h'
          rw [← e3, ih x y v b1 e1 i1 j1, ihx ys vr b2 e2 i2 j2]
          rfl
theorem eqF_same (I : Inv X pins σ H s) (ex : Ex Hs H) : ∀ (n : Nat) (x y : D) (v : V) (b : Bool), eqF n x y = some b → Is X.K Hs x v → Is X.K Hs y v → b = true := by
  intro n
  induction n with
  | zero => intro x y v b h; cases h
  | succ n ih =>
    intro x y v b h hx hy
    have at_ : ∀ {p : Prop} [Decidable p], some (decide p) = some b → p → b = true := fun {p} _ q hp => by
      rw [← Option.some.inj q]; exact decide_eq_true hp
    cases x <;> cases y <;> first
      | exact (show False from hx).elim
      | exact (show False from hy).elim
      | (cases h; done)
      | exact (Option.some.inj h).symm
      | (exfalso; have e1 : v = _ := hx; have e2 : v = _ := hy; rw [e1] at e2; cases e2; done)
      | skip
    case bl.bl i j =>
      have e1 : v = _ := hx
      have e2 : v = _ := hy
      rw [e1] at e2
      injection e2 with e3
      exact at_ h e3
    case int.int i j =>
      have e1 : v = _ := hx
      have e2 : v = _ := hy
      rw [e1] at e2
      injection e2 with e3
      exact at_ h e3
    case str.str i j =>
      have e1 : v = _ := hx
      have e2 : v = _ := hy
      rw [e1] at e2
      injection e2 with e3
      exact at_ h e3
    case byt.byt i j =>
      obtain ⟨e1, b1⟩ : v = _ ∧ B8 i := hx
      obtain ⟨e2, b2⟩ : v = _ ∧ B8 j := hy
      rw [e1] at e2
      injection e2 with e3
      exact at_ h (byteArr_inj b1 b2 e3)
    case tup.tup i j =>
      obtain ⟨a1, vs1, e1, t1, c1⟩ := hx
      obtain ⟨a2, vs2, e2, t2, c2⟩ := hy
      rw [e1] at e2
      injection e2 with e3
      subst e3
      have e4 := I.tuple_inj (Evl.ex_t ex t1) (Evl.ex_t ex t2)
      subst e4
      exact eqLs_same (f := eqF n) ih i j vs1 b h c1 c2
    case lst.lst i j =>
      obtain ⟨a1, vs1, e1, t1, c1⟩ := hx
      obtain ⟨a2, vs2, e2, t2, c2⟩ := hy
      rw [e1] at e2
      injection e2 with e3
      subst e3
      rw [t1] at t2
      have e4 : vs1 = vs2 := by injection t2 with t3; injection t3
      subst e4
      have h' : (if i.length = j.length then eqLs (eqF n) i j else some false) = some b := h
      rw [if_pos (by rw [← c1.len, ← c2.len])] at h'
      exact eqLs_same (f := eqF n) ih i j vs1 b h' c1 c2
theorem all_at {us ts : List Value} {e : Nat → Bool} {A : Around} (h : ∀ j (h1 : j < us.length) (h2 : j < ts.length), SeqAt.EqAt A s us[j] ts[j] (e j)) :
    ∀ j (h1 : j < us.toArray.size) (h2 : j < ts.toArray.size), SeqAt.EqAt A s us.toArray[j] ts.toArray[j] (e j) := fun j h1 h2 => by
  have := h j (by simpa using h1) (by simpa using h2)
  simpa using this
/-- == of two lists or tuples, by their data -/
theorem rcF (I : Inv X pins σ H s) (ex : Ex Hs H) {A : Around} (hu : A.units < cLine) {f : D → D → Option Bool}
    (ih : ∀ x y vx vy ux uy b, f x y = some b → Is X.K Hs x vx → Is X.K Hs y vy → RelV vx ux → RelV vy uy → SeqAt.EqAt A.in1 s ux uy b) {b : Bool} {p q : Addr} {xs ys : List D} {vs ws : List V} :
    (SqT X.K H p vs ∧ SqT X.K H q ws ∧ IsA X.K Hs xs vs ∧ IsA X.K Hs ys ws ∧ eqLs f xs ys = some b → SeqAt.RcAt A s (.ref p) (.ref q) b ∧ SeqAt.RcNeAt A s (.ref p) (.ref q) (!b)) ∧
    (SqL X.K H p vs ∧ SqL X.K H q ws ∧ IsA X.K Hs xs vs ∧ IsA X.K Hs ys ws ∧ (if xs.length = ys.length then eqLs f xs ys else some false) = some b → SeqAt.RcAt A s (.ref p) (.ref q) b ∧ SeqAt.RcNeAt A s (.ref p) (.ref q) (!b)) := by
  constructor
  · rintro ⟨t1, t2, c1, c2, h⟩
    obtain ⟨us, r1, p1, _⟩ := I.tuple t1
    obtain ⟨ts, r2, p2, _⟩ := I.tuple t2
    obtain ⟨e, he, hb⟩ := eqLs_at (A := A.in1) ih xs ys vs ws us ts b h c1 c2 r1 r2
    have g1 := SeqAt.RcAt.tuples (show s.heap.IsTuple p us.toArray from p1) (show s.heap.IsTuple q ts.toArray from p2) hu (all_at he)
    have g2 := SeqAt.RcNeAt.tuples (show s.heap.IsTuple p us.toArray from p1) (show s.heap.IsTuple q ts.toArray from p2) hu (all_at he)
    simp only [List.size_toArray] at g1 g2
    rw [hb] at g1 g2
    exact ⟨g1, g2⟩
  · rintro ⟨t1, t2, c1, c2, h⟩
    obtain ⟨us, r1, p1, _⟩ := I.list t1
    obtain ⟨ts, r2, p2, _⟩ := I.list t2
    have l1 : us.length = xs.length := by rw [← r1.length, c1.len]
    have l2 : ts.length = ys.length := by rw [← r2.length, c2.len]
    by_cases hl : xs.length = ys.length
    · rw [if_pos hl] at h
      obtain ⟨e, he, hb⟩ := eqLs_at (A := A.in1) ih xs ys vs ws us ts b h c1 c2 r1 r2
      have g1 := SeqAt.RcAt.lists p1.isList p2.isList (by simp; omega) hu (all_at he)
      have g2 := SeqAt.RcNeAt.lists p1.isList p2.isList (by simp; omega) hu (all_at he)
      have e5 : us.length = ts.length := by omega
      simp only [List.size_toArray] at g1 g2
      rw [show min us.length ts.length = us.length by omega, e5, beq_self_eq_true, Bool.and_true] at hb
      rw [e5, hb] at g1 g2
      exact ⟨g1, g2⟩
    · rw [if_neg hl] at h
      have e3 : false = b := Option.some.inj h
      subst e3
      exact ⟨SeqAt.RcAt.lists_lengths p1.isList p2.isList (by simp; omega) hu, SeqAt.RcNeAt.lists_lengths p1.isList p2.isList (by simp; omega) hu⟩
theorem eqF_at (I : Inv X pins σ H s) (ex : Ex Hs H) : ∀ (n : Nat) (A : Around), A.units + n < cLine → ∀ (x y : D) (vx vy : V) (ux uy : Value) (b : Bool), eqF n x y = some b → Is X.K Hs x vx → Is X.K Hs y vy → RelV vx ux → RelV vy uy → SeqAt.EqAt A s ux uy b := by
  intro n
  induction n with
  | zero => intro A _ x y vx vy ux uy b h; cases h
  | succ n ih =>
    intro A hu x y vx vy ux uy b h hx hy rx ry
    have ih' := ih A.in1 (by show A.units + 1 + n < cLine; omega)
    have refs : ∀ {p q : Addr} {b : Bool}, vx = .ref p → vy = .ref q → SeqAt.RcAt A s (.ref p) (.ref q) b → (p = q → b = true) → SeqAt.EqAt A s ux uy b := fun {p q b} e1 e2 g hs => by
      subst e1 e2
      cases rx
      cases ry
      by_cases e : p = q
      · have e3 := hs e
        subst e e3
        exact .same _
      · exact .of_refs e g
    cases x <;> cases y <;> first
      | exact (show False from hx).elim
      | exact (show False from hy).elim
      | (cases h; done)
      | skip
    case non.non => cases (show vx = _ from hx); cases (show vy = _ from hy); cases rx; cases ry; cases Option.some.inj h; exact .same _
    case non.bl => cases (show vx = _ from hx); cases (show vy = _ from hy); cases rx; cases ry; cases Option.some.inj h; exact .none_bool _
    case bl.non => cases (show vx = _ from hx); cases (show vy = _ from hy); cases rx; cases ry; cases Option.some.inj h; exact .bool_none _
    case non.int => cases (show vx = _ from hx); cases (show vy = _ from hy); cases rx; obtain ⟨_, rfl⟩ := ry; cases Option.some.inj h; exact .none_int _ _
    case int.non => cases (show vx = _ from hx); cases (show vy = _ from hy); obtain ⟨_, rfl⟩ := rx; cases ry; cases Option.some.inj h; exact .int_none _ _
    case non.str => cases (show vx = _ from hx); cases (show vy = _ from hy); cases rx; obtain ⟨_, rfl⟩ := ry; cases Option.some.inj h; exact .none_str _ _
    case str.non => cases (show vx = _ from hx); cases (show vy = _ from hy); obtain ⟨_, rfl⟩ := rx; cases ry; cases Option.some.inj h; exact .str_none _ _
    case int.str => cases (show vx = _ from hx); cases (show vy = _ from hy); obtain ⟨_, rfl⟩ := rx; obtain ⟨_, rfl⟩ := ry; cases Option.some.inj h; exact .int_str _ _ _ _
    case str.int => cases (show vx = _ from hx); cases (show vy = _ from hy); obtain ⟨_, rfl⟩ := rx; obtain ⟨_, rfl⟩ := ry; cases Option.some.inj h; exact .str_int _ _ _ _
    case bl.str => cases (show vx = _ from hx); cases (show vy = _ from hy); cases rx; obtain ⟨_, rfl⟩ := ry; cases Option.some.inj h; exact .bool_str _ _ _
    case str.bl => cases (show vx = _ from hx); cases (show vy = _ from hy); obtain ⟨_, rfl⟩ := rx; cases ry; cases Option.some.inj h; exact .str_bool _ _ _
    case bl.bl i j => cases (show vx = _ from hx); cases (show vy = _ from hy); cases rx; cases ry; cases Option.some.inj h; rw [show decide (i = j) = (i == j) from (Bool.beq_eq_decide_eq i j).symm]; exact .bool_bool i j
    case int.int i j => cases (show vx = _ from hx); cases (show vy = _ from hy); obtain ⟨_, rfl⟩ := rx; obtain ⟨_, rfl⟩ := ry; cases Option.some.inj h; rw [show decide (i = j) = (i == j) from (Bool.beq_eq_decide_eq i j).symm]; exact .int_int i _ j _
    case str.str i j => cases (show vx = _ from hx); cases (show vy = _ from hy); obtain ⟨_, rfl⟩ := rx; obtain ⟨_, rfl⟩ := ry; cases Option.some.inj h; rw [show decide (i = j) = (i == j) by rw [Bool.eq_iff_iff]; simp]; exact .str_str i _ j _
    case byt.byt i j =>
      obtain ⟨e1, b1⟩ : vx = _ ∧ B8 i := hx
      obtain ⟨e2, b2⟩ : vy = _ ∧ B8 j := hy
      subst e1 e2
      obtain ⟨_, rfl⟩ := rx
      obtain ⟨_, rfl⟩ := ry
      cases Option.some.inj h
      rw [show decide (i = j) = ((byteArr i).toList == (byteArr j).toList) by
        rw [Bool.eq_iff_iff, decide_eq_true_iff, beq_iff_eq]
        exact ⟨fun e => by rw [e], fun e => byteArr_inj b1 b2 (Array.toList_inj.mp e)⟩]
      exact EqAt_bytes
    case tup.tup i j =>
      obtain ⟨p, vs, e1, t1, c1⟩ := id hx
      obtain ⟨q, ws, e2, t2, c2⟩ := id hy
      refine refs e1 e2 ((rcF I ex (by omega) (f := eqF n) ih').1 ⟨Evl.ex_t ex t1, Evl.ex_t ex t2, c1, c2, h⟩).1 fun e => ?_
      subst e
      exact eqF_same I ex (n + 1) (.tup i) (.tup j) vx b h hx (by rw [e1, ← e2]; exact hy)
    case lst.lst i j =>
      obtain ⟨p, vs, e1, t1, c1⟩ := id hx
      obtain ⟨q, ws, e2, t2, c2⟩ := id hy
      refine refs e1 e2 ((rcF I ex (by omega) (f := eqF n) ih').2 ⟨SqL.of (ex _ _ t1), SqL.of (ex _ _ t2), c1, c2, h⟩).1 fun e => ?_
      subst e
      exact eqF_same I ex (n + 1) (.lst i) (.lst j) vx b h hx (by rw [e1, ← e2]; exact hy)
end

section
variable {X : Cx}
/-! ### == and != -/
def rEqS (K : PySem.W.Frag) (neg : Bool) : R2 := fun x y H Q => ∃ Hs p q vs ws xs ys b, x = .ref p ∧ y = .ref q ∧ Ex Hs H ∧ IsA K Hs xs vs ∧ IsA K Hs ys ws ∧
  ((SqT K H p vs ∧ SqT K H q ws ∧ eqLs (eqF 8) xs ys = some b) ∨ (SqL K H p vs ∧ SqL K H q ws ∧ (if xs.length = ys.length then eqLs (eqF 8) xs ys else some false) = some b)) ∧ Q (.bl (b ^^ neg)) H
theorem op_eqS (hu : X.A.units + 64 < cLine) : OpR X (compareOp .Eq) (rEqS X.K false) := by
  intro pins s σ H x y v u Q I rx ry h
  obtain ⟨Hs, p, q, vs, ws, xs, ys, b, rfl, rfl, ex, c1, c2, h, k⟩ := h
  cases rx
  cases ry
  have ih := eqF_at I ex 8 X.A.in1 (by show X.A.units + 1 + 8 < cLine; omega)
  rw [Bool.xor_false] at k
  rcases h with ⟨t1, t2, h⟩ | ⟨t1, t2, h⟩
  · exact ((rcF I ex (by omega) ih).1 ⟨t1, t2, c1, c2, h⟩).1 _ _ _ _ ⟨.bl b, H, I, rfl, k⟩
  · exact ((rcF I ex (by omega) ih).2 ⟨t1, t2, c1, c2, h⟩).1 _ _ _ _ ⟨.bl b, H, I, rfl, k⟩
theorem op_neS (hu : X.A.units + 64 < cLine) : OpR X (compareOp .NotEq) (rEqS X.K true) := by
  intro pins s σ H x y v u Q I rx ry h
  obtain ⟨Hs, p, q, vs, ws, xs, ys, b, rfl, rfl, ex, c1, c2, h, k⟩ := h
  cases rx
  cases ry
  have ih := eqF_at I ex 8 X.A.in1 (by show X.A.units + 1 + 8 < cLine; omega)
  rw [Bool.xor_true] at k
  rcases h with ⟨t1, t2, h⟩ | ⟨t1, t2, h⟩
  · exact ((rcF I ex (by omega) ih).1 ⟨t1, t2, c1, c2, h⟩).2 _ _ _ _ ⟨.bl (!b), H, I, rfl, k⟩
  · exact ((rcF I ex (by omega) ih).2 ⟨t1, t2, c1, c2, h⟩).2 _ _ _ _ ⟨.bl (!b), H, I, rfl, k⟩
@[simp] def eqD (x y : D) (k : D → Prop) : Prop := match eqF 9 x y with
  | some b => k (.bl b)
  | none => False
@[simp] def neD (x y : D) (k : D → Prop) : Prop := match eqF 9 x y with
  | some b => k (.bl (!b))
  | none => False
section
variable {K : PySem.W.Frag} {σ : L2.St} {H Hs : Hp} {ρ : Rho} {φ : Fp} {x y : D} {vx vy : V} {F G : List Addr} {k : D → Prop} {Q : VK} {b neg : Bool}
theorem eq_core (R : Rl K σ H Hs ρ φ) (hx : Ow K Hs H x vx F) (hy : Ow K Hs H y vy G) (h : eqF 9 x y = some b) (q : Q (.bl (b ^^ neg)) H) :
    (scal vx vy = true ∧ Q (.bl (decide (vx = vy) ^^ neg)) H) ∨ rEqS K neg vx vy H Q := by
  have lists : ∀ xs ys, lstOf x = some xs → lstOf y = some ys → (if xs.length = ys.length then eqLs (eqF 8) xs ys else some false) = some b → rEqS K neg vx vy H Q := fun xs ys e1 e2 e3 => by
    obtain ⟨p, vs, rfl, t1, c1⟩ := hx.lstD R.ex e1
    obtain ⟨p2, ws, rfl, t2, c2⟩ := hy.lstD R.ex e2
    exact ⟨Hs, p, p2, vs, ws, xs, ys, b, rfl, rfl, R.ex, c1, c2, .inr ⟨SqL.of t1, SqL.of t2, e3⟩, q⟩
  cases x <;> cases y <;> first
    | (cases h; done)
    | (obtain ⟨_, e1⟩ := hx; obtain ⟨_, e2⟩ := hy; subst e1 e2; cases Option.some.inj h; exact .inl ⟨rfl, by simpa using q⟩)
    | exact .inr (lists _ _ rfl rfl h)
    | skip
  case byt.byt i j =>
    obtain ⟨_, e1, b1⟩ := hx
    obtain ⟨_, e2, b2⟩ := hy
    subst e1 e2
    cases Option.some.inj h
    refine .inl ⟨rfl, ?_⟩
    rw [show decide (V.byt (byteArr i) = V.byt (byteArr j)) = decide (i = j) by
      rw [Bool.eq_iff_iff, decide_eq_true_iff, decide_eq_true_iff]
      exact ⟨fun e => byteArr_inj b1 b2 (V.byt.inj e), fun e => by rw [e]⟩]
    exact q
  case tup.tup i j =>
    obtain ⟨_, p, vs, rfl, t1, c1⟩ := hx
    obtain ⟨_, p2, ws, rfl, t2, c2⟩ := hy
    exact .inr ⟨Hs, p, p2, vs, ws, i, j, b, rfl, rfl, R.ex, c1, c2, .inl ⟨Evl.ex_t R.ex t1, Evl.ex_t R.ex t2, h⟩, q⟩
end
theorem od_eq (hu : X.A.units + 64 < cLine) : OpD X (compareOp .Eq) eqD := by
  refine ⟨_, op_eq.or (op_eqS hu), fun σ H Hs ρ φ x y vx vy F G k Q R hx hy h fin => ?_⟩
  unfold eqD at h
  split at h
  · rename_i b e
    rcases eq_core (neg := false) R hx hy e (Q := Q) (by rw [Bool.xor_false]; exact fin.pure R h rfl) with g | g
    · exact .inl ⟨g.1, by simpa using g.2⟩
    · exact .inr g
  · exact h.elim
theorem od_ne (hu : X.A.units + 64 < cLine) : OpD X (compareOp .NotEq) neD := by
  refine ⟨_, op_ne.or (op_neS hu), fun σ H Hs ρ φ x y vx vy F G k Q R hx hy h fin => ?_⟩
  unfold neD at h
  split at h
  · rename_i b e
    rcases eq_core (neg := true) R hx hy e (Q := Q) (by rw [Bool.xor_true]; exact fin.pure R h rfl) with g | g
    · exact .inl ⟨g.1, by simpa using g.2⟩
    · exact .inr g
  · exact h.elim
/-! ### ints -/
@[simp] def iiD (C : Int → Int → Prop) (f : Int → Int → D) (x y : D) (k : D → Prop) : Prop := match x, y with
  | .int i, .int j => C i j ∧ k (f i j)
  | _, _ => False
@[simp] def ii0 (f : Int → Int → D) (x y : D) (k : D → Prop) : Prop := match x, y with
  | .int i, .int j => k (f i j)
  | _, _ => False
theorem od_ii {f : Value → Value → Sem Value} {C : Int → Int → Prop} {g : Int → Int → V} {gd : Int → Int → D} (h : OpR X f (rI C g)) (hg : ∀ i j Hs, Is X.K Hs (gd i j) (g i j)) : OpD X f (iiD C gd) := by
  refine ⟨_, h, fun σ H Hs ρ φ x y vx vy F G k Q R hx hy h fin => ?_⟩
  unfold iiD at h
  split at h
  · rename_i i j
    exact ⟨i, j, hx.2, hy.2, h.1, fin.pure R h.2 (hg i j Hs)⟩
  · exact h.elim
theorem od_i0 {f : Value → Value → Sem Value} {g : Int → Int → V} {gd : Int → Int → D} (h : OpR X f (rI0 g)) (hg : ∀ i j Hs, Is X.K Hs (gd i j) (g i j)) : OpD X f (ii0 gd) := by
  refine ⟨_, h, fun σ H Hs ρ φ x y vx vy F G k Q R hx hy h fin => ?_⟩
  unfold ii0 at h
  split at h
  · rename_i i j
    exact ⟨i, j, hx.2, hy.2, fin.pure R h (hg i j Hs)⟩
  · exact h.elim
abbrev subD := ii0 fun i j => .int (i - j)
abbrev fdivD := iiD CDiv fun i j => .int (i / j)
abbrev modD := iiD (fun _ j => 0 < j) fun i j => .int (i % j)
abbrev powD := iiD CPow fun i j => .int (i ^ j.toNat)
abbrev ltD := ii0 fun i j => .bl (decide (i < j))
abbrev leD := ii0 fun i j => .bl (decide (i ≤ j))
abbrev gtD := ii0 fun i j => .bl (decide (j < i))
abbrev geD := ii0 fun i j => .bl (decide (j ≤ i))
theorem od_sub : OpD X (binaryOp .Sub) subD := od_i0 op_sub fun _ _ _ => rfl
theorem od_fdiv : OpD X (binaryOp .FloorDiv) fdivD := od_ii op_fdiv fun _ _ _ => rfl
theorem od_mod : OpD X (binaryOp .Mod) modD := od_ii op_mod fun _ _ _ => rfl
theorem od_pow : OpD X (binaryOp .Pow) powD := od_ii op_pow fun _ _ _ => rfl
theorem od_lt : OpD X (compareOp .Lt) ltD := od_i0 op_lt fun _ _ _ => rfl
theorem od_le : OpD X (compareOp .LtE) leD := od_i0 op_le fun _ _ _ => rfl
theorem od_gt : OpD X (compareOp .Gt) gtD := od_i0 op_gt fun _ _ _ => rfl
theorem od_ge : OpD X (compareOp .GtE) geD := od_i0 op_ge fun _ _ _ => rfl
theorem byteArr_len (a : List Int) : (byteArr a).size = a.length := byteArr_size a
/-! ### + and * -/
@[simp] def addD (x y : D) (k : D → Prop) : Prop := match x, y with
  | .int i, .int j => k (.int (i + j))
  | .int i, .bl b => k (.int (i + b2i b))
  | .str a, .str b => a.length + b.length ≤ 100000 ∧ k (.str (a ++ b))
  | .byt a, .byt b => a.length + b.length ≤ 100000 ∧ k (.byt (a ++ b))
  | .tup a, .tup b => a.length + b.length ≤ 100000 ∧ k (.tup (a ++ b))
  | x, y => match lstOf x, lstOf y with
    | some a, some b => a.length + b.length ≤ 100000 ∧ k (.ml (a ++ b))
    | _, _ => False
theorem od_add : OpD X (binaryOp .Add) addD := by
  refine ⟨_, op_add.or (op_add_ib.or (op_add_str.or (op_add_byt.or (op_catA.or op_cat)))), fun σ H Hs ρ φ x y vx vy F G k Q R hx hy h fin => ?_⟩
  unfold addD at h
  split at h
  · rename_i i j
    exact .inl ⟨i, j, hx.2, hy.2, fin.pure R h rfl⟩
  · rename_i i b
    exact .inr (.inl ⟨i, b, hx.2, hy.2, fin.pure R h rfl⟩)
  · rename_i a b
    exact .inr (.inr (.inl ⟨a, b, hx.2, hy.2, sz h.1, fin.pure R h.2 rfl⟩))
  · rename_i a b
    obtain ⟨_, e1, b1⟩ := hx
    obtain ⟨_, e2, b2⟩ := hy
    refine .inr (.inr (.inr (.inl ⟨_, _, e1, e2, by rw [byteArr_len, byteArr_len]; exact Nat.le_trans h.1 (by decide), ?_⟩)))
    rw [byteArr_app]
    exact fin.pure (d := .byt (a ++ b)) R h.2 ⟨rfl, b1.app b2⟩
  · rename_i a b
    obtain ⟨_, p, vs, rfl, t1, c1⟩ := hx
    obtain ⟨_, q, ws, rfl, t2, c2⟩ := hy
    refine .inr (.inr (.inr (.inr (.inl ⟨p, q, vs, ws, rfl, rfl, Evl.ex_t R.ex t1, Evl.ex_t R.ex t2, by rw [c1.len, c2.len]; exact sz h.1, fun e => ?_, fun _ e => ?_, fun _ _ => fin.tup R h.2 (c1.app c2)⟩))))
    · have e3 : a = [] := List.eq_nil_of_length_eq_zero (by rw [← c1.len, e]; rfl)
      subst e3
      exact fin.pure R h.2 ⟨q, ws, rfl, t2, c2⟩
    · have e3 : b = [] := List.eq_nil_of_length_eq_zero (by rw [← c2.len, e]; rfl)
      subst e3
      exact fin.pure R h.2 ⟨p, vs, rfl, t1, by rw [List.append_nil]; exact c1⟩
  · split at h
    · rename_i a b e1 e2
      obtain ⟨p, vs, rfl, t1, c1⟩ := hx.lstD R.ex e1
      obtain ⟨q, ws, rfl, t2, c2⟩ := hy.lstD R.ex e2
      exact .inr (.inr (.inr (.inr (.inr ⟨p, q, vs, ws, rfl, rfl, t1, t2, by rw [c1.len, c2.len]; exact sz h.1, fin.lst R h.2 (c1.app c2)⟩))))
    · exact h.elim
theorem IsA.rep {K : PySem.W.Frag} {Hs : Hp} {ds : List D} {vs : List V} (h : IsA K Hs ds vs) : ∀ n : Nat, IsA K Hs (List.replicate n ds).flatten (List.replicate n vs).flatten
  | 0 => rfl
  | n + 1 => by
    rw [List.replicate_succ, List.replicate_succ, List.flatten_cons, List.flatten_cons]
    exact h.app (IsA.rep h n)
@[simp] def mulD (x y : D) (k : D → Prop) : Prop := match x, y with
  | .int i, .int j => CMul i j ∧ k (.int (i * j))
  | x, .int j => match lstOf x with
    | some a => (-1000000 ≤ j ∧ j ≤ 1000000) ∧ a.length * j.toNat ≤ 100000 ∧ k (.ml (List.replicate j.toNat a).flatten)
    | _ => False
  | _, _ => False
theorem od_mul : OpD X (binaryOp .Mult) mulD := by
  refine ⟨_, op_mul.or op_rep, fun σ H Hs ρ φ x y vx vy F G k Q R hx hy h fin => ?_⟩
  unfold mulD at h
  split at h
  · rename_i i j
    exact .inl ⟨i, j, hx.2, hy.2, h.1, fin.pure R h.2 rfl⟩
  · rename_i j _
    split at h
    · rename_i a e1
      obtain ⟨p, vs, rfl, t1, c1⟩ := hx.lstD R.ex e1
      exact .inr ⟨p, j, vs, rfl, hy.2, t1, by omega, by omega, by rw [c1.len]; exact sz h.2.1, fin.lst R h.2.2 (c1.rep _)⟩
    · exact h.elim
  · exact h.elim
/-! ### is None; in -/
@[simp] def isNone : D → Option Bool
  | .non => some true
  | .raw _ => none
  | _ => some false
@[simp] def isD (x y : D) (k : D → Prop) : Prop := match isNone x, y with
  | some b, .non => k (.bl b)
  | _, _ => False
@[simp] def isntD (x y : D) (k : D → Prop) : Prop := match isNone x, y with
  | some b, .non => k (.bl (!b))
  | _, _ => False
theorem isNone_of {K : PySem.W.Frag} {Hs H : Hp} {x : D} {v : V} {F : List Addr} {b : Bool} (h : Ow K Hs H x v F) (e : isNone x = some b) : decide (v = .non) = b := by
  cases x <;> first
    | (cases e; done)
    | (cases Option.some.inj e; first
        | (obtain ⟨_, rfl⟩ := h; rfl)
        | (obtain ⟨_, rfl, _⟩ := h; rfl)
        | (obtain ⟨_, _, _, rfl, _⟩ := h; rfl)
        | (obtain ⟨_, _, rfl, _⟩ := h; rfl)
        | (obtain ⟨_, _, _, _, rfl, _⟩ := h; rfl))
theorem od_is : OpD X (compareOp .Is) isD := by
  refine ⟨_, op_isN, fun σ H Hs ρ φ x y vx vy F G k Q R hx hy h fin => ?_⟩
  unfold isD at h
  split at h
  · rename_i b e
    refine ⟨hy.2, ?_⟩
    rw [isNone_of hx e]
    exact fin.pure R h rfl
  · exact h.elim
@[simp] def flatD : D → Option V
  | .non => some .non
  | .bl b => some (.bl b)
  | .int i => some (.int i)
  | .str s => some (.str s)
  | _ => none
theorem flatD_of {K : PySem.W.Frag} {Hs H : Hp} {x : D} {v w : V} {F : List Addr} (h : Ow K Hs H x v F) (e : flatD x = some w) : v = w ∧ flatV v = true := by
  cases x <;> first
    | (cases e; done)
    | (cases Option.some.inj e; obtain ⟨_, rfl⟩ := h; exact ⟨rfl, rfl⟩)
@[simp] def flatA : List D → Option (List V)
  | [] => some []
  | d :: r => match flatD d, flatA r with
    | some v, some vs => some (v :: vs)
    | _, _ => none
theorem flatA_of {K : PySem.W.Frag} {Hs : Hp} : ∀ {ds : List D} {vs ws : List V}, IsA K Hs ds vs → flatA ds = some ws → vs = ws ∧ vs.all flatV = true := by
  intro ds
  induction ds with
  | nil =>
    intro vs ws h e
    have e1 : vs = [] := h
    subst e1
    exact ⟨Option.some.inj e, rfl⟩
  | cons d r ih =>
    intro vs ws h e
    obtain ⟨v, vr, rfl, h1, h2⟩ := h
    have e' : (match flatD d, flatA r with | some v, some vs => some (v :: vs) | _, _ => none) = some ws := e
    cases e1 : flatD d with
    | none => rw [e1] at e'; cases e'
    | some w =>
      cases e2 : flatA r with
      | none => rw [e1, e2] at e'; cases e'
      | some wr =>
        rw [e1, e2] at e'
        obtain ⟨rfl, f1⟩ := flatD_of (H := Hs) (Ow.of h1) e1
        obtain ⟨rfl, f2⟩ := ih h2 e2
        exact ⟨Option.some.inj e', by rw [List.all_cons, f1, f2]; rfl⟩
/-- what may be walked as a list -/
@[simp] def seqOf : D → Option (List D)
  | .lst xs => some xs
  | .ml xs => some xs
  | .rl xs => some xs
  | .tup xs => some xs
  | _ => none
theorem Ow.seqD {K : PySem.W.Frag} {Hs H : Hp} (e : Ex Hs H) {d : D} {v : V} {F : List Addr} {xs : List D} (h : Ow K Hs H d v F) (q : seqOf d = some xs) : ∃ a vs, v = .ref a ∧ (SqL K H a vs ∨ SqT K H a vs) ∧ IsA K Hs xs vs := by
  cases d
  case lst ys =>
    obtain ⟨_, a, vs, h1, h2, h3⟩ := h
    cases q
    exact ⟨a, vs, h1, .inl (SqL.of (e _ _ h2)), h3⟩
  case ml ys =>
    obtain ⟨a, vs, h1, _, h2, h3⟩ := h
    cases q
    exact ⟨a, vs, h1, .inl (SqL.of h2), h3⟩
  case rl ys =>
    obtain ⟨_, a, vs, h1, h2, h3⟩ := h
    cases q
    exact ⟨a, vs, h1, .inl (Evl.ex_l e h2), h3⟩
  case tup ys =>
    obtain ⟨_, a, vs, h1, h2, h3⟩ := h
    cases q
    exact ⟨a, vs, h1, .inr (Evl.ex_t e h2), h3⟩
  all_goals cases q
@[simp] def inD (x y : D) (k : D → Prop) : Prop := match flatD x, (seqOf y).bind flatA with
  | some v, some ws => k (.bl (inV v ws))
  | _, _ => False
@[simp] def ninD (x y : D) (k : D → Prop) : Prop := match flatD x, (seqOf y).bind flatA with
  | some v, some ws => k (.bl (!inV v ws))
  | _, _ => False
theorem in_core {K : PySem.W.Frag} {σ : L2.St} {H Hs : Hp} {ρ : Rho} {φ : Fp} {x y : D} {vx vy : V} {F G : List Addr} {v : V} {ws : List V} (R : Rl K σ H Hs ρ φ) (hx : Ow K Hs H x vx F) (hy : Ow K Hs H y vy G)
    (e1 : flatD x = some v) (e2 : (seqOf y).bind flatA = some ws) : ∃ p, vy = .ref p ∧ (SqL K H p ws ∨ SqT K H p ws) ∧ vx = v ∧ flatV v = true ∧ ws.all flatV = true := by
  obtain ⟨xs, e3, e4⟩ := Option.bind_eq_some_iff.mp e2
  obtain ⟨p, vs, rfl, t, c⟩ := hy.seqD R.ex e3
  obtain ⟨rfl, f1⟩ := flatD_of hx e1
  obtain ⟨rfl, f2⟩ := flatA_of c e4
  exact ⟨p, rfl, t, rfl, f1, f2⟩
theorem od_in : OpD X (compareOp .In) inD := by
  refine ⟨_, op_in_seq, fun σ H Hs ρ φ x y vx vy F G k Q R hx hy h fin => ?_⟩
  unfold inD at h
  split at h
  · rename_i v ws e1 e2
    obtain ⟨p, rfl, t, rfl, f1, f2⟩ := in_core R hx hy e1 e2
    exact ⟨p, ws, rfl, t, f1, f2, fin.pure R h rfl⟩
  · exact h.elim
theorem od_nin : OpD X (compareOp .NotIn) ninD := by
  refine ⟨_, op_notIn_seq, fun σ H Hs ρ φ x y vx vy F G k Q R hx hy h fin => ?_⟩
  unfold ninD at h
  split at h
  · rename_i v ws e1 e2
    obtain ⟨p, rfl, t, rfl, f1, f2⟩ := in_core R hx hy e1 e2
    exact ⟨p, ws, rfl, t, f1, f2, fin.pure (d := .bl (!inV vx ws)) R h rfl⟩
  · exact h.elim
end

/-! ### subscripts -/
@[simp] def ixD (x y : D) (k : D → Prop) : Prop := match x, y with
  | .byt ns, .int i => ns.length ≤ 100000 ∧ 0 ≤ i ∧ ∃ n, ns[i.toNat]? = some n ∧ k (.int n)
  | .str z, .int i => z.length ≤ 100000 ∧ ∃ c, atI z.cps.toList i = some c ∧ k (.str ⟨#[c]⟩)
  | x, .int i => match seqOf x with
    | some xs => ∃ d, atI xs i = some d ∧ k d
    | none => False
  | _, _ => False
theorem atI_rel {K : PySem.W.Frag} {Hs : Hp} {ds : List D} {vs : List V} {i : Int} {d : D} (h : IsA K Hs ds vs) (e : atI ds i = some d) : ∃ v, atI vs i = some v ∧ Is K Hs d v := by
  unfold atI at e ⊢
  rw [h.len]
  cases q : ixN ds.length i with
  | none => rw [q] at e; cases e
  | some j =>
    rw [q] at e
    exact h.get e
def rIxB : R2 := fun x y H Q => ∃ (z : List UInt8) (i : Int), x = .byt z.toArray ∧ y = .int i ∧ z.length ≤ sizeLine ∧ 0 ≤ i ∧ i < z.length ∧ Q (.int ((z.getD i.toNat 0).toNat : Nat)) H
section
variable {X : Cx}
theorem ix_byt : IxR X rIxB := by
  intro value slice pins s σ H x y v u Q I rx ry h hs
  obtain ⟨z, i, rfl, rfl, hz, h0, h1, q⟩ := h
  obtain ⟨t, rfl⟩ := rx
  obtain ⟨t', rfl⟩ := ry
  have hl : sizeLine = 16777216 := sizeLine_eq
  exact tail_any (PySem.W.typeIs_bytes s z.toArray t) PySem.W.FB.slot_bytes_getitem.lookup (PySem.W.getItem_bytes (by omega) h0 h1 ⟨.int ((z.getD i.toNat 0).toNat : Nat), H, I.tok _, ⟨_, rfl⟩, q⟩) hs
def rIxU (K : PySem.W.Frag) : R2 := fun x y H Q => rIxB x y H Q ∨ rIx K x y H Q
theorem ix_U : IxR X (rIxU X.K) := ix_byt.or ix_seq
theorem ix_core {σ : L2.St} {H Hs : Hp} {ρ : Rho} {φ : Fp} {x y : D} {vx vy : V} {F G : List Addr} {k : D → Prop} {Q : VK} (R : Rl X.K σ H Hs ρ φ) (hx : Ow X.K Hs H x vx F) (hy : Ow X.K Hs H y vy G) (h : ixD x y k)
    (fin : Fin X.K σ H Hs ρ φ k Q) : rIxU X.K vx vy H Q := by
  unfold ixD at h
  split at h
  · rename_i ns i
    obtain ⟨h1, h2, n, h3, h4⟩ := h
    obtain ⟨_, e1, b1⟩ := hx
    have hl : i.toNat < ns.length := (List.getElem?_eq_some_iff.mp h3).1
    refine .inl ⟨ns.map fun n : Int => n.toNat.toUInt8, i, (show vx = V.byt (ns.map fun n : Int => n.toNat.toUInt8).toArray from e1), hy.2, by rw [List.length_map]; exact sz h1, h2, by rw [List.length_map]; omega, ?_⟩
    rw [L2.byte_at b1 h3]
    exact fin.pure R h4 rfl
  · rename_i z i
    obtain ⟨h1, c, h2, h3⟩ := h
    exact .inr (.inr (.inr ⟨z, i, c, hx.2, hy.2, sz h1, h2, fin.pure R h3 rfl⟩))
  · rename_i i _ _
    split at h
    · rename_i xs e
      obtain ⟨d, h1, h2⟩ := h
      obtain ⟨p, vs, rfl, t, c⟩ := hx.seqD R.ex e
      obtain ⟨v, h3, h4⟩ := atI_rel c h1
      rcases t with t | t
      · exact .inr (.inl ⟨p, vs, i, v, rfl, hy.2, t, h3, fin.pure R h2 h4⟩)
      · exact .inr (.inr (.inl ⟨p, vs, i, v, rfl, hy.2, t, h3, fin.pure R h2 h4⟩))
    · exact h.elim
  · exact h.elim
variable {O : Oc} {m m' : Bool} {a b : Expr} {pos : Pos} {wa wb : WE}
theorem pd_ix (ha : PE X a (tauE X.K O m wa)) (hb : PE X b (tauE X.K O m' wb)) (hs : PlainIx b) : PE X (.Subscript a b pos) (tauE X.K O (m && m') (wOp ixD wa wb)) :=
  PE_imp (pe_ix ix_U ha hb hs) (opTau (f := getItem) fun σ H Hs ρ φ x y vx vy F G k Q R hx hy h fin => ix_core R hx hy h fin)
end
/-! ### slices -/
def cutL {α : Type} (xs : List α) (lo hi : Option Int) : List α := (xs.drop (HT.sIx xs.length 0 lo)).take (HT.sIx xs.length xs.length hi - HT.sIx xs.length 0 lo)
abbrev WO := Xi → Rho → (Option Int → Rho → Prop) → Prop
@[simp] def woN : WO := fun _ ρ P => P none ρ
@[simp] def woS (w : WE) : WO := fun xi ρ P => w xi ρ fun d ρ1 => match d with
  | .int i => P (some i) ρ1
  | _ => False
def tauO (K : PySem.W.Frag) (O : Oc) (m : Bool) (w : WO) : TO := fun σ H Q => ∃ ρ Hs φ P, Rl K σ H Hs ρ φ ∧ Step O.H O.Hs O.fp H Hs φ ∧ w O.xi ρ P ∧
  ∀ o ρ' H' Hs' φ', P o ρ' → Rl K σ H' Hs' ρ' φ' → Step H Hs φ H' Hs' φ' → Pur m ρ ρ' φ φ' H H' → Q o H'
section
variable {K : PySem.W.Frag} {O : Oc} {m : Bool} {σ : L2.St} {H Hs : Hp} {ρ : Rho} {φ : Fp}
theorem tO {w : WO} {Q : Option Int → Hp → Prop} {P : Option Int → Rho → Prop} (R : Rl K σ H Hs ρ φ) (S : Step O.H O.Hs O.fp H Hs φ) (hw : w O.xi ρ P)
    (hq : ∀ d ρ' H' Hs' φ', P d ρ' → Rl K σ H' Hs' ρ' φ' → Step H Hs φ H' Hs' φ' → Step O.H O.Hs O.fp H' Hs' φ' → Pur m ρ ρ' φ φ' H H' → Q d H') : tauO K O m w σ H Q :=
  ⟨ρ, Hs, φ, P, R, S, hw, fun d ρ' H' Hs' φ' p R' S' u => hq d ρ' H' Hs' φ' p R' S' (S.trans S') u⟩
end
theorem PO_imp {X : Cx} {e : Option Expr} {t t' : TO} (h : PO X e t) (k : ∀ σ H Q, t' σ H Q → t σ H Q) : PO X e t' := ⟨fun pins s σ H Q I q => h.run pins s σ H Q I (k σ H Q q)⟩
theorem sIx_clip (n d : Nat) (lo : Option Int) (hd : d ≤ n) : lo.elim d (clipAt n) = HT.sIx n d lo := by
  cases lo with
  | none => rfl
  | some i =>
    show clipAt n i = HT.sIx n d (some i)
    unfold clipAt
    show _ = if i < 0 then (i + (n : Int)).toNat else min i.toNat n
    split <;> omega
theorem cut_bytes' (ns : List Int) (lo hi : Option Int) : PySem.W.KBy.picked (byteArr ns) lo hi = byteArr (cutL ns lo hi) := by
  rw [PySem.W.KBc.picked_eq, byteArr_size, sIx_clip _ _ _ (Nat.zero_le _), sIx_clip _ _ _ (Nat.le_refl _)]
  unfold cutL byteArr
  rw [List.map_take, List.map_drop]
theorem IsA.cut {K : PySem.W.Frag} {Hs : Hp} {ds : List D} {vs : List V} (h : IsA K Hs ds vs) (lo hi : Option Int) : IsA K Hs (cutL ds lo hi) (cutV vs lo hi) := by
  unfold cutL cutV
  rw [h.len]
  exact (h.drop _).take _
@[simp] def slD (x : D) (lo hi : Option Int) (k : D → Prop) : Prop := match x with
  | .byt ns => ns.length ≤ 100000 ∧ k (.byt (cutL ns lo hi))
  | .tup xs => k (.tup (cutL xs lo hi))
  | .rl xs => k (.ml (cutL xs lo hi))
  | x => match lstOf x with
    | some xs => k (.ml (cutL xs lo hi))
    | none => False
def rSlU (K : PySem.W.Frag) : V → Option Int → Option Int → Hp → VK → Prop := fun x lo hi H Q => rSlL K x lo hi H Q ∨ rSlA K x lo hi H Q ∨ rSlB x lo hi H Q
theorem B8.cut {ns : List Int} (h : B8 ns) (lo hi : Option Int) : B8 (cutL ns lo hi) := fun n hn => h n (List.mem_of_mem_drop (List.mem_of_mem_take hn))
section
variable {X : Cx}
theorem sl_U : SlR X (rSlU X.K) := sl_list.or (sl_tupA.or sl_byt)
theorem sl_core {σ : L2.St} {H Hs : Hp} {ρ : Rho} {φ : Fp} {x : D} {vx : V} {F : List Addr} {lo hi : Option Int} {k : D → Prop} {Q : VK} (R : Rl X.K σ H Hs ρ φ) (hx : Ow X.K Hs H x vx F) (h : slD x lo hi k)
    (fin : Fin X.K σ H Hs ρ φ k Q) : rSlU X.K vx lo hi H Q := by
  unfold slD at h
  split at h
  · rename_i ns
    obtain ⟨_, e1, b1⟩ := hx
    refine .inr (.inr ⟨_, e1, by rw [byteArr_len]; exact Nat.le_trans h.1 (by decide), ?_⟩)
    rw [cut_bytes']
    exact fin.pure (d := .byt (cutL ns lo hi)) R h.2 ⟨rfl, Po.B8.cut b1 lo hi⟩
  · rename_i xs
    obtain ⟨_, p, vs, rfl, t, c⟩ := hx
    have hl := c.len
    refine .inr (.inl ⟨p, vs, rfl, Evl.ex_t R.ex t, fun hw => ?_, fun _ => fin.tup R h (c.cut lo hi)⟩)
    have e : cutL xs lo hi = xs := by
      unfold cutL
      rw [hl] at hw
      rw [hw.1, hw.2, List.drop_zero, Nat.sub_zero, List.take_length]
    rw [e] at h
    exact fin.pure R h ⟨p, vs, rfl, t, c⟩
  · rename_i xs
    obtain ⟨_, p, vs, rfl, t, c⟩ := hx
    exact .inl ⟨p, vs, rfl, Evl.ex_l R.ex t, fin.lst R h (c.cut lo hi)⟩
  · split at h
    · rename_i xs e
      obtain ⟨p, vs, rfl, t, c⟩ := hx.lstD R.ex e
      exact .inl ⟨p, vs, rfl, SqL.of t, fin.lst R h (c.cut lo hi)⟩
    · exact h.elim
variable {O : Oc} {m m1 m2 : Bool} {e : Expr} {lo hi : Option Expr} {pos p2 : Pos} {we : WE} {wl wh : WO}
theorem po_n : PO X none (tauO X.K O true woN) := PO_imp po_none fun σ H Q q => by
  obtain ⟨ρ, Hs, φ, P, R, S, hw, hq⟩ := q
  exact hq none ρ H Hs φ hw R (Step.refl _ _ _) Pur.refl
theorem po_s {m : Bool} (h : PE X e (tauE X.K O m we)) : PO X (some e) (tauO X.K O m (woS we)) := PO_imp (po_some h) fun σ H Q q => by
  obtain ⟨ρ, Hs, φ, P, R, S, hw, hq⟩ := q
  refine tE R S hw fun x ρ1 v1 H1 Hs1 φ1 G1 p1 R1 S1 SO1 r1 f1 u1 => ?_
  split at p1
  · rename_i i
    exact ⟨i, r1.ow.2, hq (some i) ρ1 H1 Hs1 φ1 p1 R1 S1 u1⟩
  · exact p1.elim
@[simp] def wSl (we : WE) (wl wh : WO) : WE := fun xi ρ P => we xi ρ fun x ρ1 => wl xi ρ1 fun lo ρ2 => wh xi ρ2 fun hi ρ3 => slD x lo hi fun z => P z ρ3
theorem pd_sl (he : PE X e (tauE X.K O m we)) (hl : PO X lo (tauO X.K O m1 wl)) (hh : PO X hi (tauO X.K O m2 wh)) : PE X (.Subscript e (.Slice lo hi none p2) pos) (tauE X.K O (m && (m1 && m2)) (wSl we wl wh)) :=
  PE_imp (pe_slice sl_U he hl hh) fun σ H Q q => by
    obtain ⟨ρ, Hs, φ, P, R, S, hw, hq⟩ := q
    refine tE R S hw fun x ρ1 v1 H1 Hs1 φ1 G1 p1 R1 S1 SO1 r1 f1 u1 => ?_
    refine tO R1 SO1 p1 fun lo ρ2 H2 Hs2 φ2 p2 R2 S2 SO2 u2 => ?_
    refine tO R2 SO2 p2 fun hi ρ3 H3 Hs3 φ3 p3 R3 S3 SO3 u3 => ?_
    refine sl_core R3 (r1.keep (S2.trans S3)) p3 fun d v H' Hs' G' kd R' S' rs fr pu => ?_
    exact hq d ρ3 v H' Hs' φ3 G' kd R' ((S1.trans (S2.trans S3)).trans S') rs (Frs.of (S1.trans (S2.trans S3)) fr) ((u1.trans (u2.trans u3)).thn pu)
end
/-! ### places: a slot, a field of a place -/
abbrev Path := List (Addr × Str)
@[simp] def PlD (ρ : Rho) (i : Nat) : Path → D → Prop
  | [], d => ρ[i]? = some (.vl d) ∨ ∃ v, ρ[i]? = some (.io v d)
  | (C, f) :: r, d => ∃ ns xs, PlD ρ i r (.mi C ns xs) ∧ (ns.zip xs).lookup f = some d
def tPl (K : PySem.W.Frag) (i : Nat) : Path → TE
  | [] => tVar i
  | (_, f) :: r => tFld K (tPl K i r) f
def FOk (K : PySem.W.Frag) (q : Path) : Prop := ∀ c ∈ q, Cls K c.1 ∧ NoAttr K c.1 c.2
theorem OwA.look {K : PySem.W.Frag} {Hs H : Hp} {f : Str} {d : D} : ∀ {ns : List Str} {xs : List D} {fs : List (Str × V)} {G : List Addr}, fs.map Prod.fst = ns → OwA K Hs H xs (fs.map Prod.snd) G → (ns.zip xs).lookup f = some d →
    ∃ v F, fs.lookup f = some v ∧ Ow K Hs H d v F ∧ ∀ p, p ∈ F → p ∈ G := by
  intro ns
  induction ns with
  | nil => intro xs fs G _ _ h; simp at h
  | cons n ns ih =>
    intro xs fs G hn ho h
    cases xs with
    | nil => simp at h
    | cons x xs =>
      cases fs with
      | nil => cases hn
      | cons y fs =>
        obtain ⟨y1, y2⟩ := y
        injection hn with hn1 hn2
        have hn1' : y1 = n := hn1
        subst hn1'
        obtain ⟨v, vr, F1, F2, e1, rfl, o1, o2⟩ := ho
        injection e1 with e2 e3
        have e2' : y2 = v := e2
        subst e2' e3
        have h' : (List.lookup f ((y1, x) :: ns.zip xs)) = some d := h
        rw [List.lookup_cons] at h'
        cases hb : f == y1 with
        | true =>
          rw [hb] at h'
          cases h'
          exact ⟨y2, F1, by rw [List.lookup_cons, hb], o1, fun p hp => by simp [hp]⟩
        | false =>
          rw [hb] at h'
          obtain ⟨v, F, a1, a2, a3⟩ := ih hn2 o2 h'
          exact ⟨v, F, by rw [List.lookup_cons, hb]; exact a1, a2, fun p hp => by simp [a3 p hp]⟩
section
variable {K : PySem.W.Frag} {σ : L2.St} {H Hs : Hp} {ρ : Rho} {φ : Fp}
theorem tPl_of {i : Nat} (R : Rl K σ H Hs ρ φ) : ∀ {q : Path} {d : D}, FOk K q → PlD ρ i q d → ∃ v F, Ow K Hs H d v F ∧ (∀ p, p ∈ F → p ∈ φ i) ∧ (q = [] → σ[i]? = some (some v) ∧ F = φ i) ∧ ∀ Q : VK, Q v H → tPl K i q σ H Q
  | [], d, _, h => by
    rcases h with h | ⟨v, h⟩
    · obtain ⟨v, hv, ow⟩ := R.cell i _ h
      exact ⟨v, φ i, ow, fun _ hp => hp, fun _ => ⟨hv, rfl⟩, fun Q q => ⟨v, hv, q⟩⟩
    · obtain ⟨hv, ow⟩ := R.cell i _ h
      exact ⟨v, φ i, ow, fun _ hp => hp, fun _ => ⟨hv, rfl⟩, fun Q q => ⟨v, hv, q⟩⟩
  | (C, f) :: r, d, hf, h => by
    obtain ⟨ns, xs, h1, h2⟩ := h
    obtain ⟨v, F, ow, hF, _, hq⟩ := tPl_of R (fun c hc => hf c (List.mem_cons_of_mem _ hc)) h1
    obtain ⟨a, dx, fs, G, rfl, rfl, ha, _, hn, ho⟩ := ow
    obtain ⟨v', F', l1, o1, g1⟩ := ho.look hn h2
    refine ⟨v', F', o1, fun p hp => hF p (by simp [g1 p hp]), fun z => (by cases z), fun Q q => ?_⟩
    refine hq _ ⟨a, C, dx, fs, v', rfl, ha, (hf (C, f) List.mem_cons_self).1, (hf (C, f) List.mem_cons_self).2, l1, q⟩
end
section
variable {X : Cx} {O : Oc} {m m' : Bool} {a b : Expr} {pos : Pos} {wb : WE} {i : Nat} {q : Path} {g : D → D → (D → Prop) → Prop}
theorem pp_v (h : PE X a (tVar i)) : PE X a (tPl X.K i []) := h
/-- a place that holds a plain value -/
@[simp] def wPl (i : Nat) (q : Path) : WE := fun _ ρ P => ∃ d, PlD ρ i q d ∧ Fro d fun d => P d ρ
def fldV (H : Hp) (f : Str) (w : V) : V := match w with
  | .ref a => (match H a with
    | some (.ins _ _ fs) => (fs.lookup f).getD .non
    | _ => .non)
  | _ => .non
theorem fldV_of {H : Hp} {f : Str} {w v : V} {a C dx : Addr} {fs : List (Str × V)} (e1 : w = .ref a) (e2 : H a = some (.ins C dx fs)) (e3 : fs.lookup f = some v) : fldV H f w = v := by
  subst e1
  unfold fldV
  simp only [e2, e3, Option.getD_some]
/-- place op e; the e pure, or the place a slot -/
@[simp] def wOpP (g : D → D → (D → Prop) → Prop) (i : Nat) (q : Path) (wb : WE) : WE := fun xi ρ P => (∃ x, PlD ρ i q x) ∧ wb xi ρ fun y ρ1 => ∃ x, PlD ρ1 i q x ∧ g x y fun z => P z ρ1
theorem opTauP {r : R2} (hf : FOk X.K q) (hp : q = [] ∨ m = true)
    (hr : ∀ (σ : L2.St) (H Hs : Hp) (ρ : Rho) (φ : Fp) (x y : D) (vx vy : V) (F G : List Addr) (k : D → Prop) (Q : VK), Rl X.K σ H Hs ρ φ → Ow X.K Hs H x vx F → Ow X.K Hs H y vy G → g x y k → Fin X.K σ H Hs ρ φ k Q → r vx vy H Q)
    (σ : L2.St) (H : Hp) (Q : VK) (t : tauE X.K O m (wOpP g i q wb) σ H Q) : tOp r (tPl X.K i q) (tauE X.K O m wb) σ H Q := by
  obtain ⟨ρ, Hs, φ, P, R, S, ⟨⟨x0, h0⟩, hw⟩, hq⟩ := t
  obtain ⟨v, F, ow, hF, hv, go⟩ := tPl_of R hf h0
  refine go _ ?_
  refine tE R S hw fun y ρ2 v2 H2 Hs2 φ2 G2 p2 R2 S2 SO2 r2 f2 u2 => ?_
  obtain ⟨x, h1, h2⟩ := p2
  have key : ∃ F', Ow X.K Hs2 H2 x v F' := by
    rcases hp with hp | hp
    · subst hp
      obtain ⟨w, F', ow', _, hv', _⟩ := tPl_of R2 (q := []) (fun _ z => nomatch z) h1
      have e := (hv rfl).1.symm.trans (hv' rfl).1
      cases e
      exact ⟨F', ow'⟩
    · obtain ⟨rfl, rfl, hk⟩ := u2 hp
      have R3 := R.frame (H' := H2) (Hs' := Hs2) S2.e R2.ex hk fun i p hp => R2.hs i p hp
      obtain ⟨w, F', ow', hF', _, go'⟩ := tPl_of R hf h1
      -- the same place gives the same value
      obtain ⟨w1, e1⟩ : ∃ w1, ∀ Q : VK, tPl X.K i q σ H Q → Q w1 H := plv_det i q σ H
      have a1 : v = w1 := e1 (fun z _ => v = z) (go _ rfl)
      have a2 : w = w1 := e1 (fun z _ => w = z) (go' _ rfl)
      have a3 : w = v := a2.trans a1.symm
      subst a3
      exact ⟨F', ow'.frame S2.e x w F' fun p hp => hk i p (hF' p hp)⟩
  obtain ⟨F', ow'⟩ := key
  refine hr σ H2 Hs2 ρ2 φ2 x y v v2 F' G2 _ Q R2 ow' r2.ow h2 fun d w H' Hs' G' kd R' S' rs fr pu => ?_
  exact hq d ρ2 w H' Hs' φ2 G' kd R' (S2.trans S') rs (Frs.of S2 fr) (u2.thn pu)
where
  plv_det (i : Nat) : ∀ (q : Path) (σ : L2.St) (H : Hp), ∃ w, ∀ Q : VK, tPl X.K i q σ H Q → Q w H := by
    intro q
    induction q with
    | nil =>
      intro σ H
      cases e : σ[i]? with
      | none => exact ⟨.non, fun Q ⟨v, h, _⟩ => by rw [e] at h; cases h⟩
      | some o =>
        cases o with
        | none => exact ⟨.non, fun Q ⟨v, h, _⟩ => by rw [e] at h; cases h⟩
        | some u => exact ⟨u, fun Q ⟨v, h, k⟩ => by rw [e] at h; cases h; exact k⟩
    | cons c r ih =>
      intro σ H
      obtain ⟨w, hw⟩ := ih σ H
      refine ⟨fldV H c.2 w, fun Q h => ?_⟩
      obtain ⟨a, C, dx, fs, v, e1, e2, _, _, e3, k⟩ := hw _ h
      rw [fldV_of e1 e2 e3]
      exact k
theorem pd_ixP (h : PE X a (tPl X.K i q)) (hf : FOk X.K q) (hb : PE X b (tauE X.K O m wb)) (hs : PlainIx b) (hp : q = [] ∨ m = true := by first | exact .inl rfl | exact .inr rfl) : PE X (.Subscript a b pos) (tauE X.K O m (wOpP ixD i q wb)) :=
  PE_imp (pe_ix ix_U h hb hs) (opTauP hf hp fun σ H Hs ρ φ x y vx vy F G k Q R hx hy h fin => ix_core R hx hy h fin)
theorem pd_cmpP {op : CmpOp} (ho : OpD X (compareOp op) g) (h : PE X a (tPl X.K i q)) (hf : FOk X.K q) (hb : PE X b (tauE X.K O m wb)) (hm : behindInMarks op b = false) (hp : q = [] ∨ m = true := by first | exact .inl rfl | exact .inr rfl) :
    PE X (.Compare a [op] [b] pos) (tauE X.K O m (wOpP g i q wb)) := by
  obtain ⟨r, h1, h2⟩ := ho
  exact PE_imp (pe_cmpR h1 h hb hm) (opTauP hf hp h2)
theorem pt_cmpP {op : CmpOp} (ho : OpD X (compareOp op) g) (h : PE X a (tPl X.K i q)) (hf : FOk X.K q) (hb : PE X b (tauE X.K O m wb)) (hm : behindInMarks op b = false) (hp : q = [] ∨ m = true := by first | exact .inl rfl | exact .inr rfl) :
    PT X (.Compare a [op] [b] pos) (tauT X.K O m (wB (wOpP g i q wb))) := by
  obtain ⟨r, h1, h2⟩ := ho
  exact PT_imp (pt_cmpR h1 h hb hm) fun σ H Q t => opTauP hf hp h2 σ H _ (tB_of t)
end

/-! enumerate of a tuple -/
open AutoSeq1 (wpAny_loadPart')
theorem meets_enumT (l : Addr) (items : Array Value) (n : Nat) (dct : Option Addr) (sl : Array (Option Value)) :
    Meets (Builtin.«enumerate.__new__» ⟨[.type "enumerate", .ref l], []⟩) (fun _ R s => s.heap.get? l = some { cls := .type "tuple", dict := dct, data := .seq items n, slots := sl } ∧
      R (.ok (.ret (.ref (s.heap.push { cls := .type "tuple_iterator", data := .fields #[.ref l, .int 0 0] }).objs.size)))
        { s with heap := (s.heap.push { cls := .type "tuple_iterator", data := .fields #[.ref l, .int 0 0] }).push { cls := .type "enumerate", data := .fields #[.none, .bool false, .ref s.heap.objs.size, rawInt 0, .none, .none] } }) :=
  .of_wp fun prog w A R s h => by
    obtain ⟨hp, g, d, tk, os⟩ := s; obtain ⟨hl, h⟩ := h
    have hsub := sub_enumerate
    have hL : Heap.IsTuple (Shared.heap ⟨hp, g, d, tk, os⟩) l items := ⟨_, hl, rfl, n, rfl⟩
    wp_walk using wpAny_loadPart' hl
    refine wpAny_stack_any fun st => wpAny_pure ?_
    split
    · rename_i c _ _ _ _ _
      cases (c == Value.type "enumerate")
      · wp_walk using wpAny_loadPart' hl, wpAny_pyIter_tuple hL
        exact ⟨_, rfl, h⟩
      · wp_walk using wpAny_loadPart' hl, wpAny_pyIter_tuple hL
        exact ⟨_, rfl, h⟩
    · wp_walk using wpAny_loadPart' hl, wpAny_pyIter_tuple hL
      exact ⟨_, rfl, h⟩
section
variable {prog : Program} {w : World} {A : Around} {E : Value → Shared → Prop} {s : Shared}
theorem call_enumT {l : Addr} {items : Array Value} {Q : Value → Shared → Prop} (hL : s.heap.IsTuple l items)
    (h : ∀ h', IsEnum h' (s.heap.objs.size + 1) s.heap.objs.size 0 .none → h'.IsTupleIter s.heap.objs.size l 0 → h'.objs.size = s.heap.objs.size + 2 →
      (∀ b o, s.heap.get? b = some o → h'.get? b = some o) → Q (.ref (s.heap.objs.size + 1)) { s with heap := h' }) :
    wpAny (model prog w) A (call (.type "enumerate") [.ref l]) Q E s := by
  obtain ⟨⟨c, dct, dt, sl⟩, hl, hc, n, hd⟩ := hL
  replace hc : c = .type "tuple" := hc
  replace hd : dt = .seq items n := hd
  subst hc hd
  refine callType_new F.called_enumerate (by decide) (F.typeCall_enumerate_1 _) (F.newCall_enumerate_1 _) (fun obj => F.args_object_init_2 obj _) F.entry_enumerate_new
    (meets_enumT l items n dct sl) ⟨hl, ?_⟩
  have hz : (s.heap.push { cls := .type "tuple_iterator", data := .fields #[.ref l, .int 0 0] }).objs.size = s.heap.objs.size + 1 := Heap.size_push ..
  show _ ∧ _
  rw [hz]
  have he : IsEnum ((s.heap.push { cls := .type "tuple_iterator", data := .fields #[.ref l, .int 0 0] }).push
      { cls := .type "enumerate", data := .fields #[.none, .bool false, .ref s.heap.objs.size, rawInt 0, .none, .none] }) (s.heap.objs.size + 1) s.heap.objs.size 0 .none := by
    have := Heap.get?_push_size (s.heap.push { cls := .type "tuple_iterator", data := .fields #[.ref l, .int 0 0] })
      (o := { cls := .type "enumerate", data := .fields #[.none, .bool false, .ref s.heap.objs.size, rawInt 0, .none, .none] }) rfl
    rw [hz] at this; exact this
  refine ⟨⟨_, he, rfl⟩, h _ he ⟨_, Heap.get?_push_of_some _ (Heap.get?_push_size _ rfl), rfl, rfl⟩ (by rw [Heap.size_push, hz]) fun b o x => Heap.get?_push_of_some _ (Heap.get?_push_of_some _ x)⟩
end
def IteT (K : PySem.W.Frag) (a : Addr) : It :=
  ⟨fun i H => ∃ (xs : List V) (x : V), SqT K H a xs ∧ xs[i]? = some x, fun i H v H' => ∃ T x, v = .ref T ∧ H T = none ∧ H' = upd H T (.tup [.int (i : Nat), x]) ∧ ∀ xs, SqT K H a xs → xs[i]? = some x, fun i H => ∃ xs : List V, SqT K H a xs ∧ xs.length = i⟩
theorem turn_enumT {P : Program} {w : World} {K : PySem.W.Frag} {elts : List Expr} {kk : Nat} {tpos : Pos} (a e it : Addr) :
    Turn P w K (.Tuple elts kk tpos) (IteT K a) [e, it] e (fun i h => (∃ old, IsEnum h e it ((i : Nat) : Int) old) ∧ h.IsTupleIter it a i ∧ e ≠ it) where
  mem := by simp
  obj := fun i h st b hb => by
    obtain ⟨⟨old, he⟩, ⟨o, ho, hc, hd⟩, _⟩ := st
    have e' : b = e ∨ b = it := by simpa using hb
    rcases e' with z | z
    · rw [z]; exact ⟨_, he, fun v q => nomatch q⟩
    · rw [z]; exact ⟨o, ho, fun v q => by rw [hd] at q; cases q⟩
  keep := fun i h h' st k => let ⟨⟨old, he⟩, hi, hne⟩ := st; ⟨⟨old, k e (by simp) _ he⟩, hi.at fun o q => k it (by simp) o q, hne⟩
  item := by
    intro X hP hw hK hc i pins s σ H E I hf st hg
    subst hP hw hK
    obtain ⟨⟨old, he⟩, hit, hne⟩ := st
    obtain ⟨xs, x, hq, hx⟩ := hg
    obtain ⟨its, rv, p, hz⟩ := I.tuple hq
    obtain ⟨u, hu, ru⟩ := rv.get hx
    have ht : s.heap.IsTuple a its.toArray := p
    have hel : e < s.heap.objs.size := Heap.lt_size he
    have hil : it < s.heap.objs.size := by obtain ⟨_, q, _⟩ := hit; exact Heap.lt_size q
    have nea : e ≠ a := fun z => by
      obtain ⟨o, ho, hc', _⟩ := ht
      have he' : s.heap.get? e = some _ := he
      rw [z, ho] at he'
      have := Option.some.inj he'
      rw [this] at hc'
      have q : Value.type "enumerate" = Value.type "tuple" := hc'
      injection q with q
      exact absurd q (by decide)
    have nia : a ≠ it := fun z => by
      obtain ⟨o, ho, hc', _⟩ := ht
      obtain ⟨o2, ho2, hc2, _⟩ := hit
      rw [z, ho2] at ho
      have := Option.some.inj ho
      rw [← this, hc2] at hc'
      have q : Value.type "tuple_iterator" = Value.type "tuple" := hc'
      injection q with q
      exact absurd q (by decide)
    refine wpAny_pyNext_enum_itemD (Draws.tuple (A := X.A.in1) (I.ok.hd hc) it a nia its.toArray) he ⟨hit, ht⟩ (n := its.toArray.size) (by have := (List.getElem?_eq_some_iff.mp hu).1; simpa using this) hne (by simp [hne, nea]) fun u' h' tk hP ho hit' hT hsz hk => ?_
    have eu : u' = u := by
      have h1 : its[i]? = some u' := by simpa using hP
      rw [hu] at h1
      exact (Option.some.inj h1).symm
    subst eu
    refine ⟨_, rfl, wpAny_letOwnedTupleGo_enum (s := { s with heap := h', toks := tk + 1 }) ho fun h'' he' sb => ?_⟩
    have hT2 : h''.get? s.heap.objs.size = some { cls := .type "tuple", data := .seq #[.int i tk, u'] } := (sb.2 _ (Nat.ne_of_gt hel)).trans hT
    have new : ObjOk X.prog X.w (upd H s.heap.objs.size (.tup [.int (i : Nat), x])) h'' s.heap.objs.size (.tup [.int (i : Nat), x]) :=
      ⟨by show 2 ≤ sizeLine; decide, [.int i tk, u'], .cons ⟨_, rfl⟩ (.cons ru .nil), ⟨_, hT2, rfl, _, rfl⟩⟩
    have I1 : Inv X pins σ (upd H s.heap.objs.size (.tup [.int (i : Nat), x])) { s with heap := h'', toks := tk + 1 } :=
      I.turnedNew (ch := [e, it]) (fun b ob hb q => (sb.2 b (fun z => hb (by simp [z]))).trans (hk b ob (fun z => hb (by simp [z])) (fun z => hb (by simp [z])) q)) hf (Nat.le_refl _) new
    refine ⟨.ref s.heap.objs.size, _, I1, rfl, ⟨_, x, rfl, I.hok.fresh (Nat.le_refl _), rfl, fun ys hy => by rw [I.tuple_inj hy hq]; exact hx⟩, ⟨⟨u', ?_⟩, hit'.1.at fun o q => (sb.2 it (Ne.symm hne)).trans q, hne⟩, fun b hb => ?_⟩
    · have e1 : ((i + 1 : Nat) : Int) = (i : Int) + 1 := by omega
      rw [e1]; exact he'
    · have hb' : b < s.heap.objs.size := by
        have e' : b = e ∨ b = it := by simpa using hb
        rcases e' with z | z
        · rw [z]; exact hel
        · rw [z]; exact hil
      rw [upd_ne (Nat.ne_of_lt hb')]
      exact (hf b hb).1
  done := by
    intro X hP hw hK hc i pins s σ H E I hf st hg
    subst hP hw hK
    obtain ⟨⟨old, he⟩, hit, hne⟩ := st
    obtain ⟨xs, hq, hx⟩ := hg
    obtain ⟨its, rv, p, hz⟩ := I.tuple hq
    have ht : s.heap.IsTuple a its.toArray := p
    obtain ⟨f0, f1, f2, f3, f4, f5⟩ := hf it (by simp)
    have hl := rv.length
    have nia : a ≠ it := fun z => by
      obtain ⟨o, ho, hc', _⟩ := ht
      obtain ⟨o2, ho2, hc2, _⟩ := hit
      rw [z, ho2] at ho
      have := Option.some.inj ho
      rw [← this, hc2] at hc'
      have q : Value.type "tuple_iterator" = Value.type "tuple" := hc'
      injection q with q
      exact absurd q (by decide)
    have en : i = its.toArray.size := by rw [List.size_toArray, ← hl, hx]
    subst en
    exact wpAny_pyNext_enum_endD (Draws.tuple (A := X.A.in1) (I.ok.hd hc) it a nia its.toArray) he ⟨hit, ht⟩ fun h' eb => ⟨rfl, I.turned (t' := s.toks) (fun b o hb q => eb b o hb q) f0 f1 f3 f4 f5⟩
  self := fun A i s Q E st h => let ⟨⟨_, he⟩, _⟩ := st; wpAny_pyIter_enum he h
def iEnumT (K : PySem.W.Frag) (ta : TA) : TI := fun σ H R => ta σ H fun vs H1 => ∃ a xs, vs = [.ref a] ∧ ((SqL K H1 a xs ∧ R (Ite K a) H1) ∨ (SqT K H1 a xs ∧ R (IteT K a) H1))
theorem pi_enumT {X : Cx} {e : Expr} {ta : TA} {p pos tpos : Pos} {elts : List Expr} {kk : Nat} (hg : Gl X "enumerate") (hm : X.mg "enumerate" = none) (ha : PA X [e] ta) (hs : starEach [e] X.env = [(false, eval e X.env)] := by rfl) :
    PI X (.Tuple elts kk tpos) (.Call (.Name "enumerate" p) [e] [] pos) (iEnumT X.K ta) := by
  refine ⟨fun pins s σ H R I h => ?_⟩
  refine Call_ (ld_blt I hg hm boot_enumerate (PyProof.Rows.callWith_type1 (thn (ha.run pos pins s σ H _ I h) fun us s1 ⟨vs, H1, I1, r1, q1⟩ => ?_) hs rfl))
  obtain ⟨a, xs, ex, q1⟩ := q1
  subst ex
  have fpk : ∀ b ∈ [s1.heap.objs.size + 1, s1.heap.objs.size], FpOk X pins H1 b := fun b hb => by
    have e' : b = s1.heap.objs.size + 1 ∨ b = s1.heap.objs.size := by simpa using hb
    have hle : s1.heap.objs.size ≤ b := by
      rcases e' with z | z
      · rw [z]; exact Nat.le_add_right _ _
      · rw [z]; exact Nat.le_refl _
    exact I1.fpOk hle (I1.hok.fresh hle)
  cases r1 with
  | cons r rr =>
    cases rr
    cases r
    rcases q1 with ⟨hq, q⟩ | ⟨hq, q⟩
    · obtain ⟨its, rv, p', hz⟩ := I1.list hq
      refine call_enumerate_list p'.isList fun h' he hit hsz hk => wpAny_pyIter_enum he ?_
      have I2 : Inv X pins σ H1 { s1 with heap := h' } := I1.kept (t' := s1.toks) hk
      exact ⟨s1.heap.objs.size + 1, [s1.heap.objs.size + 1, s1.heap.objs.size], _, _, H1, rfl, I2, turn_enum a (s1.heap.objs.size + 1) s1.heap.objs.size, ⟨⟨.none, he⟩, hit, Nat.succ_ne_self _⟩, fpk, q⟩
    · obtain ⟨its, rv, p', hz⟩ := I1.tuple hq
      refine call_enumT (show s1.heap.IsTuple a its.toArray from p') fun h' he hit hsz hk => wpAny_pyIter_enum he ?_
      have I2 : Inv X pins σ H1 { s1 with heap := h' } := I1.kept (t' := s1.toks) hk
      exact ⟨s1.heap.objs.size + 1, [s1.heap.objs.size + 1, s1.heap.objs.size], _, _, H1, rfl, I2, turn_enumT a (s1.heap.objs.size + 1) s1.heap.objs.size, ⟨⟨.none, he⟩, hit, Nat.succ_ne_self _⟩, fpk, q⟩
/-! ### calls of built-ins with one thing, with some plain things -/
def Call1D (X : Cx) (f : Value) (g : D → (D → Prop) → Prop) : Prop :=
  ∃ r, CallR X f r ∧ ∀ (σ : L2.St) (H Hs : Hp) (ρ : Rho) (φ : Fp) (x : D) (v : V) (F : List Addr) (k : D → Prop) (Q : VK), Rl X.K σ H Hs ρ φ → Ow X.K Hs H x v F → g x k → Fin X.K σ H Hs ρ φ k Q → r [v] H Q
def CallD (X : Cx) (f : Value) (g : List D → (D → Prop) → Prop) : Prop :=
  ∃ r, CallR X f r ∧ ∀ (σ : L2.St) (H Hs : Hp) (ρ : Rho) (φ : Fp) (ds : List D) (vs : List V) (k : D → Prop) (Q : VK), Rl X.K σ H Hs ρ φ → IsA X.K Hs ds vs → g ds k → Fin X.K σ H Hs ρ φ k Q → r vs H Q
@[simp] def wCall1 (g : D → (D → Prop) → Prop) (wa : WE) : WE := fun xi ρ P => wa xi ρ fun x ρ1 => g x fun z => P z ρ1
@[simp] def wCall1P (g : D → (D → Prop) → Prop) (i : Nat) (q : Path) : WE := fun _ ρ P => ∃ x, PlD ρ i q x ∧ g x fun z => P z ρ
@[simp] def wCalls (g : List D → (D → Prop) → Prop) (wl : WL) : WE := fun xi ρ P => wl xi ρ fun ds ρ1 => g ds fun z => P z ρ1
section
variable {X : Cx} {O : Oc} {m : Bool} {e a : Expr} {es : List Expr} {pos p : Pos} {x : Str} {id T : String} {wa : WE} {wl : WL} {i : Nat} {q : Path} {g : D → (D → Prop) → Prop} {gl : List D → (D → Prop) → Prop}
theorem c1Tau {r : List V → Hp → VK → Prop}
    (hr : ∀ (σ : L2.St) (H Hs : Hp) (ρ : Rho) (φ : Fp) (x : D) (v : V) (F : List Addr) (k : D → Prop) (Q : VK), Rl X.K σ H Hs ρ φ → Ow X.K Hs H x v F → g x k → Fin X.K σ H Hs ρ φ k Q → r [v] H Q)
    (σ : L2.St) (H : Hp) (Q : VK) (t : tauE X.K O m (wCall1 g wa) σ H Q) : tCB r (tCons (tauE X.K O m wa) tNil) σ H Q := by
  obtain ⟨ρ, Hs, φ, P, R, S, hw, hq⟩ := t
  refine tE R S hw fun x ρ1 v1 H1 Hs1 φ1 G1 p1 R1 S1 SO1 r1 f1 u1 => ?_
  refine hr σ H1 Hs1 ρ1 φ1 x v1 G1 _ Q R1 r1.ow p1 fun d v H' Hs' G' kd R' S' rs fr pu => ?_
  exact hq d ρ1 v H' Hs' φ1 G' kd R' (S1.trans S') rs (Frs.of S1 fr) (u1.thn pu)
theorem c1TauP {r : List V → Hp → VK → Prop} (hf : FOk X.K q)
    (hr : ∀ (σ : L2.St) (H Hs : Hp) (ρ : Rho) (φ : Fp) (x : D) (v : V) (F : List Addr) (k : D → Prop) (Q : VK), Rl X.K σ H Hs ρ φ → Ow X.K Hs H x v F → g x k → Fin X.K σ H Hs ρ φ k Q → r [v] H Q)
    (σ : L2.St) (H : Hp) (Q : VK) (t : tauE X.K O true (wCall1P g i q) σ H Q) : tCB r (tCons (tPl X.K i q) tNil) σ H Q := by
  obtain ⟨ρ, Hs, φ, P, R, S, ⟨x, hx, hw⟩, hq⟩ := t
  obtain ⟨v, F, ow, _, _, go⟩ := tPl_of R hf hx
  refine go _ (hr σ H Hs ρ φ x v F _ Q R ow hw fun d v H' Hs' G' kd R' S' rs fr pu => ?_)
  exact hq d ρ v H' Hs' φ G' kd R' S' rs (fun p hp => .inl (fr p hp)) (Pur.of pu)
theorem csTau {r : List V → Hp → VK → Prop}
    (hr : ∀ (σ : L2.St) (H Hs : Hp) (ρ : Rho) (φ : Fp) (ds : List D) (vs : List V) (k : D → Prop) (Q : VK), Rl X.K σ H Hs ρ φ → IsA X.K Hs ds vs → gl ds k → Fin X.K σ H Hs ρ φ k Q → r vs H Q)
    (σ : L2.St) (H : Hp) (Q : VK) (t : tauE X.K O m (wCalls gl wl) σ H Q) : tCB r (tauL X.K O m wl) σ H Q := by
  obtain ⟨ρ, Hs, φ, P, R, S, hw, hq⟩ := t
  refine tL R S hw fun ds ρ1 vs H1 Hs1 φ1 p1 R1 S1 SO1 i1 u1 => ?_
  refine hr σ H1 Hs1 ρ1 φ1 ds vs _ Q R1 i1 p1 fun d v H' Hs' G' kd R' S' rs fr pu => ?_
  exact hq d ρ1 v H' Hs' φ1 G' kd R' (S1.trans S') rs (Frs.of S1 fr) (u1.thn pu)
theorem pd_b1 (hc : Call1D X (.builtin id) g) (hg : Gl X x) (hm : X.mg x = none) (hv : bootBuiltins x = some (.builtin id)) (ha : PE X e (tauE X.K O m wa)) (hn : x ≠ "__name__" := by decide) (hdb : (x == ("__debug__" : Str)) = false := by decide)
    (he : starEach [e] X.env = (false, eval e X.env) :: starEach [] X.env := by rfl) : PE X (.Call (.Name x p) [e] [] pos) (tauE X.K O m (wCall1 g wa)) := by
  obtain ⟨r, h1, h2⟩ := hc
  exact PE_imp (pe_callB h1 hg hm hv (pa_cons ha pa_nil he) hn hdb he) (c1Tau h2)
theorem pd_t1 (hc : Call1D X (.type T) g) (hg : Gl X x) (hm : X.mg x = none) (hv : bootBuiltins x = some (.type T)) (ha : PE X e (tauE X.K O m wa)) (hn : x ≠ "__name__" := by decide) (hdb : (x == ("__debug__" : Str)) = false := by decide)
    (he : starEach [e] X.env = (false, eval e X.env) :: starEach [] X.env := by rfl) : PE X (.Call (.Name x p) [e] [] pos) (tauE X.K O m (wCall1 g wa)) := by
  obtain ⟨r, h1, h2⟩ := hc
  exact PE_imp (pe_callTy h1 hg hm hv (pa_cons ha pa_nil he) hn hdb he) (c1Tau h2)
theorem pd_b1P (hc : Call1D X (.builtin id) g) (hg : Gl X x) (hm : X.mg x = none) (hv : bootBuiltins x = some (.builtin id)) (ha : PE X e (tPl X.K i q)) (hf : FOk X.K q) (hn : x ≠ "__name__" := by decide) (hdb : (x == ("__debug__" : Str)) = false := by decide)
    (he : starEach [e] X.env = (false, eval e X.env) :: starEach [] X.env := by rfl) : PE X (.Call (.Name x p) [e] [] pos) (tauE X.K O true (wCall1P g i q)) := by
  obtain ⟨r, h1, h2⟩ := hc
  exact PE_imp (pe_callB h1 hg hm hv (pa_cons ha pa_nil he) hn hdb he) (c1TauP hf h2)
theorem pd_t1P (hc : Call1D X (.type T) g) (hg : Gl X x) (hm : X.mg x = none) (hv : bootBuiltins x = some (.type T)) (ha : PE X e (tPl X.K i q)) (hf : FOk X.K q) (hn : x ≠ "__name__" := by decide) (hdb : (x == ("__debug__" : Str)) = false := by decide)
    (he : starEach [e] X.env = (false, eval e X.env) :: starEach [] X.env := by rfl) : PE X (.Call (.Name x p) [e] [] pos) (tauE X.K O true (wCall1P g i q)) := by
  obtain ⟨r, h1, h2⟩ := hc
  exact PE_imp (pe_callTy h1 hg hm hv (pa_cons ha pa_nil he) hn hdb he) (c1TauP hf h2)
theorem pd_bs (hc : CallD X (.builtin id) gl) (hg : Gl X x) (hm : X.mg x = none) (hv : bootBuiltins x = some (.builtin id)) (ha : PA X (e :: es) (tauL X.K O m wl)) (hn : x ≠ "__name__" := by decide) (hdb : (x == ("__debug__" : Str)) = false := by decide)
    (he : starEach (e :: es) X.env = (false, eval e X.env) :: starEach es X.env := by rfl) (hpl : (backTo pos (starEach es X.env)).any (·.1) = false := by rfl) : PE X (.Call (.Name x p) (e :: es) [] pos) (tauE X.K O m (wCalls gl wl)) := by
  obtain ⟨r, h1, h2⟩ := hc
  exact PE_imp (pe_callB h1 hg hm hv ha hn hdb he hpl) (csTau h2)
end
@[simp] def lenD (x : D) (k : D → Prop) : Prop := match x with
  | .str z => z.length ≤ 100000 ∧ k (.int z.length)
  | .byt ns => ns.length ≤ 100000 ∧ k (.int ns.length)
  | x => match seqOf x with
    | some xs => k (.int xs.length)
    | none => False
@[simp] def intsOf : List D → Option (List Int)
  | [] => some []
  | .int i :: r => (intsOf r).map (i :: ·)
  | _ :: _ => none
theorem intsOf_map : ∀ ns : List Int, intsOf (ns.map D.int) = some ns
  | [] => rfl
  | n :: r => by show (intsOf (r.map D.int)).map (n :: ·) = _; rw [intsOf_map r]; rfl
theorem intsOf_eq : ∀ {ds : List D} {ns : List Int}, intsOf ds = some ns → ds = ns.map D.int := by
  intro ds
  induction ds with
  | nil => intro ns h; cases Option.some.inj h; rfl
  | cons d r ih =>
    intro ns h
    cases d <;> first
      | (cases h; done)
      | skip
    rename_i i
    have h' : (intsOf r).map (i :: ·) = some ns := h
    cases e : intsOf r with
    | none => rw [e] at h'; cases h'
    | some q =>
      rw [e] at h'
      rw [← Option.some.inj h', ih e]
      rfl
@[simp] def intD (x : D) (k : D → Prop) : Prop := match x with
  | .int i => k (.int i)
  | .bl b => k (.int (if b then 1 else 0))
  | _ => False
@[simp] def tupleD (x : D) (k : D → Prop) : Prop := match x with
  | .tup xs => k (.tup xs)
  | .rl xs => k (.tup xs)
  | x => match lstOf x with
    | some xs => k (.tup xs)
    | none => False
@[simp] def listD (x : D) (k : D → Prop) : Prop := match x with
  | .byt ns => ns.length ≤ 100000 ∧ k (.ml (ns.map .int))
  | x => match seqOf x with
    | some xs => k (.ml xs)
    | none => False
@[simp] def bytesD (x : D) (k : D → Prop) : Prop := match x with
  | .byt ns => k (.byt ns)
  | x => match (lstOf x).bind intsOf with
    | some ns => B8 ns ∧ k (.byt ns)
    | none => False
@[simp] def sumD (x : D) (k : D → Prop) : Prop := match (lstOf x).bind intsOf with
  | some ns => k (.int ns.sum)
  | none => False
@[simp] def maxD (x : D) (k : D → Prop) : Prop := match (lstOf x).bind intsOf with
  | some ns => ns ≠ [] ∧ ∀ m, m ∈ ns → (∀ y, y ∈ ns → y ≤ m) → k (.int m)
  | none => False
@[simp] def minD (x : D) (k : D → Prop) : Prop := match (lstOf x).bind intsOf with
  | some ns => ns ≠ [] ∧ ∀ m, m ∈ ns → (∀ y, y ∈ ns → m ≤ y) → k (.int m)
  | none => False
@[simp] def max2D (ds : List D) (k : D → Prop) : Prop := match ds with
  | [.int i, .int j] => k (.int (if j > i then j else i))
  | _ => False
@[simp] def min2D (ds : List D) (k : D → Prop) : Prop := match ds with
  | [.int i, .int j] => k (.int (if j < i then j else i))
  | _ => False
section
variable {X : Cx}
theorem cd_len : Call1D X (.builtin "len") lenD := by
  refine ⟨_, call_len, fun σ H Hs ρ φ x v F k Q R hx h fin => ?_⟩
  unfold lenD at h
  split at h
  · rename_i z
    exact ⟨v, z.length, rfl, by rw [hx.2]; exact ⟨sz h.1, rfl⟩, fin.pure R h.2 rfl⟩
  · rename_i ns
    exact ⟨v, ns.length, rfl, by rw [hx.2.1]; exact ⟨by rw [byteArr_len]; exact sz h.1, (byteArr_len ns).symm⟩, fin.pure R h.2 rfl⟩
  · split at h
    · rename_i xs e
      obtain ⟨p, vs, rfl, t, c⟩ := hx.seqD R.ex e
      refine ⟨_, xs.length, rfl, ?_, fin.pure R h rfl⟩
      rcases t with t | t
      · exact .inl ⟨vs, t, c.len.symm⟩
      · exact .inr ⟨vs, t, c.len.symm⟩
    · exact h.elim
theorem cd_int : Call1D X (.type "int") intD := by
  refine ⟨_, call_int1, fun σ H Hs ρ φ x v F k Q R hx h fin => ?_⟩
  unfold intD at h
  split at h
  · rename_i i
    exact .inl ⟨i, by rw [hx.2], fin.pure R h rfl⟩
  · rename_i b
    exact .inr ⟨b, by rw [hx.2], fin.pure R h rfl⟩
  · exact h.elim
theorem cd_tuple : Call1D X (.type "tuple") tupleD := by
  refine ⟨_, call_tuple_of, fun σ H Hs ρ φ x v F k Q R hx h fin => ?_⟩
  unfold tupleD at h
  split at h
  · rename_i xs
    obtain ⟨_, p, vs, rfl, t, c⟩ := id hx
    exact ⟨p, vs, rfl, .inr ⟨Evl.ex_t R.ex t, fin.pure R h hx.2⟩⟩
  · rename_i xs
    obtain ⟨_, p, vs, rfl, t, c⟩ := id hx
    exact ⟨p, vs, rfl, .inl ⟨Evl.ex_l R.ex t, fin.tup R h c⟩⟩
  · split at h
    · rename_i xs e
      obtain ⟨p, vs, rfl, t, c⟩ := hx.lstD R.ex e
      exact ⟨p, vs, rfl, .inl ⟨SqL.of t, fin.tup R h c⟩⟩
    · exact h.elim
theorem cd_list (hc : X.calm = true) : Call1D X (.type "list") listD := by
  refine ⟨_, call_list_of.or (call_r1 (rl_listB hc)), fun σ H Hs ρ φ x v F k Q R hx h fin => ?_⟩
  unfold listD at h
  split at h
  · rename_i ns
    refine .inr ?_
    show kLstB v H Q
    rw [hx.2.1]
    refine ⟨_, rfl, by rw [byteArr_len]; exact sz h.1, ?_⟩
    rw [bi_make hx.2.2]
    exact fin.lst R h.2 (IsA.ints ns)
  · split at h
    · rename_i xs e
      obtain ⟨p, vs, rfl, t, c⟩ := hx.seqD R.ex e
      exact .inl ⟨p, vs, rfl, t, fin.lst R h c⟩
    · exact h.elim
theorem ints_at {K : PySem.W.Frag} {Hs H : Hp} (ex : Ex Hs H) {x : D} {v : V} {F : List Addr} {ns : List Int} (hx : Ow K Hs H x v F) (e : (lstOf x).bind intsOf = some ns) : ∃ p, v = .ref p ∧ SqL K H p (ns.map V.int) := by
  obtain ⟨xs, e1, e2⟩ := Option.bind_eq_some_iff.mp e
  obtain ⟨p, vs, rfl, t, c⟩ := hx.lstD ex e1
  rw [intsOf_eq e2] at c
  exact ⟨p, rfl, SqL.of (by rw [t, c.ints_inv])⟩
theorem cd_bytes (hc : X.calm = true) : Call1D X (.type "bytes") bytesD := by
  refine ⟨_, call_r1 (rl_bytes hc), fun σ H Hs ρ φ x v F k Q R hx h fin => ?_⟩
  show kByts X.K v H Q
  unfold bytesD at h
  split at h
  · rename_i ns
    exact .inl ⟨_, hx.2.1, fin.pure (d := .byt ns) R h ⟨rfl, hx.2.2⟩⟩
  · split at h
    · rename_i ns e
      obtain ⟨p, rfl, t⟩ := ints_at R.ex hx e
      exact .inr ⟨p, ns, rfl, t, h.1, fin.pure (d := .byt ns) R h.2 ⟨rfl, h.1⟩⟩
    · exact h.elim
theorem cd_max (hc : X.calm = true) : Call1D X (.builtin "max") maxD := by
  refine ⟨_, cr_max hc, fun σ H Hs ρ φ x v F k Q R hx h fin => ?_⟩
  unfold maxD at h
  split at h
  · rename_i ns e
    obtain ⟨p, rfl, t⟩ := ints_at R.ex hx e
    exact ⟨p, ns, rfl, t, List.length_pos_iff.mpr h.1, fun m h1 h2 => fin.pure R (h.2 m h1 h2) rfl⟩
  · exact h.elim
theorem cd_min2 (hc : X.calm = true) : CallD X (.builtin "min") min2D := by
  refine ⟨_, call_min2 hc, fun σ H Hs ρ φ ds vs k Q R hx h fin => ?_⟩
  unfold min2D at h
  split at h
  · rename_i i j
    obtain ⟨v, r, rfl, e1, w, r2, rfl, e2, e3⟩ := hx
    have e1' : v = .int i := e1
    have e2' : w = .int j := e2
    have e3' : r2 = [] := e3
    subst e1' e2' e3'
    exact ⟨i, j, rfl, fin.pure R h rfl⟩
  · exact h.elim
end
/-! ### targets -/
inductive Pat where
  | nm (i : Nat)
  | tp (ps : List Pat)
mutual
@[simp] def Pat.asg : Pat → D → Rho → Option Rho
  | .nm i, d, ρ => some (ρ.set i (.vl d))
  | .tp ps, d, ρ => match d with
    | .tup ds => Pat.asgs ps ds ρ
    | _ => none
@[simp] def Pat.asgs : List Pat → List D → Rho → Option Rho
  | [], [], ρ => some ρ
  | p :: ps, d :: ds, ρ => (Pat.asg p d ρ).bind (Pat.asgs ps ds)
  | _, _, _ => none
@[simp] def Pat.slots : Pat → List Nat
  | .nm i => [i]
  | .tp ps => Pat.slotss ps
@[simp] def Pat.slotss : List Pat → List Nat
  | [] => []
  | p :: ps => Pat.slots p ++ Pat.slotss ps
end
def AgP (is : List Nat) (σ σ' : L2.St) : Prop := σ'.length = σ.length ∧ ∀ i, i ∉ is → σ'[i]? = σ[i]?
def tauG (K : PySem.W.Frag) (p : Pat) : TG := fun v σ H Q => ∃ ρ Hs φ d ρ', Rl K σ H Hs ρ φ ∧ Is K Hs d v ∧ p.asg d ρ = some ρ' ∧ ∀ σ' φ', Rl K σ' H Hs ρ' φ' → Step H Hs φ H Hs φ' → AgP p.slots σ σ' → Q σ' H
def tauGs (K : PySem.W.Frag) (ps : List Pat) : TGs := fun vs σ H Q => ∃ ρ Hs φ ds ρ', Rl K σ H Hs ρ φ ∧ IsA K Hs ds vs ∧ Pat.asgs ps ds ρ = some ρ' ∧ ∀ σ' φ', Rl K σ' H Hs ρ' φ' → Step H Hs φ H Hs φ' → AgP (Pat.slotss ps) σ σ' → Q σ' H
theorem PG_imp {X : Cx} {e : Expr} {t t' : TG} (h : PG X e t) (k : ∀ v σ H Q, t' v σ H Q → t v σ H Q) : PG X e t' := ⟨fun pins s σ H v u Q I r q => h.run pins s σ H v u Q I r (k v σ H Q q)⟩
theorem PGs_imp {X : Cx} {e : List Expr} {t t' : TGs} (h : PGs X e t) (k : ∀ v σ H Q, t' v σ H Q → t v σ H Q) : PGs X e t' := ⟨fun pins s σ H v u Q I r q => h.run pins s σ H v u Q I r (k v σ H Q q)⟩
section
variable {K : PySem.W.Frag} {σ : L2.St} {H Hs : Hp} {ρ : Rho} {φ : Fp}
/-- a slot is filled, or it isn't there -/
theorem Rl.fill (R : Rl K σ H Hs ρ φ) {i : Nat} {d : D} {v : V} {G : List Addr} (r : Res K H Hs φ d v G) : ∃ φ', Rl K (σ.set i (some v)) H Hs (ρ.set i (.vl d)) φ' ∧ ∀ j p, p ∈ φ' j → (∃ j, p ∈ φ j) ∨ p ∈ G := by
  by_cases hi : i < ρ.length
  · refine ⟨_, R.put (c := .vl d) (F := G) (v? := some v) hi ⟨v, rfl, r.ow⟩ (fun p hp => ⟨r.hs p hp, r.ow.nn d v G p hp, fun j _ => r.dj p hp j⟩) r.nd, fun j p hp => ?_⟩
    by_cases e : j = i
    · subst e; rw [putF_same] at hp; exact .inr hp
    · rw [putF_ne e] at hp; exact .inl ⟨j, hp⟩
  · have e1 : ρ.set i (.vl d) = ρ := List.set_eq_of_length_le (by omega)
    have e2 : σ.set i (some v) = σ := List.set_eq_of_length_le (by rw [← R.len]; omega)
    rw [e1, e2]
    exact ⟨φ, R, fun j p hp => .inl ⟨j, hp⟩⟩
theorem Step.of_sub {H Hs : Hp} {φ φ' : Fp} (h : ∀ j p, p ∈ φ' j → ∃ j, p ∈ φ j) : Step H Hs φ H Hs φ' := .mk' (Ex.refl _) (fun _ _ h _ => h) (fun _ _ h _ => h) (fun j p hp => .inl (h j p hp)) (fun _ h => h)
end
section
variable {X : Cx} {pos : Pos} {e : Expr} {es : List Expr} {p : Pat} {ps : List Pat}
theorem pgd_name {i : Nat} (h : PG X e (gName i)) : PG X e (tauG X.K (.nm i)) := PG_imp h fun v σ H Q q => by
  obtain ⟨ρ, Hs, φ, d, ρ', R, hi, ha, hq⟩ := q
  cases Option.some.inj ha
  obtain ⟨φ', R', hf⟩ := R.fill (i := i) (Res.of (H := H) (φ := φ) hi)
  refine hq _ φ' R' (Step.of_sub fun j p hp => (hf j p hp).elim id fun z => nomatch z) ⟨by simp, fun j hj => ?_⟩
  rw [List.getElem?_set_ne (fun z => hj (by rw [← z]; exact List.mem_singleton.mpr rfl))]
theorem pgds_nil : PGs X [] (tauGs X.K []) := PGs_imp pgs_nil fun vs σ H Q q => by
  obtain ⟨ρ, Hs, φ, ds, ρ', R, hi, ha, hq⟩ := q
  cases ds with
  | nil =>
    cases Option.some.inj ha
    exact ⟨hi, hq σ φ R (Step.refl _ _ _) ⟨rfl, fun _ _ => rfl⟩⟩
  | cons d r => cases ha
theorem pgds_cons (h1 : PG X e (tauG X.K p)) (h2 : PGs X es (tauGs X.K ps)) (hs : (assignEach (e :: es) X.env).map (·.2) = assign e X.env :: (assignEach es X.env).map (·.2) := by rfl) : PGs X (e :: es) (tauGs X.K (p :: ps)) :=
  PGs_imp (pgs_cons h1 h2 hs) fun vs σ H Q q => by
    obtain ⟨ρ, Hs, φ, ds, ρ', R, hi, ha, hq⟩ := q
    cases ds with
    | nil => cases ha
    | cons d r =>
      obtain ⟨v, vr, rfl, i1, i2⟩ := hi
      have ha' : (p.asg d ρ).bind (Pat.asgs ps r) = some ρ' := ha
      obtain ⟨ρ1, a1, a2⟩ := Option.bind_eq_some_iff.mp ha'
      refine ⟨v, vr, rfl, ρ, Hs, φ, d, ρ1, R, i1, a1, fun σ1 φ1 R1 S1 A1 => ?_⟩
      refine ⟨ρ1, Hs, φ1, r, ρ', R1, i2, a2, fun σ2 φ2 R2 S2 A2 => ?_⟩
      refine hq σ2 φ2 R2 (S1.trans S2) ⟨A2.1.trans A1.1, fun j hj => ?_⟩
      have hj' : j ∉ p.slots ++ Pat.slotss ps := hj
      rw [A2.2 j (fun z => hj' (List.mem_append_right _ z)), A1.2 j (fun z => hj' (List.mem_append_left _ z))]
theorem asgs_len : ∀ {ps : List Pat} {ds : List D} {ρ ρ' : Rho}, Pat.asgs ps ds ρ = some ρ' → ds.length = ps.length := by
  intro ps
  induction ps with
  | nil => intro ds ρ ρ' h; cases ds with
    | nil => rfl
    | cons d r => cases h
  | cons p ps ih => intro ds ρ ρ' h; cases ds with
    | nil => cases h
    | cons d r =>
      have h' : (p.asg d ρ).bind (Pat.asgs ps r) = some ρ' := h
      obtain ⟨ρ1, a1, a2⟩ := Option.bind_eq_some_iff.mp h'
      simp [ih a2]
theorem pgd_tup {k : Nat} (hc : X.calm = true) (h : PGs X es (tauGs X.K ps)) (hn : (assignEach es X.env).length = ps.length := by rfl) (hst : (assignEach es X.env).findIdx? (·.1) = none := by rfl) :
    PG X (.Tuple es k pos) (tauG X.K (.tp ps)) := PG_imp (pg_tup hc h hn hst) fun v σ H Q q => by
  obtain ⟨ρ, Hs, φ, d, ρ', R, hi, ha, hq⟩ := q
  cases d <;> first
    | (cases ha; done)
    | skip
  rename_i ds
  obtain ⟨a, vs, rfl, t, c⟩ := hi
  have ha' : Pat.asgs ps ds ρ = some ρ' := ha
  exact ⟨a, vs, rfl, Evl.ex_t R.ex t, by rw [c.len, asgs_len ha'], ρ, Hs, φ, ds, ρ', R, c, ha', hq⟩
end

/-! ### what is walked -/
abbrev WI := Xi → Rho → (List D → Rho → Prop) → Prop
/-- J walks ds: each item in the heap as it stands, or a new tuple -/
structure WalkD (K : PySem.W.Frag) (J : It) (H0 Hs0 : Hp) (ds : List D) : Prop where
  go : ∀ i H Hs, i < ds.length → Ex Hs0 Hs → Ex Hs H → J.go i H
  stop : ∀ H Hs, Ex Hs0 Hs → Ex Hs H → J.stop ds.length H
  yld : ∀ i H Hs x H', i < ds.length → Ex Hs0 Hs → Ex Hs H → J.yld i H x H' → ∃ d, ds[i]? = some d ∧ ((H' = H ∧ Is K Hs d x) ∨ ∃ p o, H p = none ∧ H' = upd H p o ∧ Is K (upd Hs p o) d x)
def tauI (K : PySem.W.Frag) (O : Oc) (m : Bool) (w : WI) : TI := fun σ H R => ∃ ρ Hs φ P, Rl K σ H Hs ρ φ ∧ Step O.H O.Hs O.fp H Hs φ ∧ w O.xi ρ P ∧
  ∀ ds ρ' H' Hs' φ' J, P ds ρ' → Rl K σ H' Hs' ρ' φ' → Step H Hs φ H' Hs' φ' → WalkD K J H' Hs' ds → Pur m ρ ρ' φ φ' H H' → R J H'
theorem PI_imp {X : Cx} {tg e : Expr} {t t' : TI} (h : PI X tg e t) (k : ∀ σ H Q, t' σ H Q → t σ H Q) : PI X tg e t' := ⟨fun pins s σ H Q I q => h.run pins s σ H Q I (k σ H Q q)⟩
section
variable {K : PySem.W.Frag} {H Hs : Hp} {ds : List D} {vs : List V} {a : Addr}
theorem get_lt {α : Type} {l : List α} {i : Nat} (h : i < l.length) : ∃ x, l[i]? = some x := ⟨l[i], List.getElem?_eq_getElem h⟩
theorem walkD_list (ex : Ex Hs H) (hs : Hs a = some (.lst vs) ∨ (SqL K Hs a vs)) (c : IsA K Hs ds vs) : WalkD K (Itl K a) H Hs ds := by
  have sq : ∀ H1 Hs1, Ex Hs Hs1 → Ex Hs1 H1 → SqL K H1 a vs := fun H1 Hs1 e1 e2 => by
    rcases hs with h | h
    · exact SqL.of (e2 _ _ (e1 _ _ h))
    · exact Evl.ex_l e2 (Evl.ex_l e1 h)
  refine ⟨fun i H1 Hs1 hi e1 e2 => ?_, fun H1 Hs1 e1 e2 => ⟨vs, sq H1 Hs1 e1 e2, by rw [c.len]; exact Nat.le_refl _⟩, fun i H1 Hs1 x H' hi e1 e2 y => ?_⟩
  · obtain ⟨v, hv⟩ := get_lt (l := vs) (i := i) (by rw [c.len]; exact hi)
    exact ⟨vs, v, sq H1 Hs1 e1 e2, hv⟩
  · obtain ⟨d, hd⟩ := get_lt hi
    obtain ⟨v, hv, i1⟩ := c.get hd
    obtain ⟨rfl, y⟩ := y
    have e := y vs (sq _ _ e1 e2)
    rw [hv] at e
    cases e
    exact ⟨d, hd, .inl ⟨rfl, i1.mono e1 d _⟩⟩
theorem walkD_tup (ex : Ex Hs H) (hs : SqT K Hs a vs) (c : IsA K Hs ds vs) : WalkD K (Itt K a) H Hs ds := by
  have sq : ∀ H1 Hs1, Ex Hs Hs1 → Ex Hs1 H1 → SqT K H1 a vs := fun H1 Hs1 e1 e2 => Evl.ex_t e2 (Evl.ex_t e1 hs)
  refine ⟨fun i H1 Hs1 hi e1 e2 => ?_, fun H1 Hs1 e1 e2 => ⟨vs, sq H1 Hs1 e1 e2, by rw [c.len]; exact Nat.le_refl _⟩, fun i H1 Hs1 x H' hi e1 e2 y => ?_⟩
  · obtain ⟨v, hv⟩ := get_lt (l := vs) (i := i) (by rw [c.len]; exact hi)
    exact ⟨vs, v, sq H1 Hs1 e1 e2, hv⟩
  · obtain ⟨d, hd⟩ := get_lt hi
    obtain ⟨v, hv, i1⟩ := c.get hd
    obtain ⟨rfl, y⟩ := y
    have e := y vs (sq _ _ e1 e2)
    rw [hv] at e
    cases e
    exact ⟨d, hd, .inl ⟨rfl, i1.mono e1 d _⟩⟩
def rangeL (lo : Int) (n : Nat) : List D := (List.range n).map fun i : Nat => .int (lo + i)
theorem walkD_range {lo : Int} {n : Nat} : WalkD K (Itr lo n) H Hs (rangeL lo n) := by
  have hl : (rangeL lo n).length = n := by simp [rangeL]
  refine ⟨fun i H1 Hs1 hi _ _ => by rw [hl] at hi; exact hi, fun H1 Hs1 _ _ => by rw [hl]; exact Nat.le_refl _, fun i H1 Hs1 x H' hi e1 e2 y => ?_⟩
  rw [hl] at hi
  obtain ⟨rfl, rfl⟩ := y
  exact ⟨.int (lo + i), by simp [rangeL, hi], .inl ⟨rfl, rfl⟩⟩
theorem walkD_byt {ns : List Int} (b : B8 ns) : WalkD K (Itb (byteArr ns)) H Hs (ns.map D.int) := by
  have hl : (ns.map D.int).length = ns.length := by simp
  refine ⟨fun i H1 Hs1 hi _ _ => ?_, fun H1 Hs1 _ _ => ?_, fun i H1 Hs1 x H' hi e1 e2 y => ?_⟩
  · rw [hl] at hi
    show i < (byteArr ns).size
    rw [byteArr_len]; exact hi
  · rw [hl]
    show (byteArr ns).size ≤ ns.length
    rw [byteArr_len]; exact Nat.le_refl _
  · rw [hl] at hi
    obtain ⟨rfl, c, hc, rfl⟩ := (show H' = H1 ∧ ∃ c, (byteArr ns)[i]? = some c ∧ x = .int ((c.toNat : Nat) : Int) from y)
    obtain ⟨n, hn⟩ := get_lt hi
    refine ⟨.int n, by simp [hn], .inl ⟨rfl, ?_⟩⟩
    have e : (byteArr ns)[i]? = some n.toNat.toUInt8 := by simp [byteArr, hn]
    rw [e] at hc
    cases hc
    have hb := b n (List.mem_of_getElem? hn)
    show V.int _ = V.int n
    rw [PySem.W.byte_back hb.1 hb.2]
theorem walkD_enum (ex : Ex Hs H) (hs : Hs a = some (.lst vs) ∨ SqL K Hs a vs) (c : IsA K Hs ds vs) : WalkD K (Ite K a) H Hs (ds.zipIdx.map fun p => .tup [.int (p.2 : Nat), p.1]) := by
  have sq : ∀ H1 Hs1, Ex Hs Hs1 → Ex Hs1 H1 → SqL K H1 a vs := fun H1 Hs1 e1 e2 => by
    rcases hs with h | h
    · exact SqL.of (e2 _ _ (e1 _ _ h))
    · exact Evl.ex_l e2 (Evl.ex_l e1 h)
  have hl : (ds.zipIdx.map fun p => D.tup [.int (p.2 : Nat), p.1]).length = ds.length := by simp
  refine ⟨fun i H1 Hs1 hi e1 e2 => ?_, fun H1 Hs1 e1 e2 => ⟨vs, sq H1 Hs1 e1 e2, by rw [hl, c.len]; exact Nat.le_refl _⟩, fun i H1 Hs1 x H' hi e1 e2 y => ?_⟩
  · rw [hl] at hi
    obtain ⟨v, hv⟩ := get_lt (l := vs) (i := i) (by rw [c.len]; exact hi)
    exact ⟨vs, v, sq H1 Hs1 e1 e2, hv⟩
  · rw [hl] at hi
    obtain ⟨d, hd⟩ := get_lt hi
    obtain ⟨v, hv, i1⟩ := c.get hd
    obtain ⟨T, z, rfl, hT, rfl, y⟩ := y
    have e := y vs (sq _ _ e1 e2)
    rw [hv] at e
    cases e
    have hn : Hs1 T = none := by
      cases q : Hs1 T with
      | none => rfl
      | some o => rw [e2 _ _ q] at hT; cases hT
    refine ⟨.tup [.int (i : Nat), d], by simp [hd], .inr ⟨T, _, hT, rfl, T, _, rfl, SqT.of upd_same, .cons rfl (.one ?_)⟩⟩
    exact Is.mono (Ex.new hn) d v (i1.mono e1 d v)
theorem walkD_enumT (ex : Ex Hs H) (hs : SqT K Hs a vs) (c : IsA K Hs ds vs) : WalkD K (IteT K a) H Hs (ds.zipIdx.map fun p => .tup [.int (p.2 : Nat), p.1]) := by
  have sq : ∀ H1 Hs1, Ex Hs Hs1 → Ex Hs1 H1 → SqT K H1 a vs := fun H1 Hs1 e1 e2 => Evl.ex_t e2 (Evl.ex_t e1 hs)
  have hl : (ds.zipIdx.map fun p => D.tup [.int (p.2 : Nat), p.1]).length = ds.length := by simp
  refine ⟨fun i H1 Hs1 hi e1 e2 => ?_, fun H1 Hs1 e1 e2 => ⟨vs, sq H1 Hs1 e1 e2, by rw [hl, c.len]⟩, fun i H1 Hs1 x H' hi e1 e2 y => ?_⟩
  · rw [hl] at hi
    obtain ⟨v, hv⟩ := get_lt (l := vs) (i := i) (by rw [c.len]; exact hi)
    exact ⟨vs, v, sq H1 Hs1 e1 e2, hv⟩
  · rw [hl] at hi
    obtain ⟨d, hd⟩ := get_lt hi
    obtain ⟨v, hv, i1⟩ := c.get hd
    obtain ⟨T, z, rfl, hT, rfl, y⟩ := y
    have e := y vs (sq _ _ e1 e2)
    rw [hv] at e
    cases e
    have hn : Hs1 T = none := by
      cases q : Hs1 T with
      | none => rfl
      | some o => rw [e2 _ _ q] at hT; cases hT
    refine ⟨.tup [.int (i : Nat), d], by simp [hd], .inr ⟨T, _, hT, rfl, T, _, rfl, SqT.of upd_same, .cons rfl (.one ?_)⟩⟩
    exact Is.mono (Ex.new hn) d v (i1.mono e1 d v)
end
/-- the items of a plain value -/
@[simp] def itemsD : D → Option (List D)
  | .lst xs => some xs
  | .rl xs => some xs
  | .tup xs => some xs
  | .byt ns => some (ns.map .int)
  | _ => none
@[simp] def wIt (w : WE) : WI := fun xi ρ P => w xi ρ fun d ρ1 => Fz d fun d => match itemsD d with
  | some ds => P ds ρ1
  | none => False
@[simp] def wRng1 (w : WL) : WI := fun xi ρ P => w xi ρ fun ds ρ1 => match ds with
  | [.int n] => (-1000000000000 ≤ n ∧ n ≤ 1000000000000) ∧ P (rangeL 0 n.toNat) ρ1
  | _ => False
@[simp] def wRng2 (w : WL) : WI := fun xi ρ P => w xi ρ fun ds ρ1 => match ds with
  | [.int a, .int b] => (-1000000000000 ≤ a ∧ a ≤ 1000000000000 ∧ -1000000000000 ≤ b ∧ b ≤ 1000000000000) ∧ P (rangeL a (b - a).toNat) ρ1
  | _ => False
@[simp] def wEnum (w : WL) : WI := fun xi ρ P => w xi ρ fun ds ρ1 => match ds with
  | [d] => match seqOf d with
    | some xs => P (xs.zipIdx.map fun p => .tup [.int (p.2 : Nat), p.1]) ρ1
    | none => False
  | _ => False
section
variable {X : Cx} {O : Oc} {m : Bool} {e tg a b : Expr} {pos p : Pos} {we : WE} {wl : WL}
/-- a list, a tuple, bytes: whichever it is -/
def iU (K : PySem.W.Frag) (te : TE) : TI := fun σ H R => te σ H fun x H1 => (∃ a xs, x = .ref a ∧ SqL K H1 a xs ∧ R (Itl K a) H1) ∨ (∃ a xs, x = .ref a ∧ SqT K H1 a xs ∧ R (Itt K a) H1) ∨ ∃ y, x = .byt y ∧ R (Itb y) H1
theorem pi_U {te : TE} (he : PE X e te) : PI X tg e (iU X.K te) := by
  refine ⟨fun pins s σ H R I h => ?_⟩
  refine thn (he.run pins s σ H _ I h) fun v s1 ⟨x, H1, I1, r1, q1⟩ => ?_
  have fpk : ∀ b ∈ [s1.heap.objs.size], FpOk X pins H1 b := fun b hb => by
    have e : b = s1.heap.objs.size := by simpa using hb
    subst e
    exact I1.fpOk (Nat.le_refl _) (I1.hok.fresh (Nat.le_refl _))
  rcases q1 with ⟨a, xs, rfl, hq, q⟩ | ⟨a, xs, rfl, hq, q⟩ | ⟨y, rfl, q⟩
  · cases r1
    obtain ⟨its, rv, p, hz⟩ := I1.list hq
    exact wpAny_pyIter_list p.isList ⟨s1.heap.objs.size, [s1.heap.objs.size], _, _, H1, rfl, I1.kept (t' := s1.toks) fun b o e => Heap.get?_push_of_some _ e, turn_list a _, ⟨_, Heap.get?_push_size _ rfl, rfl, rfl⟩, fpk, q⟩
  · cases r1
    obtain ⟨its, rv, p, hz⟩ := I1.tuple hq
    exact wpAny_pyIter_tuple (show s1.heap.IsTuple a its.toArray from p) ⟨s1.heap.objs.size, [s1.heap.objs.size], _, _, H1, rfl, I1.kept (t' := s1.toks) fun b o e => Heap.get?_push_of_some _ e, turn_tuple a _, ⟨_, Heap.get?_push_size _ rfl, rfl, rfl⟩, fpk, q⟩
  · obtain ⟨t, rfl⟩ := r1
    exact PySem.W.KBw.pyIter_bytes (pi_one (tk := s1.toks) I1 _ (turn_byt _ y t) ⟨_, Heap.get?_push_size _ rfl, rfl, rfl⟩ q)
theorem pid_it (he : PE X e (tauE X.K O m we)) : PI X tg e (tauI X.K O m (wIt we)) := PI_imp (pi_U he) fun σ H R q => by
  obtain ⟨ρ, Hs, φ, P, R0, S, hw, hq⟩ := q
  refine tF R0 S hw fun d ρ1 v1 H1 Hs1 φ1 p1 R1 S1 SO1 i1 u1 => ?_
  cases d <;> first
    | exact (show False from p1).elim
    | skip
  case lst xs =>
    obtain ⟨a, vs, rfl, h1, c⟩ := i1
    exact .inl ⟨a, vs, rfl, SqL.of (R1.ex _ _ h1), hq _ ρ1 H1 Hs1 φ1 _ p1 R1 S1 (walkD_list R1.ex (.inl h1) c) u1⟩
  case rl xs =>
    obtain ⟨a, vs, rfl, h1, c⟩ := i1
    exact .inl ⟨a, vs, rfl, Evl.ex_l R1.ex h1, hq _ ρ1 H1 Hs1 φ1 _ p1 R1 S1 (walkD_list R1.ex (.inr h1) c) u1⟩
  case tup xs =>
    obtain ⟨a, vs, rfl, h1, c⟩ := i1
    exact .inr (.inl ⟨a, vs, rfl, Evl.ex_t R1.ex h1, hq _ ρ1 H1 Hs1 φ1 _ p1 R1 S1 (walkD_tup R1.ex h1 c) u1⟩)
  case byt ns =>
    obtain ⟨rfl, b⟩ := i1
    exact .inr (.inr ⟨_, rfl, hq _ ρ1 H1 Hs1 φ1 _ p1 R1 S1 (walkD_byt b) u1⟩)
theorem pid_rng1 (hg : Gl X "range") (hm : X.mg "range" = none) (ha : PA X [a] (tauL X.K O m wl)) (hs : starEach [a] X.env = [(false, eval a X.env)] := by rfl) : PI X tg (.Call (.Name "range" p) [a] [] pos) (tauI X.K O m (wRng1 wl)) :=
  PI_imp (pi_range1 hg hm ha hs) fun σ H R q => by
    obtain ⟨ρ, Hs, φ, P, R0, S, hw, hq⟩ := q
    refine tL R0 S hw fun ds ρ1 vs H1 Hs1 φ1 p1 R1 S1 SO1 i1 u1 => ?_
    split at p1
    · rename_i n
      obtain ⟨v, r, rfl, e1, e2⟩ := i1
      have e1' : v = .int n := e1
      have e2' : r = [] := e2
      subst e1' e2'
      obtain ⟨⟨b1, b2⟩, p1⟩ := p1
      exact ⟨n, rfl, by omega, by omega, hq _ ρ1 H1 Hs1 φ1 _ p1 R1 S1 walkD_range u1⟩
    · exact p1.elim
theorem pid_enum {elts : List Expr} {kk : Nat} {tpos : Pos} (hg : Gl X "enumerate") (hm : X.mg "enumerate" = none) (ha : PA X [a] (tauL X.K O m wl)) (hs : starEach [a] X.env = [(false, eval a X.env)] := by rfl) :
    PI X (.Tuple elts kk tpos) (.Call (.Name "enumerate" p) [a] [] pos) (tauI X.K O m (wEnum wl)) :=
  PI_imp (pi_enumT hg hm ha hs) fun σ H R q => by
    obtain ⟨ρ, Hs, φ, P, R0, S, hw, hq⟩ := q
    refine tL R0 S hw fun ds ρ1 vs H1 Hs1 φ1 p1 R1 S1 SO1 i1 u1 => ?_
    split at p1
    · rename_i d
      obtain ⟨v, r, rfl, e1, e2⟩ := i1
      have e2' : r = [] := e2
      subst e2'
      cases d <;> first
        | exact (show False from p1).elim
        | exact (show False from e1).elim
        | skip
      case lst xs =>
        obtain ⟨a, vs, rfl, h1, c⟩ := e1
        exact ⟨a, vs, rfl, .inl ⟨SqL.of (R1.ex _ _ h1), hq _ ρ1 H1 Hs1 φ1 _ p1 R1 S1 (walkD_enum R1.ex (.inl h1) c) u1⟩⟩
      case rl xs =>
        obtain ⟨a, vs, rfl, h1, c⟩ := e1
        exact ⟨a, vs, rfl, .inl ⟨Evl.ex_l R1.ex h1, hq _ ρ1 H1 Hs1 φ1 _ p1 R1 S1 (walkD_enum R1.ex (.inr h1) c) u1⟩⟩
      case tup xs =>
        obtain ⟨a, vs, rfl, h1, c⟩ := e1
        exact ⟨a, vs, rfl, .inr ⟨Evl.ex_t R1.ex h1, hq _ ρ1 H1 Hs1 φ1 _ p1 R1 S1 (walkD_enumT R1.ex h1 c) u1⟩⟩
    · exact p1.elim
end

/-! ### comprehensions -/
def wipeR (ρ : Rho) : List Nat → Rho
  | [] => ρ
  | v :: vs => (wipeR ρ vs).set v .no
theorem wipeR_len (ρ : Rho) : ∀ vs : List Nat, (wipeR ρ vs).length = ρ.length
  | [] => rfl
  | v :: vs => by show ((wipeR ρ vs).set v .no).length = _; rw [List.length_set, wipeR_len ρ vs]
theorem wipeR_in (ρ : Rho) {i : Nat} {c : Cell} : ∀ {vs : List Nat}, i ∈ vs → (wipeR ρ vs)[i]? = some c → c = .no
  | v :: vs, hi, h => by
    have h' : ((wipeR ρ vs).set v .no)[i]? = some c := h
    by_cases e : v = i
    · subst e
      by_cases hl : v < (wipeR ρ vs).length
      · rw [List.getElem?_set_self hl] at h'
        exact (Option.some.inj h').symm
      · rw [List.getElem?_eq_none (by rw [List.length_set]; omega)] at h'
        cases h'
    · rw [List.getElem?_set_ne e] at h'
      rcases List.mem_cons.mp hi with z | z
      · exact absurd z.symm e
      · exact wipeR_in ρ z h'
theorem wipe_out (σ : L2.St) {i : Nat} : ∀ {vs : List Nat}, i ∉ vs → (wipe σ vs)[i]? = σ[i]?
  | [], _ => rfl
  | v :: vs, h => by
    show ((wipe σ vs).set v none)[i]? = _
    rw [List.getElem?_set_ne (fun z => h (by rw [z]; exact List.mem_cons_self)), wipe_out σ (fun z => h (List.mem_cons_of_mem _ z))]
theorem wipe_in (σ : L2.St) {i : Nat} : ∀ {vs : List Nat}, i ∈ vs → i < σ.length → (wipe σ vs)[i]? = some none
  | v :: vs, hi, hl => by
    show ((wipe σ vs).set v none)[i]? = _
    by_cases e : v = i
    · subst e
      rw [List.getElem?_set_self (by rw [wipe_length]; exact hl)]
    · rw [List.getElem?_set_ne e]
      rcases List.mem_cons.mp hi with z | z
      · exact absurd z.symm e
      · exact wipe_in σ z hl
theorem wipe_ag {σ σ2 : L2.St} {vs is : List Nat} (a : AgP is (wipe σ vs) σ2) (h : ∀ i, i ∈ is → i ∈ vs) : wipe σ2 vs = wipe σ vs := by
  have hl : σ2.length = σ.length := by rw [a.1, wipe_length]
  refine List.ext_getElem? fun i => ?_
  by_cases hi : i ∈ vs
  · by_cases hlt : i < σ.length
    · rw [wipe_in σ2 hi (by omega), wipe_in σ hi hlt]
    · rw [List.getElem?_eq_none (by rw [wipe_length]; omega), List.getElem?_eq_none (by rw [wipe_length]; omega)]
  · rw [wipe_out σ2 hi, wipe_out σ hi, a.2 i (fun z => hi (h i z)), wipe_out σ hi]
section
variable {K : PySem.W.Frag} {σ : L2.St} {H Hs : Hp} {ρ : Rho} {φ : Fp}
theorem Rl.wipe (R : Rl K σ H Hs ρ φ) : ∀ vs : List Nat, ∃ φ', Rl K (L2.wipe σ vs) H Hs (wipeR ρ vs) φ' ∧ ∀ j p, p ∈ φ' j → p ∈ φ j
  | [] => ⟨φ, R, fun _ _ h => h⟩
  | v :: vs => by
    obtain ⟨φ', R', h⟩ := R.wipe vs
    by_cases hi : v < (wipeR ρ vs).length
    · refine ⟨_, R'.put (c := .no) (F := []) (v? := none) hi trivial (fun _ z => nomatch z) .nil, fun j p hp => ?_⟩
      by_cases e : j = v
      · subst e; rw [putF_same] at hp; cases hp
      · rw [putF_ne e] at hp; exact h j p hp
    · have e1 : (wipeR ρ vs).set v .no = wipeR ρ vs := List.set_eq_of_length_le (by omega)
      have e2 : (L2.wipe σ vs).set v none = L2.wipe σ vs := List.set_eq_of_length_le (by rw [← R'.len]; omega)
      refine ⟨φ', ?_, h⟩
      show Rl K ((L2.wipe σ vs).set v none) H Hs ((wipeR ρ vs).set v .no) φ'
      rw [e1, e2]
      exact R'
theorem Rl.unwipe {vs : List Nat} (R : Rl K (L2.wipe σ vs) H Hs ρ φ) (hw : ∀ i, i ∈ vs → ∀ c, ρ[i]? = some c → c = .no) : Rl K σ H Hs ρ φ :=
  ⟨by rw [R.len, wipe_length], R.ex, fun i c h => by
    by_cases hi : i ∈ vs
    · rw [hw i hi c h]; trivial
    · have := R.cell i c h
      rw [wipe_out σ hi] at this
      exact this, R.hs, R.nn, R.nd, R.dis⟩
/-- a list under construction, that no slot holds -/
structure Pend (K : PySem.W.Frag) (H Hs : Hp) (φ : Fp) (D0 : Addr) (acc : List V) (ds : List D) : Prop where
  at_ : H D0 = some (.lst acc)
  hs : Hs D0 = none
  nf : ∀ i, D0 ∉ φ i
  is : IsA K Hs ds acc
theorem Pend.step {H' Hs' : Hp} {φ' : Fp} {D0 : Addr} {acc : List V} {ds : List D} (p : Pend K H Hs φ D0 acc ds) (S : Step H Hs φ H' Hs' φ') : Pend K H' Hs' φ' D0 acc ds :=
  ⟨S.k _ _ p.at_ p.nf (fun _ z => nomatch z), S.n _ (by rw [p.at_]; simp) p.hs p.nf, fun i hi => (by
    rcases S.f i _ hi with ⟨j, hj⟩ | hj
    · exact p.nf j hj
    · rw [p.at_] at hj; cases hj), p.is.mono S.e ds acc⟩
theorem Step.upd {H0 Hs0 : Hp} {φ0 : Fp} (S : Step H0 Hs0 φ0 H Hs φ) {D0 : Addr} {o : HO} (h0 : H0 D0 = none) : Step H0 Hs0 φ0 (L2.upd H D0 o) Hs φ :=
  S.mk3 (Ex.refl _) (fun P ps h1 _ h3 => by rw [upd_ne (fun e => h1 (by rw [e]; exact h0))]; exact h3) (fun p u hp hn ht => by rw [upd_ne (ne_of_none hp h0)]; exact S.k p u hp hn ht) S.n S.f (fun p hp => by
    rw [upd_ne (fun e => hp (by rw [e]; exact h0))]; exact S.h p hp)
theorem Pend.app {D0 : Addr} {acc : List V} {ds : List D} {d : D} {v : V} (p : Pend K H Hs φ D0 acc ds) (R : Rl K σ H Hs ρ φ) (i : Is K Hs d v) :
    Rl K σ (L2.upd H D0 (.lst (acc ++ [v]))) Hs ρ φ ∧ Pend K (L2.upd H D0 (.lst (acc ++ [v]))) Hs φ D0 (acc ++ [v]) (ds ++ [d]) := by
  refine ⟨R.frame (Ex.refl _) (fun a u h => ?_) (fun i q hq => upd_ne (fun e => p.nf i (by rw [← e]; exact hq))) R.hs, upd_same, p.hs, p.nf, p.is.app (IsA.one i)⟩
  rw [upd_ne (fun e => by rw [e, p.hs] at h; cases h)]
  exact R.ex a u h
end
def O0 : Oc := ⟨fun _ => none, fun _ => none, fun _ => [], fun _ _ => False⟩
theorem step0 (H Hs : Hp) (φ : Fp) : Step O0.H O0.Hs O0.fp H Hs φ := .mk' (fun _ _ h => (nomatch h)) (fun _ _ h _ => (nomatch h)) (fun _ h => absurd rfl h) (fun _ _ _ => .inr rfl) (fun _ h => absurd rfl h)
@[simp] def wYes : WT := fun _ ρ P => P true ρ
def lcD (p : Pat) (wt : WT) (we : WE) (vs : List Nat) (P : D → Rho → Prop) : List D → Rho → List D → Prop
  | [], ρ, acc => P (.ml acc) ρ
  | d :: ds, ρ, acc => ∃ ρ1, p.asg d ρ = some ρ1 ∧ wt (fun _ _ => False) ρ1 fun b ρ2 => if b = true then we (fun _ _ => False) ρ2 fun y ρ3 => Fz y fun y => acc.length < 100000 ∧ lcD p wt we vs P ds (wipeR ρ3 vs) (acc ++ [y])
      else lcD p wt we vs P ds (wipeR ρ2 vs) acc
@[simp] def wLc (p : Pat) (vs : List Nat) (wi : WI) (wt : WT) (we : WE) : WE := fun xi ρ P => wi xi ρ fun ds ρ1 => lcD p wt we vs P ds (wipeR ρ1 vs) []
theorem PTs_imp {X : Cx} {e : List Expr} {t t' : TT} (h : PTs X e t) (k : ∀ σ H Q, t' σ H Q → t σ H Q) : PTs X e t' := ⟨fun pins s σ H Q I q => h.run pins s σ H Q I (k σ H Q q)⟩
theorem pts0 {X : Cx} : PTs X [] (tauT X.K O0 true wYes) := PTs_imp pts_nil fun σ H Q q => by
  obtain ⟨ρ, Hs, φ, P, R, S, hw, hq⟩ := q
  exact hq true ρ H Hs φ hw R (Step.refl _ _ _) Pur.refl
theorem lcTau {K : PySem.W.Frag} {O : Oc} {m mt me : Bool} {p : Pat} {vs : List Nat} {wi : WI} {wt : WT} {we : WE} (hsub : ∀ i, i ∈ p.slots → i ∈ vs) (σ : L2.St) (H : Hp) (Q : VK)
    (q : tauE K O false (wLc p vs wi wt we) σ H Q) : tLc (tauI K O m wi) (tauG K p) (tauT K O0 mt wt) (tauE K O0 me we) vs σ H Q := by
  obtain ⟨ρ, Hs, φ, P, R, S, hw, hq⟩ := q
  refine ⟨ρ, Hs, φ, _, R, S, hw, fun ds ρ1 H1 Hs1 φ1 J p1 R1 S1 wk u1 => fun D0 hD => ?_⟩
  obtain ⟨φw, Rw, hφ⟩ := R1.wipe vs
  have Sw : Step H1 Hs1 φ1 H1 Hs1 φw := Step.of_sub fun j p hp => ⟨j, hφ j p hp⟩
  have hD1 : Hs1 D0 = none := R1.hsn hD
  refine ⟨fun i n H2 => n = ds.length - i ∧ i ≤ ds.length ∧ ∃ Hs2 ρ2 φ2 acc dacc, Rl K (L2.wipe σ vs) H2 Hs2 ρ2 φ2 ∧ Step H1 Hs1 φ1 H2 Hs2 φ2 ∧ Pend K H2 Hs2 φ2 D0 acc dacc ∧ (∀ i, i ∈ vs → ∀ c, ρ2[i]? = some c → c = .no) ∧ lcD p wt we vs P (ds.drop i) ρ2 dacc,
    ⟨ds.length, by simp, Nat.zero_le _, Hs1, _, φw, [], [], ?_, Sw.upd hD, ⟨upd_same, hD1, fun i hi => R1.ne hD (hφ i _ hi) rfl, rfl⟩, fun i hi c h => wipeR_in ρ1 hi h, p1⟩, ?_⟩
  · exact Rw.frame (Ex.refl _) (fun a u h => by rw [upd_ne (fun e => by rw [e, hD1] at h; cases h)]; exact R1.ex a u h) (fun i q hq => upd_ne (Rw.ne hD hq)) Rw.hs
  · rintro i n H2 ⟨rfl, hi, Hs2, ρ2, φ2, acc, dacc, R2, S2, pd, hwp, hl⟩
    by_cases hlt : i < ds.length
    · refine .inr ⟨wk.go i H2 Hs2 hlt S2.e R2.ex, fun H3 => i + 1 ≤ ds.length ∧ ∃ Hs2 ρ2 φ2 acc dacc, Rl K (L2.wipe σ vs) H3 Hs2 ρ2 φ2 ∧ Step H1 Hs1 φ1 H3 Hs2 φ2 ∧ Pend K H3 Hs2 φ2 D0 acc dacc ∧ (∀ i, i ∈ vs → ∀ c, ρ2[i]? = some c → c = .no) ∧ lcD p wt we vs P (ds.drop (i + 1)) ρ2 dacc,
        fun H' h => ⟨ds.length - (i + 1), by omega, rfl, h⟩, fun x H' hy => ?_⟩
      obtain ⟨d, hd, hx⟩ := wk.yld i H2 Hs2 x H' hlt S2.e R2.ex hy
      -- the item, in the heap or new
      obtain ⟨Hs3, R3, S3, i3⟩ : ∃ Hs3, Rl K (L2.wipe σ vs) H' Hs3 ρ2 φ2 ∧ Step H2 Hs2 φ2 H' Hs3 φ2 ∧ Is K Hs3 d x := by
        rcases hx with ⟨rfl, h⟩ | ⟨q, o, hq, rfl, h⟩
        · exact ⟨Hs2, R2, Step.refl _ _ _, h⟩
        · obtain ⟨a, b⟩ := R2.newF (o := o) hq
          exact ⟨_, a, b, h⟩
      rw [List.drop_eq_getElem_cons hlt] at hl
      have ed : ds[i] = d := by
        rw [List.getElem?_eq_getElem hlt] at hd
        exact Option.some.inj hd
      rw [ed] at hl
      obtain ⟨ρ4, ha, hl⟩ := hl
      refine ⟨ρ2, Hs3, φ2, d, ρ4, R3, i3, ha, fun σ4 φ4 R4 S4 A4 => ?_⟩
      have ew : L2.wipe σ4 vs = L2.wipe σ vs := wipe_ag A4 hsub
      refine ⟨ew, ?_⟩
      refine tT R4 (step0 _ _ _) hl fun b ρ5 H5 Hs5 φ5 p5 R5 S5 _ u5 => ?_
      have S15 : Step H1 Hs1 φ1 H5 Hs5 φ5 := S2.trans (S3.trans (S4.trans S5))
      have pd5 : Pend K H5 Hs5 φ5 D0 acc dacc := ((pd.step S3).step S4).step S5
      cases b with
      | true =>
        refine iteT ?_
        refine tF R5 (step0 _ _ _) (by have z := p5; rw [if_pos rfl] at z; exact z) fun y ρ6 v6 H6 Hs6 φ6 p6 R6 S6 _ i6 u6 => ?_
        have pd6 := pd5.step S6
        obtain ⟨R7, pd7⟩ := pd6.app R6 i6
        obtain ⟨φ8, R8, h8⟩ := R7.wipe vs
        rw [ew] at R8
        have S8 : Step H1 Hs1 φ1 (L2.upd H6 D0 (.lst (acc ++ [v6]))) Hs6 φ8 := ((S15.trans S6).upd hD).trans (Step.of_sub fun j p hp => ⟨j, h8 j p hp⟩)
        refine ⟨acc, pd6.at_, by rw [pd6.is.len]; exact Nat.lt_of_lt_of_le p6.1 (by decide), hlt, Hs6, _, φ8, _, _, R8, S8, ⟨pd7.at_, pd7.hs, fun i hi => pd7.nf i (h8 i _ hi), pd7.is⟩, fun i hi c h => wipeR_in ρ6 hi h, p6.2⟩
      | false =>
        refine iteF ?_
        obtain ⟨φ8, R8, h8⟩ := R5.wipe vs
        rw [ew] at R8
        have S8 : Step H1 Hs1 φ1 H5 Hs5 φ8 := S15.trans (Step.of_sub fun j p hp => ⟨j, h8 j p hp⟩)
        exact ⟨hlt, Hs5, _, φ8, acc, dacc, R8, S8, ⟨pd5.at_, pd5.hs, fun i hi => pd5.nf i (h8 i _ hi), pd5.is⟩, fun i hi c h => wipeR_in ρ5 hi h, by simpa using p5⟩
    · have e : i = ds.length := by omega
      subst e
      rw [List.drop_length] at hl
      refine .inl ⟨wk.stop H2 Hs2 S2.e R2.ex, ?_⟩
      refine hq _ ρ2 (.ref D0) H2 Hs2 φ2 [D0] hl (R2.unwipe hwp) (S1.trans S2) ⟨⟨D0, acc, rfl, rfl, pd.at_, pd.is⟩, by simp, fun q hq => by rw [List.mem_singleton.mp hq]; exact pd.hs, fun q hq i hi => ?_⟩ (Frs.back S1 (Frs.new hD)) fun z => nomatch z
      rw [List.mem_singleton.mp hq] at hi
      exact pd.nf i hi
section
variable {X : Cx} {O : Oc} {m mt me : Bool} {elt tg iter : Expr} {ifs : List Expr} {scope : Scope} {own : List (Str × Nat)} {pos : Pos} {p : Pat} {wi : WI} {wt : WT} {we : WE}
theorem pd_lc (own : List (Str × Nat)) (hc : X.calm = true) (hN : X.N.Nodup) (hi : PI X tg iter (tauI X.K O m wi)) (ok : BlkOk X.N X.env.scope scope own)
    (hg : ∀ (s : Shared) (H : Hp) (C : Addr) (cl : List (Str × Addr)) (fp : List Addr), PG (X.blk s H scope (compEnvC scope cl C X.env) fp) tg (tauG X.K p))
    (ht : ∀ (s : Shared) (H : Hp) (C : Addr) (cl : List (Str × Addr)) (fp : List Addr), PTs (X.blk s H scope (compEnvC scope cl C X.env) fp) ifs (tauT X.K O0 mt wt))
    (he : ∀ (s : Shared) (H : Hp) (C : Addr) (cl : List (Str × Addr)) (fp : List Addr), PE (X.blk s H scope (compEnvC scope cl C X.env) fp) elt (tauE X.K O0 me we))
    (hsub : ∀ i, i ∈ p.slots → i ∈ own.map (·.2) := by decide) (hs : ∀ x, foldedSetIterable iter X.env x = pure x := by intro _; rfl) :
    PE X (.ListComp elt [⟨tg, iter, ifs, 0⟩] scope pos) (tauE X.K O false (wLc p (own.map (·.2)) wi wt we)) :=
  PE_imp (pe_lc hc hN hi ok hg ht he hs) (lcTau hsub)
end

/-! ### statements -/
structure PEn where
  nx : Rho → Prop
  rt : D → Rho → Prop
  bk : Rho → Prop := fun _ => False
  ct : Rho → Prop := fun _ => False
abbrev WS := Xi → Rho → PEn → Prop
structure EOk (K : PySem.W.Frag) (H Hs : Hp) (φ : Fp) (P : PEn) (D0 : Ends) : Prop where
  nx : ∀ ρ' σ' H' Hs' φ', P.nx ρ' → Rl K σ' H' Hs' ρ' φ' → Step H Hs φ H' Hs' φ' → D0.nx σ' H'
  rt : ∀ d ρ' σ' v H' Hs' φ' G, P.rt d ρ' → Rl K σ' H' Hs' ρ' φ' → Step H Hs φ H' Hs' φ' → Res K H' Hs' φ' d v G → Frs H φ G → D0.rt v H'
  bk : ∀ ρ' σ' H' Hs' φ', P.bk ρ' → Rl K σ' H' Hs' ρ' φ' → Step H Hs φ H' Hs' φ' → D0.bk σ' H'
  ct : ∀ ρ' σ' H' Hs' φ', P.ct ρ' → Rl K σ' H' Hs' ρ' φ' → Step H Hs φ H' Hs' φ' → D0.ct σ' H'
theorem EOk.step {K : PySem.W.Frag} {H Hs H1 Hs1 : Hp} {φ φ1 : Fp} {P : PEn} {D0 : Ends} (E : EOk K H Hs φ P D0) (S : Step H Hs φ H1 Hs1 φ1) : EOk K H1 Hs1 φ1 P D0 :=
  ⟨fun ρ' σ' H' Hs' φ' p R S' => E.nx ρ' σ' H' Hs' φ' p R (S.trans S'), fun d ρ' σ' v H' Hs' φ' G p R S' r f => E.rt d ρ' σ' v H' Hs' φ' G p R (S.trans S') r (Frs.back S f),
   fun ρ' σ' H' Hs' φ' p R S' => E.bk ρ' σ' H' Hs' φ' p R (S.trans S'), fun ρ' σ' H' Hs' φ' p R S' => E.ct ρ' σ' H' Hs' φ' p R (S.trans S')⟩
def tauS (K : PySem.W.Frag) (O : Oc) (w : WS) : TS := fun D0 σ H => ∃ ρ Hs φ P, Rl K σ H Hs ρ φ ∧ Step O.H O.Hs O.fp H Hs φ ∧ w O.xi ρ P ∧ EOk K H Hs φ P D0
theorem PS_imp {X : Cx} {e : Stmt} {t t' : TS} (h : PS X e t) (k : ∀ D0 σ H, t' D0 σ H → t D0 σ H) : PS X e t' := ⟨fun pins s σ H D0 I q => h.run pins s σ H D0 I (k D0 σ H q)⟩
theorem PSs_imp {X : Cx} {e : List Stmt} {t t' : TS} (h : PSs X e t) (k : ∀ D0 σ H, t' D0 σ H → t D0 σ H) : PSs X e t' := ⟨fun pins s σ H D0 I q => h.run pins s σ H D0 I (k D0 σ H q)⟩
@[simp] def wNx : WS := fun _ ρ P => P.nx ρ
@[simp] def wSeq (a b : WS) : WS := fun xi ρ P => a xi ρ { P with nx := fun ρ' => b xi ρ' P }
@[simp] def wBk : WS := fun _ ρ P => P.bk ρ
@[simp] def wCt : WS := fun _ ρ P => P.ct ρ
@[simp] def wSet (i : Nat) (we : WE) : WS := fun xi ρ P => we xi ρ fun d ρ1 => P.nx (ρ1.set i (.vl d))
@[simp] def wAsg (p : Pat) (we : WE) : WS := fun xi ρ P => we xi ρ fun d ρ1 => Fz d fun d => ∃ ρ2, p.asg d ρ1 = some ρ2 ∧ P.nx ρ2
@[simp] def wAug (i : Nat) (g : D → D → (D → Prop) → Prop) (we : WE) : WS := fun xi ρ P => ∃ x, ρ[i]? = some (.vl x) ∧ Fro x fun x => we xi ρ fun y ρ1 => g x y fun z => P.nx (ρ1.set i (.vl z))
@[simp] def wX (we : WE) : WS := fun xi ρ P => we xi ρ fun _ ρ1 => P.nx ρ1
@[simp] def wRet (we : WE) : WS := fun xi ρ P => we xi ρ P.rt
@[simp] def wRetN : WS := fun _ ρ P => P.rt .non ρ
@[simp] def wIfS (t : WT) (a b : WS) : WS := fun xi ρ P => t xi ρ fun c ρ1 => if c = true then a xi ρ1 P else b xi ρ1 P
@[simp] def wNever : WS := fun _ _ _ => False
def loopD (p : Pat) (wb : WS) (xi : Xi) (P : PEn) : List D → Rho → Prop
  | [], ρ => P.nx ρ
  | d :: ds, ρ => ∃ ρ1, p.asg d ρ = some ρ1 ∧ wb xi ρ1 { P with nx := loopD p wb xi P ds, ct := loopD p wb xi P ds, bk := P.nx }
@[simp] def wFor (p : Pat) (wi : WI) (wb : WS) : WS := fun xi ρ P => wi xi ρ fun ds ρ1 => loopD p wb xi P ds ρ1
theorem Step.fill {H Hs H1 Hs1 : Hp} {φ φ1 φ2 : Fp} {G : List Addr} (S : Step H Hs φ H1 Hs1 φ1) (h : ∀ j p, p ∈ φ2 j → (∃ j, p ∈ φ1 j) ∨ p ∈ G) (g : Frs H φ G) : Step H Hs φ H1 Hs1 φ2 :=
  S.mk3 (Ex.refl _) (fun _ _ _ _ h => h) S.k S.n (fun j p hp => by
    rcases h j p hp with ⟨i, hi⟩ | hg
    · exact S.f i p hi
    · exact (g p hg).symm) S.h
section
variable {X : Cx} {O : Oc} {m : Bool} {st : Stmt} {rest : List Stmt} {e c tg : Expr} {pos pos' : Pos} {a b wb : WS} {we : WE} {wt : WT} {wi : WI} {i : Nat} {p : Pat}
theorem psd_nil : PSs X [] (tauS X.K O wNx) := PSs_imp pss_nil fun D0 σ H q => by
  obtain ⟨ρ, Hs, φ, P, R, S, hw, E⟩ := q
  exact E.nx ρ σ H Hs φ hw R (Step.refl _ _ _)
theorem psd_cons (h1 : PS X st (tauS X.K O a)) (h2 : PSs X rest (tauS X.K O b)) : PSs X (st :: rest) (tauS X.K O (wSeq a b)) := PSs_imp (pss_cons h1 h2) fun D0 σ H q => by
  obtain ⟨ρ, Hs, φ, P, R, S, hw, E⟩ := q
  exact ⟨ρ, Hs, φ, _, R, S, hw, fun ρ' σ' H' Hs' φ' p R' S' => ⟨ρ', Hs', φ', P, R', S.trans S', p, E.step S'⟩, E.rt, E.bk, E.ct⟩
theorem psd_one (h1 : PS X st (tauS X.K O a)) : PSs X [st] (tauS X.K O a) := PSs_imp (pss_one h1) fun _ _ _ q => q
theorem psd_never : PS X st (tauS X.K O wNever) := PS_imp ps_never fun D0 σ H q => by
  obtain ⟨ρ, Hs, φ, P, R, S, hw, E⟩ := q
  exact hw
theorem setTau (D0 : Ends) (σ : L2.St) (H : Hp) (q : tauS X.K O (wSet i we) D0 σ H) : tauE X.K O m we σ H (fun x H1 => D0.nx (σ.set i (some x)) H1) := by
  obtain ⟨ρ, Hs, φ, P, R, S, hw, E⟩ := q
  refine tE R S hw fun d ρ1 v1 H1 Hs1 φ1 G1 p1 R1 S1 SO1 r1 f1 u1 => ?_
  obtain ⟨φ2, R2, h2⟩ := R1.fill (i := i) r1
  exact E.nx _ _ H1 Hs1 φ2 p1 R2 (S1.fill h2 f1)
theorem psd_set {x : Str} (hN : X.N.Nodup) (hi : X.N[i]? = some x) (hx : Loc X.env.scope x) (he : PE X e (tauE X.K O m we)) (hs : swapsWith e (some (.Name x pos')) pos.line X.env = pure false := by rfl) (hf : X.fn x = true ∨ X.env.scope.names.lookup x = some .local := by first | exact .inl rfl | exact .inr rfl | assumption) :
    PS X (.Assign [.Name x pos'] e pos) (tauS X.K O (wSet i we)) := PS_imp (ps_set hN hi hx he hs hf) fun D0 σ H q => setTau D0 σ H q
theorem psd_aug {x : Str} {op : Operator} {g : D → D → (D → Prop) → Prop} (hN : X.N.Nodup) (hi : X.N[i]? = some x) (hx : Loc X.env.scope x) (he : PE X e (tauE X.K O m we)) (ho : OpD X (inplaceOp op) g) (hf : X.fn x = true ∨ X.env.scope.names.lookup x = some .local := by first | exact .inl rfl | exact .inr rfl | assumption) :
    PS X (.AugAssign (.Name x pos') op e pos) (tauS X.K O (wAug i g we)) := by
  obtain ⟨r, h1, h2⟩ := ho
  refine PS_imp (ps_aug hN hi hx he (show PIp X op r from h1) hf) fun D0 σ H q => ?_
  obtain ⟨ρ, Hs, φ, P, R, S, ⟨x0, hx0, hw⟩, E⟩ := q
  obtain ⟨v, hv, ow⟩ := R.cell i _ hx0
  obtain ⟨hw, _, is⟩ := ow.fro hw
  refine ⟨v, hv, tE R S hw fun y ρ1 v1 H1 Hs1 φ1 G1 p1 R1 S1 SO1 r1 f1 u1 => ?_⟩
  refine h2 σ H1 Hs1 ρ1 φ1 x0 y v v1 [] G1 _ _ R1 (Ow.of (is.mono S1.e x0 v)) r1.ow p1 fun d w H' Hs' G' kd R' S' rs fr pu => ?_
  obtain ⟨φ2, R2, h3⟩ := R'.fill (i := i) rs
  exact E.nx _ _ H' Hs' φ2 kd R2 ((S1.trans S').fill h3 (Frs.of S1 fr))
theorem psd_expr (he : PE X e (tauE X.K O m we)) (hs : swapsWith e none pos.line X.env = pure false := by rfl) : PS X (.Expr e pos) (tauS X.K O (wX we)) := PS_imp (ps_expr he hs) fun D0 σ H q => by
  obtain ⟨ρ, Hs, φ, P, R, S, hw, E⟩ := q
  exact tE R S hw fun d ρ1 v1 H1 Hs1 φ1 G1 p1 R1 S1 SO1 r1 f1 u1 => E.nx ρ1 σ H1 Hs1 φ1 p1 R1 S1
theorem psd_ret (he : PE X e (tauE X.K O m we)) : PS X (.Return (some e) pos) (tauS X.K O (wRet we)) := PS_imp (ps_ret he) fun D0 σ H q => by
  obtain ⟨ρ, Hs, φ, P, R, S, hw, E⟩ := q
  exact tE R S hw fun d ρ1 v1 H1 Hs1 φ1 G1 p1 R1 S1 SO1 r1 f1 u1 => E.rt d ρ1 σ v1 H1 Hs1 φ1 G1 p1 R1 S1 r1 f1
theorem psd_if {sa sb : List Stmt} (hc : PT X c (tauT X.K O m wt)) (ha : PSs X sa (tauS X.K O a)) (hb : PSs X sb (tauS X.K O b)) : PS X (.If c sa sb pos) (tauS X.K O (wIfS wt a b)) := PS_imp (ps_if hc ha hb) fun D0 σ H q => by
  obtain ⟨ρ, Hs, φ, P, R, S, hw, E⟩ := q
  refine tT R S hw fun x ρ1 H1 Hs1 φ1 p1 R1 S1 SO1 u1 => ?_
  cases x with
  | true => exact iteT ⟨ρ1, Hs1, φ1, P, R1, SO1, (by rw [if_pos rfl] at p1; exact p1), E.step S1⟩
  | false => exact iteF ⟨ρ1, Hs1, φ1, P, R1, SO1, (by rw [if_neg Bool.false_ne_true] at p1; exact p1), E.step S1⟩
theorem psd_for {iter : Expr} {body : List Stmt} (hp : PassesOwn (model X.prog X.w) X.A X.env X.xe) (hc : X.calm = true) (hi : PI X tg iter (tauI X.K O m wi)) (hg : PG X tg (tauG X.K p)) (hb : PSs X body (tauS X.K O wb))
    (hs : ∀ x, foldedSetIterable iter X.env x = pure x := by intro _; rfl) : PS X (.For tg iter body [] pos) (tauS X.K O (wFor p wi wb)) := PS_imp (ps_for hp hc hi hg hb hs) fun D0 σ H q => by
  obtain ⟨ρ, Hs, φ, P, R, S, hw, E⟩ := q
  refine ⟨ρ, Hs, φ, _, R, S, hw, fun ds ρ1 H1 Hs1 φ1 J p1 R1 S1 wk u1 => ?_⟩
  refine ⟨fun i n σ2 H2 => n = ds.length - i ∧ i ≤ ds.length ∧ ∃ Hs2 ρ2 φ2, Rl X.K σ2 H2 Hs2 ρ2 φ2 ∧ Step H1 Hs1 φ1 H2 Hs2 φ2 ∧ loopD p wb O.xi P (ds.drop i) ρ2, ⟨ds.length, by simp, Nat.zero_le _, Hs1, ρ1, φ1, R1, Step.refl _ _ _, p1⟩, ?_⟩
  rintro i n σ2 H2 ⟨rfl, hi, Hs2, ρ2, φ2, R2, S2, hl⟩
  by_cases hlt : i < ds.length
  · refine .inr ⟨wk.go i H2 Hs2 hlt S2.e R2.ex, fun σ3 H3 => i + 1 ≤ ds.length ∧ ∃ Hs2 ρ2 φ2, Rl X.K σ3 H3 Hs2 ρ2 φ2 ∧ Step H1 Hs1 φ1 H3 Hs2 φ2 ∧ loopD p wb O.xi P (ds.drop (i + 1)) ρ2, fun σ3 H3 h => ⟨ds.length - (i + 1), by omega, rfl, h⟩, fun x H' hy => ?_⟩
    obtain ⟨d, hd, hx⟩ := wk.yld i H2 Hs2 x H' hlt S2.e R2.ex hy
    obtain ⟨Hs3, R3, S3, i3⟩ : ∃ Hs3, Rl X.K σ2 H' Hs3 ρ2 φ2 ∧ Step H2 Hs2 φ2 H' Hs3 φ2 ∧ Is X.K Hs3 d x := by
      rcases hx with ⟨rfl, h⟩ | ⟨q, o, hq, rfl, h⟩
      · exact ⟨Hs2, R2, Step.refl _ _ _, h⟩
      · obtain ⟨a, b⟩ := R2.newF (o := o) hq
        exact ⟨_, a, b, h⟩
    rw [List.drop_eq_getElem_cons hlt] at hl
    have ed : ds[i] = d := by
      rw [List.getElem?_eq_getElem hlt] at hd
      exact Option.some.inj hd
    rw [ed] at hl
    obtain ⟨ρ4, ha, hl⟩ := hl
    refine ⟨ρ2, Hs3, φ2, d, ρ4, R3, i3, ha, fun σ4 φ4 R4 S4 _ => ?_⟩
    have S14 : Step H1 Hs1 φ1 H' Hs3 φ4 := S2.trans (S3.trans S4)
    exact ⟨ρ4, Hs3, φ4, _, R4, (S.trans S1).trans S14, hl, fun ρ' σ' H5 Hs5 φ5 p5 R5 S5 => ⟨hlt, Hs5, ρ', φ5, R5, S14.trans S5, p5⟩, (E.step (S1.trans S14)).rt, fun ρ' σ' H5 Hs5 φ5 p5 R5 S5 => E.nx ρ' σ' H5 Hs5 φ5 p5 R5 ((S1.trans S14).trans S5),
      fun ρ' σ' H5 Hs5 φ5 p5 R5 S5 => ⟨hlt, Hs5, ρ', φ5, R5, S14.trans S5, p5⟩⟩
  · have e : i = ds.length := by omega
    subst e
    rw [List.drop_length] at hl
    exact .inl ⟨wk.stop H2 Hs2 S2.e R2.ex, E.nx ρ2 σ2 H2 Hs2 φ2 hl R2 (S1.trans S2)⟩
end
section
variable {X : Cx}
theorem oi_add : OpD X (inplaceOp .Add) (ii0 fun i j => .int (i + j)) := od_i0 iop_add fun _ _ _ => rfl
end

/-! ### defs: what they are worth -/
/-- a def's promise by a word: the parameters' cells in, the result and the changed cells out -/
def spD (K : PySem.W.Frag) (n : Nat) (w : WE) : Sp := fun vs H Q _ => vs.length = n ∧ ∃ ρ Hs φ P, Rl K (vs.map some) H Hs ρ φ ∧ w (fun _ _ => False) ρ P ∧
  ∀ d ρ' v H' Hs' φ' G, P d ρ' → Rl K (vs.map some) H' Hs' ρ' φ' → Step H Hs φ H' Hs' φ' → Res K H' Hs' φ' d v G → Frs H φ G → Q v H'
inductive Arg where
  | val (d : D)
  | slot (i : Nat)
abbrev WA := Xi → Rho → (List Arg → Rho → Prop) → Prop
def ArgsOk (K : PySem.W.Frag) (Hs : Hp) (σ : L2.St) : List Arg → List V → Prop
  | [], vs => vs = []
  | .val d :: r, vs => ∃ v vr, vs = v :: vr ∧ Is K Hs d v ∧ ArgsOk K Hs σ r vr
  | .slot i :: r, vs => ∃ v vr, vs = v :: vr ∧ σ[i]? = some (some v) ∧ ArgsOk K Hs σ r vr
theorem ArgsOk.mono {K : PySem.W.Frag} {Hs Hs' : Hp} {σ : L2.St} (e : Ex Hs Hs') : ∀ {as : List Arg} {vs : List V}, ArgsOk K Hs σ as vs → ArgsOk K Hs' σ as vs
  | [], _, h => h
  | .val d :: r, vs, h => by
    obtain ⟨v, vr, rfl, h1, h2⟩ := h
    exact ⟨v, vr, rfl, h1.mono e d v, ArgsOk.mono e h2⟩
  | .slot i :: r, vs, h => by
    obtain ⟨v, vr, rfl, h1, h2⟩ := h
    exact ⟨v, vr, rfl, h1, ArgsOk.mono e h2⟩
theorem ArgsOk.len {K : PySem.W.Frag} {Hs : Hp} {σ : L2.St} : ∀ {as : List Arg} {vs : List V}, ArgsOk K Hs σ as vs → vs.length = as.length
  | [], _, h => by rw [show _ = [] from h]; rfl
  | .val d :: r, vs, h => by
    obtain ⟨v, vr, rfl, _, h2⟩ := h
    simp [ArgsOk.len h2]
  | .slot i :: r, vs, h => by
    obtain ⟨v, vr, rfl, _, h2⟩ := h
    simp [ArgsOk.len h2]
theorem ArgsOk.get {K : PySem.W.Frag} {Hs : Hp} {σ : L2.St} : ∀ {as : List Arg} {vs : List V} {k : Nat} {a : Arg}, ArgsOk K Hs σ as vs → as[k]? = some a → ∃ v, vs[k]? = some v ∧ (match a with | .val d => Is K Hs d v | .slot i => σ[i]? = some (some v))
  | [], _, _, _, _, h => by simp at h
  | .val d :: r, vs, 0, a, h, e => by
    obtain ⟨v, vr, rfl, h1, h2⟩ := h
    have e' : Arg.val d = a := by simpa using e
    subst e'
    exact ⟨v, rfl, h1⟩
  | .slot i :: r, vs, 0, a, h, e => by
    obtain ⟨v, vr, rfl, h1, h2⟩ := h
    have e' : Arg.slot i = a := by simpa using e
    subst e'
    exact ⟨v, rfl, h1⟩
  | .val d :: r, vs, k + 1, a, h, e => by
    obtain ⟨v, vr, rfl, h1, h2⟩ := h
    obtain ⟨u, h3, h4⟩ := ArgsOk.get h2 (show r[k]? = some a by simpa using e)
    exact ⟨u, by simpa using h3, h4⟩
  | .slot i :: r, vs, k + 1, a, h, e => by
    obtain ⟨v, vr, rfl, h1, h2⟩ := h
    obtain ⟨u, h3, h4⟩ := ArgsOk.get h2 (show r[k]? = some a by simpa using e)
    exact ⟨u, by simpa using h3, h4⟩
def tauA (K : PySem.W.Frag) (O : Oc) (w : WA) : TA := fun σ H Q => ∃ ρ Hs φ P, Rl K σ H Hs ρ φ ∧ Step O.H O.Hs O.fp H Hs φ ∧ w O.xi ρ P ∧
  ∀ as ρ' vs H' Hs' φ', P as ρ' → Rl K σ H' Hs' ρ' φ' → Step H Hs φ H' Hs' φ' → ArgsOk K Hs' σ as vs → Q vs H'
@[simp] def waNil : WA := fun _ ρ P => P [] ρ
@[simp] def waV (we : WE) (wa : WA) : WA := fun xi ρ P => we xi ρ fun d ρ1 => Fz d fun d => wa xi ρ1 fun as ρ2 => P (.val d :: as) ρ2
@[simp] def waS (i : Nat) (wa : WA) : WA := fun xi ρ P => (∃ d, PlD ρ i [] d) ∧ wa xi ρ fun as ρ2 => P (.slot i :: as) ρ2
/-- the callee's cells -/
@[simp] def argC (ρ : Rho) (v : V) : Arg → Option Cell
  | .val d => some (.vl d)
  | .slot i => match ρ[i]? with
    | some (.vl d) => some (.io v d)
    | some (.io _ d) => some (.io v d)
    | _ => none
@[simp] def argCs (ρ : Rho) (vv : Nat → V) : Nat → List Arg → Option Rho
  | _, [] => some []
  | k, a :: r => match argC ρ (vv k) a, argCs ρ vv (k + 1) r with
    | some c, some cs => some (c :: cs)
    | _, _ => none
@[simp] def reC (v : V) (c : Cell) (c' : Cell) : Option Cell := match c, c' with
  | .vl _, .io _ d => some (.vl d)
  | .io u _, .io _ d => some (.io u d)
  | _, _ => none
/-- the cells behind the call -/
@[simp] def backC (vv : Nat → V) : Nat → List Arg → Rho → Rho → Option Rho
  | _, [], _, ρ => some ρ
  | k, .val _ :: r, _ :: cs, ρ => backC vv (k + 1) r cs ρ
  | k, .slot i :: r, c' :: cs, ρ => match ρ[i]? with
    | some c => (reC (vv k) c c').bind fun c2 => backC vv (k + 1) r cs (ρ.set i c2)
    | none => none
  | _, _, _, _ => none
@[simp] def slotsOf : List Arg → List Nat
  | [] => []
  | .val _ :: r => slotsOf r
  | .slot i :: r => i :: slotsOf r
@[simp] def wCall (n : Nat) (wf : WE) (wa : WA) : WE := fun xi ρ P => wa xi ρ fun as ρ1 => as.length = n ∧ (slotsOf as).Nodup ∧ ∀ vv : Nat → V, ∃ ρc, argCs ρ1 vv 0 as = some ρc ∧ wf (fun _ _ => False) ρc fun z ρc' => ∃ ρ2, backC vv 0 as ρc' ρ1 = some ρ2 ∧ P z ρ2
section
variable {X : Cx} {O : Oc} {m : Bool} {e : Expr} {es : List Expr} {we : WE} {wa : WA} {i : Nat}
theorem pad_nil : PA X [] (tauA X.K O waNil) := PA_imp pa_nil fun σ H Q q => by
  obtain ⟨ρ, Hs, φ, P, R, S, hw, hq⟩ := q
  exact hq [] ρ [] H Hs φ hw R (Step.refl _ _ _) rfl
theorem pad_v (ha : PE X e (tauE X.K O m we)) (hr : PA X es (tauA X.K O wa)) (hs : starEach (e :: es) X.env = (false, eval e X.env) :: starEach es X.env := by rfl) : PA X (e :: es) (tauA X.K O (waV we wa)) :=
  PA_imp (pa_cons ha hr hs) fun σ H Q q => by
    obtain ⟨ρ, Hs, φ, P, R, S, hw, hq⟩ := q
    refine tF R S hw fun x ρ1 v1 H1 Hs1 φ1 p1 R1 S1 SO1 i1 u1 => ?_
    refine ⟨ρ1, Hs1, φ1, _, R1, SO1, p1, fun as ρ2 vs H2 Hs2 φ2 p2 R2 S2 a2 => ?_⟩
    exact hq _ ρ2 _ H2 Hs2 φ2 p2 R2 (S1.trans S2) ⟨v1, vs, rfl, i1.mono S2.e x v1, a2⟩
theorem pad_s (ha : PE X e (tVar i)) (hr : PA X es (tauA X.K O wa)) (hs : starEach (e :: es) X.env = (false, eval e X.env) :: starEach es X.env := by rfl) : PA X (e :: es) (tauA X.K O (waS i wa)) :=
  PA_imp (pa_cons ha hr hs) fun σ H Q q => by
    obtain ⟨ρ, Hs, φ, P, R, S, ⟨⟨d, hd⟩, hw⟩, hq⟩ := q
    obtain ⟨v, F, ow, _, hv, _⟩ := tPl_of R (q := []) (fun _ z => nomatch z) hd
    refine ⟨v, (hv rfl).1, ρ, Hs, φ, _, R, S, hw, fun as ρ2 vs H2 Hs2 φ2 p2 R2 S2 a2 => ?_⟩
    exact hq _ ρ2 _ H2 Hs2 φ2 p2 R2 S2 ⟨v, vs, rfl, (hv rfl).1, a2⟩
end
section
variable {K : PySem.W.Frag} {σ : L2.St} {H Hs : Hp} {ρ ρc : Rho} {φ : Fp} {as : List Arg} {vs : List V} {vv : Nat → V}
def argF (φ : Fp) (as : List Arg) : Fp := fun k => match as[k]? with
  | some (.slot i) => φ i
  | _ => []
theorem argCs_get : ∀ {as : List Arg} {n k : Nat} {cs : Rho} {c : Cell}, argCs ρ vv n as = some cs → cs[k]? = some c → ∃ a, as[k]? = some a ∧ argC ρ (vv (n + k)) a = some c
  | [], n, k, cs, c, h, g => by cases Option.some.inj h; simp at g
  | a :: r, n, k, cs, c, h, g => by
    have h' : (match argC ρ (vv n) a, argCs ρ vv (n + 1) r with | some c, some cs => some (c :: cs) | _, _ => none) = some cs := h
    cases e1 : argC ρ (vv n) a with
    | none => rw [e1] at h'; cases h'
    | some c1 =>
      cases e2 : argCs ρ vv (n + 1) r with
      | none => rw [e1, e2] at h'; cases h'
      | some c2 =>
        rw [e1, e2] at h'
        cases Option.some.inj h'
        cases k with
        | zero => cases (show some c1 = some c by simpa using g); exact ⟨a, rfl, e1⟩
        | succ k =>
          obtain ⟨b, h1, h2⟩ := argCs_get (n := n + 1) (k := k) e2 (by simpa using g)
          exact ⟨b, by simpa using h1, by rw [show n + (k + 1) = n + 1 + k by omega]; exact h2⟩
theorem argCs_len : ∀ {as : List Arg} {n : Nat} {cs : Rho}, argCs ρ vv n as = some cs → cs.length = as.length
  | [], n, cs, h => by cases Option.some.inj h; rfl
  | a :: r, n, cs, h => by
    have h' : (match argC ρ (vv n) a, argCs ρ vv (n + 1) r with | some c, some cs => some (c :: cs) | _, _ => none) = some cs := h
    cases e1 : argC ρ (vv n) a with
    | none => rw [e1] at h'; cases h'
    | some c1 =>
      cases e2 : argCs ρ vv (n + 1) r with
      | none => rw [e1, e2] at h'; cases h'
      | some c2 =>
        rw [e1, e2] at h'
        cases Option.some.inj h'
        simp [argCs_len e2]
theorem slot_mem : ∀ {as : List Arg} {k i : Nat}, as[k]? = some (.slot i) → i ∈ slotsOf as
  | [], _, _, h => by simp at h
  | .val d :: r, 0, i, h => by simp at h
  | .slot j :: r, 0, i, h => by
    have e : j = i := by simpa using h
    subst e
    exact List.mem_cons_self
  | .val d :: r, k + 1, i, h => slot_mem (as := r) (k := k) (by simpa using h)
  | .slot j :: r, k + 1, i, h => List.mem_cons_of_mem _ (slot_mem (as := r) (k := k) (by simpa using h))
theorem slot_uniq : ∀ {as : List Arg} {k k' i : Nat}, (slotsOf as).Nodup → as[k]? = some (.slot i) → as[k']? = some (.slot i) → k = k'
  | [], _, _, _, _, h, _ => by simp at h
  | .val d :: r, 0, _, i, _, h, _ => by simp at h
  | .val d :: r, k + 1, 0, i, _, _, h => by simp at h
  | .val d :: r, k + 1, k' + 1, i, n, h, h' => by rw [slot_uniq (as := r) n (show r[k]? = _ by simpa using h) (by simpa using h')]
  | .slot j :: r, 0, 0, i, _, _, _ => rfl
  | .slot j :: r, 0, k' + 1, i, n, h, h' => by
    have e : j = i := by simpa using h
    subst e
    exact absurd (slot_mem (as := r) (k := k') (by simpa using h')) (List.nodup_cons.mp n).1
  | .slot j :: r, k + 1, 0, i, n, h, h' => by
    have e : j = i := by simpa using h'
    subst e
    exact absurd (slot_mem (as := r) (k := k) (by simpa using h)) (List.nodup_cons.mp n).1
  | .slot j :: r, k + 1, k' + 1, i, n, h, h' => by rw [slot_uniq (as := r) (List.nodup_cons.mp n).2 (show r[k]? = _ by simpa using h) (by simpa using h')]
/-- the callee's state -/
theorem Rl.enter (R : Rl K σ H Hs ρ φ) (a : ArgsOk K Hs σ as vs) (nd : (slotsOf as).Nodup) (hv : ∀ k v, vs[k]? = some v → vv k = v) (h : argCs ρ vv 0 as = some ρc) : Rl K (vs.map some) H Hs ρc (argF φ as) := by
  have mem : ∀ {k p}, p ∈ argF φ as k → ∃ i, as[k]? = some (.slot i) ∧ p ∈ φ i := fun {k p} hp => by
    unfold argF at hp
    split at hp
    · rename_i i e; exact ⟨i, e, hp⟩
    · cases hp
  refine ⟨by rw [argCs_len h, List.length_map, a.len], R.ex, fun k c hc => ?_, fun k p hp => ?_, fun k p hp => ?_, fun k => ?_, fun k k' p hp hp' => ?_⟩
  · obtain ⟨b, h1, h2⟩ := argCs_get h hc
    rw [Nat.zero_add] at h2
    obtain ⟨v, h3, h4⟩ := a.get h1
    rw [List.getElem?_map, h3]
    cases b with
    | val d =>
      cases Option.some.inj h2
      have e : argF φ as k = [] := by unfold argF; rw [h1]
      rw [e]
      exact ⟨v, rfl, Ow.of h4⟩
    | slot i =>
      have e : argF φ as k = φ i := by unfold argF; rw [h1]
      rw [e]
      have h2' : (match ρ[i]? with | some (.vl d) => some (Cell.io (vv k) d) | some (.io _ d) => some (Cell.io (vv k) d) | _ => none) = some c := h2
      have hs : σ[i]? = some (some v) := h4
      rw [hv k v h3] at h2'
      split at h2'
      · rename_i d he
        cases Option.some.inj h2'
        obtain ⟨w, e1, e2⟩ := R.cell i _ he
        rw [hs] at e1
        cases e1
        exact ⟨rfl, e2⟩
      · rename_i u d he
        cases Option.some.inj h2'
        obtain ⟨e1, e2⟩ := R.cell i _ he
        rw [hs] at e1
        cases e1
        exact ⟨rfl, e2⟩
      · cases h2'
  · obtain ⟨i, _, h2⟩ := mem hp; exact R.hs i p h2
  · obtain ⟨i, _, h2⟩ := mem hp; exact R.nn i p h2
  · unfold argF
    split
    · exact R.nd _
    · exact .nil
  · obtain ⟨i, h1, h2⟩ := mem hp
    obtain ⟨i', h1', h2'⟩ := mem hp'
    have e := R.dis i i' p h2 h2'
    subst e
    exact slot_uniq nd h1 h1'
theorem wipeR_out (ρ : Rho) {i : Nat} : ∀ {vs : List Nat}, i ∉ vs → (wipeR ρ vs)[i]? = ρ[i]?
  | [], _ => rfl
  | v :: vs, h => by
    show ((wipeR ρ vs).set v .no)[i]? = _
    rw [List.getElem?_set_ne (fun z => h (by rw [z]; exact List.mem_cons_self)), wipeR_out ρ (fun z => h (List.mem_cons_of_mem _ z))]
theorem wipeR_set (ρ : Rho) {i : Nat} {c : Cell} : ∀ {vs : List Nat}, i ∉ vs → (wipeR ρ vs).set i c = wipeR (ρ.set i c) vs
  | [], _ => rfl
  | v :: vs, h => by
    show ((wipeR ρ vs).set v .no).set i c = (wipeR (ρ.set i c) vs).set v .no
    rw [← wipeR_set ρ (fun z => h (List.mem_cons_of_mem _ z)), List.set_comm _ _ (fun z => h (by rw [z]; exact List.mem_cons_self))]
def holeF (φ : Fp) (is : List Nat) : Fp := fun j => if j ∈ is then [] else φ j
theorem holeF_in {φ : Fp} {is : List Nat} {j : Nat} {p : Addr} (h : p ∈ holeF φ is j) : j ∉ is ∧ p ∈ φ j := by
  unfold holeF at h
  split at h
  · cases h
  · rename_i q; exact ⟨q, h⟩
theorem Rl.hole (R : Rl K σ H Hs ρ φ) (is : List Nat) : Rl K σ H Hs (wipeR ρ is) (holeF φ is) := by
  refine ⟨by rw [wipeR_len, R.len], R.ex, fun j c h => ?_, fun j p hp => R.hs j p (holeF_in hp).2, fun j p hp => R.nn j p (holeF_in hp).2, fun j => ?_, fun j k p hj hk => R.dis j k p (holeF_in hj).2 (holeF_in hk).2⟩
  · by_cases hj : j ∈ is
    · rw [wipeR_in ρ hj h]; trivial
    · rw [wipeR_out ρ hj] at h
      have e : holeF φ is j = φ j := if_neg hj
      rw [e]
      exact R.cell j c h
  · unfold holeF
    split
    · exact .nil
    · exact R.nd j
/-- one slot's cell comes back; the others' as they are -/
theorem Rl.back1 {H' Hs' : Hp} (R : Rl K σ H' Hs' ρ φ) {i : Nat} {c c' c2 : Cell} {v v' : V} {F : List Addr} (hσ : σ[i]? = some (some v)) (hi : i < ρ.length) (hm : ∀ u d, c = .io u d → u = v) (hr : reC v' c c' = some c2) (ok : CellOk K Hs' H' (some (some v)) c' F)
    (hn : ∀ p, p ∈ F → Hs' p = none ∧ ∀ j, j ≠ i → p ∉ φ j) (nd : F.Nodup) : Rl K σ H' Hs' (ρ.set i c2) (putF φ i F) := by
  have key : ∃ d, Ow K Hs' H' d v F ∧ CellOk K Hs' H' (some (some v)) c2 F := by
    cases c <;> cases c' <;> first
      | (cases hr; done)
      | skip
    · rename_i d0 u d
      cases Option.some.inj hr
      obtain ⟨e0, ow⟩ := ok
      cases e0
      exact ⟨d, ow, v, rfl, ow⟩
    · rename_i w d0 u d
      cases Option.some.inj hr
      have e1 := hm w d0 rfl
      subst e1
      obtain ⟨e0, ow⟩ := ok
      cases e0
      exact ⟨d, ow, rfl, ow⟩
  obtain ⟨d, ow, ck⟩ := key
  have := R.put (i := i) (c := c2) (F := F) (v? := some v) hi ck (fun p hp => ⟨(hn p hp).1, ow.nn d v F p hp, (hn p hp).2⟩) nd
  rwa [set_self hσ] at this
theorem backC_spec {H' Hs' : Hp} {φc' : Fp} (h0 : ∀ (k i : Nat) (p : Addr), as[k]? = some (.slot i) → p ∈ φc' k → Hs' p = none) (hd : ∀ k k' p, p ∈ φc' k → p ∈ φc' k' → k = k') (hnd : ∀ k, (φc' k).Nodup) {ρc' : Rho}
    (hcell : ∀ (k i : Nat) (c : Cell) (v : V), as[k]? = some (.slot i) → ρc'[k]? = some c → σ[i]? = some (some v) → CellOk K Hs' H' (some (some v)) c (φc' k)) :
    ∀ {r : List Arg} {n : Nat} {cs : Rho} {ρ1 ρ2 : Rho} {φ1 : Fp}, (∀ k, r[k]? = as[n + k]?) → (∀ k, cs[k]? = ρc'[n + k]?) → backC vv n r cs ρ1 = some ρ2 → (slotsOf r).Nodup → Rl K σ H' Hs' (wipeR ρ1 (slotsOf r)) φ1 → (∀ (k i : Nat), r[k]? = some (.slot i) → ∃ v, σ[i]? = some (some v)) →
      (∀ (i : Nat) (u : V) (d : D), ρ1[i]? = some (.io u d) → σ[i]? = some (some u)) →
      (∀ (j : Nat) (p : Addr), p ∈ φ1 j → ∀ (k i : Nat), r[k]? = some (.slot i) → j ≠ i → p ∉ φc' (n + k)) →
      ∃ φ2, Rl K σ H' Hs' ρ2 φ2 ∧ ∀ j p, p ∈ φ2 j → p ∈ φ1 j ∨ ∃ k i : Nat, as[k]? = some (.slot i) ∧ p ∈ φc' k := by
  intro r
  induction r with
  | nil =>
    intro n cs ρ1 ρ2 φ1 _ _ h _ R _ _ _
    have h' : some ρ1 = some ρ2 := by cases cs <;> exact h
    cases Option.some.inj h'
    exact ⟨φ1, R, fun j p hp => .inl hp⟩
  | cons a r ih =>
    intro n cs ρ1 ρ2 φ1 hr hcs h ndr R hσ hm hsep
    have hr1 : ∀ k, r[k]? = as[n + 1 + k]? := fun k => by
      have := hr (k + 1)
      rw [show n + 1 + k = n + (k + 1) by omega]
      simpa using this
    cases cs with
    | nil => cases a <;> cases h
    | cons c' cs =>
      have hc1 : ∀ k, cs[k]? = ρc'[n + 1 + k]? := fun k => by
        have := hcs (k + 1)
        rw [show n + 1 + k = n + (k + 1) by omega]
        simpa using this
      cases a with
      | val d =>
        exact ih hr1 hc1 h ndr R (fun k i e => hσ (k + 1) i (by simpa using e)) hm fun j p hp k i e => by
          have := hsep j p hp (k + 1) i (by simpa using e)
          rwa [show n + (k + 1) = n + 1 + k by omega] at this
      | slot i =>
        have h' : (match ρ1[i]? with | some c => (reC (vv n) c c').bind fun c2 => backC vv (n + 1) r cs (ρ1.set i c2) | none => none) = some ρ2 := h
        cases e1 : ρ1[i]? with
        | none => rw [e1] at h'; cases h'
        | some c =>
          rw [e1] at h'
          obtain ⟨c2, e2, e3⟩ := Option.bind_eq_some_iff.mp h'
          obtain ⟨v, hv⟩ := hσ 0 i rfl
          have an : as[n]? = some (.slot i) := by
            have := hr 0
            rw [Nat.add_zero] at this
            rw [← this]; rfl
          have cn : ρc'[n]? = some c' := by
            have := hcs 0
            rw [Nat.add_zero] at this
            rw [← this]; rfl
          have ok := hcell n i c' v an cn hv
          have ns : ∀ j p, p ∈ φ1 j → j ≠ i → p ∉ φc' n := fun j p hp hj => hsep j p hp 0 i rfl hj
          have hnr : i ∉ slotsOf r := (List.nodup_cons.mp ndr).1
          have hil : i < ρ1.length := (List.getElem?_eq_some_iff.mp e1).1
          have R2 := R.back1 hv (by rw [wipeR_len]; exact hil) (fun u d e => by subst e; have := hm i u d e1; rw [hv] at this; cases this; rfl) e2 ok (fun p hp => ⟨h0 n i p an hp, fun j hj hpj => ns j p hpj hj hp⟩) (hnd n)
          have e4 : (wipeR ρ1 (slotsOf (Arg.slot i :: r))).set i c2 = wipeR (ρ1.set i c2) (slotsOf r) := by
            show ((wipeR ρ1 (slotsOf r)).set i .no).set i c2 = _
            rw [List.set_set, wipeR_set ρ1 hnr]
          rw [e4] at R2
          have hm2 : ∀ (j : Nat) (u : V) (d : D), (ρ1.set i c2)[j]? = some (.io u d) → σ[j]? = some (some u) := fun j u d e => by
            by_cases q : j = i
            · subst q
              rw [List.getElem?_set_self hil] at e
              have e5 := Option.some.inj e
              subst e5
              have cc := R2.cell
              cases c <;> cases c' <;> first
                | (cases e2; done)
                | skip
              rename_i w d0 u' d'
              cases Option.some.inj e2
              exact hm j u d0 e1
            · rw [List.getElem?_set_ne (fun z => q z.symm)] at e
              exact hm j u d e
          obtain ⟨φ2, R3, h3⟩ := ih hr1 hc1 e3 (List.nodup_cons.mp ndr).2 R2 (fun k i e => hσ (k + 1) i (by simpa using e)) hm2 fun j p hp k i' e hj => by
            by_cases q : j = i
            · subst q
              rw [putF_same] at hp
              intro z
              have := hd _ _ p hp z
              omega
            · rw [putF_ne q] at hp
              have := hsep j p hp (k + 1) i' (by simpa using e) hj
              rwa [show n + (k + 1) = n + 1 + k by omega] at this
          refine ⟨φ2, R3, fun j p hp => ?_⟩
          rcases h3 j p hp with h4 | h4
          · by_cases q : j = i
            · subst q
              rw [putF_same] at h4
              exact .inr ⟨n, _, an, h4⟩
            · rw [putF_ne q] at h4
              exact .inl h4
          · exact .inr h4
/-- behind the call -/
theorem Rl.leave {H' Hs' : Hp} {ρc' ρ2 : Rho} {φc' : Fp} (R : Rl K σ H Hs ρ φ) (a : ArgsOk K Hs σ as vs) (nd : (slotsOf as).Nodup) (R' : Rl K (vs.map some) H' Hs' ρc' φc') (S' : Step H Hs (argF φ as) H' Hs' φc') (hb : backC vv 0 as ρc' ρ = some ρ2) :
    ∃ φ2, Rl K σ H' Hs' ρ2 φ2 ∧ Step H Hs φ H' Hs' φ2 ∧ ∀ j p, p ∈ φ2 j → (j ∉ slotsOf as ∧ p ∈ φ j) ∨ ∃ k i : Nat, as[k]? = some (.slot i) ∧ p ∈ φc' k := by
  have inA : ∀ {k p}, p ∈ argF φ as k → ∃ i : Nat, as[k]? = some (.slot i) ∧ p ∈ φ i := fun {k p} hp => by
    unfold argF at hp
    split at hp
    · rename_i i e; exact ⟨i, e, hp⟩
    · cases hp
  have outA : ∀ j p, p ∈ φ j → j ∉ slotsOf as → ∀ k, p ∉ argF φ as k := fun j p hp hj k hk => by
    obtain ⟨i, e, hi⟩ := inA hk
    have := R.dis j i p hp hi
    subst this
    exact hj (slot_mem e)
  have Rh : Rl K σ H' Hs' (wipeR ρ (slotsOf as)) (holeF φ (slotsOf as)) := (R.hole (slotsOf as)).frameT S'.e R'.ex (fun j p hp hnt => by
      obtain ⟨h1, h2⟩ := holeF_in hp
      cases q : H p with
      | none => exact absurd q (R.nn j p h2)
      | some o => exact S'.k p o q (outA j p h2 h1) fun ps z => hnt ps (by rw [q, z])) S'.h fun j p hp => by
      obtain ⟨h1, h2⟩ := holeF_in hp
      exact S'.n p (R.nn j p h2) (R.hs j p h2) (outA j p h2 h1)
  have back : ∀ j p, p ∈ φ j → j ∉ slotsOf as → ∀ k, p ∉ φc' k := fun j p hp hj k hk => by
    rcases S'.f k p hk with ⟨k', h1⟩ | h1
    · exact outA j p hp hj k' h1
    · exact R.nn j p hp h1
  obtain ⟨φ2, R2, h2⟩ := backC_spec (as := as) (K := K) (H' := H') (Hs' := Hs') (φc' := φc') (fun k i p _ hp => R'.hs k p hp) (fun k k' p h h' => R'.dis k k' p h h') R'.nd (ρc' := ρc')
    (fun k i c v e1 e2 e3 => by
      have := R'.cell k c e2
      obtain ⟨w, g1, g2⟩ := a.get e1
      have g2' : σ[i]? = some (some w) := g2
      rw [e3] at g2'
      cases g2'
      rw [List.getElem?_map, g1] at this
      exact this)
    (r := as) (n := 0) (cs := ρc') (fun k => by rw [Nat.zero_add]) (fun k => by rw [Nat.zero_add]) hb nd Rh (fun k i e => by
      obtain ⟨w, _, g2⟩ := a.get e
      exact ⟨w, g2⟩) (fun i u d e => (R.cell i _ e).1) fun j p hp k i e hj => by
      obtain ⟨h1, h3⟩ := holeF_in hp
      exact back j p h3 h1 _
  have hf : ∀ j p, p ∈ φ2 j → (∃ j, p ∈ φ j) ∨ H p = none := fun j p hp => by
    rcases h2 j p hp with h3 | ⟨k, i, e, h3⟩
    · exact .inl ⟨j, (holeF_in h3).2⟩
    · rcases S'.f k p h3 with ⟨k', h4⟩ | h4
      · obtain ⟨i', _, hi⟩ := inA h4
        exact .inl ⟨i', hi⟩
      · exact .inr h4
  have hA : ∀ p, (∀ i, p ∉ φ i) → ∀ k, p ∉ argF φ as k := fun p hn k hk => by
    obtain ⟨i, _, hi⟩ := inA hk
    exact hn i hi
  refine ⟨φ2, R2, ⟨S'.e, fun p o hp hn ht => S'.k p o hp (hA p hn) ht, fun p hp hs hn => S'.n p hp hs (hA p hn), hf, S'.h, fun P q tb => ?_⟩, fun j p hp => (h2 j p hp).imp (fun z => holeF_in z) id⟩
  obtain ⟨ps, g1, g2, g3, g4, g5⟩ := tb
  obtain ⟨ps', h1, h2', h3, _, h5⟩ := S'.t P q ⟨ps, g1, g2, g3, hA P g4, g5⟩
  exact ⟨ps', h1, h2', h3, fun j hj => (hf j P hj).elim (fun ⟨i, hi⟩ => g4 i hi) fun z => (by rw [g1] at z; cases z), h5⟩
end
section
variable {X : Cx} {O : Oc} {k n : Nat} {f : Addr} {fd : FuncData} {ps : List Str} {x : Str} {p pos : Pos} {e : Expr} {es : List Expr} {wf : WE} {wa : WA}
theorem vvOf (vs : List V) : ∀ (k : Nat) (v : V), vs[k]? = some v → (fun k : Nat => (vs[k]?).getD V.non) k = v := fun k v h => by
  show (vs[k]?).getD V.non = v
  rw [h]; rfl
theorem callTau {X : Cx} {O : Oc} {n : Nat} {wf : WE} {wa : WA} (σ : L2.St) (H : Hp) (Q : VK) (E : XK) (q : tauE X.K O false (wCall n wf wa) σ H Q) : tCall (spD X.K n wf) [] E (tauA X.K O wa) σ H Q := by
  obtain ⟨ρ, Hs, φ, P, R, S, hw, hq⟩ := q
  refine ⟨ρ, Hs, φ, _, R, S, hw, fun as ρ1 vs H1 Hs1 φ1 p1 R1 S1 a1 => ?_⟩
  obtain ⟨hl, nd, p1⟩ := p1
  obtain ⟨ρc, hc, p2⟩ := p1 fun k => (vs[k]?).getD V.non
  have Rc := R1.enter a1 nd (vvOf vs) hc
  rw [List.append_nil]
  refine ⟨by rw [a1.len]; exact hl, ρc, Hs1, _, _, Rc, p2, fun d ρ' v H' Hs' φ' G p3 R' S' r fr => ?_⟩
  obtain ⟨ρ2, hb, p4⟩ := p3
  obtain ⟨φ2, R2, S2, sub⟩ := R1.leave a1 nd R' S' hb
  have inA : ∀ {k p}, p ∈ argF φ1 as k → ∃ i : Nat, as[k]? = some (.slot i) ∧ p ∈ φ1 i := fun {k p} hp => by
    unfold argF at hp
    split at hp
    · rename_i i e; exact ⟨i, e, hp⟩
    · cases hp
  have fr2 : Frs H1 φ1 G := fun p hp => by
    rcases fr p hp with h | ⟨j, h⟩
    · exact .inl h
    · obtain ⟨i, _, hi⟩ := inA h
      exact .inr ⟨i, hi⟩
  refine hq d ρ2 v H' Hs' φ2 G p4 R2 (S1.trans S2) ⟨r.ow, r.nd, r.hs, fun p hp j hj => ?_⟩ (Frs.back S1 fr2) fun z => nomatch z
  rcases sub j p hj with ⟨hjs, h⟩ | ⟨k, i, e, h⟩
  · rcases fr p hp with h1 | ⟨k, h1⟩
    · exact R1.nn j p h h1
    · obtain ⟨i, e, hi⟩ := inA h1
      have := R1.dis j i p h hi
      subst this
      exact hjs (slot_mem e)
  · exact r.dj p hp k h
end

section
variable {K : PySem.W.Frag} {σ : L2.St} {n : Nat} {wf : WE} {E : XK} {Q : VK}
end
/-! ### a def by its body -/
@[simp] def RetR : Rho → Rho → Rho → Prop
  | [], _, ρr => ρr = []
  | .no :: r, _ :: r', ρr => ∃ rr, ρr = .no :: rr ∧ RetR r r' rr
  | .vl d :: r, _ :: r', ρr => ∃ rr, ρr = .vl d :: rr ∧ Fro d (fun _ => True) ∧ RetR r r' rr
  | .io v _ :: r, c' :: r', ρr => ∃ d' rr, c' = .io v d' ∧ ρr = .io v d' :: rr ∧ RetR r r' rr
  | _ :: _, [], _ => False
def ioF (φ : Fp) (ρ : Rho) : Fp := fun k => match ρ[k]? with
  | some (.io _ _) => φ k
  | _ => []
theorem ioF_sub {φ : Fp} {ρ : Rho} {k : Nat} {p : Addr} (h : p ∈ ioF φ ρ k) : p ∈ φ k := by
  unfold ioF at h
  split at h
  · exact h
  · cases h
theorem ifF_sub {φ : Fp} {n k : Nat} {p : Addr} (h : p ∈ (if k < n then φ k else [])) : p ∈ φ k := by
  split at h
  · exact h
  · cases h
section
variable {K : PySem.W.Frag}
theorem RetR.get : ∀ {ρ ρ' ρr : Rho} {k : Nat} {c : Cell}, RetR ρ ρ' ρr → ρr[k]? = some c → (ρ[k]? = some .no ∧ c = .no) ∨ (∃ d, ρ[k]? = some (.vl d) ∧ c = .vl d ∧ Fro d fun _ => True) ∨ ∃ v d0 d, ρ[k]? = some (.io v d0) ∧ ρ'[k]? = some (.io v d) ∧ c = .io v d
  | [], _, ρr, k, c, h, g => by rw [show ρr = [] from h] at g; simp at g
  | .no :: r, _ :: r', ρr, k, c, h, g => by
    obtain ⟨rr, rfl, h2⟩ := h
    cases k with
    | zero => exact .inl ⟨rfl, (Option.some.inj g).symm⟩
    | succ k => exact RetR.get (k := k) h2 (by simpa using g)
  | .vl d :: r, _ :: r', ρr, k, c, h, g => by
    obtain ⟨rr, rfl, hf, h2⟩ := h
    cases k with
    | zero => exact .inr (.inl ⟨d, rfl, (Option.some.inj g).symm, hf⟩)
    | succ k => exact RetR.get (k := k) h2 (by simpa using g)
  | .io v d0 :: r, c' :: r', ρr, k, c, h, g => by
    obtain ⟨d', rr, rfl, rfl, h2⟩ := h
    cases k with
    | zero => exact .inr (.inr ⟨v, d0, d', rfl, rfl, (Option.some.inj g).symm⟩)
    | succ k => exact RetR.get (k := k) h2 (by simpa using g)
  | .no :: _, [], _, _, _, h, _ => h.elim
  | .vl _ :: _, [], _, _, _, h, _ => h.elim
  | .io _ _ :: _, [], _, _, _, h, _ => h.elim
theorem RetR.len : ∀ {ρ ρ' ρr : Rho}, RetR ρ ρ' ρr → ρr.length = ρ.length
  | [], _, ρr, h => by rw [show ρr = [] from h]
  | .no :: r, _ :: r', ρr, h => by
    obtain ⟨rr, rfl, h2⟩ := h
    simp [RetR.len h2]
  | .vl d :: r, _ :: r', ρr, h => by
    obtain ⟨rr, rfl, hf, h2⟩ := h
    simp [RetR.len h2]
  | .io v d0 :: r, c' :: r', ρr, h => by
    obtain ⟨d', rr, rfl, rfl, h2⟩ := h
    simp [RetR.len h2]
  | .no :: _, [], _, h => h.elim
  | .vl _ :: _, [], _, h => h.elim
  | .io _ _ :: _, [], _, h => h.elim
theorem Fro.is {Hs H : Hp} {d : D} {v : V} {F : List Addr} (h : Ow K Hs H d v F) (f : Fro d fun _ => True) : Is K Hs d v := (h.fro f).2.2
theorem Rl.ret {vs : List V} {H Hs H' Hs' : Hp} {ρ ρ' ρr : Rho} {φ φ' : Fp} {σ' : L2.St} (R : Rl K (vs.map some) H Hs ρ φ) (R' : Rl K σ' H' Hs' ρ' φ') (S : Step H Hs φ H' Hs' φ') (h : RetR ρ ρ' ρr) : Rl K (vs.map some) H' Hs' ρr (ioF φ' ρ) := by
  have sub : ∀ {k p}, p ∈ ioF φ' ρ k → p ∈ φ' k := fun {k p} hp => by
    unfold ioF at hp
    split at hp
    · exact hp
    · cases hp
  refine ⟨by rw [h.len, R.len], R'.ex, fun k c hc => ?_, fun k p hp => R'.hs k p (sub hp), fun k p hp => R'.nn k p (sub hp), fun k => ?_, fun k k' p hp hp' => R'.dis k k' p (sub hp) (sub hp')⟩
  · rcases h.get hc with ⟨e, rfl⟩ | ⟨d, e, rfl, hf⟩ | ⟨v, d0, d, e, e', rfl⟩
    · trivial
    · obtain ⟨v, hv, ow⟩ := R.cell k _ e
      have e2 : ioF φ' ρ k = [] := by unfold ioF; rw [e]
      rw [e2]
      exact ⟨v, hv, Ow.of ((Fro.is ow hf).mono S.e d v)⟩
    · have e2 : ioF φ' ρ k = φ' k := by unfold ioF; rw [e]
      rw [e2]
      exact ⟨(R.cell k _ e).1, (R'.cell k _ e').2⟩
  · unfold ioF
    split
    · exact R'.nd k
    · exact .nil
theorem Rl.start {vs : List V} {H Hs : Hp} {ρ : Rho} {φ : Fp} (R : Rl K (vs.map some) H Hs ρ φ) (N : List Str) (n : Nat) (hn : vs.length = n) : Rl K (L2.start N vs) H Hs (ρ ++ List.replicate (N.length - n) .no) (fun k => if k < n then φ k else []) := by
  subst hn
  have hl : ρ.length = vs.length := by rw [R.len]; simp
  have sub : ∀ {k p}, p ∈ (if k < vs.length then φ k else []) → p ∈ φ k := fun {k p} hp => by
    split at hp
    · exact hp
    · cases hp
  refine ⟨by unfold L2.start; simp [hl], R.ex, fun k c hc => ?_, fun k p hp => R.hs k p (sub hp), fun k p hp => R.nn k p (sub hp), fun k => ?_, fun k k' p hp hp' => R.dis k k' p (sub hp) (sub hp')⟩
  · by_cases hk : k < vs.length
    · rw [List.getElem?_append_left (by omega)] at hc
      have := R.cell k c hc
      show CellOk K Hs H (L2.start N vs)[k]? c (if k < vs.length then φ k else [])
      unfold L2.start
      rw [List.getElem?_append_left (by simpa using hk), if_pos hk]
      exact this
    · rw [List.getElem?_append_right (by omega)] at hc
      have : c = .no := by
        have := List.mem_of_getElem? hc
        exact List.eq_of_mem_replicate this
      rw [this]
      trivial
  · show (if k < vs.length then φ k else []).Nodup
    split
    · exact R.nd k
    · exact .nil
end
section
variable {P : Program} {w : World} {K : PySem.W.Frag} {mg : Str → Option Value} {base : Heap}
/-- THE RULE for a def: its body as a derivation, and what its word asks of it -/
theorem fnD {x qual : Str} {st : Stmt} {f : Addr} {fd : FuncData} {N ps : List Str} {k : Nat} {wf : WE} {wb : WS} (F : Fun K x qual st f fd) (S : FnScope N ps (defScope st))
    (hb : ∀ (cdv : Value) (A : Around) (outer : List Env) (s : Shared) (H : Hp) (E : XK), Room k (A.deeper (envOfC qual (defScope st) s.heap.objs.size f cdv)) →
      PSs (cxOf CX0 P w K mg base N qual (defScope st) f cdv A outer s H E).nox (defBody st) (tauS K O0 wb))
    (hu : ∀ (ρ : Rho) (P0 : D → Rho → Prop), ρ.length = ps.length → wf (fun _ _ => False) ρ P0 → wb (fun _ _ => False) (ρ ++ List.replicate (N.length - ps.length) .no) ⟨fun ρ' => ∃ ρr, RetR ρ ρ' ρr ∧ P0 .non ρr, fun d ρ' => ∃ ρr, RetR ρ ρ' ρr ∧ P0 d ρr, fun _ => False, fun _ => False⟩) :
    FnOk P w K mg base CX0 (k + 1) f fd ps (spD K ps.length wf) := by
  refine F.ok S (fun vs H Q E h => h.1) fun cdv A outer s H vs Q E hr h => ⟨tauS K O0 wb, hb cdv A outer s H E hr, ?_⟩
  obtain ⟨hn, ρ, Hs, φ, P0, R, hw, hq⟩ := h
  have R1 := R.start N ps.length hn
  have hl : ρ.length = ps.length := by rw [R.len]; simp [hn]
  have S1 : Step H Hs φ H Hs (fun k => if k < ps.length then φ k else []) := Step.of_sub fun j p hp => ⟨j, ifF_sub hp⟩
  refine ⟨_, Hs, _, _, R1, step0 _ _ _, hu ρ P0 hl hw, ?_, ?_, fun _ _ _ _ _ h => h.elim, fun _ _ _ _ _ h => h.elim⟩
  · rintro ρ' σ' H' Hs' φ' ⟨ρr, hr', hp⟩ R' S'
    have S2 := S1.trans S'
    exact hq .non ρr .non H' Hs' _ [] hp (R.ret R' S2 hr') (S2.trans (Step.of_sub fun j p hp => ⟨j, ioF_sub hp⟩)) (Res.of (d := .non) rfl) Frs.nil
  · rintro d ρ' σ' v H' Hs' φ' G ⟨ρr, hr', hp⟩ R' S' r fr
    have S2 := S1.trans S'
    refine hq d ρr v H' Hs' _ G hp (R.ret R' S2 hr') (S2.trans (Step.of_sub fun j p hp => ⟨j, ioF_sub hp⟩)) ⟨r.ow, r.nd, r.hs, fun p hp j hj => ?_⟩ (Frs.back S1 fr)
    unfold ioF at hj
    split at hj
    · exact r.dj p hp j hj
    · cases hj
end
section
variable {X : Cx} {O : Oc} {k n : Nat} {f : Addr} {fd : FuncData} {ps : List Str} {x : Str} {p pos : Pos} {e : Expr} {es : List Expr} {wf : WE} {wa : WA}
theorem pd_call (F : FnOk X.prog X.w X.K X.mg X.base CX0 k f fd ps (spD X.K n wf)) (hr : Room k X.A) (hg : Gl X x) (hm : X.mg x = some (.ref f)) (hk : PySem.W.keepIn X.K (.ref f) = true) (hb : Binds X.K fd ps [])
    (ha : PA X (e :: es) (tauA X.K O wa)) (hdb : (x == ("__debug__" : Str)) = false := by decide) (he : starEach (e :: es) X.env = (false, eval e X.env) :: starEach es X.env := by rfl) (hpl : (backTo pos (starEach es X.env)).any (·.1) = false := by rfl) :
    PE X (.Call (.Name x p) (e :: es) [] pos) (tauE X.K O false (wCall n wf wa)) :=
  PE_imp (pe_call F hr hg hm hk hb .nil pass0 ha hdb he hpl) fun σ H Q q => callTau σ H Q _ q
end

/-! ### places that are changed -/
@[simp] def setX (f : Str) (d : D) : List Str → List D → List D
  | n :: ns, x :: xs => if f == n then d :: xs else x :: setX f d ns xs
  | _, xs => xs
@[simp] def putN (f : Str) : List Str → List Str
  | [] => [f]
  | n :: ns => if n = f then n :: ns else n :: putN f ns
@[simp] def putX (f : Str) (d : D) : List Str → List D → List D
  | n :: ns, x :: xs => if n = f then d :: xs else x :: putX f d ns xs
  | _, _ => [d]
@[simp] def PtD (ρ : Rho) (i : Nat) : Path → D → Rho → Prop
  | [], d', ρ' => (∃ d, ρ[i]? = some (.vl d) ∧ ρ' = ρ.set i (.vl d')) ∨ ∃ v d, ρ[i]? = some (.io v d) ∧ ρ' = ρ.set i (.io v d')
  | (C, f) :: r, d', ρ' => ∃ ns xs, PlD ρ i r (.mi C ns xs) ∧ PtD ρ i r (.mi C ns (setX f d' ns xs)) ρ'
theorem PlD.inj {ρ : Rho} {i : Nat} : ∀ {q : Path} {d d' : D}, PlD ρ i q d → PlD ρ i q d' → d = d'
  | [], d, d', h, h' => by
    rcases h with h | ⟨v, h⟩ <;> rcases h' with h' | ⟨v', h'⟩ <;> (rw [h] at h'; first | (cases h'; rfl) | (cases h'; done))
  | (C, f) :: r, d, d', h, h' => by
    obtain ⟨ns, xs, h1, h2⟩ := h
    obtain ⟨ns', xs', h1', h2'⟩ := h'
    have e := PlD.inj h1 h1'
    injection e with _ e2 e3
    subst e2 e3
    rw [h2] at h2'
    exact Option.some.inj h2'
section
variable {K : PySem.W.Frag} {Hs H : Hp}
theorem OwA.focus {f : Str} {d : D} : ∀ {ns : List Str} {xs : List D} {fs : List (Str × V)} {G : List Addr}, fs.map Prod.fst = ns → OwA K Hs H xs (fs.map Prod.snd) G → (ns.zip xs).lookup f = some d →
    ∃ v A F B, G = A ++ F ++ B ∧ fs.lookup f = some v ∧ Ow K Hs H d v F ∧ ∀ Hs' H' d' F2, Ex Hs Hs' → (∀ p, p ∈ A ∨ p ∈ B → H' p = H p) → Ow K Hs' H' d' v F2 → OwA K Hs' H' (setX f d' ns xs) (fs.map Prod.snd) (A ++ F2 ++ B) := by
  intro ns
  induction ns with
  | nil => intro xs fs G _ _ h; simp at h
  | cons n ns ih =>
    intro xs fs G hn ho h
    cases xs with
    | nil => simp at h
    | cons x xs =>
      cases fs with
      | nil => cases hn
      | cons y fs =>
        obtain ⟨y1, y2⟩ := y
        injection hn with hn1 hn2
        have hn1' : y1 = n := hn1
        subst hn1'
        obtain ⟨v, vr, F1, F2, e1, rfl, o1, o2⟩ := ho
        injection e1 with e2 e3
        have e2' : y2 = v := e2
        subst e2' e3
        have h' : (List.lookup f ((y1, x) :: ns.zip xs)) = some d := h
        rw [List.lookup_cons] at h'
        cases hb : f == y1 with
        | true =>
          rw [hb] at h'
          have e4 := Option.some.inj h'
          subst e4
          refine ⟨y2, [], F1, F2, by simp, by rw [List.lookup_cons, hb], o1, fun Hs' H' d' F3 ex k ow => ?_⟩
          show OwA K Hs' H' (if (f == y1) = true then d' :: xs else x :: setX f d' ns xs) _ _
          rw [if_pos hb]
          exact ⟨y2, _, F3, F2, rfl, by simp, ow, OwA.frame ex xs _ F2 (fun p hp => k p (.inr hp)) o2⟩
        | false =>
          rw [hb] at h'
          obtain ⟨v, A, F, B, a1, a2, a3, a4⟩ := ih hn2 o2 h'
          refine ⟨v, F1 ++ A, F, B, by rw [a1]; simp, by rw [List.lookup_cons, hb]; exact a2, a3, fun Hs' H' d' F3 ex k ow => ?_⟩
          show OwA K Hs' H' (if (f == y1) = true then d' :: xs else x :: setX f d' ns xs) _ _
          rw [if_neg (by rw [hb]; exact Bool.false_ne_true)]
          exact ⟨y2, _, F1, A ++ F3 ++ B, rfl, by simp, Ow.frame ex x y2 F1 (fun p hp => k p (.inl (by simp [hp]))) o1, a4 Hs' H' d' F3 ex (fun p hp => k p (hp.imp (fun z => by simp [z]) id)) ow⟩
theorem OwA.put {f : Str} {d : D} {v : V} {Hs' H' : Hp} {F2 : List Addr} (ex : Ex Hs Hs') (ow : Ow K Hs' H' d v F2) : ∀ {ns : List Str} {xs : List D} {fs : List (Str × V)} {G : List Addr}, fs.map Prod.fst = ns → OwA K Hs H xs (fs.map Prod.snd) G → (∀ p, p ∈ G → H' p = H p) → (∀ p, p ∈ F2 → p ∉ G) → F2.Nodup → G.Nodup →
    ∃ G', OwA K Hs' H' (putX f d ns xs) ((L2.putF f v fs).map Prod.snd) G' ∧ (L2.putF f v fs).map Prod.fst = putN f ns ∧ (∀ p, p ∈ G' → p ∈ G ∨ p ∈ F2) ∧ G'.Nodup := by
  intro ns
  induction ns with
  | nil =>
    intro xs fs G hn ho k dj n2 ng
    have e0 : fs = [] := List.map_eq_nil_iff.mp hn
    subst e0
    cases xs with
    | nil =>
      obtain ⟨_, rfl⟩ := ho
      exact ⟨F2, ⟨v, [], F2, [], rfl, by simp, ow, rfl, rfl⟩, rfl, fun p hp => .inr hp, n2⟩
    | cons x xs => obtain ⟨_, _, _, _, q, _⟩ := ho; cases q
  | cons n ns ih =>
    intro xs fs G hn ho k dj n2 ng
    cases fs with
    | nil => cases hn
    | cons y fs =>
      obtain ⟨y1, y2⟩ := y
      injection hn with hn1 hn2
      have hn1' : y1 = n := hn1
      subst hn1'
      cases xs with
      | nil => obtain ⟨q, _⟩ := ho; cases q
      | cons x xs =>
        obtain ⟨u, vr, F1, F3, e1, rfl, o1, o2⟩ := ho
        injection e1 with e2 e3
        have e2' : y2 = u := e2
        subst e2' e3
        have nd := List.nodup_append.mp ng
        by_cases hf : y1 = f
        · refine ⟨F2 ++ F3, ?_, ?_, fun p hp => ?_, List.nodup_append.mpr ⟨n2, nd.2.1, fun a ha b hb e => dj a ha (by rw [e]; simp [hb])⟩⟩
          · show OwA K Hs' H' (if y1 = f then d :: xs else x :: putX f d ns xs) ((if y1 = f then (y1, v) :: fs else (y1, y2) :: L2.putF f v fs).map Prod.snd) _
            rw [if_pos hf, if_pos hf]
            exact ⟨v, _, F2, F3, rfl, rfl, ow, OwA.frame ex xs _ F3 (fun p hp => k p (by simp [hp])) o2⟩
          · show (if y1 = f then (y1, v) :: fs else (y1, y2) :: L2.putF f v fs).map Prod.fst = if y1 = f then y1 :: ns else y1 :: putN f ns
            rw [if_pos hf, if_pos hf]
            show y1 :: fs.map Prod.fst = _
            rw [hn2]
          · rcases List.mem_append.mp hp with h | h
            · exact .inr h
            · exact .inl (by simp [h])
        · obtain ⟨G', g1, g2, g3, g4⟩ := ih hn2 o2 (fun p hp => k p (by simp [hp])) (fun p hp hq => dj p hp (by simp [hq])) n2 nd.2.1
          refine ⟨F1 ++ G', ?_, ?_, fun p hp => ?_, List.nodup_append.mpr ⟨nd.1, g4, fun a ha b hb e => ?_⟩⟩
          · show OwA K Hs' H' (if y1 = f then d :: xs else x :: putX f d ns xs) ((if y1 = f then (y1, v) :: fs else (y1, y2) :: L2.putF f v fs).map Prod.snd) _
            rw [if_neg hf, if_neg hf]
            exact ⟨y2, _, F1, G', rfl, rfl, Ow.frame ex x y2 F1 (fun p hp => k p (by simp [hp])) o1, g1⟩
          · show (if y1 = f then (y1, v) :: fs else (y1, y2) :: L2.putF f v fs).map Prod.fst = if y1 = f then y1 :: ns else y1 :: putN f ns
            rw [if_neg hf, if_neg hf]
            show y1 :: (L2.putF f v fs).map Prod.fst = _
            rw [g2]
          · rcases List.mem_append.mp hp with h | h
            · exact .inl (by simp [h])
            · exact (g3 p h).imp (fun z => by simp [z]) id
          · subst e
            rcases g3 a hb with h | h
            · exact nd.2.2 a ha a h rfl
            · exact dj a h (by simp [ha])
variable {σ : L2.St} {ρ : Rho} {φ : Fp}
theorem place_focus {i : Nat} (R : Rl K σ H Hs ρ φ) : ∀ {q : Path} {d : D}, FOk K q → PlD ρ i q d → ∃ v A F B, φ i = A ++ F ++ B ∧ Ow K Hs H d v F ∧ (q = [] → σ[i]? = some (some v)) ∧ (∀ Q : VK, Q v H → tPl K i q σ H Q) ∧
    ∀ Hs' H' d' F2 ρ', Ex Hs Hs' → (∀ p, p ∈ A ∨ p ∈ B → H' p = H p) → Ow K Hs' H' d' v F2 → PtD ρ i q d' ρ' → ∃ c', ρ' = ρ.set i c' ∧ CellOk K Hs' H' σ[i]? c' (A ++ F2 ++ B)
  | [], d, _, h => by
    rcases h with h | ⟨v, h⟩
    · obtain ⟨v, hv, ow⟩ := R.cell i _ h
      refine ⟨v, [], φ i, [], by simp, ow, fun _ => hv, fun Q q => ⟨v, hv, q⟩, fun Hs' H' d' F2 ρ' ex _ o2 hp => ?_⟩
      rw [List.nil_append, List.append_nil]
      rcases hp with ⟨d0, h1, h2⟩ | ⟨u, d0, h1, h2⟩
      · exact ⟨.vl d', h2, v, hv, o2⟩
      · rw [h] at h1; cases h1
    · obtain ⟨hv, ow⟩ := R.cell i _ h
      refine ⟨v, [], φ i, [], by simp, ow, fun _ => hv, fun Q q => ⟨v, hv, q⟩, fun Hs' H' d' F2 ρ' ex _ o2 hp => ?_⟩
      rw [List.nil_append, List.append_nil]
      rcases hp with ⟨d0, h1, h2⟩ | ⟨u, d0, h1, h2⟩
      · rw [h] at h1; cases h1
      · rw [h] at h1
        cases h1
        exact ⟨.io v d', h2, hv, o2⟩
  | (C, f) :: r, d, hf, h => by
    obtain ⟨ns, xs, h1, h2⟩ := h
    obtain ⟨v, A, F, B, e0, ow, _, hq, up⟩ := place_focus R (fun c hc => hf c (List.mem_cons_of_mem _ hc)) h1
    obtain ⟨a, dx, fs, G, rfl, rfl, ha, hdx, hn, ho⟩ := ow
    obtain ⟨v', A1, F', B1, rfl, l1, o1, up1⟩ := ho.focus hn h2
    refine ⟨v', A ++ a :: dx :: A1, F', B1 ++ B, by rw [e0]; simp, o1, fun z => (by cases z), fun Q q => ?_, fun Hs' H' d' F2 ρ' ex k o2 hp => ?_⟩
    · exact hq _ ⟨a, C, dx, fs, v', rfl, ha, (hf (C, f) List.mem_cons_self).1, (hf (C, f) List.mem_cons_self).2, l1, q⟩
    · obtain ⟨ns', xs', p1, p2⟩ := hp
      have e := PlD.inj h1 p1
      injection e with _ e2 e3
      subst e2 e3
      have key : Ow K Hs' H' (.mi C ns (setX f d' ns xs)) (.ref a) (a :: dx :: (A1 ++ F2 ++ B1)) :=
        ⟨a, dx, fs, _, rfl, rfl, by rw [k a (.inl (by simp))]; exact ha, by rw [k dx (.inl (by simp))]; exact hdx, hn, up1 Hs' H' d' F2 ex (fun p hp => k p (hp.imp (fun z => by simp [z]) fun z => by simp [z])) o2⟩
      obtain ⟨c', g1, g2⟩ := up Hs' H' _ _ ρ' ex (fun p hp => k p (hp.imp (fun z => by simp [z]) fun z => by simp [z])) key p2
      refine ⟨c', g1, ?_⟩
      have e4 : A ++ (a :: dx :: (A1 ++ F2 ++ B1)) ++ B = A ++ a :: dx :: A1 ++ F2 ++ (B1 ++ B) := by simp
      rw [← e4]
      exact g2
/-- a slot's cell is changed in place -/
theorem Rl.mut {H' : Hp} (R : Rl K σ H Hs ρ φ) {i : Nat} {c' : Cell} {F' : List Addr} (hi : i < ρ.length) (x : Ex Hs H') (k : ∀ j p, j ≠ i → p ∈ φ j → H' p = H p) (hc : CellOk K Hs H' σ[i]? c' F')
    (hF : ∀ p, p ∈ F' → Hs p = none ∧ H' p ≠ none ∧ ∀ j, j ≠ i → p ∉ φ j) (nd : F'.Nodup) : Rl K σ H' Hs (ρ.set i c') (putF φ i F') := by
  have R1 := (R.hole [i]).frame (H' := H') (Hs' := Hs) (Ex.refl _) x (fun j p hp => k j p (fun z => (holeF_in hp).1 (by simp [z])) (holeF_in hp).2) fun j p hp => R.hs j p (holeF_in hp).2
  have hl : i < σ.length := by rw [← R.len]; exact hi
  have hσ : σ[i]? = some σ[i] := List.getElem?_eq_getElem hl
  rw [hσ] at hc
  have R2 := R1.put (i := i) (c := c') (F := F') (v? := σ[i]) (by rw [wipeR_len]; exact hi) hc (fun p hp => ⟨(hF p hp).1, (hF p hp).2.1, fun j hj hpj => (hF p hp).2.2 j hj (holeF_in hpj).2⟩) nd
  rw [set_self hσ] at R2
  have e : (wipeR ρ [i]).set i c' = ρ.set i c' := by
    show (ρ.set i .no).set i c' = _
    rw [List.set_set]
  rw [e] at R2
  have e2 : putF (holeF φ [i]) i F' = putF φ i F' := by
    funext j
    by_cases q : j = i
    · subst q; rw [putF_same, putF_same]
    · rw [putF_ne q, putF_ne q]
      exact if_neg (by simp [q])
  rw [e2] at R2
  exact R2
theorem Step.mut {H' : Hp} {φ' : Fp} {i : Nat} (k : ∀ p o, H p = some o → p ∉ φ i → H' p = some o) (h : ∀ p, H p ≠ none → H' p ≠ none) (f : ∀ j p, p ∈ φ' j → (∃ j, p ∈ φ j) ∨ H p = none) : Step H Hs φ H' Hs φ' :=
  .mk' (Ex.refl _) (fun p o hp hn => k p o hp (hn i)) (fun _ _ h _ => h) f h
/-- the list at a place is changed in place -/
theorem list_mut {i : Nat} {vs' : List V} {a : Addr} {A B : List Addr} {ρ' : Rho} {c' : Cell} (R : Rl K σ H Hs ρ φ) (hi : i < ρ.length) (e0 : φ i = A ++ [a] ++ B) (e1 : ρ' = ρ.set i c')
    (hc : CellOk K Hs (L2.upd H a (.lst vs')) σ[i]? c' (A ++ [a] ++ B)) (ha : H a ≠ none) : Rl K σ (L2.upd H a (.lst vs')) Hs ρ' φ ∧ Step H Hs φ (L2.upd H a (.lst vs')) Hs φ := by
  have ain : a ∈ φ i := by rw [e0]; simp
  have hsa := R.hs i a ain
  have x : Ex Hs (L2.upd H a (.lst vs')) := fun p o h => by
    rw [upd_ne (fun e => by rw [e, hsa] at h; cases h)]
    exact R.ex p o h
  have nn : ∀ p, H p ≠ none → L2.upd H a (.lst vs') p ≠ none := fun p hp => by
    by_cases e : p = a
    · subst e; rw [upd_same]; simp
    · rw [upd_ne e]; exact hp
  have R1 := R.mut hi x (fun j p hj hp => upd_ne (fun e => by rw [e] at hp; exact hj (R.dis j i a hp ain))) (by rw [← e0] at hc; exact hc) (fun p hp => ⟨R.hs i p hp, nn p (R.nn i p hp), fun j hj hpj => hj (R.dis j i p hpj hp)⟩) (R.nd i)
  have e2 : putF φ i (φ i) = φ := by
    funext j
    by_cases e : j = i
    · subst e; rw [putF_same]
    · rw [putF_ne e]
  rw [e2, ← e1] at R1
  exact ⟨R1, Step.mut (i := i) (fun p o hp hn => by rw [upd_ne (fun e => hn (by rw [e]; exact ain))]; exact hp) nn fun j p hp => .inl ⟨j, hp⟩⟩
end
/-! ### methods of lists -/
def MtD (X : Cx) (id : String) (g : List D → List D → (List D → D → Prop) → Prop) : Prop :=
  ∃ r, MtR X id r ∧ ∀ (H Hs : Hp) (a : Addr) (vs ws : List V) (xs ds : List D) (k : List D → D → Prop) (Q : VK), H a = some (.lst vs) → Ex Hs H → IsA X.K Hs xs vs → IsA X.K Hs ds ws → g xs ds k →
    (∀ ys vs' rd rv, k ys rd → IsA X.K Hs ys vs' → Is X.K Hs rd rv → Q rv (upd H a (.lst vs'))) → r (.ref a) ws H Q
@[simp] def wMt (g : List D → List D → (List D → D → Prop) → Prop) (i : Nat) (q : Path) (wl : WL) : WE := fun xi ρ P => (∃ x0, PlD ρ i q (.ml x0)) ∧ wl xi ρ fun ds ρ1 => ∃ xs, PlD ρ1 i q (.ml xs) ∧ g xs ds fun ys rd => ∃ ρ2, PtD ρ1 i q (.ml ys) ρ2 ∧ P rd ρ2
section
variable {X : Cx} {O : Oc} {m : Bool} {o e : Expr} {es : List Expr} {apos cpos : Pos} {name : Str} {id : String} {i : Nat} {q : Path} {wl : WL} {g : List D → List D → (List D → D → Prop) → Prop}
theorem PlD.lt {ρ : Rho} : ∀ {q : Path} {d : D}, PlD ρ i q d → i < ρ.length
  | [], d, h => by
    rcases h with h | ⟨v, h⟩ <;> exact (List.getElem?_eq_some_iff.mp h).1
  | (C, f) :: r, d, ⟨ns, xs, h, _⟩ => PlD.lt h
/-- a place behind the evaluation of other things: its value is as it was -/
theorem focus2 {K : PySem.W.Frag} {σ : L2.St} {H Hs H2 Hs2 : Hp} {ρ ρ2 : Rho} {φ φ2 : Fp} {d0 d : D} {v : V} {A F B : List Addr} (hp : q = [] ∨ m = true) (u : Pur m ρ ρ2 φ φ2 H H2) (hk : FOk K q) (R2 : Rl K σ H2 Hs2 ρ2 φ2) (ex : Ex Hs Hs2)
    (h0 : PlD ρ i q d0) (e0 : φ i = A ++ F ++ B) (ow : Ow K Hs H d0 v F) (h1 : q = [] → σ[i]? = some (some v))
    (up : ∀ Hs' H' d' F2 ρ', Ex Hs Hs' → (∀ p, p ∈ A ∨ p ∈ B → H' p = H p) → Ow K Hs' H' d' v F2 → PtD ρ i q d' ρ' → ∃ c', ρ' = ρ.set i c' ∧ CellOk K Hs' H' σ[i]? c' (A ++ F2 ++ B)) (h : PlD ρ2 i q d) :
    ∃ A F B, φ2 i = A ++ F ++ B ∧ Ow K Hs2 H2 d v F ∧ ∀ Hs' H' d' F2 ρ', Ex Hs2 Hs' → (∀ p, p ∈ A ∨ p ∈ B → H' p = H2 p) → Ow K Hs' H' d' v F2 → PtD ρ2 i q d' ρ' → ∃ c', ρ' = ρ2.set i c' ∧ CellOk K Hs' H' σ[i]? c' (A ++ F2 ++ B) := by
  rcases hp with hp | hp
  · obtain ⟨v2, A2, F2, B2, e2, ow2, hv2, _, up2⟩ := place_focus R2 hk h
    have e := (h1 hp).symm.trans (hv2 hp)
    cases e
    exact ⟨A2, F2, B2, e2, ow2, up2⟩
  · obtain ⟨rfl, rfl, k⟩ := u hp
    have e := PlD.inj h0 h
    subst e
    refine ⟨A, F, B, e0, ow.frame ex d0 v F fun p hp => k i p (by rw [e0]; simp [hp]), fun Hs' H' d' F2 ρ' x kk o2 pt => up Hs' H' d' F2 ρ' (ex.trans x) (fun p hp => (kk p hp).trans (k i p (by rw [e0]; rcases hp with z | z <;> simp [z]))) o2 pt⟩
theorem mtTau {r : V → List V → Hp → VK → Prop} (hf : FOk X.K q) (hp : q = [] ∨ m = true)
    (hr : ∀ (H Hs : Hp) (a : Addr) (vs ws : List V) (xs ds : List D) (k : List D → D → Prop) (Q : VK), H a = some (.lst vs) → Ex Hs H → IsA X.K Hs xs vs → IsA X.K Hs ds ws → g xs ds k →
      (∀ ys vs' rd rv, k ys rd → IsA X.K Hs ys vs' → Is X.K Hs rd rv → Q rv (upd H a (.lst vs'))) → r (.ref a) ws H Q)
    (σ : L2.St) (H : Hp) (Q : VK) (t : tauE X.K O false (wMt g i q wl) σ H Q) : tBM X.K "list" r (tPl X.K i q) (tauL X.K O m wl) σ H Q := by
  obtain ⟨ρ, Hs, φ, P, R, S, ⟨⟨x0, h0⟩, hw⟩, hq⟩ := t
  obtain ⟨v, A, F, B, e0, ow, hv, go, up⟩ := place_focus R hf h0
  obtain ⟨a, vs0, rfl, rfl, ha0, c0⟩ := id ow
  refine go _ ⟨.inl ⟨rfl, vs0, SqL.of ha0⟩, ?_⟩
  refine tL R S hw fun ds ρ1 ws H1 Hs1 φ1 p1 R1 S1 SO1 i1 u1 => ?_
  obtain ⟨xs, h1, h2⟩ := p1
  obtain ⟨A1, F1, B1, e1, ow1, up1⟩ := focus2 hp u1 hf R1 S1.e h0 e0 ow hv up h1
  obtain ⟨a', vs, ea, rfl, ha, c⟩ := id ow1
  cases ea
  refine hr H1 Hs1 a vs ws xs ds _ Q ha R1.ex c i1 h2 fun ys vs' rd rv ⟨ρ2, pt, kp⟩ iy ir => ?_
  have ain : a ∈ φ1 i := by rw [e1]; simp
  have hsa := R1.hs i a ain
  have nd := R1.nd i
  rw [e1] at nd
  have ow2 : Ow X.K Hs1 (upd H1 a (.lst vs')) (.ml ys) (.ref a) [a] := ⟨a, vs', rfl, rfl, upd_same, iy⟩
  obtain ⟨c', g1, g2⟩ := up1 Hs1 (upd H1 a (.lst vs')) (.ml ys) [a] ρ2 (Ex.refl _) (fun p hp => upd_ne fun e => by
      subst e
      rw [List.append_assoc] at nd
      have n1 := List.nodup_append.mp nd
      have n2 := List.nodup_append.mp n1.2.1
      rcases hp with z | z
      · exact n1.2.2 p z p (by simp) rfl
      · exact n2.2.2 p (by simp) p z rfl) ow2 pt
  obtain ⟨R2, S2⟩ := list_mut R1 h1.lt e1 g1 g2 (by rw [ha]; simp)
  exact hq rd ρ2 rv _ Hs1 φ1 [] kp R2 (S1.trans S2) (Res.of ir) Frs.nil fun z => nomatch z
theorem pd_mt (hm : MtD X id g) (slot : Slot "list" name id) (hty : typeOf (.builtin id) = pure (.type "method_descriptor")) (ho : PE X o (tPl X.K i q)) (hf : FOk X.K q) (ha : PA X (e :: es) (tauL X.K O m wl)) (hp : q = [] ∨ m = true := by first | exact .inl rfl | exact .inr rfl)
    (hbase : attributeBase o name X.env (eval o X.env) = eval o X.env := by rfl)
    (hfew : ((backTo cpos (starEach (e :: es) X.env)).all (fun x => !x.1) && (backToKw cpos (keywordEach [] X.env)).all (fun x => x.1.isSome)
      && decide ((e :: es).length + ([] : List Keyword).length + (if ([] : List Keyword).isEmpty then 0 else 1) < 30)) = true := by rfl)
    (hline : (apos.endLine == cpos.line) = true := by rfl) (hs : starEach (e :: es) X.env = (false, eval e X.env) :: starEach es X.env := by rfl) (hplain : (backTo cpos (starEach es X.env)).any (·.1) = false := by rfl) :
    PE X (.Call (.Attribute o name apos) (e :: es) [] cpos) (tauE X.K O false (wMt g i q wl)) := by
  obtain ⟨r, h1, h2⟩ := hm
  exact PE_imp (pe_bm PySem.F.plainAttrs_list slot hty h1 ho ha hbase hfew hline hs hplain) (mtTau hf hp h2)
where
  tPl_mono {σ : L2.St} {H : Hp} {Q Q' : VK} (hQ : ∀ x H1, Q x H1 → Q' x H1) : ∀ {q : Path}, tPl X.K i q σ H Q → tPl X.K i q σ H Q' := by
    intro q
    induction q generalizing Q Q' with
    | nil => exact fun ⟨v, h, k⟩ => ⟨v, h, hQ _ _ k⟩
    | cons c r ih => exact ih fun x H1 ⟨a, C, dx, fs, v, e1, e2, e3, e4, e5, k⟩ => ⟨a, C, dx, fs, v, e1, e2, e3, e4, e5, hQ _ _ k⟩
@[simp] def appendG (xs ds : List D) (k : List D → D → Prop) : Prop := match ds with
  | [d] => xs.length < 100000 ∧ k (xs ++ [d]) .non
  | _ => False
@[simp] def extendG (xs ds : List D) (k : List D → D → Prop) : Prop := match ds with
  | [.lst zs] => xs.length + zs.length ≤ 100000 ∧ k (xs ++ zs) .non
  | _ => False
theorem md_append : MtD X "list.append" appendG := by
  refine ⟨_, mt_append, fun H Hs a vs ws xs ds k Q ha ex c i h hk => ?_⟩
  unfold appendG at h
  split at h
  · rename_i d
    obtain ⟨v, r, rfl, e1, e2⟩ := i
    have e2' : r = [] := e2
    subst e2'
    exact ⟨a, vs, v, rfl, rfl, ha, by rw [c.len]; exact Nat.lt_of_lt_of_le h.1 (by decide), hk _ _ _ _ h.2 (c.app (IsA.one e1)) rfl⟩
  · exact h.elim
end

/-! ### x[i] = e, o.f = e -/
@[simp] def wSetIx (i : Nat) (q : Path) (we wi : WE) : WS := fun xi ρ P => we xi ρ fun d ρ1 => Fz d fun d => (∃ x0, PlD ρ1 i q (.ml x0)) ∧ wi xi ρ1 fun y ρ2 => ∃ xs n j, y = .int n ∧ PlD ρ2 i q (.ml xs) ∧ ixN xs.length n = some j ∧ ∃ ρ3, PtD ρ2 i q (.ml (xs.set j d)) ρ3 ∧ P.nx ρ3
@[simp] def wFld (i : Nat) (q : Path) (C : Addr) (f : Str) (we : WE) : WS := fun xi ρ P => we xi ρ fun d ρ1 => ∃ ns xs, PlD ρ1 i q (.mi C ns xs) ∧ ns.length < 1000 ∧ ∃ ρ2, PtD ρ1 i q (.mi C (putN f ns) (putX f d ns xs)) ρ2 ∧ P.nx ρ2
section
variable {X : Cx} {O : Oc} {m m' : Bool} {o e b : Expr} {pos tpos : Pos} {i : Nat} {q : Path} {we wi : WE} {C : Addr} {f : Str}
theorem psd_setIx (he : PE X e (tauE X.K O m' we)) (ho : PE X o (tPl X.K i q)) (hf : FOk X.K q) (hb : PE X b (tauE X.K O m wi)) (hp : q = [] ∨ m = true := by first | exact .inl rfl | exact .inr rfl)
    (ha : ∀ v, assign (.Subscript o b tpos) X.env v = (do
      let ov ← holding [v] (eval o X.env)
      let iv ← holding [v, ov] (eval b X.env)
      standAt tpos
      holding [v, ov, iv] (setItem ov iv v)
      release [v, ov, iv] []) := by intro _; rfl)
    (hs : swapsWithSole [.Subscript o b tpos] e pos.line X.env = pure false := by rfl) (hw : swappedStores [.Subscript o b tpos] e X.env = pure none := by rfl)
    (h1 : (assignEach [.Subscript o b tpos] X.env).map (·.2) = [assign (.Subscript o b tpos) X.env] := by rfl) :
    PS X (.Assign [.Subscript o b tpos] e pos) (tauS X.K O (wSetIx i q we wi)) := PS_imp (ps_asg he (pg_sub ho hb set_list ha) hs hw h1) fun D0 σ H t => by
  obtain ⟨ρ, Hs, φ, P, R, S, hw, E⟩ := t
  refine tF R S hw fun d ρ1 v1 H1 Hs1 φ1 p1 R1 S1 SO1 i1 u1 => ?_
  obtain ⟨⟨x0, h0⟩, p1⟩ := p1
  obtain ⟨v, A, F, B, e0, ow, hv, go, up⟩ := place_focus R1 hf h0
  refine go _ (tE R1 SO1 p1 fun y ρ2 v2 H2 Hs2 φ2 G2 p2 R2 S2 SO2 r2 f2 u2 => ?_)
  obtain ⟨xs, n, j, rfl, h1, hj, ρ3, pt, kn⟩ := p2
  obtain ⟨A1, F1, B1, e1, ow1, up1⟩ := focus2 hp u2 hf R2 S2.e h0 e0 ow hv up h1
  obtain ⟨a, vs, rfl, rfl, ha, c⟩ := id ow1
  refine ⟨a, vs, n, j, rfl, r2.ow.2, ha, by rw [c.len]; exact hj, ?_⟩
  have ain : a ∈ φ2 i := by rw [e1]; simp
  have nd := R2.nd i
  rw [e1] at nd
  obtain ⟨c', g1, g2⟩ := up1 Hs2 (upd H2 a (.lst (vs.set j v1))) (.ml (xs.set j d)) [a] ρ3 (Ex.refl _) (fun p hp => upd_ne fun e => by
      subst e
      rw [List.append_assoc] at nd
      have n1 := List.nodup_append.mp nd
      have n2 := List.nodup_append.mp n1.2.1
      rcases hp with z | z
      · exact n1.2.2 p z p (by simp) rfl
      · exact n2.2.2 p (by simp) p z rfl) ⟨a, _, rfl, rfl, upd_same, c.set j (i1.mono S2.e d v1)⟩ pt
  obtain ⟨R3, S3⟩ := list_mut R2 h1.lt e1 g1 g2 (by rw [ha]; simp)
  exact E.nx ρ3 σ _ Hs2 φ2 kn R3 (S1.trans (S2.trans S3))
end
/-! ### methods of own classes, new instances -/
def wMeth (n : Nat) (C : Addr) (mn : Str) (wf : WE) (i : Nat) (wa : WA) : WE := fun xi ρ P => (∃ ns xs, PlD ρ i [] (.mi C ns xs) ∧ mn ∉ ns) ∧ wa xi ρ fun as ρ1 => (Arg.slot i :: as).length = n ∧ (slotsOf (.slot i :: as)).Nodup ∧
  ∀ vv : Nat → V, ∃ ρc, argCs ρ1 vv 0 (.slot i :: as) = some ρc ∧ wf (fun _ _ => False) ρc fun z ρc' => ∃ ρ2, backC vv 0 (.slot i :: as) ρc' ρ1 = some ρ2 ∧ P z ρ2
section
variable {K : PySem.W.Frag} {σ : L2.St} {H Hs : Hp} {ρ : Rho} {φ : Fp}
theorem Rl.ext (R : Rl K σ H Hs ρ φ) {d : D} {v : V} {G : List Addr} (r : Res K H Hs φ d v G) : Rl K (σ ++ [some v]) H Hs (ρ ++ [.vl d]) (fun j => if j = ρ.length then G else if j < ρ.length then φ j else []) := by
  have cs : ∀ {j p}, p ∈ (if j = ρ.length then G else if j < ρ.length then φ j else []) → (j = ρ.length ∧ p ∈ G) ∨ (j < ρ.length ∧ p ∈ φ j) := fun {j p} hp => by
    split at hp
    · rename_i e; exact .inl ⟨e, hp⟩
    · split at hp
      · rename_i e; exact .inr ⟨e, hp⟩
      · cases hp
  refine ⟨by simp [R.len], R.ex, fun j c hc => ?_, fun j p hp => ?_, fun j p hp => ?_, fun j => ?_, fun j k p hj hk => ?_⟩
  · by_cases e : j = ρ.length
    · subst e
      rw [List.getElem?_append_right (Nat.le_refl _)] at hc
      have e2 : Cell.vl d = c := by simpa using hc
      subst e2
      refine ⟨v, ?_, ?_⟩
      · rw [R.len, List.getElem?_append_right (Nat.le_refl _)]
        simp
      · rw [if_pos rfl]
        exact r.ow
    · have hl : j < ρ.length := by
        have := (List.getElem?_eq_some_iff.mp hc).1
        simp at this
        omega
      rw [List.getElem?_append_left hl] at hc
      have := R.cell j c hc
      rw [List.getElem?_append_left (by rw [← R.len]; exact hl)]
      show CellOk K Hs H σ[j]? c (if j = ρ.length then G else if j < ρ.length then φ j else [])
      rw [if_neg e, if_pos hl]
      exact this
  · rcases cs hp with ⟨_, h⟩ | ⟨_, h⟩
    · exact r.hs p h
    · exact R.hs j p h
  · rcases cs hp with ⟨_, h⟩ | ⟨_, h⟩
    · exact r.ow.nn d v G p h
    · exact R.nn j p h
  · show (if j = ρ.length then G else if j < ρ.length then φ j else []).Nodup
    split
    · exact r.nd
    · split
      · exact R.nd j
      · exact .nil
  · rcases cs hj with ⟨e1, h1⟩ | ⟨e1, h1⟩ <;> rcases cs hk with ⟨e2, h2⟩ | ⟨e2, h2⟩
    · rw [e1, e2]
    · exact absurd h2 (r.dj p h1 k)
    · exact absurd h1 (r.dj p h2 j)
    · exact R.dis j k p h1 h2
theorem ArgsOk.ext {as : List Arg} {vs : List V} {v : V} : ∀ {as : List Arg} {vs : List V}, ArgsOk K Hs σ as vs → (∀ i, i ∈ slotsOf as → i < σ.length) → ArgsOk K Hs (σ ++ [some v]) as vs
  | [], _, h, _ => h
  | .val d :: r, vs, h, g => by
    obtain ⟨w, vr, rfl, h1, h2⟩ := h
    exact ⟨w, vr, rfl, h1, ArgsOk.ext (as := as) (vs := vs) h2 g⟩
  | .slot i :: r, vs, h, g => by
    obtain ⟨w, vr, rfl, h1, h2⟩ := h
    exact ⟨w, vr, rfl, by rw [List.getElem?_append_left (g i List.mem_cons_self)]; exact h1, ArgsOk.ext (as := as) (vs := vs) h2 fun j hj => g j (List.mem_cons_of_mem _ hj)⟩
end

/-! ### chained comparisons -/
@[simp] def wChain (g g' : D → D → (D → Prop) → Prop) (wa wb wc : WE) : WE := fun xi ρ P => wa xi ρ fun x ρ1 => wb xi ρ1 fun y ρ2 => g x y fun z => ∃ k, z = .bl k ∧ if k = true then wc xi ρ2 fun w ρ3 => g' y w fun u => P u ρ3 else P (.bl false) ρ2
section
variable {X : Cx} {O : Oc} {m m1 m2 : Bool} {a b c : Expr} {pos : Pos} {wa wb wc : WE} {g g' : D → D → (D → Prop) → Prop}
theorem chainTau {r r' : R2}
    (hr : ∀ (σ : L2.St) (H Hs : Hp) (ρ : Rho) (φ : Fp) (x y : D) (vx vy : V) (F G : List Addr) (k : D → Prop) (Q : VK), Rl X.K σ H Hs ρ φ → Ow X.K Hs H x vx F → Ow X.K Hs H y vy G → g x y k → Fin X.K σ H Hs ρ φ k Q → r vx vy H Q)
    (hr' : ∀ (σ : L2.St) (H Hs : Hp) (ρ : Rho) (φ : Fp) (x y : D) (vx vy : V) (F G : List Addr) (k : D → Prop) (Q : VK), Rl X.K σ H Hs ρ φ → Ow X.K Hs H x vx F → Ow X.K Hs H y vy G → g' x y k → Fin X.K σ H Hs ρ φ k Q → r' vx vy H Q)
    (σ : L2.St) (H : Hp) (Q : VK) (q : tauE X.K O (m && (m1 && m2)) (wChain g g' wa wb wc) σ H Q) : tChain r r' (tauE X.K O m wa) (tauE X.K O m1 wb) (tauE X.K O m2 wc) σ H Q := by
  obtain ⟨ρ, Hs, φ, P, R, S, hw, hq⟩ := q
  refine tE R S hw fun x ρ1 v1 H1 Hs1 φ1 G1 p1 R1 S1 SO1 r1 f1 u1 => ?_
  refine tE R1 SO1 p1 fun y ρ2 v2 H2 Hs2 φ2 G2 p2 R2 S2 SO2 r2 f2 u2 => ?_
  refine hr σ H2 Hs2 ρ2 φ2 x y v1 v2 G1 G2 _ _ R2 (r1.keep S2) r2.ow p2 fun d v H3 Hs3 G' kd R3 S3 rs fr pu => ?_
  obtain ⟨k, rfl, kd⟩ := kd
  refine ⟨k, rs.ow.2, ?_⟩
  cases k with
  | true =>
    refine iteT ?_
    refine tE R3 (SO2.trans S3) (by simpa using kd) fun w ρ4 v4 H4 Hs4 φ4 G4 p4 R4 S4 SO4 r4 f4 u4 => ?_
    have S34 := S3.trans S4
    refine hr' σ H4 Hs4 ρ4 φ4 y w v2 v4 G2 G4 _ Q R4 (r2.keep S34) r4.ow p4 fun d5 v5 H5 Hs5 G5 kd5 R5 S5 rs5 fr5 pu5 => ?_
    refine hq d5 ρ4 v5 H5 Hs5 φ4 G5 kd5 R5 (((S1.trans S2).trans S34).trans S5) rs5 (Frs.of ((S1.trans S2).trans S34) fr5) ?_
    exact (u1.trans ((u2.thn pu).trans u4)).thn pu5
  | false =>
    refine iteF ?_
    refine hq (.bl false) ρ2 _ H3 Hs3 φ2 [] (by simpa using kd) R3 ((S1.trans S2).trans S3) (Res.of (d := .bl false) rfl) Frs.nil ?_
    exact ((u1.trans u2).thn pu).weak fun z => by revert z; cases m <;> cases m1 <;> simp
theorem pd_chain {op op' : CmpOp} (ho : OpD X (compareOp op) g) (ho' : OpD X (compareOp op') g') (ha : PE X a (tauE X.K O m wa)) (hb : PE X b (tauE X.K O m1 wb)) (hc : PE X c (tauE X.K O m2 wc))
    (hm : lastMarks [op, op'] [b, c] = false := by with_unfolding_all rfl) : PE X (.Compare a [op, op'] [b, c] pos) (tauE X.K O (m && (m1 && m2)) (wChain g g' wa wb wc)) := by
  obtain ⟨r, h1, h2⟩ := ho
  obtain ⟨r', h1', h2'⟩ := ho'
  exact PE_imp (pe_chain h1 h1' ha hb hc hm) (chainTau h2 h2')
theorem pt_chainD {op op' : CmpOp} (ho : OpD X (compareOp op) g) (ho' : OpD X (compareOp op') g') (ha : PE X a (tauE X.K O m wa)) (hb : PE X b (tauE X.K O m1 wb)) (hc : PE X c (tauE X.K O m2 wc))
    (hm : lastMarks [op, op'] [b, c] = false := by with_unfolding_all rfl) : PT X (.Compare a [op, op'] [b, c] pos) (tauT X.K O (m && (m1 && m2)) (wB (wChain g g' wa wb wc))) := by
  obtain ⟨r, h1, h2⟩ := ho
  obtain ⟨r', h1', h2'⟩ := ho'
  exact PT_imp (pt_chain h1 h1' ha hb hc hm) fun σ H Q q => chainTau h2 h2' σ H _ (tB_of q)
end
/-! ### isinstance -/
@[simp] def tagD : D → Option String
  | .bl _ => some "bool"
  | .int _ => some "int"
  | .str _ => some "str"
  | .byt _ => some "bytes"
  | .lst _ => some "list"
  | .rl _ => some "list"
  | .ml _ => some "list"
  | .tup _ => some "tuple"
  | .md _ _ => some "dict"
  | .non => some "NoneType"
  | _ => none
@[simp] def isiB (a T : String) : Bool := a == T || (a == "bool" && T == "int")
def tags : List String := ["bool", "int", "str", "bytes", "list", "tuple", "dict", "NoneType"]
theorem isi_tab : (tags.all fun a => tags.all fun T => kitB a T == some (isiB a T)) = true := by decide +kernel
theorem isi_of {a T : String} (ha : a ∈ tags) (hT : T ∈ tags) : kitB a T = some (isiB a T) :=
  eq_of_beq (List.all_eq_true.mp (List.all_eq_true.mp isi_tab a ha) T hT)
@[simp] def isiD (Ts : List String) (x : D) (k : D → Prop) : Prop := match tagD x with
  | some a => k (.bl (Ts.any (isiB a)))
  | none => False
theorem tag_in {x : D} {a : String} (h : tagD x = some a) : a ∈ tags := by
  cases x <;> first | (cases Option.some.inj h; decide) | cases h
theorem tag_ty {K : PySem.W.Frag} {Hs H : Hp} {x : D} {v : V} {F : List Addr} {a : String} (e : Ex Hs H) (ow : Ow K Hs H x v F) (h : tagD x = some a) : TyX K H v (.type a) := by
  have lst : ∀ {p vs}, SqL K H p vs → TyX K H (.ref p) (.type "list") := fun {p vs} s => by
    rcases s with (s | ⟨o, s⟩) | ⟨o, its, n, s, c, _⟩
    · exact .base (.lst s)
    · exact .base (.frz s)
    · exact .kList s c
  have tup : ∀ {p vs}, SqT K H p vs → TyX K H (.ref p) (.type "tuple") := fun {p vs} s => by
    rcases s with (s | ⟨o, s⟩) | ⟨o, its, n, s, c, _⟩
    · exact .base (.tup s)
    · exact .fTuple s
    · exact .kTuple s c
  cases x
  case non => cases Option.some.inj h; rw [ow.2]; exact .base .non
  case bl b => cases Option.some.inj h; rw [ow.2]; exact .base (.bl b)
  case int i => cases Option.some.inj h; rw [ow.2]; exact .base (.int i)
  case str i => cases Option.some.inj h; rw [ow.2]; exact .base (.str i)
  case byt i => cases Option.some.inj h; rw [ow.2.1]; exact .byt _
  case raw => cases h
  case lst xs => cases Option.some.inj h; obtain ⟨p, vs, rfl, h2, _⟩ := ow.2; exact .base (.lst (e _ _ h2))
  case rl xs => cases Option.some.inj h; obtain ⟨p, vs, rfl, h2, _⟩ := ow.2; exact lst (Evl.ex_l e h2)
  case tup xs => cases Option.some.inj h; obtain ⟨p, vs, rfl, h2, _⟩ := ow.2; exact tup (Evl.ex_t e h2)
  case dic ks xs => cases h
  case ml xs => cases Option.some.inj h; obtain ⟨p, vs, rfl, _, h3, _⟩ := ow; exact .base (.lst h3)
  case md ks xs => cases Option.some.inj h; obtain ⟨p, vs, G, rfl, _, h3, _⟩ := ow; exact .base (.dK h3)
  case mi => cases h
  case ms => cases h
section
variable {X : Cx} {O : Oc} {m : Bool} {e a : Expr} {pos p p1 p2 p3 : Pos} {i : Nat} {q : Path} {T T2 : Str} {t t2 : String}
@[simp] def wIsi (Ts : List String) (i : Nat) (q : Path) : WE := wCall1P (isiD Ts) i q
end

theorem fok0 {K : PySem.W.Frag} : FOk K [] := fun _ z => nomatch z
/-! ### name = comprehension -/
section
variable {X : Cx} {O : Oc} {m mt me : Bool} {elt tg iter : Expr} {ifs : List Expr} {scope : Scope} {own : List (Str × Nat)} {pos spos py : Pos} {p : Pat} {wi : WI} {wt : WT} {we : WE} {i : Nat} {y : Str}
theorem psd_setLc (own : List (Str × Nat)) (hc : X.calm = true) (hN : X.N.Nodup) (hy : X.N[i]? = some y) (hyl : X.env.scope.names.lookup y = some .local)
    (hsw : swapsWith (.ListComp elt [⟨tg, iter, ifs, 0⟩] scope pos) (some (.Name y py)) spos.line X.env = pure true) (hi : PI X tg iter (tauI X.K O m wi)) (ok : BlkOk X.N X.env.scope scope own)
    (hg : ∀ (s : Shared) (H : Hp) (C : Addr) (cl : List (Str × Addr)) (fp : List Addr), PG (X.blk s H scope (compEnvC scope cl C X.env) fp) tg (tauG X.K p))
    (ht : ∀ (s : Shared) (H : Hp) (C : Addr) (cl : List (Str × Addr)) (fp : List Addr), PTs (X.blk s H scope (compEnvC scope cl C X.env) fp) ifs (tauT X.K O0 mt wt))
    (he : ∀ (s : Shared) (H : Hp) (C : Addr) (cl : List (Str × Addr)) (fp : List Addr), PE (X.blk s H scope (compEnvC scope cl C X.env) fp) elt (tauE X.K O0 me we))
    (hsub : ∀ i, i ∈ p.slots → i ∈ own.map (·.2) := by decide) (hs : ∀ x, foldedSetIterable iter X.env x = pure x := by intro _; rfl) :
    PS X (.Assign [.Name y py] (.ListComp elt [⟨tg, iter, ifs, 0⟩] scope pos) spos) (tauS X.K O (wSet i (wLc p (own.map (·.2)) wi wt we))) :=
  PS_imp (ps_setLc hc hN hy hyl hsw hi ok hg ht he hs) fun D0 σ H q => lcTau hsub σ H _ (setTau (m := false) D0 σ H q)
end
/-! ### names = a tuple of fresh things -/
def tauLo (K : PySem.W.Frag) (O : Oc) (w : WL) : TA := fun σ H Q => ∃ ρ Hs φ P, Rl K σ H Hs ρ φ ∧ Step O.H O.Hs O.fp H Hs φ ∧ w O.xi ρ P ∧
  ∀ ds ρ' vs H' Hs' φ' G, P ds ρ' → Rl K σ H' Hs' ρ' φ' → Step H Hs φ H' Hs' φ' → OwA K Hs' H' ds vs G → G.Nodup → (∀ p, p ∈ G → Hs' p = none ∧ ∀ i, p ∉ φ' i) → Frs H φ G → Q vs H'
@[simp] def wConsO (wa : WE) (wl : WL) : WL := fun xi ρ P => wa xi ρ fun d ρ1 => wl xi ρ1 fun ds ρ2 => P (d :: ds) ρ2
@[simp] def setAll : Rho → List Nat → List D → Rho
  | ρ, i :: is, d :: ds => setAll (ρ.set i (.vl d)) is ds
  | ρ, _, _ => ρ
@[simp] def wAsgO (is : List Nat) (wl : WL) : WS := fun xi ρ P => wl xi ρ fun ds ρ1 => ds.length = is.length ∧ ds.length ≤ 100000 ∧ P.nx (setAll ρ1 is ds)
def gNs : List Nat → TGs
  | [] => gNil
  | i :: is => gCons (gName i) (gNs is)
section
variable {X : Cx} {O : Oc} {m : Bool} {e : Expr} {es tgs : List Expr} {wa : WE} {wl : WL} {is : List Nat} {pos p1 p2 : Pos}
theorem OwA.len {K : PySem.W.Frag} {Hs H : Hp} : ∀ {ds : List D} {vs : List V} {F : List Addr}, OwA K Hs H ds vs F → vs.length = ds.length := by
  intro ds
  induction ds with
  | nil => intro vs F h; rw [h.1]; rfl
  | cons d r ih =>
    intro vs F h
    obtain ⟨v, vr, F1, F2, rfl, rfl, _, h⟩ := h
    simp [ih h]
theorem plo_nil : PA X [] (tauLo X.K O wNil) := PA_imp pa_nil fun σ H Q q => by
  obtain ⟨ρ, Hs, φ, P, R, S, hw, hq⟩ := q
  exact hq [] ρ [] H Hs φ [] hw R (Step.refl _ _ _) ⟨rfl, rfl⟩ .nil (fun _ z => nomatch z) Frs.nil
theorem plo_cons (ha : PE X e (tauE X.K O m wa)) (hr : PA X es (tauLo X.K O wl)) (hs : starEach (e :: es) X.env = (false, eval e X.env) :: starEach es X.env := by rfl) :
    PA X (e :: es) (tauLo X.K O (wConsO wa wl)) := PA_imp (pa_cons ha hr hs) fun σ H Q q => by
  obtain ⟨ρ, Hs, φ, P, R, S, hw, hq⟩ := q
  refine tE R S hw fun x ρ1 v1 H1 Hs1 φ1 G1 p1 R1 S1 SO1 r1 f1 u1 => ?_
  refine ⟨ρ1, Hs1, φ1, _, R1, SO1, p1, fun ds ρ2 vs H2 Hs2 φ2 G2 p2 R2 S2 o2 n2 a2 f2 => ?_⟩
  have nn : ∀ p, p ∈ G1 → H1 p ≠ none := r1.ow.nn x v1 G1
  refine hq (x :: ds) ρ2 (v1 :: vs) H2 Hs2 φ2 (G1 ++ G2) p2 R2 (S1.trans S2) ⟨v1, vs, G1, G2, rfl, rfl, r1.keep S2, o2⟩ (List.nodup_append.mpr ⟨r1.nd, n2, fun p hp r hr e => ?_⟩) (fun p hp => ?_) (fun p hp => ?_)
  · subst e
    rcases f2 p hr with z | ⟨j, z⟩
    · exact nn p hp z
    · exact r1.dj p hp j z
  · rcases List.mem_append.mp hp with hp | hp
    · refine ⟨S2.n p (nn p hp) (r1.hs p hp) (r1.dj p hp), fun i hi => ?_⟩
      rcases S2.f i p hi with ⟨j, z⟩ | z
      · exact r1.dj p hp j z
      · exact nn p hp z
    · exact a2 p hp
  · rcases List.mem_append.mp hp with hp | hp
    · exact f1 p hp
    · exact Frs.back S1 f2 p hp
theorem gAll {K : PySem.W.Frag} {H Hs : Hp} {Q : L2.St → Hp → Prop} : ∀ {is : List Nat} {ds : List D} {vs : List V} {G : List Addr} {σ : L2.St} {ρ : Rho} {φ : Fp}, Rl K σ H Hs ρ φ → OwA K Hs H ds vs G → G.Nodup → (∀ p, p ∈ G → Hs p = none ∧ ∀ i, p ∉ φ i) → ds.length = is.length →
    (∀ σ' φ', Rl K σ' H Hs (setAll ρ is ds) φ' → (∀ j p, p ∈ φ' j → (∃ j, p ∈ φ j) ∨ p ∈ G) → Q σ' H) → gNs is vs σ H Q := by
  intro is
  induction is with
  | nil =>
    intro ds vs G σ ρ φ R o n a hl q
    cases ds with
    | nil => exact ⟨o.1, q σ φ R fun j p hp => .inl ⟨j, hp⟩⟩
    | cons d r => cases hl
  | cons i is ih =>
    intro ds vs G σ ρ φ R o n a hl q
    cases ds with
    | nil => cases hl
    | cons d ds =>
      obtain ⟨v, vr, F1, F2, rfl, rfl, o1, o2⟩ := o
      have n1 := List.nodup_append.mp n
      obtain ⟨φ1, R1, h1⟩ := R.fill (i := i) ⟨o1, n1.1, fun p hp => (a p (by simp [hp])).1, fun p hp => (a p (by simp [hp])).2⟩
      refine ⟨v, vr, rfl, ?_⟩
      refine ih (φ := φ1) R1 o2 n1.2.1 (fun p hp => ⟨(a p (by simp [hp])).1, fun j hj => ?_⟩) (by simpa using hl) fun σ' φ' R' h' => q σ' φ' R' fun j p hp => ?_
      · rcases h1 j p hj with ⟨k, z⟩ | z
        · exact (a p (by simp [hp])).2 k z
        · exact n1.2.2 p z p hp rfl
      · rcases h' j p hp with ⟨k, z⟩ | z
        · rcases h1 k p z with z | z
          · exact .inl z
          · exact .inr (by simp [z])
        · exact .inr (by simp [z])
theorem psd_par {i j : Nat} {x y : Str} {a b : Expr} {px py pt pt2 : Pos} {kt k2 : Nat} (hc : X.calm = true) (hN : X.N.Nodup) (hi : X.N[i]? = some x) (hj : X.N[j]? = some y) (hij : i ≠ j)
    (hx : X.env.scope.names.lookup x = some .local) (hy : X.env.scope.names.lookup y = some .local) (ha : PA X [a, b] (tauLo X.K O wl))
    (hw : swappedStores [.Tuple [.Name x px, .Name y py] kt pt] (.Tuple [a, b] k2 pt2) X.env = pure (some [x, y]) := by rfl)
    (hs : swapsWithSole [.Tuple [.Name x px, .Name y py] kt pt] (.Tuple [a, b] k2 pt2) pos.line X.env = pure false := by rfl) :
    PS X (.Assign [.Tuple [.Name x px, .Name y py] kt pt] (.Tuple [a, b] k2 pt2) pos) (tauS X.K O (wAsgO [i, j] wl)) := PS_imp (ps_par hc hN hi hj hij hx hy ha hw hs) fun D0 σ H q => by
  obtain ⟨ρ, Hs, φ, P, R, S, hw, E⟩ := q
  refine ⟨ρ, Hs, φ, _, R, S, hw, fun ds ρ1 vs H1 Hs1 φ1 G1 p1 R1 S1 o1 n1 a1 f1 => ?_⟩
  obtain ⟨hl, hz, hk⟩ := p1
  obtain ⟨v, r, rfl, v2, r2, rfl, rfl, q⟩ := gAll (Q := fun σ' H' => D0.nx σ' H') R1 o1 n1 a1 hl fun σ' φ' R' h' => E.nx _ σ' _ Hs1 φ' hk R' (S1.fill h' f1)
  exact ⟨v, v2, rfl, q⟩
end
/-! ### - x, b"".join -/
section
variable {X : Cx} {O : Oc} {m : Bool} {a e : Expr} {es : List Expr} {pos apos cpos : Pos} {wa : WE} {wl : WL}
@[simp] def wNeg (wa : WE) : WE := fun xi ρ P => wa xi ρ fun d ρ1 => match d with
  | .int i => P (.int (-i)) ρ1
  | _ => False
@[simp] def bytsOf : List D → Option (List (List Int))
  | [] => some []
  | .byt n :: r => (bytsOf r).map (n :: ·)
  | _ => none
@[simp] def wJoinB (wl : WL) : WE := fun xi ρ P => wl xi ρ fun ds ρ1 => match ds with
  | [d] => match (lstOf d).bind bytsOf with
    | some nss => nss.flatten.length ≤ 100000 ∧ P (.byt nss.flatten) ρ1
    | none => False
  | _ => False
end

/-- what a def's body is to satisfy -/
def UB (np nn : Nat) (wf : WE) (wb : WS) : Prop := ∀ (ρ : Rho) (P0 : D → Rho → Prop), ρ.length = np → wf (fun _ _ => False) ρ P0 → wb (fun _ _ => False) (ρ ++ List.replicate (nn - np) .no) ⟨fun ρ' => ∃ ρr, RetR ρ ρ' ρr ∧ P0 .non ρr, fun d ρ' => ∃ ρr, RetR ρ ρ' ρr ∧ P0 d ρr, fun _ => False, fun _ => False⟩
theorem law_sp {K : PySem.W.Frag} {H : Hp} {Q : VK} {E : XK} {w : WE} {a : Addr} {ns : List Int} (hw : ∀ P : D → Rho → Prop, (∀ ρ, P (.bl true) ρ) → w (fun _ _ => False) [.vl (.rl (ns.map D.int))] P) (hS : SqL K H a (ns.map V.int)) (k : ∀ H', Q (.bl true) H') : spD K 1 w [.ref a] H Q E := by
  refine ⟨rfl, [.vl (.rl (ns.map D.int))], H, fun _ => [], fun d _ => d = .bl true, ⟨rfl, Ex.refl _, fun i c hc => ?_, fun _ _ z => (nomatch z), fun _ _ z => (nomatch z), fun _ => .nil, fun _ _ _ z => (nomatch z)⟩, hw _ fun _ => rfl, fun d ρ' v H' Hs' φ' G e R S r f => ?_⟩
  · cases i with
    | zero =>
      have e : Cell.vl (.rl (ns.map D.int)) = c := by simpa using hc
      subst e
      exact ⟨.ref a, rfl, rfl, a, ns.map V.int, rfl, hS, IsA.ints ns⟩
    | succ i => simp at hc
  · subst e
    rw [r.ow.2]
    exact k H'

/-- a new instance: its slot stands behind all others while its __init__ runs -/
def wMk (n : Nat) (C : Addr) (wf : WE) (wa : WA) : WE := fun xi ρ P => wa xi ρ fun as ρ1 => (Arg.slot ρ1.length :: as).length = n ∧ (slotsOf (.slot ρ1.length :: as)).Nodup ∧
  ∀ vv : Nat → V, ∃ ρc, argCs (ρ1 ++ [.vl (.mi C [] [])]) vv 0 (.slot ρ1.length :: as) = some ρc ∧ wf (fun _ _ => False) ρc fun z ρc2 => ∃ ρ2, backC vv 0 (.slot ρ1.length :: as) ρc2 (ρ1 ++ [.vl (.mi C [] [])]) = some ρ2 ∧ z = .non ∧ ∃ ρ3 d, ρ2 = ρ3 ++ [.vl d] ∧ ρ3.length = ρ1.length ∧ P d ρ3
section
variable {X : Cx} {O : Oc} {k n : Nat} {f C : Addr} {fd : FuncData} {ps : List Str} {x mn : Str} {p pos apos : Pos} {o e : Expr} {es : List Expr} {wf : WE} {wa : WA} {i : Nat}
end

/-! ### del xs[:] -/
section
variable {X : Cx}
end
/-! ### the rule -/
def wDelAll (i : Nat) (q : Path) : WS := fun _ ρ P => ∃ xs, PlD ρ i q (.ml xs) ∧ ∃ ρ2, PtD ρ i q (.ml []) ρ2 ∧ P.nx ρ2
section
variable {X : Cx} {O : Oc} {o : Expr} {p2 tpos pos : Pos} {i : Nat} {q : Path}
end

/-! ### first, *others = xs -/
theorem walks_rest {prog : Program} {w : World} {A : Around} (hh : A.handled = none) (I ax : Addr) (hne : ax ≠ I) (v0 : Value) (rest : List Value) :
    Walks prog w A I [I, ax] [I] rest.length (fun i v => rest[i]? = some v) (fun i h => h.IsListIter I ax (i + 1) ∧ h.IsList ax (v0 :: rest).toArray) := by
  have W := Walks.list (prog := prog) (w := w) hh I ax hne (v0 :: rest).toArray
  refine ⟨W.sub, fun i => W.frame (i + 1), fun i s Q E hi st hQ => W.item (i + 1) s Q E (by simp; omega) st fun v h' tk hp st' hk => hQ v h' tk (by simpa using hp) st' hk, fun s Q E st hQ => W.done s Q E (by simpa using st) hQ, fun i => W.self (i + 1)⟩
theorem star_items {prog : Program} {w : World} {A : Around} {s : Shared} {E : Value → Shared → Prop} {l : Addr} {v0 : Value} {rest : List Value} {Q : List Value → Shared → Prop} (hh : A.handled = none) (hl : s.heap.IsList l (v0 :: rest).toArray) (hz : rest.length + 1 ≤ sizeLine)
    (hQ : ∀ s' : Shared, (∀ b o, s.heap.get? b = some o → s'.heap.get? b = some o) → s' = { s with heap := s'.heap, toks := s'.toks } → Q [v0, .ref s'.heap.objs.size] { s' with heap := s'.heap.push { cls := .type "list", data := .seq rest.toArray } }) :
    wpAny (model prog w) A (unpackItems (.ref l) 2 (some 1)) Q E s := by
  have hlt : l ≠ s.heap.objs.size := by obtain ⟨o, ho, _⟩ := hl; exact Nat.ne_of_lt (Heap.lt_size ho)
  unfold unpackItems
  refine wpAny_bind ?_
  unfold notIterableAtAll
  refine wpAny_bind (wpAny_specialOf hl.typeIs slot_list_iter.lookup ?_)
  refine wpAny_pure ?_
  simp only [Bool.false_eq_true, if_false]
  refine wpAny_bind (wpAny_holding (wpAny_pyIter_list hl ?_))
  refine wpAny_bind (wpAny_holding ?_)
  have hit : (s.heap.push { cls := .type "list_iterator", data := .fields #[.ref l, .int 0 0] }).IsListIter s.heap.objs.size l 0 := ⟨_, Heap.get?_push_size _ rfl, rfl, rfl⟩
  have hl1 : (s.heap.push { cls := .type "list_iterator", data := .fields #[.ref l, .int 0 0] }).IsList l (v0 :: rest).toArray := hl.push _
  rw [draw]
  refine wpAny_bind (wpAny_pyNext_list_item (x := v0) hit hl1 (by simp) fun h1 hit1 hs1 => ?_)
  refine wpAny_bind (wpAny_holding ?_)
  rw [draw]
  refine wpAny_pure (wpAny_pure ?_)
  rw [if_neg (by simp)]
  have hl2 : h1.IsList l (v0 :: rest).toArray := hl1.extBut hs1.extBut hlt
  have W := (walks_rest (prog := prog) (w := w) (A := A.in1) hh s.heap.objs.size l hlt v0 rest).toS
  have old : ∀ b o, s.heap.get? b = some o → h1.get? b = some o := fun b o e => hs1.extBut b o (Nat.ne_of_lt (Heap.lt_size e)) (Heap.get?_push_of_some _ e)
  refine wpAny_bind (wpAny_holding (wpAny_collect_iter (T := "list_iterator") (.inr (.inr (.inl rfl))) W (fun i s st => st.1.typeIs) ⟨hit1, hl2⟩ (fun b hb => ?_) (by simp) (fun s2 acc hm hacc => ?_) (by omega)))
  · rcases List.mem_cons.mp hb with rfl | hb
    · obtain ⟨o, ho, _⟩ := hit1; exact Heap.lt_size ho
    · rw [List.mem_singleton.mp hb]; obtain ⟨o, ho, _⟩ := hl2; exact Heap.lt_size ho
  · have e := Moved.eq_with hm
    have ea : acc.toList = rest := by
      refine List.ext_getElem? fun i => ?_
      obtain ⟨hz1, hz2⟩ := hacc
      rw [Array.getElem?_toList]
      cases q : acc[i]? with
      | some v => exact (hz2 i v q).symm
      | none =>
        have := Array.getElem?_eq_none_iff.mp q
        exact (List.getElem?_eq_none (by omega)).symm
    rw [ea]
    rw [if_neg (by simp)]
    have e0 : rest.length - (2 - 1 - 1) = rest.length := rfl
    simp only [e0, List.take_length, List.drop_length]
    refine wpAny_bind (wpAny_newObj_type ?_ (by show List.length _ ≤ sizeLine; exact Nat.le_trans (Nat.le_succ _) hz))
    refine wpAny_pure ?_
    have hq := hQ s2 (fun b o hb => hm.heap b o (fun z => absurd (List.mem_singleton.mp z) (Nat.ne_of_lt (Heap.lt_size hb))) (old b o hb)) e
    exact hq
def gStar (K : PySem.W.Frag) (t : TGs) : TG := fun v σ H Q => ∃ a x xs, v = .ref a ∧ SqL K H a (x :: xs) ∧ ∀ p, H p = none → t [x, .ref p] σ (upd H p (.lst xs)) Q
section
variable {X : Cx} {O : Oc} {m : Bool} {e e1 e2 : Expr} {p1 p2 pos : Pos} {t : TGs} {we : WE} {i j k : Nat}
theorem pg_star (hc : X.calm = true) (h : PGs X [e1, e2] t) (hn : (assignEach [e1, .Starred e2 p2] X.env).length = 2 := by rfl) (hst : (assignEach [e1, .Starred e2 p2] X.env).findIdx? (·.1) = some 1 := by rfl)
    (hm : (assignEach [e1, .Starred e2 p2] X.env).map (·.2) = (assignEach [e1, e2] X.env).map (·.2) := by rfl) : PG X (.Tuple [e1, .Starred e2 p2] k p1) (gStar X.K t) := by
  refine ⟨fun pins s σ H v u Q I r hw => ?_⟩
  obtain ⟨a, x, xs, rfl, hq, hw⟩ := hw
  cases r
  obtain ⟨its, rv, pl, hz⟩ := I.list hq
  cases rv with
  | @cons x v0 xs rest r0 rr =>
    rw [PyProof.Rows.assign_Tuple]
    refine wpAny_bind (wpAny_standAt ?_)
    unfold unpack
    rw [hn, hst]
    refine wpAny_bind (wpAny_holding (star_items (I.ok.hd hc) pl.isList (by have := rr.length; simp at hz; omega) fun s' hk he => ?_))
    rw [hm]
    have I1 : Inv X pins σ H s' := by
      rw [he]
      exact I.kept hk
    have I2 := I1.lnew (t' := s'.toks) rr (by have := rr.length; simp at hz; omega)
    exact h.run pins _ σ _ [x, .ref s'.heap.objs.size] _ Q I2 (.cons r0 (.cons rfl .nil)) (hw _ I1.fresh)
def wStar (i j : Nat) (we : WE) : WS := fun xi ρ P => we xi ρ fun d ρ1 => Fz d fun d => ∃ x xs, lstOf d = some (x :: xs) ∧ P.nx ((ρ1.set i (.vl x)).set j (.vl (.ml xs)))
theorem psd_star (hc : X.calm = true) (he : PE X e (tauE X.K O m we)) (h : PGs X [e1, e2] (gNs [i, j])) (hn : (assignEach [e1, .Starred e2 p2] X.env).length = 2 := by rfl) (hst : (assignEach [e1, .Starred e2 p2] X.env).findIdx? (·.1) = some 1 := by rfl)
    (hm : (assignEach [e1, .Starred e2 p2] X.env).map (·.2) = (assignEach [e1, e2] X.env).map (·.2) := by rfl)
    (hs : swapsWithSole [.Tuple [e1, .Starred e2 p2] k p1] e pos.line X.env = pure false := by rfl) (hw : swappedStores [.Tuple [e1, .Starred e2 p2] k p1] e X.env = pure none := by rfl)
    (h1 : (assignEach [.Tuple [e1, .Starred e2 p2] k p1] X.env).map (·.2) = [assign (.Tuple [e1, .Starred e2 p2] k p1) X.env] := by rfl) : PS X (.Assign [.Tuple [e1, .Starred e2 p2] k p1] e pos) (tauS X.K O (wStar i j we)) :=
  PS_imp (ps_asg he (pg_star hc h hn hst hm) hs hw h1) fun D0 σ H q => by
    obtain ⟨ρ, Hs, φ, P, R, S, hw, E⟩ := q
    refine tF R S hw fun d ρ1 v1 H1 Hs1 φ1 p1 R1 S1 SO1 i1 u1 => ?_
    obtain ⟨x, xs, hl, hn⟩ := p1
    obtain ⟨a, vs, rfl, sq, c⟩ : ∃ a vs, v1 = .ref a ∧ SqL X.K H1 a vs ∧ IsA X.K Hs1 (x :: xs) vs := by
      cases d <;> first
        | (cases hl; done)
        | skip
      · cases Option.some.inj hl
        obtain ⟨a, ws, h1, h2, h3⟩ := i1
        exact ⟨a, ws, h1, SqL.of (R1.ex _ _ h2), h3⟩
      · exact i1.elim
    obtain ⟨v0, vr, rfl, c0, cr⟩ := c
    refine ⟨a, v0, vr, rfl, sq, fun p hp => ?_⟩
    obtain ⟨R2, S2⟩ := R1.newO (o := .lst vr) hp
    have r2 : Res X.K (upd H1 p (.lst vr)) Hs1 φ1 (.ml xs) (.ref p) [p] := R1.resL hp cr
    refine gAll (ds := [x, .ml xs]) (G := [p]) R2 ⟨v0, [.ref p], [], [p], rfl, rfl, Ow.of c0, .ref p, [], [p], [], rfl, rfl, r2.ow, rfl, rfl⟩ (by simp) (fun q hq => ⟨r2.hs q hq, fun i => r2.dj q hq i⟩) rfl fun σ' φ' R' h' => ?_
    exact E.nx _ σ' _ Hs1 φ' hn R' ((S1.trans S2).fill h' (Frs.back S1 (Frs.new hp)))
end

/-! ### a slice of a place -/
def wSlP (i : Nat) (q : Path) (wl wh : WO) : WE := fun xi ρ P => (∃ x, PlD ρ i q x) ∧ wl xi ρ fun lo ρ1 => wh xi ρ1 fun hi ρ2 => ∃ x, PlD ρ2 i q x ∧ slD x lo hi fun z => P z ρ2
section
variable {X : Cx} {O : Oc} {m1 m2 : Bool} {e : Expr} {lo hi : Option Expr} {p2 pos : Pos} {wl wh : WO} {i : Nat} {q : Path}
end

/-! zip of two of lists and tuples -/
def SqK (k : Bool) (K : PySem.W.Frag) (H : Hp) (a : Addr) (xs : List V) : Prop := match k with
  | true => SqT K H a xs
  | false => SqL K H a xs
def zipL (xs ys : List D) : List D := (xs.zip ys).map fun p => .tup [p.1, p.2]
/-- a sequence in the frozen part -/
def SeqIn (K : PySem.W.Frag) (Hs : Hp) (k : Bool) (a : Addr) (vs : List V) : Prop := match k with
  | true => SqT K Hs a vs
  | false => Hs a = some (.lst vs) ∨ SqL K Hs a vs
theorem SeqIn.at {K : PySem.W.Frag} {Hs H : Hp} {k : Bool} {a : Addr} {vs : List V} (h : SeqIn K Hs k a vs) : ∀ Hs1 H1, Ex Hs Hs1 → Ex Hs1 H1 → SqK k K H1 a vs := fun Hs1 H1 e1 e2 => by
  cases k
  · rcases h with h | h
    · exact SqL.of (e2 _ _ (e1 _ _ h))
    · exact Evl.ex_l e2 (Evl.ex_l e1 h)
  · exact Evl.ex_t e2 (Evl.ex_t e1 h)
@[simp] def wZip (w : WL) : WI := fun xi ρ P => w xi ρ fun ds ρ1 => match ds with
  | [d, e] => (match seqOf d with | some xs => (match seqOf e with | some ys => P (zipL xs ys) ρ1 | none => False) | none => False)
  | _ => False
/-! the step -/
theorem s_zip {w : WL} {xi : Xi} {ρ : Rho} {P : List D → Rho → Prop} (h : w xi ρ fun ds ρ1 => match ds with
  | [d, e] => (match seqOf d with | some xs => (match seqOf e with | some ys => P (zipL xs ys) ρ1 | none => False) | none => False)
  | _ => False) : wZip w xi ρ P := h

/-! o.f += n; sum of bytes; index of texts; tuples of the module -/
section
variable {X : Cx} {C : Addr} {f : Str}
end
def wFldAug (i : Nat) (q : Path) (C : Addr) (f : Str) (op : Int → Int → Int) (we : WE) : WS := fun xi ρ P => ∃ ns xs i0, PlD ρ i q (.mi C ns xs) ∧ (ns.zip xs).lookup f = some (.int i0) ∧ ns.length < 1000 ∧ we xi ρ fun y ρ1 => ∃ j, y = .int j ∧ PlD ρ1 i q (.mi C ns xs) ∧ ∃ ρ2, PtD ρ1 i q (.mi C (putN f ns) (putX f (.int (op i0 j)) ns xs)) ρ2 ∧ P.nx ρ2
section
variable {X : Cx} {O : Oc} {m : Bool} {o e : Expr} {pos tpos : Pos} {i : Nat} {q : Path} {we : WE} {C : Addr} {f : Str} {op : Operator} {g : Int → Int → Int}
end
/-! ### sum of bytes -/
section
open PySem.W PySem.W.KBmo PySem.W.KBw Builtin
end
def sumbD (x : D) (k : D → Prop) : Prop := match x with
  | .byt ns => ns.length ≤ 100000 ∧ k (.int ns.sum)
  | _ => False
theorem s_sumbyt {x : List Int} {k : D → Prop} (h0 : x.length ≤ 100000) (h : k (.int x.sum)) : sumbD (.byt x) k := ⟨h0, h⟩
/-! ### index of texts -/
@[simp] def strsOf : List D → Option (List Str)
  | [] => some []
  | .str s :: r => (strsOf r).map (s :: ·)
  | _ => none
def LoD (x : D) (k : List D → Prop) : Prop := match lstOf x with
  | some xs => k xs
  | none => False
theorem s_lolst {xs : List D} {k : List D → Prop} (h : k xs) : LoD (.lst xs) k := h
/-- xs.index(x), of texts, xs a list -/
def wIndexL (wo wa : WE) : WE := fun xi ρ P => wo xi ρ fun x ρ1 => Fz x fun x => LoD x fun xs => wa xi ρ1 fun y ρ2 => Fz y fun y => ∃ ss z j, strsOf xs = some ss ∧ y = .str z ∧ ss[j]? = some z ∧ (∀ m, m < j → ss[m]? ≠ some z) ∧ P (.int (j : Nat)) ρ2
/-- of a tuple of texts of the module -/
def wIndexG (ss : List Str) (wa : WE) : WE := fun xi ρ P => wa xi ρ fun y ρ2 => Fz y fun y => ∃ z j, y = .str z ∧ ss[j]? = some z ∧ (∀ m, m < j → ss[m]? ≠ some z) ∧ P (.int (j : Nat)) ρ2
/-- a tuple of texts of the module -/
structure GTup (K : PySem.W.Frag) (a : Addr) (ss : List Str) : Prop where
  ex : ∃ (o : Obj) (its : Array Value) (n : Nat), K.lookup a = some o ∧ o.cls = .type "tuple" ∧ o.dict = none ∧ o.data = .seq its n ∧ its.size ≤ sizeLine ∧ Vals (ss.map V.str) its.toList
theorem GTup.sq {K : PySem.W.Frag} {a : Addr} {ss : List Str} (g : GTup K a ss) (H : Hp) : SqT K H a (ss.map V.str) := by
  obtain ⟨o, its, n, h1, h2, h3, h4, h5, h6⟩ := g.ex
  exact .inr ⟨o, its, n, h1, h2, h4, h5, h6⟩
section
variable {X : Cx} {O : Oc} {m m' : Bool} {o e : Expr} {x : Str} {p apos cpos : Pos} {wo wa : WE} {ss : List Str} {a : Addr}
end
theorem s_fldaugC {i : Nat} {C : Addr} {f : Str} {op : Int → Int → Int} {n i0 : Int} {ns ns' : List Str} {xs xs' : List D} {v : V} {xi : Xi} {ρ : Rho} {P : PEn} (h1 : ρ[i]? = some (.io v (.mi C ns xs))) (h2 : (ns.zip xs).lookup f = some (.int i0)) (h3 : ns.length < 1000)
    (h4 : putN f ns = ns') (h5 : putX f (.int (op i0 n)) ns xs = xs') (h : P.nx (ρ.set i (.io v (.mi C ns' xs')))) : wFldAug i [] C f op (wC (.int n)) xi ρ P := by
  subst h4 h5
  exact ⟨ns, xs, i0, .inr ⟨v, h1⟩, h2, h3, n, rfl, .inr ⟨v, h1⟩, _, .inr ⟨v, _, h1, rfl⟩, h⟩
theorem s_indexL {wo wa : WE} {xi : Xi} {ρ : Rho} {P : D → Rho → Prop} (h : wo xi ρ fun x ρ1 => Fz x fun x => LoD x fun xs => wa xi ρ1 fun y ρ2 => Fz y fun y => ∃ ss z j, strsOf xs = some ss ∧ y = .str z ∧ ss[j]? = some z ∧ (∀ m, m < j → ss[m]? ≠ some z) ∧ P (.int (j : Nat)) ρ2) : wIndexL wo wa xi ρ P := h
theorem s_indexG {ss : List Str} {wa : WE} {xi : Xi} {ρ : Rho} {P : D → Rho → Prop} (h : wa xi ρ fun y ρ2 => Fz y fun y => ∃ z j, y = .str z ∧ ss[j]? = some z ∧ (∀ m, m < j → ss[m]? ≠ some z) ∧ P (.int (j : Nat)) ρ2) : wIndexG ss wa xi ρ P := h

/-! dicts: a dict that is frozen is locked for good -/
section
variable {K : PySem.W.Frag} {σ : L2.St} {H Hs H0 Hs0 : Hp} {ρ : Rho} {φ φ0 : Fp}
end
/-- a slot's own dict, frozen -/
def wVF (i : Nat) : WE := fun _ ρ P => ∃ ks xs, ρ[i]? = some (.vl (.md ks xs)) ∧ xs.all flat1 = true ∧ P (.dic ks (xs.map fz1)) (ρ.set i (.vl (.dic ks (xs.map fz1))))
section
variable {X : Cx} {O : Oc} {m : Bool} {e : Expr} {w : WE} {i : Nat}
/-! ### {} -/
def wDn : WE := fun _ ρ P => P (.md [] []) ρ
/-! ### walks -/
def keyD : Key → D
  | .inl i => .int i
  | .inr s => .str s
def DicD (d : D) (k : List Key → List D → Prop) : Prop := match d with
  | .dic ks xs => k ks xs
  | _ => False
/-- over the keys -/
def wKeys (w : WE) : WI := fun xi ρ P => w xi ρ fun d ρ1 => Fz d fun d => DicD d fun ks xs => P (ks.map keyD) ρ1
/-- over the pairs -/
def wItems (w : WE) : WI := fun xi ρ P => w xi ρ fun d ρ1 => Fz d fun d => DicD d fun ks xs => P (zipL (ks.map keyD) xs) ρ1
end

/-! what dicts do -/
def dLook : List Key → List D → Key → Option D
  | n :: ns, x :: xs, k => if n = k then some x else dLook ns xs k
  | _, _, _ => none
def keyOf : D → Option Key
  | .int i => some (.inl i)
  | .str s => some (.inr s)
  | _ => none
/-- a dict as it is read -/
def mapOf : D → Option (List Key × List D)
  | .dic ks xs => some (ks, xs)
  | .md ks xs => some (ks, xs)
  | _ => none
/-- x[y] of a dict -/
def dgD (x y : D) (k : D → Prop) : Prop := ∃ ks xs kk d, mapOf x = some (ks, xs) ∧ keyOf y = some kk ∧ dLook ks xs kk = some d ∧ Fro d k
/-- y in x of a dict -/
def dinD (b : Bool) (y x : D) (k : D → Prop) : Prop := ∃ ks xs kk, mapOf x = some (ks, xs) ∧ keyOf y = some kk ∧ k (.bl (if b then !(dLook ks xs kk).isSome else (dLook ks xs kk).isSome))
/-- e op place -/
def wOpR (g : D → D → (D → Prop) → Prop) (wa : WE) (i : Nat) (q : Path) : WE := fun xi ρ P => wa xi ρ fun x ρ1 => Fz x fun x => ∃ y, PlD ρ1 i q y ∧ g x y fun z => P z ρ1
section
variable {X : Cx} {O : Oc} {m : Bool} {e a b o : Expr} {w wa wb : WE} {i : Nat} {q : Path} {pos : Pos}
/-- len of a dict -/
def lendD (x : D) (k : D → Prop) : Prop := ∃ ks xs, mapOf x = some (ks, xs) ∧ k (.int ks.length)
end
/-! ### stores -/
/-- the values with one told otherwise -/
def repX : List Key → List D → Key → D → List D
  | n :: ns, x :: xs, k, d => (if n = k then d else x) :: repX ns xs k d
  | _, _, _, _ => []
theorem OwA.snoc {K : PySem.W.Frag} {Hs H : Hp} {d : D} {v : V} {F2 : List Addr} (h : Ow K Hs H d v F2) : ∀ {xs : List D} {vs : List V} {G : List Addr}, OwA K Hs H xs vs G → OwA K Hs H (xs ++ [d]) (vs ++ [v]) (G ++ F2)
  | [], vs, G, ho => by
    obtain ⟨rfl, rfl⟩ := ho
    exact ⟨v, [], F2, [], rfl, by simp, h, rfl, rfl⟩
  | x :: xs, vs, G, ho => by
    obtain ⟨u, vr, F1, F3, rfl, rfl, o1, o2⟩ := ho
    exact ⟨u, vr ++ [v], F1, F3 ++ F2, rfl, by simp, o1, OwA.snoc h o2⟩
theorem OwA.rep {K : PySem.W.Frag} {Hs H : Hp} {k : Key} {d : D} {v : V} (h : Is K Hs d v) : ∀ {ks : List Key} {xs : List D} {kvs : List (Key × V)} {G : List Addr}, kvs.map Prod.fst = ks → OwA K Hs H xs (kvs.map Prod.snd) G → G.Nodup →
    ∃ G', OwA K Hs H (repX ks xs k d) ((kvs.map fun kv => if kv.1 = k then (kv.1, v) else kv).map Prod.snd) G' ∧ (∀ p, p ∈ G' → p ∈ G) ∧ G'.Nodup
  | [], xs, [], G, hn, ho, nd => ⟨[], (by cases xs <;> exact ⟨rfl, rfl⟩), fun _ z => (nomatch z), List.nodup_nil⟩
  | [], xs, y :: kvs, G, hn, ho, nd => by cases hn
  | n :: ns, xs, [], G, hn, ho, nd => by cases hn
  | n :: ns, [], y :: kvs, G, hn, ho, nd => by
    obtain ⟨q, _⟩ := ho
    cases q
  | n :: ns, x :: xs, (y1, y2) :: kvs, G, hn, ho, nd => by
    injection hn with hn1 hn2
    have hn1' : y1 = n := hn1
    subst hn1'
    obtain ⟨u, vr, F1, F3, e1, rfl, o1, o2⟩ := ho
    injection e1 with e2 e3
    have e2' : y2 = u := e2
    subst e2' e3
    have n1 := List.nodup_append.mp nd
    obtain ⟨G', g1, g2, g3⟩ := OwA.rep h hn2 o2 n1.2.1
    by_cases hk : y1 = k
    · refine ⟨G', ?_, fun p hp => by simp [g2 p hp], g3⟩
      rw [show repX (y1 :: ns) (x :: xs) k d = d :: repX ns xs k d by show (if y1 = k then d else x) :: _ = _; rw [if_pos hk], List.map_cons, if_pos hk]
      exact ⟨v, _, [], G', rfl, rfl, Ow.of h, g1⟩
    · refine ⟨F1 ++ G', ?_, fun p hp => ?_, List.nodup_append.mpr ⟨n1.1, g3, fun p hp r hr => n1.2.2 p hp r (g2 r hr)⟩⟩
      · rw [show repX (y1 :: ns) (x :: xs) k d = x :: repX ns xs k d by show (if y1 = k then d else x) :: _ = _; rw [if_neg hk], List.map_cons, if_neg hk]
        exact ⟨y2, _, F1, G', rfl, rfl, o1, g1⟩
      · rcases List.mem_append.mp hp with z | z
        · simp [z]
        · simp [g2 p z]
/-- x[y] = d of a dict: a new key, or another plain value -/
def dputC (ks : List Key) (xs : List D) (k : Key) (d : D) (K : List Key → List D → Prop) : Prop :=
  (dLook ks xs k = none ∧ K (ks ++ [k]) (xs ++ [d])) ∨ ((dLook ks xs k).isSome = true ∧ Fro d fun d => K ks (repX ks xs k d))
def wDPut (i : Nat) (q : Path) (we wk : WE) : WS := fun xi ρ P => we xi ρ fun d ρ1 => (∃ ks xs, PlD ρ1 i q (.md ks xs) ∧ wk xi ρ1 fun y ρ2 => ∃ k, keyOf y = some k ∧ PlD ρ2 i q (.md ks xs) ∧ ks.length < 100000 ∧ dputC ks xs k d fun ks' xs' => ∃ ρ3, PtD ρ2 i q (.md ks' xs') ρ3 ∧ P.nx ρ3)
section
variable {X : Cx} {O : Oc} {m m' : Bool} {e o b : Expr} {pos tpos pos' : Pos} {i : Nat} {q : Path} {we wk : WE} {op : Operator} {g : Int → Int → Int}
end

/-! sorted; d[k] += n; d[k].append(e) -/
/-! ### sorted of ints -/
def sortedD (x : D) (k : D → Prop) : Prop := ∃ xs ns, lstOf x = some xs ∧ intsOf xs = some ns ∧ ∀ ns' : List Int, ns'.Perm ns → ns'.Pairwise (· ≤ ·) → k (.ml (ns'.map .int))
def rKeyInts : List Key → Option (List Int)
  | [] => some []
  | .inl i :: r => (rKeyInts r).map (i :: ·)
  | .inr _ :: _ => none
def sortedKD (x : D) (k : D → Prop) : Prop := ∃ ks xs ns, mapOf x = some (ks, xs) ∧ rKeyInts ks = some ns ∧ ∀ ns' : List Int, ns'.Perm ns → ns'.Pairwise (· ≤ ·) → k (.ml (ns'.map .int))
/-! d[k].append(e); d[k] += n -/
/-- the values with the first one of a key told otherwise -/
def repF : List Key → List D → Key → D → List D
  | n :: ns, x :: xs, k, d => if n = k then d :: xs else x :: repF ns xs k d
  | _, xs, _, _ => xs
/-- d[k].m(..), the list's own -/
def wMtD (g : List D → List D → (List D → D → Prop) → Prop) (i : Nat) (q : Path) (wk : WE) (wl : WL) : WE := fun xi ρ P => ∃ ks xs, PlD ρ i q (.md ks xs) ∧ wk xi ρ fun y ρ1 => ∃ k, keyOf y = some k ∧ (∃ y0, dLook ks xs k = some (.ml y0)) ∧
  wl xi ρ1 fun ds ρ2 => ∃ ys, PlD ρ2 i q (.md ks xs) ∧ dLook ks xs k = some (.ml ys) ∧ g ys ds fun zs rd => ∃ ρ3, PtD ρ2 i q (.md ks (repF ks xs k (.ml zs))) ρ3 ∧ P rd ρ3
section
variable {X : Cx} {O : Oc} {o b e : Expr} {es : List Expr} {apos cpos pos tpos : Pos} {name : Str} {id : String} {i : Nat} {q : Path} {wk we : WE} {wl : WL} {g : List D → List D → (List D → D → Prop) → Prop}
end
def wDAug (i : Nat) (q : Path) (op : Int → Int → Int) (wk we : WE) : WS := fun xi ρ P => ∃ ks xs, PlD ρ i q (.md ks xs) ∧ wk xi ρ fun y ρ1 => ∃ k i0, keyOf y = some k ∧ dLook ks xs k = some (.int i0) ∧ ks.length < 100000 ∧ we xi ρ1 fun z ρ2 => ∃ j, z = .int j ∧ PlD ρ2 i q (.md ks xs) ∧
  ∃ ρ3, PtD ρ2 i q (.md ks (repX ks xs k (.int (op i0 j)))) ρ3 ∧ P.nx ρ3
section
variable {X : Cx} {O : Oc} {o b e : Expr} {pos tpos : Pos} {i : Nat} {q : Path} {wk we : WE} {op : Operator} {g : Int → Int → Int}
end

/-! sets of ints -/
def wSet0 (w : World) : WE := fun _ ρ P => P (.ms w []) ρ
def addI (ns : List Int) (k : Int) : List Int := if k ∈ ns then ns else ns ++ [k]
def wSAdd (w : World) (i : Nat) (q : Path) (we : WE) : WE := fun xi ρ P => ∃ ns, PlD ρ i q (.ms w ns) ∧ we xi ρ fun y ρ1 => ∃ k, y = .int k ∧ PlD ρ1 i q (.ms w ns) ∧ ns.length < 1000 ∧ ∃ ρ2, PtD ρ1 i q (.ms w (addI ns k)) ρ2 ∧ P .non ρ2
def sinD (w : World) (b : Bool) (y x : D) (k : D → Prop) : Prop := ∃ ns j, x = .ms w ns ∧ y = .int j ∧ k (.bl (if b then !decide (j ∈ ns) else decide (j ∈ ns)))
def lensD (w : World) (x : D) (k : D → Prop) : Prop := ∃ ns, x = .ms w ns ∧ ns.length < 100000 ∧ k (.int ns.length)
section
variable {X : Cx} {O : Oc} {m : Bool} {o a b e : Expr} {pos p apos cpos : Pos} {i : Nat} {q : Path} {we wa : WE}
end

/-! steps of dicts and sets -/
section
variable {xi : Xi} {ρ ρ2 : Rho} {P : D → Rho → Prop} {Q : PEn} {i : Nat} {ks : List Key} {xs : List D} {d x y : D} {k : Key} {K : D → Prop} {v : V}
theorem s_dn (h : P (.md [] []) ρ) : wDn xi ρ P := h
theorem s_vF (h0 : ρ[i]? = some (.vl (.md ks xs))) (h1 : xs.all flat1 = true) (h : P (.dic ks (xs.map fz1)) (ρ.set i (.vl (.dic ks (xs.map fz1))))) : wVF i xi ρ P := ⟨ks, xs, h0, h1, h⟩
theorem s_keys {w : WE} {PI : List D → Rho → Prop} (h : w xi ρ fun d ρ1 => Fz d fun d => DicD d fun ks xs => PI (ks.map keyD) ρ1) : wKeys w xi ρ PI := h
theorem s_items {w : WE} {PI : List D → Rho → Prop} (h : w xi ρ fun d ρ1 => Fz d fun d => DicD d fun ks xs => PI (zipL (ks.map keyD) xs) ρ1) : wItems w xi ρ PI := h
theorem s_dicd {k : List Key → List D → Prop} (h : k ks xs) : DicD (.dic ks xs) k := h
theorem s_fro_dic {k : D → Prop} (h : k (.dic ks xs)) : Fro (.dic ks xs) k := h
theorem s_fz_dic {k : D → Prop} (h : k (.dic ks xs)) : Fz (.dic ks xs) k := h
theorem s_dg (h1 : mapOf x = some (ks, xs)) (h2 : keyOf y = some k) (h3 : dLook ks xs k = some d) (h : Fro d K) : dgD x y K := ⟨ks, xs, k, d, h1, h2, h3, h⟩
theorem s_din {b c : Bool} (h1 : mapOf x = some (ks, xs)) (h2 : keyOf y = some k) (h3 : (dLook ks xs k).isSome = c) (h : K (.bl (if b then !c else c))) : dinD b y x K := ⟨ks, xs, k, h1, h2, by rw [h3]; exact h⟩
theorem s_opR {g : D → D → (D → Prop) → Prop} {wa : WE} {q : Path} (h : wa xi ρ fun x ρ1 => Fz x fun x => ∃ y, PlD ρ1 i q y ∧ g x y fun z => P z ρ1) : wOpR g wa i q xi ρ P := h
theorem s_lend (h1 : mapOf x = some (ks, xs)) (h : K (.int ks.length)) : lendD x K := ⟨ks, xs, h1, h⟩
theorem s_sorted {zs : List D} {ns : List Int} (h1 : lstOf x = some zs) (h2 : intsOf zs = some ns) (h : ∀ ns' : List Int, ns'.Perm ns → ns'.Pairwise (· ≤ ·) → K (.ml (ns'.map .int))) : sortedD x K := ⟨zs, ns, h1, h2, h⟩
theorem s_sortedKD {ns : List Int} (h1 : mapOf x = some (ks, xs)) (h2 : rKeyInts ks = some ns) (h : ∀ ns' : List Int, ns'.Perm ns → ns'.Pairwise (· ≤ ·) → K (.ml (ns'.map .int))) : sortedKD x K := ⟨ks, xs, ns, h1, h2, h⟩
theorem s_dput {we wk : WE} {q : Path} (h : we xi ρ fun d ρ1 => (∃ ks xs, PlD ρ1 i q (.md ks xs) ∧ wk xi ρ1 fun y ρ2 => ∃ k, keyOf y = some k ∧ PlD ρ2 i q (.md ks xs) ∧ ks.length < 100000 ∧ dputC ks xs k d fun ks' xs' => ∃ ρ3, PtD ρ2 i q (.md ks' xs') ρ3 ∧ Q.nx ρ3)) : wDPut i q we wk xi ρ Q := h
theorem s_dput2 {wk : WE} {F : List Key → List D → D → Rho → Prop} (h0 : ρ[i]? = some (.vl (.md ks xs))) (h : wk xi ρ fun y ρ2 => F ks xs y ρ2) : ∃ ks xs, PlD ρ i [] (.md ks xs) ∧ wk xi ρ fun y ρ2 => F ks xs y ρ2 := ⟨ks, xs, .inl h0, h⟩
theorem s_dput3 {KR : Rho → Prop} (h1 : keyOf y = some k) (h0 : ρ2[i]? = some (.vl (.md ks xs))) (hl : ks.length < 100000) (hn : dLook ks xs k = none) (h : KR (ρ2.set i (.vl (.md (ks ++ [k]) (xs ++ [d]))))) :
    ∃ k, keyOf y = some k ∧ PlD ρ2 i [] (.md ks xs) ∧ ks.length < 100000 ∧ dputC ks xs k d fun ks' xs' => ∃ ρ3, PtD ρ2 i [] (.md ks' xs') ρ3 ∧ KR ρ3 := ⟨k, h1, .inl h0, hl, .inl ⟨hn, _, .inl ⟨_, h0, rfl⟩, h⟩⟩
theorem s_dput3o {KR : Rho → Prop} {d' : D} (h1 : keyOf y = some k) (h0 : ρ2[i]? = some (.vl (.md ks xs))) (hl : ks.length < 100000) (hn : (dLook ks xs k).isSome = true) (hf : Fro d fun z => z = d) (h : KR (ρ2.set i (.vl (.md ks (repX ks xs k d))))) :
    ∃ k, keyOf y = some k ∧ PlD ρ2 i [] (.md ks xs) ∧ ks.length < 100000 ∧ dputC ks xs k d fun ks' xs' => ∃ ρ3, PtD ρ2 i [] (.md ks' xs') ρ3 ∧ KR ρ3 := ⟨k, h1, .inl h0, hl, .inr ⟨hn, by
      cases d <;> first
        | exact ⟨_, .inl ⟨_, h0, rfl⟩, h⟩
        | exact hf.elim⟩⟩
theorem s_set0 {w : World} (h : P (.ms w []) ρ) : wSet0 w xi ρ P := h
theorem s_sadd {w : World} {we : WE} {ns : List Int} (h0 : ρ[i]? = some (.vl (.ms w ns))) (h : we xi ρ fun y ρ1 => ∃ k, y = .int k ∧ PlD ρ1 i [] (.ms w ns) ∧ ns.length < 1000 ∧ ∃ ρ2, PtD ρ1 i [] (.ms w (addI ns k)) ρ2 ∧ P .non ρ2) : wSAdd w i [] we xi ρ P := ⟨ns, .inl h0, h⟩
theorem s_sadd2 {w : World} {ns : List Int} {j : Int} {KR : Rho → Prop} (h0 : ρ[i]? = some (.vl (.ms w ns))) (hl : ns.length < 1000) (h : KR (ρ.set i (.vl (.ms w (addI ns j))))) : ∃ k, D.int j = .int k ∧ PlD ρ i [] (.ms w ns) ∧ ns.length < 1000 ∧ ∃ ρ2, PtD ρ i [] (.ms w (addI ns k)) ρ2 ∧ KR ρ2 := ⟨j, rfl, .inl h0, hl, _, .inl ⟨_, h0, rfl⟩, h⟩
theorem s_sin {w : World} {b c : Bool} {ns : List Int} {j : Int} (h1 : decide (j ∈ ns) = c) (h : K (.bl (if b then !c else c))) : sinD w b (.int j) (.ms w ns) K := ⟨ns, j, rfl, rfl, by rw [h1]; exact h⟩
theorem s_lens {w : World} {ns : List Int} (hl : ns.length < 100000) (h : K (.int ns.length)) : lensD w (.ms w ns) K := ⟨ns, rfl, hl, h⟩
theorem s_mtD {g : List D → List D → (List D → D → Prop) → Prop} {wk : WE} {wl : WL} (h0 : ρ[i]? = some (.vl (.md ks xs))) (h : wk xi ρ fun y ρ1 => ∃ k, keyOf y = some k ∧ (∃ y0, dLook ks xs k = some (.ml y0)) ∧
  wl xi ρ1 fun ds ρ2 => ∃ ys, PlD ρ2 i [] (.md ks xs) ∧ dLook ks xs k = some (.ml ys) ∧ g ys ds fun zs rd => ∃ ρ3, PtD ρ2 i [] (.md ks (repF ks xs k (.ml zs))) ρ3 ∧ P rd ρ3) : wMtD g i [] wk wl xi ρ P := ⟨ks, xs, .inl h0, h⟩
theorem s_mtD2 {KW : Key → Prop} {y0 : List D} (h1 : keyOf y = some k) (h2 : dLook ks xs k = some (.ml y0)) (h : KW k) : ∃ k, keyOf y = some k ∧ (∃ y0, dLook ks xs k = some (.ml y0)) ∧ KW k := ⟨k, h1, ⟨y0, h2⟩, h⟩
theorem s_mtD3 {y0 : List D} {KR : List D → Prop} (h0 : ρ[i]? = some (.vl (.md ks xs))) (h2 : dLook ks xs k = some (.ml y0)) (h : KR y0) : ∃ ys, PlD ρ i [] (.md ks xs) ∧ dLook ks xs k = some (.ml ys) ∧ KR ys := ⟨y0, .inl h0, h2, h⟩
theorem s_mtD4 {KR : Rho → Prop} {zs : List D} (h0 : ρ[i]? = some (.vl (.md ks xs))) (h : KR (ρ.set i (.vl (.md ks (repF ks xs k (.ml zs)))))) : ∃ ρ3, PtD ρ i [] (.md ks (repF ks xs k (.ml zs))) ρ3 ∧ KR ρ3 := ⟨_, .inl ⟨_, h0, rfl⟩, h⟩
end

/-! xs.remove(n), xs[::-1], list(range(a, b)) -/
def wRev (w : WE) : WE := fun xi ρ P => w xi ρ fun x ρ1 => Fz x fun x => LoD x fun xs => P (.ml xs.reverse) ρ1
section
variable {X : Cx} {O : Oc} {m m' : Bool} {e a b : Expr} {k : Nat} {p p1 p2 p3 pos : Pos} {w wa wb : WE}
end
def rgOk (a b : Int) : Prop := -1000000000000 ≤ a ∧ a ≤ 1000000000000 ∧ -1000000000000 ≤ b ∧ b ≤ 1000000000000 ∧ (b - a).toNat ≤ 100000
@[simp] def wLstRg (wa wb : WE) : WE := fun xi ρ P => wa xi ρ fun x ρ1 => Fz x fun x => wb xi ρ1 fun y ρ2 => Fz y fun y => ∃ i j, x = .int i ∧ y = .int j ∧ rgOk i j ∧ P (.ml (rangeL i (j - i).toNat)) ρ2
section
variable {X : Cx} {O : Oc} {m m' : Bool} {a b : Expr} {k : Nat} {p p1 pos pos1 : Pos} {w wa wb : WE}
end
theorem s_lstRg {wa wb : WE} {xi : Xi} {ρ : Rho} {P : D → Rho → Prop} (h : wa xi ρ fun x ρ1 => Fz x fun x => wb xi ρ1 fun y ρ2 => Fz y fun y => ∃ i j, x = .int i ∧ y = .int j ∧ rgOk i j ∧ P (.ml (rangeL i (j - i).toNat)) ρ2) : wLstRg wa wb xi ρ P := h
theorem s_lstRg2 {i j : Int} {K : D → Prop} (h1 : rgOk i j) (h : K (.ml (rangeL i (j - i).toNat))) : ∃ a b, D.int i = .int a ∧ D.int j = .int b ∧ rgOk a b ∧ K (.ml (rangeL a (b - a).toNat)) := ⟨i, j, rfl, rfl, h1, h⟩
theorem s_rev {w : WE} {xi : Xi} {ρ : Rho} {P : D → Rho → Prop} (h : w xi ρ fun x ρ1 => Fz x fun x => LoD x fun xs => P (.ml xs.reverse) ρ1) : wRev w xi ρ P := h
/-! x in (a place), [.. for x in (an own list, read only)] -/
section
variable {X : Cx} {O : Oc} {m : Bool} {a b : Expr} {pos : Pos} {i : Nat} {q : Path} {wa : WE} {g : D → D → (D → Prop) → Prop}
theorem opRTau {r : R2} (hf : FOk X.K q)
    (hr : ∀ (σ : L2.St) (H Hs : Hp) (ρ : Rho) (φ : Fp) (x y : D) (vx vy : V) (F G : List Addr) (k : D → Prop) (Q : VK), Rl X.K σ H Hs ρ φ → Ow X.K Hs H x vx F → Ow X.K Hs H y vy G → g x y k → Fin X.K σ H Hs ρ φ k Q → r vx vy H Q)
    (σ : L2.St) (H : Hp) (Q : VK) (t : tauE X.K O m (wOpR g wa i q) σ H Q) : tOp r (tauE X.K O m wa) (tPl X.K i q) σ H Q := by
  obtain ⟨ρ, Hs, φ, P, R, S, hw, hq⟩ := t
  refine tF R S hw fun x ρ1 v1 H1 Hs1 φ1 p1 R1 S1 SO1 i1 u1 => ?_
  obtain ⟨y, hy, p1⟩ := p1
  obtain ⟨v, F, ow, _, _, go⟩ := tPl_of R1 hf hy
  refine go _ ?_
  refine hr σ H1 Hs1 ρ1 φ1 x y v1 v [] F _ Q R1 (Ow.of i1) ow p1 fun d w H' Hs' G' kd R' S' rs fr pu => ?_
  exact hq d ρ1 w H' Hs' φ1 G' kd R' (S1.trans S') rs (Frs.of S1 fr) (u1.thn pu)
theorem pt_cmpR {op : CmpOp} (ho : OpD X (compareOp op) g) (ha : PE X a (tauE X.K O m wa)) (hb : PE X b (tPl X.K i q)) (hf : FOk X.K q) (hm : behindInMarks op b = false) :
    PT X (.Compare a [op] [b] pos) (tauT X.K O m (wB (wOpR g wa i q))) := by
  obtain ⟨r, h1, h2⟩ := ho
  exact PT_imp (L2.pt_cmpR h1 ha hb hm) fun σ H Q t => opRTau hf h2 σ H _ (tB_of t)
end
section
variable {X : Cx} {O : Oc} {m mt me : Bool} {elt tg iter : Expr} {ifs : List Expr} {scope : Scope} {own : List (Str × Nat)} {pos : Pos} {p : Pat} {j0 : Nat} {wt : WT} {we : WE}
end
section
variable {X : Cx} {O : Oc} {m mt me : Bool} {elt tg iter : Expr} {ifs : List Expr} {scope : Scope} {own : List (Str × Nat)} {pos spos py : Pos} {p : Pat} {j0 : Nat} {wt : WT} {we : WE} {i : Nat} {y : Str}
end
/-! free.discard(k), while free: -/
section
variable {P : Program} {w : World} {A : Around} {E : Value → Shared → Prop} {s : Shared} {a : Addr} {S : Int → Bool} {n : Nat}
end
section
variable {P : Program} {w : World} {A : Around} {E : Value → Shared → Prop} {s : Shared} {a : Addr} {S : Int → Bool} {n : Nat}
end

/-! {n for x in xs if ..}: sets of ints -/
open PpSet
section
variable {X : Cx} {elt tg iter : Expr} {ifs : List Expr} {scope : Scope} {own : List (PySem.Str × Nat)} {pos : Pos} {wi : TI} {g : TG} {tt : TT} {te : TE}
end

/-! set and dict comprehensions, discard, while (a set) -/
/-- an object under construction, that no slot holds -/
structure PendO (H Hs : Hp) (φ : Fp) (D0 : Addr) (o : HO) : Prop where
  at_ : H D0 = some o
  hs : Hs D0 = none
  nf : ∀ i, D0 ∉ φ i
theorem PendO.step {H Hs H' Hs' : Hp} {φ φ' : Fp} {D0 : Addr} {o : HO} (p : PendO H Hs φ D0 o) (S : Step H Hs φ H' Hs' φ') (ht : ∀ ps, o ≠ .tbl ps := by intro ps z; cases z) : PendO H' Hs' φ' D0 o :=
  ⟨S.k _ _ p.at_ p.nf ht, S.n _ (by rw [p.at_]; simp) p.hs p.nf, fun i hi => (by
    rcases S.f i _ hi with ⟨j, hj⟩ | hj
    · exact p.nf j hj
    · rw [p.at_] at hj; cases hj)⟩
theorem PendO.app {K : PySem.W.Frag} {σ : L2.St} {ρ : Rho} {H Hs : Hp} {φ : Fp} {D0 : Addr} {o o' : HO} (p : PendO H Hs φ D0 o) (R : Rl K σ H Hs ρ φ) :
    Rl K σ (L2.upd H D0 o') Hs ρ φ ∧ PendO (L2.upd H D0 o') Hs φ D0 o' := by
  refine ⟨R.frame (Ex.refl _) (fun a u h => ?_) (fun i q hq => upd_ne (fun e => p.nf i (by rw [← e]; exact hq))) R.hs, upd_same, p.hs, p.nf⟩
  rw [upd_ne (fun e => by rw [e, p.hs] at h; cases h)]
  exact R.ex a u h
def scD (w : World) (p : Pat) (wt : WT) (we : WE) (vs : List Nat) (P : D → Rho → Prop) : List D → Rho → List Int → Prop
  | [], ρ, acc => P (.ms w acc) ρ
  | d :: ds, ρ, acc => ∃ ρ1, p.asg d ρ = some ρ1 ∧ wt (fun _ _ => False) ρ1 fun b ρ2 => if b = true then we (fun _ _ => False) ρ2 fun y ρ3 => Fz y fun y => ∃ k, y = .int k ∧ acc.length < 1000 ∧ scD w p wt we vs P ds (wipeR ρ3 vs) (addI acc k)
      else scD w p wt we vs P ds (wipeR ρ2 vs) acc
def wSc (w : World) (p : Pat) (vs : List Nat) (wi : WI) (wt : WT) (we : WE) : WE := fun xi ρ P => wi xi ρ fun ds ρ1 => scD w p wt we vs P ds (wipeR ρ1 vs) []
def dcD (p : Pat) (wt : WT) (wk we : WE) (vs : List Nat) (P : D → Rho → Prop) : List D → Rho → List Key → List D → Prop
  | [], ρ, ks, xs => P (.md ks xs) ρ
  | d :: ds, ρ, ks, xs => ∃ ρ1, p.asg d ρ = some ρ1 ∧ wt (fun _ _ => False) ρ1 fun b ρ2 => if b = true then wk (fun _ _ => False) ρ2 fun y ρ3 => Fz y fun y => we (fun _ _ => False) ρ3 fun z ρ4 => Fz z fun z =>
        ∃ k, keyOf y = some k ∧ dLook ks xs k = none ∧ ks.length < 100000 ∧ dcD p wt wk we vs P ds (wipeR ρ4 vs) (ks ++ [k]) (xs ++ [z])
      else dcD p wt wk we vs P ds (wipeR ρ2 vs) ks xs
def wDc (p : Pat) (vs : List Nat) (wi : WI) (wt : WT) (wk we : WE) : WE := fun xi ρ P => wi xi ρ fun ds ρ1 => dcD p wt wk we vs P ds (wipeR ρ1 vs) [] []
section
variable {X : Cx} {O : Oc} {m mt me mk : Bool} {elt kx tg iter : Expr} {ifs : List Expr} {scope : Scope} {own : List (Str × Nat)} {pos : Pos} {p : Pat} {wi : WI} {wt : WT} {we wk : WE}
end
section
variable {X : Cx} {O : Oc} {m mt me mk : Bool} {vx kx tg iter : Expr} {ifs : List Expr} {scope : Scope} {own : List (Str × Nat)} {pos : Pos} {p : Pat} {wi : WI} {wt : WT} {we wk : WE}
end
section
variable {X : Cx} {O : Oc} {m mt me : Bool} {elt tg iter : Expr} {ifs : List Expr} {scope : Scope} {own : List (Str × Nat)} {pos spos py : Pos} {p : Pat} {wi : WI} {wt : WT} {we : WE} {i : Nat} {y : Str}
end

/-! free.discard(k); while free -/
section
variable {X : Cx} {O : Oc} {m : Bool} {o a e : Expr} {pos p apos cpos : Pos} {i : Nat} {q : Path} {we : WE} {to : TE} {t : TA}
def remI (ns : List Int) (k : Int) : List Int := ns.filter fun j => !decide (j = k)
def wSDis (w : World) (i : Nat) (q : Path) (we : WE) : WE := fun xi ρ P => ∃ ns, PlD ρ i q (.ms w ns) ∧ we xi ρ fun y ρ1 => ∃ k, y = .int k ∧ PlD ρ1 i q (.ms w ns) ∧ ∃ ρ2, PtD ρ1 i q (.ms w (remI ns k)) ρ2 ∧ P .non ρ2
/-- the truth of a set -/
def wTS (w : World) (i : Nat) (q : Path) : WT := fun _ ρ P => ∃ ns, PlD ρ i q (.ms w ns) ∧ P (!decide (ns.length = 0)) ρ
end

/-! [e for x in xs if .. for y in ys if ..] -/
def lc2I (p : Pat) (wt : WT) (we : WE) (vs : List Nat) (K : Rho → List D → Prop) : List D → Rho → List D → Prop
  | [], ρ, acc => K ρ acc
  | d :: ds, ρ, acc => ∃ ρ1, p.asg d ρ = some ρ1 ∧ wt (fun _ _ => False) ρ1 fun b ρ2 => if b = true then we (fun _ _ => False) ρ2 fun y ρ3 => Fz y fun y => acc.length < 100000 ∧ lc2I p wt we vs K ds (wipeR ρ3 vs) (acc ++ [y])
      else lc2I p wt we vs K ds (wipeR ρ2 vs) acc
def lc2D (p : Pat) (wt : WT) (wi1 : WI) (p1 : Pat) (wt1 : WT) (we : WE) (vs vs1 : List Nat) (P : D → Rho → Prop) : List D → Rho → List D → Prop
  | [], ρ, acc => P (.ml acc) ρ
  | d :: ds, ρ, acc => ∃ ρ1, p.asg d ρ = some ρ1 ∧ wt (fun _ _ => False) ρ1 fun b ρ2 => if b = true then wi1 (fun _ _ => False) ρ2 fun ds1 ρ3 =>
        lc2I p1 wt1 we vs1 (fun ρ4 acc => lc2D p wt wi1 p1 wt1 we vs vs1 P ds (wipeR ρ4 vs) acc) ds1 (wipeR ρ3 vs1) acc
      else lc2D p wt wi1 p1 wt1 we vs vs1 P ds (wipeR ρ2 vs) acc
def wLc2 (p : Pat) (vs : List Nat) (wi : WI) (wt : WT) (p1 : Pat) (vs1 : List Nat) (wi1 : WI) (wt1 : WT) (we : WE) : WE := fun xi ρ P => wi xi ρ fun ds ρ1 => lc2D p wt wi1 p1 wt1 we vs vs1 P ds (wipeR ρ1 vs) []
section
variable {X : Cx} {O : Oc} {m m1 mt mt1 me : Bool} {elt tg tg1 iter iter1 : Expr} {ifs ifs1 : List Expr} {scope : Scope} {own own1 : List (Str × Nat)} {pos : Pos} {p p1 : Pat} {wi wi1 : WI} {wt wt1 : WT} {we : WE}
end

/-! sorted(d.items()): a dict whose keys are rising ints -/
section
variable {prog : Program} {w : World} {A : Around} {E : Value → Shared → Prop} {s : Shared} {r d : Addr} {es : Array DictEntry} {ep : Nat}
end

/-! sorted(d.items()), d frozen -/
open L2.DX (itemsO itemsO_ok)
section
variable {X : Cx} {e : Expr} {te : TE} {p apos cpos pos : Pos}
end

/-! sorted(d.items()) over the readings -/
def wSortIt (w : WE) : WE := fun xi ρ P => w xi ρ fun d ρ1 => Fz d fun d => DicD d fun ks xs => ∃ ns : List Int, ks = ns.map Sum.inl ∧ ns.Pairwise (· < ·) ∧ P (.ml (zipL (ks.map keyD) xs)) ρ1
section
variable {X : Cx} {O : Oc} {m : Bool} {e : Expr} {p apos cpos pos : Pos} {w : WE}
end
theorem s_sortIt {w : WE} {xi : Xi} {ρ : Rho} {P : D → Rho → Prop} (h : w xi ρ fun d ρ1 => Fz d fun d => DicD d fun ks xs => ∃ ns : List Int, ks = ns.map Sum.inl ∧ ns.Pairwise (· < ·) ∧ P (.ml (zipL (ks.map keyD) xs)) ρ1) : wSortIt w xi ρ P := h
section
variable {xi : Xi} {ρ ρ2 : Rho} {P : D → Rho → Prop} {Q : PEn} {i : Nat} {v : V}
theorem s_lc2 {p p1 : Pat} {vs vs1 : List Nat} {wi wi1 : WI} {wt wt1 : WT} {we : WE} (h : wi xi ρ fun ds ρ1 => lc2D p wt wi1 p1 wt1 we vs vs1 P ds (wipeR ρ1 vs) []) : wLc2 p vs wi wt p1 vs1 wi1 wt1 we xi ρ P := h
theorem s_sc {w : World} {p : Pat} {vs : List Nat} {wi : WI} {wt : WT} {we : WE} (h : wi xi ρ fun ds ρ1 => scD w p wt we vs P ds (wipeR ρ1 vs) []) : wSc w p vs wi wt we xi ρ P := h
theorem s_dc {p : Pat} {vs : List Nat} {wi : WI} {wt : WT} {wk we : WE} (h : wi xi ρ fun ds ρ1 => dcD p wt wk we vs P ds (wipeR ρ1 vs) [] []) : wDc p vs wi wt wk we xi ρ P := h
theorem s_sdis {w : World} {we : WE} {ns : List Int} (h0 : ρ[i]? = some (.vl (.ms w ns))) (h : we xi ρ fun y ρ1 => ∃ k, y = .int k ∧ PlD ρ1 i [] (.ms w ns) ∧ ∃ ρ2, PtD ρ1 i [] (.ms w (remI ns k)) ρ2 ∧ P .non ρ2) : wSDis w i [] we xi ρ P := ⟨ns, .inl h0, h⟩
theorem s_sdis2 {w : World} {ns : List Int} {j : Int} {KR : Rho → Prop} (h0 : ρ[i]? = some (.vl (.ms w ns))) (h : KR (ρ.set i (.vl (.ms w (remI ns j))))) : ∃ k, D.int j = .int k ∧ PlD ρ i [] (.ms w ns) ∧ ∃ ρ2, PtD ρ i [] (.ms w (remI ns k)) ρ2 ∧ KR ρ2 := ⟨j, rfl, .inl h0, _, .inl ⟨_, h0, rfl⟩, h⟩
theorem s_ts {w : World} {ns : List Int} {T : Bool → Rho → Prop} (h0 : ρ[i]? = some (.vl (.ms w ns))) (h : T (!decide (ns.length = 0)) ρ) : wTS w i [] xi ρ T := ⟨ns, .inl h0, h⟩
end

/-! {k: new thing for ..}: the values are kept owned -/
structure PendG (K : PySem.W.Frag) (H Hs : Hp) (φ : Fp) (D0 : Addr) (xs : List D) (vs : List V) (G : List Addr) : Prop where
  ow : OwA K Hs H xs vs G
  nd : (D0 :: G).Nodup
  hs : ∀ p, p ∈ G → Hs p = none
  nf : ∀ p, p ∈ G → ∀ i, p ∉ φ i
theorem PendG.keep {K : PySem.W.Frag} {H Hs H' Hs' : Hp} {φ φ' : Fp} {D0 : Addr} {xs : List D} {vs : List V} {G : List Addr} (g : PendG K H Hs φ D0 xs vs G) (S : Step H Hs φ H' Hs' φ') : ∀ p, p ∈ G → H' p = H p := fun p hp => by
  cases q : H p with
  | none => exact absurd q (g.ow.nn xs vs G p hp)
  | some o => exact S.k p o q (g.nf p hp) fun ps z => g.ow.nt xs vs G p hp ps (by rw [q, z])
theorem PendG.step {K : PySem.W.Frag} {H Hs H' Hs' : Hp} {φ φ' : Fp} {D0 : Addr} {xs : List D} {vs : List V} {G : List Addr} (g : PendG K H Hs φ D0 xs vs G) (S : Step H Hs φ H' Hs' φ') : PendG K H' Hs' φ' D0 xs vs G :=
  ⟨g.ow.frame S.e xs vs G (g.keep S), g.nd, fun p hp => S.n p (g.ow.nn xs vs G p hp) (g.hs p hp) (g.nf p hp), fun p hp i hi => by
    rcases S.f i p hi with ⟨j, hj⟩ | hj
    · exact g.nf p hp j hj
    · exact g.ow.nn xs vs G p hp hj⟩
theorem PendG.sub {K : PySem.W.Frag} {H Hs : Hp} {φ φ' : Fp} {D0 : Addr} {xs : List D} {vs : List V} {G : List Addr} (g : PendG K H Hs φ D0 xs vs G) (h : ∀ j p, p ∈ φ' j → p ∈ φ j) : PendG K H Hs φ' D0 xs vs G :=
  ⟨g.ow, g.nd, g.hs, fun p hp i hi => g.nf p hp i (h i p hi)⟩
theorem PendG.upd {K : PySem.W.Frag} {H Hs : Hp} {φ : Fp} {D0 : Addr} {o : HO} {xs : List D} {vs : List V} {G : List Addr} (g : PendG K H Hs φ D0 xs vs G) : PendG K (L2.upd H D0 o) Hs φ D0 xs vs G :=
  ⟨g.ow.frame (Ex.refl _) xs vs G fun p hp => upd_ne fun e => (List.nodup_cons.mp g.nd).1 (by rw [← e]; exact hp), g.nd, g.hs, g.nf⟩
theorem PendG.app {K : PySem.W.Frag} {H0 Hs0 H Hs : Hp} {φ0 φ : Fp} {D0 : Addr} {o : HO} {xs : List D} {vs : List V} {G G2 : List Addr} {d : D} {v : V} (g0 : PendG K H0 Hs0 φ0 D0 xs vs G) (p0 : PendO H0 Hs0 φ0 D0 o) (S : Step H0 Hs0 φ0 H Hs φ) (r : Res K H Hs φ d v G2) (f : Frs H0 φ0 G2) : PendG K H Hs φ D0 (xs ++ [d]) (vs ++ [v]) (G ++ G2) := by
  have g := g0.step S
  have out : ∀ p, p ∈ G2 → H0 p = none ∨ ∃ j, p ∈ φ0 j := f
  have n1 := List.nodup_cons.mp g.nd
  refine ⟨OwA.snoc r.ow g.ow, List.nodup_cons.mpr ⟨fun z => ?_, List.nodup_append.mpr ⟨n1.2, r.nd, fun p hp q hq e => ?_⟩⟩, fun p hp => ?_, fun p hp => ?_⟩
  · rcases List.mem_append.mp z with z | z
    · exact n1.1 z
    · rcases out D0 z with y | ⟨j, y⟩
      · rw [p0.at_] at y; cases y
      · exact p0.nf j y
  · subst e
    rcases out p hq with y | ⟨j, y⟩
    · exact g0.ow.nn xs vs G p hp y
    · exact g0.nf p hp j y
  · rcases List.mem_append.mp hp with z | z
    · exact g.hs p z
    · exact r.hs p z
  · rcases List.mem_append.mp hp with z | z
    · exact g.nf p z
    · exact r.dj p z
def dcDO (p : Pat) (wt : WT) (wk we : WE) (vs : List Nat) (P : D → Rho → Prop) : List D → Rho → List Key → List D → Prop
  | [], ρ, ks, xs => P (.md ks xs) ρ
  | d :: ds, ρ, ks, xs => ∃ ρ1, p.asg d ρ = some ρ1 ∧ wt (fun _ _ => False) ρ1 fun b ρ2 => if b = true then wk (fun _ _ => False) ρ2 fun y ρ3 => Fz y fun y => we (fun _ _ => False) ρ3 fun z ρ4 =>
        ∃ k, keyOf y = some k ∧ dLook ks xs k = none ∧ ks.length < 100000 ∧ dcDO p wt wk we vs P ds (wipeR ρ4 vs) (ks ++ [k]) (xs ++ [z])
      else dcDO p wt wk we vs P ds (wipeR ρ2 vs) ks xs
def wDcO (p : Pat) (vs : List Nat) (wi : WI) (wt : WT) (wk we : WE) : WE := fun xi ρ P => wi xi ρ fun ds ρ1 => dcDO p wt wk we vs P ds (wipeR ρ1 vs) [] []
section
variable {X : Cx} {O : Oc} {m mt me mk : Bool} {vx kx tg iter : Expr} {ifs : List Expr} {scope : Scope} {own : List (Str × Nat)} {pos : Pos} {p : Pat} {wi : WI} {wt : WT} {we wk : WE}
end

/-! range(a, b, -1); d.get(k, x); all([..]) -/
def rangeDn (i : Int) (n : Nat) : List D := (List.range n).map fun t : Nat => .int (i - t)
@[simp] def wRng3 (w : WL) : WI := fun xi ρ P => w xi ρ fun ds ρ1 => match ds with
  | [.int a, .int b, .int c] => (-1000000000000 ≤ a ∧ a ≤ 1000000000000 ∧ -1000000000000 ≤ b ∧ b ≤ 1000000000000) ∧ c = -1 ∧ P (rangeDn a (a - b).toNat) ρ1
  | _ => False
section
variable {X : Cx} {O : Oc} {m : Bool} {e f o tg a b c : Expr} {pos p apos cpos : Pos} {we wd wk wx : WE} {wl : WL}
/-- d.get(k, x) of a plain dict -/
def wGet2 (wd wk wx : WE) : WE := fun xi ρ P => wd xi ρ fun d ρ1 => Fz d fun d => DicD d fun ks xs => wk xi ρ1 fun y ρ2 => ∃ kk, keyOf y = some kk ∧ wx xi ρ2 fun z ρ3 => Fz z fun z => match dLook ks xs kk with
  | some d => Fro d fun d => P d ρ3
  | none => P z ρ3
end
/-! ### all -/
def blsOf : List D → Option (List Bool)
  | [] => some []
  | .bl b :: r => (blsOf r).map (b :: ·)
  | _ => none
theorem blsOf_is {K : PySem.W.Frag} {Hs : Hp} : ∀ {ds : List D} {bs : List Bool} {vs : List V}, blsOf ds = some bs → IsA K Hs ds vs → vs = bs.map V.bl
  | [], bs, vs, h, i => by
    cases h
    exact i
  | d :: r, bs, vs, h, i => by
    obtain ⟨v, vr, rfl, i1, i2⟩ := i
    cases d <;> first
      | (cases h; done)
      | skip
    rename_i b
    obtain ⟨bs', h1, rfl⟩ := Option.map_eq_some_iff.mp h
    rw [blsOf_is h1 i2, show v = .bl b from i1]
    rfl
def allD (x : D) (k : D → Prop) : Prop := ∃ xs bs, lstOf x = some xs ∧ blsOf xs = some bs ∧ k (.bl (bs.all id))
theorem cd_all {X : Cx} (hc : X.calm = true) : Call1D X (.builtin "all") allD := by
  refine ⟨_, cr_all hc, fun σ H Hs ρ φ x v F k Q R hx h fin => ?_⟩
  obtain ⟨xs, bs, e1, e2, h⟩ := h
  obtain ⟨a, vs, rfl, t, c⟩ := hx.lstD R.ex e1
  have := blsOf_is e2 c
  subst this
  exact ⟨a, bs, rfl, SqL.of t, fin.pure R h rfl⟩

/-! a dict of dicts; a slot's dict, frozen where it isn't yet -/
def wInE (b : Bool) (wa wb : WE) : WE := fun xi ρ P => wa xi ρ fun y ρ1 => Fz y fun y => wb xi ρ1 fun x ρ2 => dinD b y x fun z => P z ρ2
section
variable {X : Cx} {O : Oc} {m m' : Bool} {e a b : Expr} {pos : Pos} {wa wb : WE} {i : Nat}
end
/-! ### steps -/
section
variable {xi : Xi} {ρ : Rho} {P : D → Rho → Prop}
theorem s_dcO {p : Pat} {vs : List Nat} {wi : WI} {wt : WT} {wk we : WE} (h : wi xi ρ fun ds ρ1 => dcDO p wt wk we vs P ds (wipeR ρ1 vs) [] []) : wDcO p vs wi wt wk we xi ρ P := h
theorem s_get2 {wd wk wx : WE} (h : wd xi ρ fun d ρ1 => Fz d fun d => DicD d fun ks xs => wk xi ρ1 fun y ρ2 => ∃ kk, keyOf y = some kk ∧ wx xi ρ2 fun z ρ3 => Fz z fun z => match dLook ks xs kk with
  | some d => Fro d fun d => P d ρ3
  | none => P z ρ3) : wGet2 wd wk wx xi ρ P := h
theorem s_key {y : D} {kk : Key} {F : Key → Prop} (h1 : keyOf y = some kk) (h : F kk) : ∃ k, keyOf y = some k ∧ F k := ⟨kk, h1, h⟩
theorem s_lookS {ks : List Key} {xs : List D} {kk : Key} {d : D} {K0 : D → Prop} {K : Prop} (h1 : dLook ks xs kk = some d) (h : Fro d K0) : (match dLook ks xs kk with | some d => Fro d K0 | none => K) := by rw [h1]; exact h
theorem s_lookN {ks : List Key} {xs : List D} {kk : Key} {K0 : D → Prop} {K : Prop} (h1 : dLook ks xs kk = none) (h : K) : (match dLook ks xs kk with | some d => Fro d K0 | none => K) := by rw [h1]; exact h
theorem s_rng3 {w : WL} {K : List D → Rho → Prop} (h : w xi ρ fun ds ρ1 => match ds with
  | [.int a, .int b, .int c] => (-1000000000000 ≤ a ∧ a ≤ 1000000000000 ∧ -1000000000000 ≤ b ∧ b ≤ 1000000000000) ∧ c = -1 ∧ K (rangeDn a (a - b).toNat) ρ1
  | _ => False) : wRng3 w xi ρ K := h
theorem s_alld {x : D} {xs : List D} {bs : List Bool} {k : D → Prop} (h1 : lstOf x = some xs) (h2 : blsOf xs = some bs) (h : k (.bl (bs.all id))) : allD x k := ⟨xs, bs, h1, h2, h⟩
theorem s_inE {b : Bool} {wa wb : WE} (h : wa xi ρ fun y ρ1 => Fz y fun y => wb xi ρ1 fun x ρ2 => dinD b y x fun z => P z ρ2) : wInE b wa wb xi ρ P := h
end

/-! y = {k: v for ..} -/
open PySem PySem.Spec PyProof.Rows
section
variable {X : Cx} {kx vx tg iter : Expr} {ifs : List Expr} {scope : Scope} {own : List (PySem.Str × Nat)} {pos spos py : Pos} {wi : TI} {g : TG} {tt : TT} {tk te : TE} {i : Nat} {y : PySem.Str}
end
section
variable {X : Cx} {O : Oc} {m mt me mk : Bool} {vx kx tg iter : Expr} {ifs : List Expr} {scope : Scope} {own : List (Str × Nat)} {pos spos py : Pos} {p : Pat} {wi : WI} {wt : WT} {we wk : WE} {i : Nat} {y : Str}
end

/-! sorted: rows of ints (lists, or tuples) -/
section
variable {X : Cx}
end

/-! (i, j) in a row of pairs -/
section
variable {X : Cx}
end

/-! min of two: (number, row of numbers) -/
namespace PoMin
open PySem PySem.W PyProof.Rows
section
variable {prog : Program} {w : World} {A : Around} {E : Value → Shared → Prop} {s : Shared}
end
end PoMin
section
variable {X : Cx}
end

/-! len(set(xs)), xs a list of ints -/
section
variable {X : Cx} {O : Oc} {m : Bool} {a : Expr} {wa : WE} {p p2 q pos : Pos}
end

/-! ### exceptions that leave a def -/
/-- the exception's dict: its fields, plain values; it is newer than the def's entry -/
def XdOk (K : PySem.W.Frag) (H0 Hs H : Hp) (φ : Fp) (d : Option Addr) (fs : List (Str × D)) : Prop :=
  (fs = [] ∧ d = none) ∨ ∃ (dd : Addr) (gs : List (Str × V)), d = some dd ∧ H dd = some (.xd gs) ∧ H0 dd = none ∧ (∀ i, dd ∉ φ i) ∧ gs.map Prod.fst = fs.map Prod.fst ∧ IsA K Hs (fs.map Prod.snd) (gs.map Prod.snd)
theorem XdOk.sub {K : PySem.W.Frag} {H0 H0' Hs H : Hp} {φ φ' : Fp} {d : Option Addr} {fs : List (Str × D)} (h : XdOk K H0 Hs H φ d fs) (n : ∀ p, H0 p = none → H0' p = none) (s : ∀ i p, H0 p = none → p ∈ φ' i → ∃ j, p ∈ φ j) : XdOk K H0' Hs H φ' d fs := by
  rcases h with h | ⟨dd, gs, h1, h2, h0, h3, h4, h5⟩
  · exact .inl h
  · refine .inr ⟨dd, gs, h1, h2, n dd h0, fun i hi => ?_, h4, h5⟩
    obtain ⟨j, hj⟩ := s i dd h0 hi
    exact h3 j hj
section
variable {P : Program} {w : World} {K : PySem.W.Frag} {mg : Str → Option Value} {base : Heap}
end
/-! ### a call of such a def -/
@[simp] def wCallX (n : Nat) (wf : WE) (wa : WA) : WE := fun xi ρ P => wa xi ρ fun as ρ1 => as.length = n ∧ (slotsOf as).Nodup ∧ ∀ vv : Nat → V, ∃ ρc, argCs ρ1 vv 0 as = some ρc ∧ wf (fun xd ρc' => ∃ ρ2, backC vv 0 as ρc' ρ1 = some ρ2 ∧ xi xd ρ2) ρc fun z ρc' => ∃ ρ2, backC vv 0 as ρc' ρ1 = some ρ2 ∧ P z ρ2
section
variable {X : Cx} {O : Oc} {k n : Nat} {f : Addr} {fd : FuncData} {ps : List Str} {x : Str} {p pos : Pos} {e : Expr} {es : List Expr} {wf : WE} {wa : WA}
end

/-! ### raise -/
@[simp] def wRaise0 (C : Addr) : WS := fun xi ρ _ => xi ⟨C, []⟩ ρ
@[simp] def wRaise1 (C : Addr) (f : Str) (we : WE) : WS := fun xi ρ _ => we xi ρ fun d ρ1 => Fz d fun d => xi ⟨C, [(f, d)]⟩ ρ1
/-- what the text says of an own error -/
structure ExF (K : PySem.W.Frag) (C : Addr) : Prop where
  sub : PySem.W.subIn K (.ref C) (.type "BaseException") = some true
  ty : PySem.W.typeIn K (.ref C) = some (.type "type")
  kC : PySem.W.keepIn K (.ref C) = true
section
variable {X : Cx} {O : Oc} {C : Addr} {e : Expr} {pos : Pos}
end
section
variable {P : Program} {w : World} {K : PySem.W.Frag} {mg : Str → Option Value} {base : Heap}
end

/-! ### lists of truth values -/
section
variable {X : Cx}
end
def wIdxB (wo wa : WE) : WE := fun xi ρ P => wo xi ρ fun x ρ1 => Fz x fun x => LoD x fun xs => wa xi ρ1 fun y ρ2 => Fz y fun y => ∃ (bs : List Bool) (j : Nat), xs = bs.map D.bl ∧ y = .bl true ∧ bs[j]? = some true ∧ (∀ m, m < j → bs[m]? ≠ some true) ∧ P (.int (j : Nat)) ρ2
def wCntB (wo wa : WE) : WE := fun xi ρ P => wo xi ρ fun x ρ1 => Fz x fun x => LoD x fun xs => wa xi ρ1 fun y ρ2 => Fz y fun y => ∃ bs : List Bool, xs = bs.map D.bl ∧ y = .bl true ∧ P (.int (bs.count true : Nat)) ρ2
section
variable {X : Cx} {O : Oc} {m m' : Bool} {o e : Expr} {apos cpos : Pos} {wo wa : WE}
end
/-! ### the caught error -/
def wIsX (K : PySem.W.Frag) (D C a : Addr) (i : Nat) : WE := fun _ ρ P => ρ[i]? = some (.vl (.raw (.ref a))) ∧ ∃ b, PySem.W.kitOne K (.ref D) (.ref C) = some b ∧ P (.bl b) ρ
def wXf (a : Addr) (i : Nat) (fs : List (Str × D)) (f : Str) : WE := fun _ ρ P => ρ[i]? = some (.vl (.raw (.ref a))) ∧ ∃ d, fs.lookup f = some d ∧ P d ρ
section
variable {X : Cx} {O : Oc} {a : Addr} {oe : Obj} {d : Option Addr} {pn : List (Addr × Obj)} {xd : XD}
end

/-! ### told: try: return work() / except x as e: suite -/
/-- what a told error's class must say -/
structure ToldC (K : PySem.W.Frag) (CS D : Addr) : Prop where
  ec : L2.ExcC K D
  xf : XfC K D
  np : PySem.W.findIn K (.ref D) "piece" = some none
  nn : PySem.W.findIn K (.ref D) "number" = some none
  nl : PySem.W.findIn K (.ref D) "place" = some none
  xm : PySem.W.exmOne K (.ref D) (.ref CS) = some true
/-! ### a lambda made: the table grows by its code -/
/-- how the table at P, that stands at ps, may stand behind the making of a lambda at pos -/
inductive Grown (H : Hp) (P : Addr) (ps : Array Value) (q : Str) (pos : Pos) (c : Addr) : Hp → Prop
  | hit : codeAmong pos ps.toList = some (.ref c) → Grown H P ps q pos c H
  | new : H c = none → P ≠ c → Grown H P ps q pos c (upd (upd H P (.tbl (ps ++ #[rawInt pos.line, rawInt pos.col, .ref c]))) c (LamX.CodeO c q))
section
variable {X : Cx} {pins : List (Addr × Obj)} {σ : L2.St} {H : Hp} {s : Shared}
end
section
variable {K : PySem.W.Frag} {σ : L2.St} {H Hs H1 : Hp} {ρ : Rho} {φ : Fp} {P c : Addr} {ps : Array Value} {pos : Pos}
end
/-! ### told(lambda: f(..)) -/
@[simp] def wToldC (res : XD → List D → Prop) (n : Nat) (wf : WE) (wa : WA) : WE := fun _ ρ P => wa (fun _ _ => False) ρ fun as ρ1 => as.length = n ∧ (slotsOf as).Nodup ∧ ∀ vv : Nat → V, ∃ ρc, argCs ρ1 vv 0 as = some ρc ∧
  wf (fun xd ρc' => ∃ ρ2, backC vv 0 as ρc' ρ1 = some ρ2 ∧ ∃ ys, res xd ys ∧ P (.tup ys) ρ2) ρc fun z ρc' => ∃ ρ2, backC vv 0 as ρc' ρ1 = some ρ2 ∧ P z ρ2
section
variable {X : Cx} {O : Oc}
end

/-! ### the law's own def, where lambdas stand in it -/
structure FunC (K : PySem.W.Frag) (x qual : Str) (st : Stmt) (f : Addr) (fd : FuncData) (c : Addr) : Prop where
  ex : ∃ (oc : Value) (od : Option Addr) (kV doc pm : Value) (an : Option Addr) (ct : Value) (osl : Array (Option Value)),
    fd = PySem.W.fnOf x qual (defArgs st) (defBody st) (defScope st) .none kV doc pm an (.ref c) ct ∧ K.lookup f = some ⟨oc, od, .func fd, osl⟩ ∧ PySem.W.codeIn K (.ref c) qual = true
section
variable {P : Program} {w : World} {K : PySem.W.Frag} {mg : Str → Option Value} {base : Heap}
end
/-! ### words for the pure walk -/
theorem s_isx {K : PySem.W.Frag} {Dc C a : Addr} {i : Nat} {b : Bool} {xi : Xi} {ρ : Rho} {P : D → Rho → Prop} (h1 : ρ[i]? = some (.vl (.raw (.ref a)))) (h2 : PySem.W.kitOne K (.ref Dc) (.ref C) = some b) (h : P (.bl b) ρ) : wIsX K Dc C a i xi ρ P := ⟨h1, b, h2, h⟩
theorem s_xf {a : Addr} {i : Nat} {fs : List (Str × D)} {f : Str} {d : D} {xi : Xi} {ρ : Rho} {P : D → Rho → Prop} (h1 : ρ[i]? = some (.vl (.raw (.ref a)))) (h2 : fs.lookup f = some d) (h : P d ρ) : wXf a i fs f xi ρ P := ⟨h1, d, h2, h⟩
theorem s_idxB {wo wa : WE} {xi : Xi} {ρ : Rho} {P : D → Rho → Prop} (h : wo xi ρ fun x ρ1 => Fz x fun x => LoD x fun xs => wa xi ρ1 fun y ρ2 => Fz y fun y => ∃ (bs : List Bool) (j : Nat), xs = bs.map D.bl ∧ y = .bl true ∧ bs[j]? = some true ∧ (∀ m, m < j → bs[m]? ≠ some true) ∧ P (.int (j : Nat)) ρ2) : wIdxB wo wa xi ρ P := h
theorem s_cntB {wo wa : WE} {xi : Xi} {ρ : Rho} {P : D → Rho → Prop} (h : wo xi ρ fun x ρ1 => Fz x fun x => LoD x fun xs => wa xi ρ1 fun y ρ2 => Fz y fun y => ∃ bs : List Bool, xs = bs.map D.bl ∧ y = .bl true ∧ P (.int (bs.count true : Nat)) ρ2) : wCntB wo wa xi ρ P := h

open PySem PySem.Spec PyProof.Rows L2 SeqAt
/-! ### bytes == a tuple -/
section
variable {X : Cx}
/-- == that knows of bytes beside a tuple -/
def eqBT (x y : D) (k : D → Prop) : Prop := match x, y with
  | .byt _, .tup _ => k (.bl false)
  | x, y => eqD x y k
end
theorem s_eqbt1 {a : List Int} {b : List D} {k : D → Prop} (h : k (.bl false)) : eqBT (.byt a) (.tup b) k := h
theorem s_eqbt2 {a b : List D} {k : D → Prop} (h : eqD (.tup a) (.tup b) k) : eqBT (.tup a) (.tup b) k := h
theorem s_eqbt3 {a : List D} {b : D} {k : D → Prop} (h : eqD (.lst a) b k) : eqBT (.lst a) b k := h
theorem s_raise0 {C : Addr} {xi : Xi} {ρ : Rho} {P : PEn} (h : xi ⟨C, []⟩ ρ) : wRaise0 C xi ρ P := h
theorem s_raise1 {C : Addr} {f : Str} {we : WE} {xi : Xi} {ρ : Rho} {P : PEn} (h : we xi ρ fun d ρ1 => Fz d fun d => xi ⟨C, [(f, d)]⟩ ρ1) : wRaise1 C f we xi ρ P := h
theorem s_callX {n : Nat} {wf : WE} {wa : WA} {xi : Xi} {ρ : Rho} {P : D → Rho → Prop} (h : wa xi ρ fun as ρ1 => as.length = n ∧ (slotsOf as).Nodup ∧ ∀ vv : Nat → V, ∃ ρc, argCs ρ1 vv 0 as = some ρc ∧ wf (fun xd ρc' => ∃ ρ2, backC vv 0 as ρc' ρ1 = some ρ2 ∧ xi xd ρ2) ρc fun z ρc2 => ∃ ρ2, backC vv 0 as ρc2 ρ1 = some ρ2 ∧ P z ρ2) : wCallX n wf wa xi ρ P := h
theorem s_toldC {res : XD → List D → Prop} {n : Nat} {wf : WE} {wa : WA} {xi : Xi} {ρ : Rho} {P : D → Rho → Prop} (h : wa (fun _ _ => False) ρ fun as ρ1 => as.length = n ∧ (slotsOf as).Nodup ∧ ∀ vv : Nat → V, ∃ ρc, argCs ρ1 vv 0 as = some ρc ∧
  wf (fun xd ρc' => ∃ ρ2, backC vv 0 as ρc' ρ1 = some ρ2 ∧ ∃ ys, res xd ys ∧ P (.tup ys) ρ2) ρc fun z ρc' => ∃ ρ2, backC vv 0 as ρc' ρ1 = some ρ2 ∧ P z ρ2) : wToldC res n wf wa xi ρ P := h
theorem s_callkX {n : Nat} {wf : WE} {as : List Arg} {ρ1 : Rho} {ρc : (Nat → V) → Rho} {Ξ : (Nat → V) → Xi} {K : (Nat → V) → D → Rho → Prop} (hl : as.length = n) (nd : (slotsOf as).Nodup) (hc : ∀ vv, argCs ρ1 vv 0 as = some (ρc vv)) (h : ∀ vv, wf (Ξ vv) (ρc vv) (K vv)) : as.length = n ∧ (slotsOf as).Nodup ∧ ∀ vv : Nat → V, ∃ ρc, argCs ρ1 vv 0 as = some ρc ∧ wf (Ξ vv) ρc (K vv) := ⟨hl, nd, fun vv => ⟨ρc vv, hc vv, h vv⟩⟩
theorem s_retrX {ρ ρ2 ρr : Rho} {d : XD} {K : XD → Rho → Prop} (h0 : RetR ρ ρ2 ρr) (h : K d ρr) : ∃ ρr, RetR ρ ρ2 ρr ∧ K d ρr := ⟨ρr, h0, h⟩

open PySem PySem.Spec PyProof.Rows L2 SeqAt
/-! ### xs.insert(i, y) -/
section
variable {X : Cx}
end
/-! ### (i, j) not in a row of pairs -/
section
variable {X : Cx}
end
/-! ### a or b, a None or a list -/
section
variable {X : Cx} {O : Oc} {m m' : Bool} {a b : Expr} {rest : List Expr} {pos : Pos} {wa wb : WE}
end
open PySem PySem.Spec PyProof.Rows L2 SeqAt
/-! ### list(range(n)) -/
section
variable {X : Cx} {O : Oc} {m m' : Bool} {a b : Expr} {k : Nat} {p p1 pos pos1 : Pos} {w wa wb : WE}
end
/-! ### (n, row) < (m, row) -/
section
variable {X : Cx}
end
/-! ### a lambda with one parameter that has a number as its default -/
/-- the lambda's names: one or more of its own, unlike the maker's; captured ones and globals -/
structure LamP (N : List Str) (sc scope : Scope) : Prop where
  kind : scope.kind = .function
  co : scope.isCoroutine = false
  gen : scope.isGenerator = false
  own : ∀ y ∈ scope.names, y.2 ≠ .cell ∧ (y.2 = .local → y.1 ∉ N)
  free : ∀ y ∈ scope.names, y.2 = .free → sc.names.lookup y.1 = some .cell ∨ sc.names.lookup y.1 = some .free
theorem LamP.has {X : Cx} {N : List Str} {scope : Scope} (L : LamP N X.env.scope scope) (ok : X.Ok) : ∀ y ∈ scope.names, y.2 = .free → ∃ c, X.env.cells.lookup y.1 = some c := fun y hy e => by
  rcases L.free y hy e with k | k
  · exact ok.has _ (.inl k)
  · exact ok.has _ (.inr k)
section
variable {X : Cx} {pins : List (Addr × Obj)} {σ : L2.St} {H : Hp} {s : Shared}
end
section
variable {X : Cx} {pins : List (Addr × Obj)} {σ : L2.St} {H HZ : Hp} {s s1 : Shared}
end
section
variable {X : Cx} {O : Oc}
end

/-! ### a method that may raise -/
section
variable {X : Cx} {O : Oc} {k n : Nat} {f C : Addr} {fd : FuncData} {ps : List Str} {mn : Str} {pos apos : Pos} {o e : Expr} {es : List Expr} {wf : WE} {wa : WA} {i : Nat}
end

/-! ### assert -/
section
variable {X : Cx} {O : Oc} {m : Bool}
end
/-! ### a.f = b.g = n -/
section
variable {X : Cx} {O : Oc} {o : Expr} {f : Str} {pos : Pos} {ta : TE}
end
section
variable {X : Cx} {O : Oc} {pos cp p1 p2 : Pos} {o1 o2 : Expr} {i1 i2 j : Nat} {q1 q2 : Path} {C1 C2 : Addr} {f1 f2 : Str} {n : Int}
end
/-! ### o[i] += n, o a place -/
section
variable {X : Cx} {O : Oc} {m : Bool} {o b : Expr} {pos tpos cp : Pos} {i jc : Nat} {q : Path} {k : Int} {wi : WE}
end
/-! ### lists of numbers and None, that lie at a place -/
section
variable {X : Cx} {O : Oc} {elt tg iter : Expr} {ifs : List Expr} {scope : Scope} {pos spos py : Pos} {i j iy : Nat} {q : Path} {y : Str}
end
section
variable {X : Cx} {O : Oc} {m : Bool} {o e : Expr} {apos cpos : Pos} {i : Nat} {q : Path} {wa : WE}
end

/-! ### a slot's own thing, given away -/
def wMv (i : Nat) : WE := fun _ ρ P => ∃ d, ρ[i]? = some (.vl d) ∧ P d (ρ.set i .no)
/-- a method of what an expression gives -/
def wMethT (n : Nat) (C : Addr) (mn : Str) (wf : WE) (we : WE) (wa : WA) : WE := fun xi ρ P => we xi ρ fun d ρ0 => (∃ ns xs, d = .mi C ns xs ∧ mn ∉ ns) ∧ wa xi ρ0 fun as ρ1 => (Arg.slot ρ1.length :: as).length = n ∧ (slotsOf (.slot ρ1.length :: as)).Nodup ∧
  ∀ vv : Nat → V, ∃ ρc, argCs (ρ1 ++ [.vl d]) vv 0 (.slot ρ1.length :: as) = some ρc ∧ wf (fun _ _ => False) ρc fun z ρc2 => ∃ ρ2, backC vv 0 (.slot ρ1.length :: as) ρc2 (ρ1 ++ [.vl d]) = some ρ2 ∧ ∃ ρ3 d3, ρ2 = ρ3 ++ [.vl d3] ∧ ρ3.length = ρ1.length ∧ P z ρ3
section
variable {X : Cx} {O : Oc} {m : Bool} {k n : Nat} {f C : Addr} {fd : FuncData} {ps : List Str} {x mn : Str} {p pos apos : Pos} {o e : Expr} {es : List Expr} {wf we : WE} {wa : WA} {i : Nat}
/-! ### step lemmas -/
theorem s_mv {xi : Xi} {ρ : Rho} {P : D → Rho → Prop} {d : D} (h0 : ρ[i]? = some (.vl d)) (h : P d (ρ.set i .no)) : wMv i xi ρ P := ⟨d, h0, h⟩
theorem s_methT {xi : Xi} {ρ : Rho} {P : D → Rho → Prop} (h : we xi ρ fun d ρ0 => (∃ ns xs, d = .mi C ns xs ∧ mn ∉ ns) ∧ wa xi ρ0 fun as ρ1 => (Arg.slot ρ1.length :: as).length = n ∧ (slotsOf (.slot ρ1.length :: as)).Nodup ∧
  ∀ vv : Nat → V, ∃ ρc, argCs (ρ1 ++ [.vl d]) vv 0 (.slot ρ1.length :: as) = some ρc ∧ wf (fun _ _ => False) ρc fun z ρc2 => ∃ ρ2, backC vv 0 (.slot ρ1.length :: as) ρc2 (ρ1 ++ [.vl d]) = some ρ2 ∧ ∃ ρ3 d3, ρ2 = ρ3 ++ [.vl d3] ∧ ρ3.length = ρ1.length ∧ P z ρ3) : wMethT n C mn wf we wa xi ρ P := h
end

/-! ### sum of a tuple -/
def sumTD (x : D) (k : D → Prop) : Prop := match x with
  | .tup xs => (match intsOf xs with | some ns => k (.int ns.sum) | none => False)
  | _ => False
theorem s_sumtup {x : List D} {ns : List Int} {k : D → Prop} (h0 : intsOf x = some ns) (h : k (.int ns.sum)) : sumTD (.tup x) k := by
  show (match intsOf x with | some ns => k (.int ns.sum) | none => False)
  rw [h0]
  exact h

/-! enumerate of bytes -/
section
variable {prog : Program} {w : World} {A : Around} {E : Value → Shared → Prop} {s : Shared} {b : Array UInt8} {t : Tok}
end
section
variable {prog : Program} {w : World} {A : Around} {E : Value → Shared → Prop} {s : Shared}
end
/-! ### the layer -/
def wEnumB (w : WL) : WI := fun xi ρ P => w xi ρ fun ds ρ1 => match ds with
  | [.byt ns] => P ((ns.map D.int).zipIdx.map fun p => .tup [.int (p.2 : Nat), p.1]) ρ1
  | _ => False
section
variable {X : Cx} {O : Oc} {m : Bool} {a : Expr} {p pos : Pos} {wl : WL}
end
theorem s_enumB {w : WL} {K : List D → Rho → Prop} {xi : Xi} {ρ : Rho} (h : w xi ρ fun ds ρ1 => match ds with | [.byt ns] => K ((ns.map D.int).zipIdx.map fun p => .tup [.int (p.2 : Nat), p.1]) ρ1 | _ => False) : wEnumB w xi ρ K := h

/-! ### a list that is lent to a call, and read there alone -/
mutual
def noL : D → Bool
  | .non => true
  | .bl _ => true
  | .int _ => true
  | .str _ => true
  | .byt _ => true
  | .raw _ => true
  | .lst _ => false
  | .rl _ => false
  | .tup xs => noLs xs
  | .dic _ _ => false
  | .ml _ => false
  | .md _ _ => false
  | .mi _ _ _ => false
  | .ms _ _ => false
def noLs : List D → Bool
  | [] => true
  | d :: r => noL d && noLs r
end
section
variable {K : PySem.W.Frag} {Hs : Hp} {a : Addr} {ws : List V}
theorem Ow.noL {H : Hp} : ∀ {d : D} {v : V} {F : List Addr}, noL d = true → Ow K Hs H d v F → Is K Hs d v
  | .non, _, _, _, h => h.2
  | .bl _, _, _, _, h => h.2
  | .int _, _, _, _, h => h.2
  | .str _, _, _, _, h => h.2
  | .byt _, _, _, _, h => h.2
  | .raw _, _, _, _, h => h.2
  | .lst _, _, _, n, _ => by cases n
  | .rl _, _, _, n, _ => by cases n
  | .tup _, _, _, _, h => h.2
  | .dic _ _, _, _, n, _ => by cases n
  | .ml _, _, _, n, _ => by cases n
  | .md _ _, _, _, n, _ => by cases n
  | .mi _ _ _, _, _, n, _ => by cases n
  | .ms _ _, _, _, n, _ => by cases n
end
def wLend (wf : WE) (i : Nat) : WE := fun _ ρ P => ∃ xs, ρ[i]? = some (.vl (.ml xs)) ∧ wf (fun _ _ => False) [.vl (.lst xs)] fun z _ => noL z = true ∧ P z ρ
section
variable {K : PySem.W.Frag} {σ : L2.St} {wf : WE} {E : XK} {Q : VK} {O : Oc} {i : Nat}
end
section
variable {X : Cx} {O : Oc} {k : Nat} {f : Addr} {fd : FuncData} {ps : List Str} {x : Str} {p pos : Pos} {e : Expr} {wf : WE} {i : Nat}
end
theorem s_lendL {wf : WE} {i : Nat} {xi : Xi} {ρ : Rho} {P : D → Rho → Prop} {xs : List D} (h0 : ρ[i]? = some (.vl (.ml xs))) (h : wf (fun _ _ => False) [.vl (.lst xs)] fun z _ => noL z = true ∧ P z ρ) : wLend wf i xi ρ P := ⟨xs, h0, h⟩

/-! ### names that stand for a thing of another name -/
/-- from here on the slot's value is known -/
def wPinS (i : Nat) (w : WS) : WS := fun xi ρ P => ∃ d, ρ[i]? = some (.vl d) ∧ ∀ v, w xi (ρ.set i (.io v d)) P
/-- the value alone -/
def wRaw (i : Nat) : WE := fun _ ρ P => ∃ v d, ρ[i]? = some (.io v d) ∧ P (.raw v) ρ
section
variable {X : Cx} {O : Oc} {k n kk : Nat} {f C : Addr} {fd : FuncData} {ps : List Str} {x mn : Str} {p pos apos : Pos} {o e : Expr} {es : List Expr} {wf : WE} {wa : WA} {i : Nat} {st : Stmt} {w : WS}
end
/-! ### step lemmas -/
theorem s_pinS {i : Nat} {w : WS} {xi : Xi} {ρ : Rho} {P : PEn} {d : D} (h0 : ρ[i]? = some (.vl d)) (h : ∀ v, w xi (ρ.set i (.io v d)) P) : wPinS i w xi ρ P := ⟨d, h0, h⟩
theorem s_raw {i : Nat} {xi : Xi} {ρ : Rho} {P : D → Rho → Prop} {v : V} {d : D} (h0 : ρ[i]? = some (.io v d)) (h : P (.raw v) ρ) : wRaw i xi ρ P := ⟨v, d, h0, h⟩

/-! ### {k: v} -/
section
variable {X : Cx} {O : Oc} {mk me : Bool} {ke ve : Expr} {pos : Pos} {wk we : WE}
end
/-! the least of a list of tuples that are alike only as far as the first difference -/
open PySem PySem.Spec PyProof.Rows L2 SeqAt
/-! ### bytes == an int -/
/-! ### tuple < tuple, as far as the first difference -/
inductive LtL (A : Around) (s : Shared) : List Value → List Value → Bool → Prop
  | nn : LtL A s [] [] false
  | nc {y : Value} {ys : List Value} : LtL A s [] (y :: ys) true
  | cn {x : Value} {xs : List Value} : LtL A s (x :: xs) [] false
  | eq {x y : Value} {xs ys : List Value} {b : Bool} : EqAt A s x y true → LtL A s xs ys b → LtL A s (x :: xs) (y :: ys) b
  | ne {x y : Value} {xs ys : List Value} {b : Bool} : EqAt A s x y false → RcLt A s x y b → LtL A s (x :: xs) (y :: ys) b
open PySem PySem.Spec PyProof.Rows L2 SeqAt
def Al2 {α β : Type} (P : α → β → Prop) : List α → List β → Prop
  | [], [] => True
  | a :: as, b :: bs => P a b ∧ Al2 P as bs
  | _, _ => False
theorem Al2.imp {α β : Type} {P R : α → β → Prop} (h : ∀ a b, P a b → R a b) : ∀ {as : List α} {bs : List β}, Al2 P as bs → Al2 R as bs
  | [], [], _ => trivial
  | _ :: _, _ :: _, q => ⟨h _ _ q.1, Al2.imp h q.2⟩
  | [], _ :: _, q => q.elim
  | _ :: _, [], q => q.elim
open PySem PySem.Spec PyProof.Rows L2 SeqAt
/-! ### min of a list of such data -/
section
variable {X : Cx} {pins : List (Addr × Obj)} {σ : L2.St} {H Hs : Hp} {s : Shared}
end
/-! ### is, is not of truth values -/
section
variable {X : Cx}
end
/-! ### texts -/
section
variable {K : PySem.W.Frag} {Hs H : Hp}
theorem IsA.strL : ∀ (ns : List Str), IsA K Hs (ns.map D.str) (ns.map V.str)
  | [] => rfl
  | n :: r => ⟨.str n, _, rfl, rfl, IsA.strL r⟩
theorem IsA.strL_inv : ∀ {ns : List Str} {vs : List V}, IsA K Hs (ns.map D.str) vs → vs = ns.map V.str
  | [], _, h => h
  | n :: r, _, h => by
    obtain ⟨v, vr, rfl, h2, h3⟩ := h
    have e : v = .str n := h2
    rw [e, IsA.strL_inv h3]
    rfl
end
def strsL : List D → Option (List Str)
  | [] => some []
  | .str s :: r => (strsL r).map (s :: ·)
  | _ :: _ => none
theorem strsL_map : ∀ ns : List Str, strsL (ns.map D.str) = some ns
  | [] => rfl
  | n :: r => by show (strsL (r.map D.str)).map (n :: ·) = _; rw [strsL_map r]; rfl
theorem strsL_eq : ∀ {ds : List D} {ns : List Str}, strsL ds = some ns → ds = ns.map D.str
  | [], ns, h => by cases Option.some.inj h; rfl
  | d :: r, ns, h => by
    cases d <;> first
      | (cases h; done)
      | skip
    rename_i n
    have h' : (strsL r).map (n :: ·) = some ns := h
    obtain ⟨m, h1, h2⟩ := Option.map_eq_some_iff.mp h'
    rw [← h2, strsL_eq h1]
    rfl
/-! for c in text -/
def signs (x : Str) : List D := x.cps.toList.map fun c => .str ⟨#[c]⟩
theorem walkD_str {K : PySem.W.Frag} {H Hs : Hp} {x : Str} : WalkD K (Its x) H Hs (signs x) := by
  have hl : (signs x).length = x.cps.size := by unfold signs; rw [List.length_map]; exact Array.length_toList
  refine ⟨fun i H1 Hs1 hi _ _ => ?_, fun H1 Hs1 _ _ => ?_, fun i H1 Hs1 v H' hi e1 e2 y => ?_⟩
  · rw [hl] at hi; exact hi
  · rw [hl]; exact Nat.le_refl _
  · obtain ⟨rfl, c, hc, rfl⟩ := (show H' = H1 ∧ ∃ c, x.cps[i]? = some c ∧ v = .str ⟨#[c]⟩ from y)
    refine ⟨.str ⟨#[c]⟩, ?_, .inl ⟨rfl, rfl⟩⟩
    unfold signs
    rw [List.getElem?_map, Array.getElem?_toList, hc]
    rfl
def wItS (w : WE) : WI := fun xi ρ P => w xi ρ fun d ρ1 => Fz d fun d => ∃ x, d = .str x ∧ P (signs x) ρ1
section
variable {X : Cx} {O : Oc} {m m' : Bool} {e tg a b : Expr} {pos p apos : Pos} {we wa wb : WE}
theorem pid_itS (he : PE X e (tauE X.K O m we)) : PI X tg e (tauI X.K O m (wItS we)) := PI_imp (pi_str he) fun σ H R q => by
  obtain ⟨ρ, Hs, φ, P, R0, S, hw, hq⟩ := q
  refine tF R0 S (P := fun d ρ1 => ∃ x, d = .str x ∧ P (signs x) ρ1) hw fun d ρ1 v1 H1 Hs1 φ1 p1 R1 S1 SO1 i1 u1 => ?_
  obtain ⟨x, rfl, p1⟩ := p1
  exact ⟨x, i1, hq _ ρ1 H1 Hs1 φ1 _ p1 R1 S1 walkD_str u1⟩
/-! a sign in a text -/
def inSD (x y : D) (k : D → Prop) : Prop := match x, y with
  | .str a, .str z => ∃ c : Nat, a = ⟨#[c]⟩ ∧ k (.bl (decide (c ∈ z.cps.toList)))
  | _, _ => False
theorem od_inS : OpD X (compareOp .In) inSD := by
  refine ⟨_, op_in_sign, fun σ H Hs ρ φ x y vx vy F G k Q R hx hy h fin => ?_⟩
  unfold inSD at h
  split at h
  · rename_i a z
    obtain ⟨c, rfl, h⟩ := h
    exact ⟨c, z, hx.2, hy.2, fin.pure (d := .bl _) R h rfl⟩
  · exact h.elim
/-! str(number), int(text) -/
def strD (x : D) (k : D → Prop) : Prop := match x with
  | .int i => i.natAbs.log2 < 1920 ∧ k (.str (toString i))
  | _ => False
def intSD (x : D) (k : D → Prop) : Prop := match x with
  | .str a => ∃ n, PySem.intText? a = some n ∧ a.length ≤ 640 ∧ k (.int n)
  | _ => False
theorem cd_str : Call1D X (.type "str") strD := by
  refine ⟨_, call_str_int, fun σ H Hs ρ φ x v F k Q R hx h fin => ?_⟩
  unfold strD at h
  split at h
  · rename_i i
    exact ⟨i, by rw [hx.2], h.1, fin.pure R h.2 rfl⟩
  · exact h.elim
theorem cd_intS : Call1D X (.type "int") intSD := by
  refine ⟨_, call_int_str, fun σ H Hs ρ φ x v F k Q R hx h fin => ?_⟩
  unfold intSD at h
  split at h
  · rename_i a
    obtain ⟨n, h1, h2, h3⟩ := h
    exact ⟨a, n, by rw [hx.2], h1, h2, fin.pure R h3 rfl⟩
  · exact h.elim
/-! a method of a text with one thing handed in -/
def wMs (g : D → D → (D → Prop) → Prop) (wa wb : WE) : WE := fun xi ρ P => wa xi ρ fun x ρ1 => (∃ s, x = .str s) ∧ wb xi ρ1 fun y ρ2 => g x y fun z => P z ρ2
theorem msTau {r : V → List V → Hp → VK → Prop} {g : D → D → (D → Prop) → Prop}
    (hr : ∀ (σ : L2.St) (H Hs : Hp) (ρ : Rho) (φ : Fp) (x y : D) (vx vy : V) (F G : List Addr) (k : D → Prop) (Q : VK), Rl X.K σ H Hs ρ φ → Ow X.K Hs H x vx F → Ow X.K Hs H y vy G → g x y k → Fin X.K σ H Hs ρ φ k Q → r vx [vy] H Q)
    (σ : L2.St) (H : Hp) (Q : VK) (q : tauE X.K O (m && m') (wMs g wa wb) σ H Q) : tM1 r (tauE X.K O m wa) (tauE X.K O m' wb) σ H Q := by
  obtain ⟨ρ, Hs, φ, P, R, S, hw, hq⟩ := q
  refine tE R S hw fun x ρ1 v1 H1 Hs1 φ1 G1 p1 R1 S1 SO1 r1 f1 u1 => ?_
  obtain ⟨⟨s, rfl⟩, p1⟩ := p1
  refine ⟨⟨s, r1.ow.2⟩, ?_⟩
  refine tE R1 SO1 p1 fun y ρ2 v2 H2 Hs2 φ2 G2 p2 R2 S2 SO2 r2 f2 u2 => ?_
  refine hr σ H2 Hs2 ρ2 φ2 (.str s) y v1 v2 G1 G2 _ Q R2 (r1.keep S2) r2.ow p2 fun d v H' Hs' G' kd R' S' rs fr pu => ?_
  exact hq d ρ2 v H' Hs' φ2 G' kd R' ((S1.trans S2).trans S') rs (Frs.of (S1.trans S2) fr) ((u1.trans u2).thn pu)
def splitD (x y : D) (k : D → Prop) : Prop := match x, y with
  | .str a, .str b => (b.length == 0) = false ∧ a.length + 2 ≤ sizeLine ∧ k (.ml ((Txt.split a b).map D.str))
  | _, _ => False
theorem pd_split (ho : PE X a (tauE X.K O m wa)) (he : PE X e (tauE X.K O m' wb)) (hs : starEach [e] X.env = [(false, eval e X.env)] := by rfl) (hbase : attributeBase a "split" X.env (eval a X.env) = eval a X.env := by rfl) (hline : (apos.endLine == pos.line) = true := by rfl) :
    PE X (.Call (.Attribute a "split" apos) [e] [] pos) (tauE X.K O (m && m') (wMs splitD wa wb)) :=
  PE_imp (pe_split ho he hs hbase hline) (msTau fun σ H Hs ρ φ x y vx vy F G k Q R hx hy h fin => by
    unfold splitD at h
    split at h
    · rename_i s t
      exact ⟨s, t, hx.2, by rw [hy.2], h.1, h.2.1, fin.lst R h.2.2 (IsA.strL _)⟩
    · exact h.elim)
def joinSD (x y : D) (k : D → Prop) : Prop := match x with
  | .str a => match (lstOf y).bind strsL with
    | some ys => (ys.map (·.length)).sum + ys.length * a.length ≤ 16777216 ∧ k (.str (Txt.join a ys))
    | none => False
  | _ => False
theorem pd_joinS (ho : PE X a (tauE X.K O m wa)) (he : PE X e (tauE X.K O m' wb)) (hs : starEach [e] X.env = [(false, eval e X.env)] := by rfl) (hbase : attributeBase a "join" X.env (eval a X.env) = eval a X.env := by rfl) (hline : (apos.endLine == pos.line) = true := by rfl) :
    PE X (.Call (.Attribute a "join" apos) [e] [] pos) (tauE X.K O (m && m') (wMs joinSD wa wb)) :=
  PE_imp (pe_join ho he hs hbase hline) (msTau fun σ H Hs ρ φ x y vx vy F G k Q R hx hy h fin => by
    unfold joinSD at h
    split at h
    · rename_i s
      split at h
      · rename_i ys hh
        obtain ⟨zs, hz, hb⟩ := Option.bind_eq_some_iff.mp hh
        obtain ⟨p, vs, rfl, t, c⟩ := hy.lstD R.ex hz
        rw [strsL_eq hb] at c
        exact ⟨s, p, ys, hx.2, rfl, .inl (SqL.of (by rw [t, c.strL_inv])), h.1, fin.pure (d := .str _) R h.2 rfl⟩
      · exact h.elim
    · exact h.elim)
/-! isinstance of what an expression tells -/
def wIsiE (Ts : List String) (wa : WE) : WE := wCall1 (isiD Ts) wa
theorem pd_isiE {T : Str} {t : String} {p1 : Pos} (hg : Gl X "isinstance") (hm : X.mg "isinstance" = none) (ha : PE X a (tauE X.K O m wa)) (hgT : Gl X T) (hmT : X.mg T = none) (hvT : bootBuiltins T = some (.type t)) (ht : t ∈ tags := by decide)
    (hT1 : T ≠ "__name__" := by decide) (hT2 : (T == ("__debug__" : Str)) = false := by decide)
    (he : starEach [a, .Name T p1] X.env = (false, eval a X.env) :: starEach [.Name T p1] X.env := by rfl) (he2 : starEach [.Name T p1] X.env = (false, eval (.Name T p1) X.env) :: starEach [] X.env := by rfl) :
    PE X (.Call (.Name "isinstance" p) [a, .Name T p1] [] pos) (tauE X.K O m (wIsiE [t] wa)) :=
  PE_imp (pe_callB call_isi hg hm rfl (pa_cons ha (pa_cons (pe_bltn (v := .ty t) hgT hmT hvT rfl hT1 hT2) pa_nil he2) he) (by decide) (by decide) he) fun σ H Q z => by
    obtain ⟨ρ, Hs, φ, P, R, S, hw, hq⟩ := z
    refine tE R S (show wa O.xi ρ (fun x ρ1 => isiD [t] x fun z => P z ρ1) from hw) fun x ρ1 v1 H1 Hs1 φ1 G1 p1 R1 S1 SO1 r1 f1 u1 => ?_
    unfold isiD at p1
    split at p1
    · rename_i tg htg
      refine ⟨v1, .ty t, .type tg, .type t, isiB tg t, rfl, .ty t, tag_ty R1.ex r1.ow htg, kit_ty (isi_of (tag_in htg) ht), ?_⟩
      refine hq _ ρ1 _ H1 Hs1 φ1 [] p1 R1 S1 (Res.of (d := .bl _) ?_) Frs.nil u1
      simp [Is]
    · exact p1.elim
end
/-! steps -/
theorem s_itS {w : WE} {xi : Xi} {ρ : Rho} {P : List D → Rho → Prop} (h : w xi ρ fun d ρ1 => Fz d fun d => ∃ x, d = .str x ∧ P (signs x) ρ1) : wItS w xi ρ P := h
theorem s_itS2 {x : Str} {k : List D → Prop} (h : k (signs x)) : ∃ y, D.str x = .str y ∧ k (signs y) := ⟨x, rfl, h⟩
theorem s_inS {a z : Str} {c : Nat} {k : D → Prop} (h0 : a = ⟨#[c]⟩) (h : k (.bl (decide (c ∈ z.cps.toList)))) : inSD (.str a) (.str z) k := ⟨c, h0, h⟩
theorem s_ms {g : D → D → (D → Prop) → Prop} {wa wb : WE} {xi : Xi} {ρ : Rho} {P : D → Rho → Prop} (h : wa xi ρ fun x ρ1 => (∃ s, x = .str s) ∧ wb xi ρ1 fun y ρ2 => g x y fun z => P z ρ2) : wMs g wa wb xi ρ P := h
theorem s_ms2 {x : Str} {p : Prop} (h : p) : (∃ s, D.str x = .str s) ∧ p := ⟨⟨x, rfl⟩, h⟩
theorem s_str {i : Int} {k : D → Prop} (h0 : i.natAbs.log2 < 1920) (h : k (.str (toString i))) : strD (.int i) k := ⟨h0, h⟩
theorem s_intS {a : Str} {n : Int} {k : D → Prop} (h0 : PySem.intText? a = some n) (h1 : a.length ≤ 640) (h : k (.int n)) : intSD (.str a) k := ⟨n, h0, h1, h⟩
theorem s_split {a b : Str} {l : List Str} {k : D → Prop} (h0 : (b.length == 0) = false) (h1 : a.length + 2 ≤ sizeLine) (h2 : Txt.split a b = l) (h : k (.ml (l.map D.str))) : splitD (.str a) (.str b) k := ⟨h0, h1, by rw [h2]; exact h⟩
theorem s_joinS {a : Str} {y : D} {ys : List Str} {k : D → Prop} (h0 : lstOf y = some (ys.map D.str)) (h1 : (ys.map (·.length)).sum + ys.length * a.length ≤ 16777216) (h : k (.str (Txt.join a ys))) : joinSD (.str a) y k := by
  unfold joinSD
  rw [h0]
  show (match strsL (ys.map D.str) with | some ys => _ | none => False)
  rw [strsL_map]
  exact ⟨h1, h⟩
theorem s_isiE {Ts : List String} {wa : WE} {xi : Xi} {ρ : Rho} {P : D → Rho → Prop} (h : wa xi ρ fun x ρ1 => isiD Ts x fun z => P z ρ1) : wIsiE Ts wa xi ρ P := h
theorem s_lenS {z : Str} {k : D → Prop} (h0 : z.length ≤ 100000) (h : k (.int z.length)) : lenD (.str z) k := ⟨h0, h⟩
theorem s_ixS {z : Str} {i : Int} {c : Nat} {k : D → Prop} (h0 : z.length ≤ 100000) (h1 : atI z.cps.toList i = some c) (h : k (.str ⟨#[c]⟩)) : ixD (.str z) (.int i) k := ⟨h0, c, h1, h⟩

theorem loopD_ind {p : Pat} {wb : WS} {xi : Xi} {P : PEn} (I : List D → Rho → Prop)
    (hs : ∀ d ds ρ, I (d :: ds) ρ → (∀ ρ', I ds ρ' → loopD p wb xi P ds ρ') → ∃ ρ1, p.asg d ρ = some ρ1 ∧ wb xi ρ1 { P with nx := loopD p wb xi P ds, ct := loopD p wb xi P ds, bk := P.nx })
    (h0 : ∀ ρ, I [] ρ → P.nx ρ) : ∀ ds ρ, I ds ρ → loopD p wb xi P ds ρ := by
  intro ds
  induction ds with
  | nil => exact h0
  | cons d ds ih => exact fun ρ h => hs d ds ρ h ih
theorem lcD_ind {p : Pat} {wt : WT} {we : WE} {vs : List Nat} {P : D → Rho → Prop} (I : List D → Rho → List D → Prop)
    (hs : ∀ d ds ρ acc, I (d :: ds) ρ acc → (∀ ρ' acc', I ds ρ' acc' → lcD p wt we vs P ds ρ' acc') → ∃ ρ1, p.asg d ρ = some ρ1 ∧ wt (fun _ _ => False) ρ1 fun b ρ2 => if b = true then we (fun _ _ => False) ρ2 fun y ρ3 => Fz y fun y => acc.length < 100000 ∧ lcD p wt we vs P ds (wipeR ρ3 vs) (acc ++ [y])
      else lcD p wt we vs P ds (wipeR ρ2 vs) acc)
    (h0 : ∀ ρ acc, I [] ρ acc → P (.ml acc) ρ) : ∀ ds ρ acc, I ds ρ acc → lcD p wt we vs P ds ρ acc := by
  intro ds
  induction ds with
  | nil => exact h0
  | cons d ds ih => exact fun ρ acc h => hs d ds ρ acc h ih
@[simp] theorem intsOf_mapS (ns : List Int) : intsOf (ns.map D.int) = some ns := intsOf_map ns
@[simp] theorem wipeR_nil (ρ : Rho) : wipeR ρ [] = ρ := rfl
@[simp] theorem wipeR_cons (ρ : Rho) (v : Nat) (vs : List Nat) : wipeR ρ (v :: vs) = (wipeR ρ vs).set v .no := rfl
theorem s_c {d : D} {xi : Xi} {ρ : Rho} {P : D → Rho → Prop} (h : P d ρ) : wC d xi ρ P := h
theorem s_vp {i : Nat} {d : D} {xi : Xi} {ρ : Rho} {P : D → Rho → Prop} (h : ρ[i]? = some (.vl d)) (k : Fro d fun d => P d ρ) : wVp i xi ρ P := by
  simp only [wVp]
  rw [h]
  exact k
theorem s_v {i : Nat} {d : D} {xi : Xi} {ρ : Rho} {P : D → Rho → Prop} (h : ρ[i]? = some (.vl d)) (k : Fz d fun d => P d (ρ.set i (.vl d))) : wV i xi ρ P := by
  simp only [wV]
  rw [h]
  exact k
theorem s_fro_non {k : D → Prop} (h : k D.non) : Fro D.non k := h
theorem s_fz_non {k : D → Prop} (h : k D.non) : Fz D.non k := h
theorem s_fro_bl {b : Bool} {k : D → Prop} (h : k (D.bl b)) : Fro (D.bl b) k := h
theorem s_fz_bl {b : Bool} {k : D → Prop} (h : k (D.bl b)) : Fz (D.bl b) k := h
theorem s_fro_int {b : Int} {k : D → Prop} (h : k (D.int b)) : Fro (D.int b) k := h
theorem s_fz_int {b : Int} {k : D → Prop} (h : k (D.int b)) : Fz (D.int b) k := h
theorem s_fro_str {b : Str} {k : D → Prop} (h : k (D.str b)) : Fro (D.str b) k := h
theorem s_fz_str {b : Str} {k : D → Prop} (h : k (D.str b)) : Fz (D.str b) k := h
theorem s_fro_byt {b : List Int} {k : D → Prop} (h : k (D.byt b)) : Fro (D.byt b) k := h
theorem s_fz_byt {b : List Int} {k : D → Prop} (h : k (D.byt b)) : Fz (D.byt b) k := h
theorem s_fro_lst {b : List D} {k : D → Prop} (h : k (D.lst b)) : Fro (D.lst b) k := h
theorem s_fz_lst {b : List D} {k : D → Prop} (h : k (D.lst b)) : Fz (D.lst b) k := h
theorem s_fro_rl {b : List D} {k : D → Prop} (h : k (D.rl b)) : Fro (D.rl b) k := h
theorem s_fz_rl {b : List D} {k : D → Prop} (h : k (D.rl b)) : Fz (D.rl b) k := h
theorem s_fro_tup {b : List D} {k : D → Prop} (h : k (D.tup b)) : Fro (D.tup b) k := h
theorem s_fz_tup {b : List D} {k : D → Prop} (h : k (D.tup b)) : Fz (D.tup b) k := h
theorem s_fz_ml {b : List D} {k : D → Prop} (h : k (D.lst b)) : Fz (D.ml b) k := h
theorem s_nil {xi : Xi} {ρ : Rho} {P : List D → Rho → Prop} (h : P [] ρ) : wNil xi ρ P := h
theorem s_cons {wa : WE} {wl : WL} {xi : Xi} {ρ : Rho} {P : List D → Rho → Prop} (h : wa xi ρ fun d ρ1 => Fz d fun d => wl xi ρ1 fun ds ρ2 => P (d :: ds) ρ2) : wCons wa wl xi ρ P := h
theorem s_conso {wa : WE} {wl : WL} {xi : Xi} {ρ : Rho} {P : List D → Rho → Prop} (h : wa xi ρ fun d ρ1 => wl xi ρ1 fun ds ρ2 => P (d :: ds) ρ2) : wConsO wa wl xi ρ P := h
theorem s_tup {wl : WL} {xi : Xi} {ρ : Rho} {P : D → Rho → Prop} (h : wl xi ρ fun ds ρ1 => ds.length ≤ 100000 ∧ P (.tup ds) ρ1) : wTup wl xi ρ P := h
theorem s_lst {wl : WL} {xi : Xi} {ρ : Rho} {P : D → Rho → Prop} (h : wl xi ρ fun ds ρ1 => ds.length ≤ 100000 ∧ P (.ml ds) ρ1) : wLst wl xi ρ P := h
theorem s_op {g : D → D → (D → Prop) → Prop} {wa wb : WE} {xi : Xi} {ρ : Rho} {P : D → Rho → Prop} (h : wa xi ρ fun x ρ1 => wb xi ρ1 fun y ρ2 => g x y fun z => P z ρ2) : wOp g wa wb xi ρ P := h
theorem s_b {w : WE} {t : Bool → Rho → Prop} {xi : Xi} {ρ : Rho} (h : w xi ρ fun d ρ1 => match d with | .bl b => t b ρ1 | _ => False) : wB w xi ρ t := h
theorem s_and {t u : WT} {xi : Xi} {ρ : Rho} {P : Bool → Rho → Prop} (h : t xi ρ fun b ρ1 => if b = true then u xi ρ1 P else P false ρ1) : wAnd t u xi ρ P := h
theorem s_or {t u : WT} {xi : Xi} {ρ : Rho} {P : Bool → Rho → Prop} (h : t xi ρ fun b ρ1 => if b = true then P true ρ1 else u xi ρ1 P) : wOr t u xi ρ P := h
theorem s_not {t : WT} {xi : Xi} {ρ : Rho} {P : Bool → Rho → Prop} (h : t xi ρ fun b ρ1 => P (!b) ρ1) : wNot t xi ρ P := h
theorem s_if {t : WT} {wa wb : WE} {xi : Xi} {ρ : Rho} {P : D → Rho → Prop} (h : t xi ρ fun b ρ1 => if b = true then wa xi ρ1 P else wb xi ρ1 P) : wIf t wa wb xi ρ P := h
theorem s_andv {wa wb : WE} {xi : Xi} {ρ : Rho} {P : D → Rho → Prop} (h : wa xi ρ fun d ρ1 => match d with | .bl b => if b = true then wb xi ρ1 P else P (.bl false) ρ1 | _ => False) : wAndV wa wb xi ρ P := h
theorem s_orv {wa wb : WE} {xi : Xi} {ρ : Rho} {P : D → Rho → Prop} (h : wa xi ρ fun d ρ1 => match d with | .bl b => if b = true then P (.bl true) ρ1 else wb xi ρ1 P | _ => False) : wOrV wa wb xi ρ P := h
theorem s_notv {wa : WE} {xi : Xi} {ρ : Rho} {P : D → Rho → Prop} (h : wa xi ρ fun d ρ1 => match d with | .bl b => P (.bl (!b)) ρ1 | _ => False) : wNotV wa xi ρ P := h
theorem s_neg {wa : WE} {xi : Xi} {ρ : Rho} {P : D → Rho → Prop} (h : wa xi ρ fun d ρ1 => match d with | .int i => P (.int (-i)) ρ1 | _ => False) : wNeg wa xi ρ P := h
theorem s_on {xi : Xi} {ρ : Rho} {P : Option Int → Rho → Prop} (h : P none ρ) : woN xi ρ P := h
theorem s_os {w : WE} {xi : Xi} {ρ : Rho} {P : Option Int → Rho → Prop} (h : w xi ρ fun d ρ1 => match d with | .int i => P (some i) ρ1 | _ => False) : woS w xi ρ P := h
theorem s_sl {we : WE} {wl wh : WO} {xi : Xi} {ρ : Rho} {P : D → Rho → Prop} (h : we xi ρ fun x ρ1 => wl xi ρ1 fun lo ρ2 => wh xi ρ2 fun hi ρ3 => slD x lo hi fun z => P z ρ3) : wSl we wl wh xi ρ P := h
theorem s_call1 {g : D → (D → Prop) → Prop} {wa : WE} {xi : Xi} {ρ : Rho} {P : D → Rho → Prop} (h : wa xi ρ fun x ρ1 => g x fun z => P z ρ1) : wCall1 g wa xi ρ P := h
theorem s_calls {g : List D → (D → Prop) → Prop} {wl : WL} {xi : Xi} {ρ : Rho} {P : D → Rho → Prop} (h : wl xi ρ fun ds ρ1 => g ds fun z => P z ρ1) : wCalls g wl xi ρ P := h
theorem s_chain {g g2 : D → D → (D → Prop) → Prop} {wa wb wc : WE} {xi : Xi} {ρ : Rho} {P : D → Rho → Prop} (h : wa xi ρ fun x ρ1 => wb xi ρ1 fun y ρ2 => g x y fun z => ∃ k, z = .bl k ∧ if k = true then wc xi ρ2 fun w ρ3 => g2 y w fun u => P u ρ3 else P (.bl false) ρ2) : wChain g g2 wa wb wc xi ρ P := h
def plF (ρ : Rho) (i : Nat) : Option D := match ρ[i]? with
  | some (.vl d) => some d
  | some (.io _ d) => some d
  | _ => none
theorem plF_ok {ρ : Rho} {i : Nat} {d : D} (h : plF ρ i = some d) : PlD ρ i [] d := by
  unfold plF at h
  split at h
  · rename_i x e
    cases Option.some.inj h
    exact .inl e
  · rename_i v x e
    cases Option.some.inj h
    exact .inr ⟨v, e⟩
  · cases h
def ptF (ρ : Rho) (i : Nat) (d : D) : Option Rho := match ρ[i]? with
  | some (.vl _) => some (ρ.set i (.vl d))
  | some (.io v _) => some (ρ.set i (.io v d))
  | _ => none
theorem ptF_ok {ρ ρ' : Rho} {i : Nat} {d : D} (h : ptF ρ i d = some ρ') : PtD ρ i [] d ρ' := by
  unfold ptF at h
  split at h
  · rename_i x e
    exact .inl ⟨x, e, (Option.some.inj h).symm⟩
  · rename_i v x e
    exact .inr ⟨v, x, e, (Option.some.inj h).symm⟩
  · cases h
theorem s_opP {i : Nat} {g : D → D → (D → Prop) → Prop} {wb : WE} {x0 : D} {xi : Xi} {ρ : Rho} {P : D → Rho → Prop} (h0 : plF ρ i = some x0) (h : wb xi ρ fun y ρ1 => ∃ x, PlD ρ1 i [] x ∧ g x y fun z => P z ρ1) : wOpP g i [] wb xi ρ P := ⟨⟨x0, plF_ok h0⟩, h⟩
theorem s_pl {i : Nat} {x0 : D} {K : D → Prop} {ρ : Rho} (h0 : plF ρ i = some x0) (h : K x0) : ∃ x, PlD ρ i [] x ∧ K x := ⟨x0, plF_ok h0, h⟩
theorem s_wpl {i : Nat} {x0 : D} {xi : Xi} {ρ : Rho} {P : D → Rho → Prop} (h0 : plF ρ i = some x0) (h : Fro x0 fun d => P d ρ) : wPl i [] xi ρ P := ⟨x0, plF_ok h0, h⟩
theorem s_call1P {i : Nat} {x0 : D} {g : D → (D → Prop) → Prop} {xi : Xi} {ρ : Rho} {P : D → Rho → Prop} (h0 : plF ρ i = some x0) (h : g x0 fun z => P z ρ) : wCall1P g i [] xi ρ P := ⟨x0, plF_ok h0, h⟩
theorem s_mt {i : Nat} {x0 : List D} {wl : WL} {g : List D → List D → (List D → D → Prop) → Prop} {xi : Xi} {ρ : Rho} {P : D → Rho → Prop} (h0 : plF ρ i = some (.ml x0)) (h : wl xi ρ fun ds ρ1 => ∃ xs, PlD ρ1 i [] (.ml xs) ∧ g xs ds fun ys rd => ∃ ρ2, PtD ρ1 i [] (.ml ys) ρ2 ∧ P rd ρ2) : wMt g i [] wl xi ρ P := ⟨⟨x0, plF_ok h0⟩, h⟩
theorem s_plml {i : Nat} {x0 : List D} {K : List D → Prop} {ρ : Rho} (h0 : plF ρ i = some (.ml x0)) (h : K x0) : ∃ xs, PlD ρ i [] (.ml xs) ∧ K xs := ⟨x0, plF_ok h0, h⟩
theorem s_pt {i : Nat} {d : D} {K : Rho → Prop} {ρ ρ2 : Rho} (h0 : ptF ρ i d = some ρ2) (h : K ρ2) : ∃ ρ2, PtD ρ i [] d ρ2 ∧ K ρ2 := ⟨ρ2, ptF_ok h0, h⟩
theorem s_setIx {i : Nat} {we wi : WE} {xi : Xi} {ρ : Rho} {P : PEn} (h : we xi ρ fun d ρ1 => Fz d fun d => (∃ x0, PlD ρ1 i [] (.ml x0)) ∧ wi xi ρ1 fun y ρ2 => ∃ xs n j, y = .int n ∧ PlD ρ2 i [] (.ml xs) ∧ ixN xs.length n = some j ∧ ∃ ρ3, PtD ρ2 i [] (.ml (xs.set j d)) ρ3 ∧ P.nx ρ3) : wSetIx i [] we wi xi ρ P := h
theorem s_plex {i : Nat} {x0 : List D} {A : Prop} {ρ : Rho} (h0 : plF ρ i = some (.ml x0)) (h : A) : (∃ x0, PlD ρ i [] (.ml x0)) ∧ A := ⟨⟨x0, plF_ok h0⟩, h⟩
theorem s_setIx2 {i j : Nat} {n : Int} {xs : List D} {K : List D → Nat → Prop} {ρ : Rho} (h0 : plF ρ i = some (.ml xs)) (h1 : ixN xs.length n = some j) (h : K xs j) : ∃ xs m j, D.int n = .int m ∧ PlD ρ i [] (.ml xs) ∧ ixN xs.length m = some j ∧ K xs j := ⟨xs, n, j, rfl, plF_ok h0, h1, h⟩
theorem s_it {w : WE} {K : List D → Rho → Prop} {xi : Xi} {ρ : Rho} (h : w xi ρ fun d ρ1 => Fz d fun d => match itemsD d with | some ds => K ds ρ1 | none => False) : wIt w xi ρ K := h
theorem s_rng1 {w : WL} {K : List D → Rho → Prop} {xi : Xi} {ρ : Rho} (h : w xi ρ fun ds ρ1 => match ds with | [.int n] => (-1000000000000 ≤ n ∧ n ≤ 1000000000000) ∧ K (rangeL 0 n.toNat) ρ1 | _ => False) : wRng1 w xi ρ K := h
theorem s_rng2 {w : WL} {K : List D → Rho → Prop} {xi : Xi} {ρ : Rho} (h : w xi ρ fun ds ρ1 => match ds with | [.int a, .int b] => (-1000000000000 ≤ a ∧ a ≤ 1000000000000 ∧ -1000000000000 ≤ b ∧ b ≤ 1000000000000) ∧ K (rangeL a (b - a).toNat) ρ1 | _ => False) : wRng2 w xi ρ K := h
theorem s_enum {w : WL} {K : List D → Rho → Prop} {xi : Xi} {ρ : Rho} (h : w xi ρ fun ds ρ1 => match ds with | [d] => (match seqOf d with | some xs => K (xs.zipIdx.map fun p => .tup [.int (p.2 : Nat), p.1]) ρ1 | none => False) | _ => False) : wEnum w xi ρ K := h
theorem s_yes {xi : Xi} {ρ : Rho} {P : Bool → Rho → Prop} (h : P true ρ) : wYes xi ρ P := h
theorem s_joinb {wl : WL} {xi : Xi} {ρ : Rho} {P : D → Rho → Prop} (h : wl xi ρ fun ds ρ1 => match ds with | [d] => (match (lstOf d).bind bytsOf with | some nss => nss.flatten.length ≤ 100000 ∧ P (.byt nss.flatten) ρ1 | none => False) | _ => False) : wJoinB wl xi ρ P := h
theorem s_nx {xi : Xi} {ρ : Rho} {P : PEn} (h : P.nx ρ) : wNx xi ρ P := h
theorem s_seq {a b : WS} {xi : Xi} {ρ : Rho} {P : PEn} (h : a xi ρ { P with nx := fun ρ2 => b xi ρ2 P }) : wSeq a b xi ρ P := h
theorem s_bk {xi : Xi} {ρ : Rho} {P : PEn} (h : P.bk ρ) : wBk xi ρ P := h
theorem s_ct {xi : Xi} {ρ : Rho} {P : PEn} (h : P.ct ρ) : wCt xi ρ P := h
theorem s_set {i : Nat} {we : WE} {xi : Xi} {ρ : Rho} {P : PEn} (h : we xi ρ fun d ρ1 => P.nx (ρ1.set i (.vl d))) : wSet i we xi ρ P := h
theorem s_asg {p : Pat} {we : WE} {xi : Xi} {ρ : Rho} {P : PEn} (h : we xi ρ fun d ρ1 => Fz d fun d => ∃ ρ2, p.asg d ρ1 = some ρ2 ∧ P.nx ρ2) : wAsg p we xi ρ P := h
theorem s_ex1 {α : Type} {o : Option α} {r : α} {K : α → Prop} (h0 : o = some r) (h : K r) : ∃ r, o = some r ∧ K r := ⟨r, h0, h⟩
theorem s_aug {i : Nat} {g : D → D → (D → Prop) → Prop} {we : WE} {x : D} {xi : Xi} {ρ : Rho} {P : PEn} (h0 : ρ[i]? = some (.vl x)) (h : Fro x fun x => we xi ρ fun y ρ1 => g x y fun z => P.nx (ρ1.set i (.vl z))) : wAug i g we xi ρ P := ⟨x, h0, h⟩
theorem s_x {we : WE} {xi : Xi} {ρ : Rho} {P : PEn} (h : we xi ρ fun _ ρ1 => P.nx ρ1) : wX we xi ρ P := h
theorem s_ret {we : WE} {xi : Xi} {ρ : Rho} {P : PEn} (h : we xi ρ P.rt) : wRet we xi ρ P := h
theorem s_retn {xi : Xi} {ρ : Rho} {P : PEn} (h : P.rt .non ρ) : wRetN xi ρ P := h
theorem s_ifs {t : WT} {a b : WS} {xi : Xi} {ρ : Rho} {P : PEn} (h : t xi ρ fun c ρ1 => if c = true then a xi ρ1 P else b xi ρ1 P) : wIfS t a b xi ρ P := h
theorem s_for {p : Pat} {wi : WI} {wb : WS} {xi : Xi} {ρ : Rho} {P : PEn} (h : wi xi ρ fun ds ρ1 => loopD p wb xi P ds ρ1) : wFor p wi wb xi ρ P := h
theorem s_asgo {is : List Nat} {wl : WL} {xi : Xi} {ρ : Rho} {P : PEn} (h : wl xi ρ fun ds ρ1 => ds.length = is.length ∧ ds.length ≤ 100000 ∧ P.nx (setAll ρ1 is ds)) : wAsgO is wl xi ρ P := h
theorem s_asgo2 {is : List Nat} {ds : List D} {A : Prop} (h1 : ds.length = is.length) (h2 : ds.length ≤ 100000) (h : A) : ds.length = is.length ∧ ds.length ≤ 100000 ∧ A := ⟨h1, h2, h⟩
theorem s_wanil {xi : Xi} {ρ : Rho} {P : List Arg → Rho → Prop} (h : P [] ρ) : waNil xi ρ P := h
theorem s_wav {we : WE} {wa : WA} {xi : Xi} {ρ : Rho} {P : List Arg → Rho → Prop} (h : we xi ρ fun d ρ1 => Fz d fun d => wa xi ρ1 fun as ρ2 => P (.val d :: as) ρ2) : waV we wa xi ρ P := h
theorem s_was {i : Nat} {wa : WA} {d : D} {xi : Xi} {ρ : Rho} {P : List Arg → Rho → Prop} (h0 : plF ρ i = some d) (h : wa xi ρ fun as ρ2 => P (.slot i :: as) ρ2) : waS i wa xi ρ P := ⟨⟨d, plF_ok h0⟩, h⟩
theorem s_call {n : Nat} {wf : WE} {wa : WA} {xi : Xi} {ρ : Rho} {P : D → Rho → Prop} (h : wa xi ρ fun as ρ1 => as.length = n ∧ (slotsOf as).Nodup ∧ ∀ vv : Nat → V, ∃ ρc, argCs ρ1 vv 0 as = some ρc ∧ wf (fun _ _ => False) ρc fun z ρc2 => ∃ ρ2, backC vv 0 as ρc2 ρ1 = some ρ2 ∧ P z ρ2) : wCall n wf wa xi ρ P := h
theorem s_callk {n : Nat} {wf : WE} {as : List Arg} {ρ1 : Rho} {ρc : (Nat → V) → Rho} {K : (Nat → V) → D → Rho → Prop} (hl : as.length = n) (nd : (slotsOf as).Nodup) (hc : ∀ vv, argCs ρ1 vv 0 as = some (ρc vv)) (h : ∀ vv, wf (fun _ _ => False) (ρc vv) (K vv)) : as.length = n ∧ (slotsOf as).Nodup ∧ ∀ vv : Nat → V, ∃ ρc, argCs ρ1 vv 0 as = some ρc ∧ wf (fun _ _ => False) ρc (K vv) := ⟨hl, nd, fun vv => ⟨ρc vv, hc vv, h vv⟩⟩
theorem s_lc {p : Pat} {vs : List Nat} {wi : WI} {wt : WT} {we : WE} {xi : Xi} {ρ : Rho} {P : D → Rho → Prop} (h : wi xi ρ fun ds ρ1 => lcD p wt we vs P ds (wipeR ρ1 vs) []) : wLc p vs wi wt we xi ρ P := h
theorem s_ii0 {f : Int → Int → D} {i j : Int} {k : D → Prop} (h : k (f i j)) : ii0 f (.int i) (.int j) k := h
theorem s_iid {C : Int → Int → Prop} {f : Int → Int → D} {i j : Int} {k : D → Prop} (hc : C i j) (h : k (f i j)) : iiD C f (.int i) (.int j) k := ⟨hc, h⟩
theorem s_addii {i j : Int} {k : D → Prop} (h : k (.int (i + j))) : addD (.int i) (.int j) k := h
theorem s_addib {i : Int} {b : Bool} {k : D → Prop} (h : k (.int (i + b2i b))) : addD (.int i) (.bl b) k := h
theorem s_addlstlst {x y : List D} {k : D → Prop} (hc : x.length + y.length ≤ 100000) (h : k (.ml (x ++ y))) : addD (.lst x) (.lst y) k := ⟨hc, h⟩
theorem s_addlstml {x y : List D} {k : D → Prop} (hc : x.length + y.length ≤ 100000) (h : k (.ml (x ++ y))) : addD (.lst x) (.ml y) k := ⟨hc, h⟩
theorem s_addmllst {x y : List D} {k : D → Prop} (hc : x.length + y.length ≤ 100000) (h : k (.ml (x ++ y))) : addD (.ml x) (.lst y) k := ⟨hc, h⟩
theorem s_addmlml {x y : List D} {k : D → Prop} (hc : x.length + y.length ≤ 100000) (h : k (.ml (x ++ y))) : addD (.ml x) (.ml y) k := ⟨hc, h⟩
theorem s_addtup {x y : List D} {k : D → Prop} (hc : x.length + y.length ≤ 100000) (h : k (.tup (x ++ y))) : addD (.tup x) (.tup y) k := ⟨hc, h⟩
theorem s_addbyt {x y : List Int} {k : D → Prop} (hc : x.length + y.length ≤ 100000) (h : k (.byt (x ++ y))) : addD (.byt x) (.byt y) k := ⟨hc, h⟩
theorem s_mulii {i j : Int} {k : D → Prop} (hc : CMul i j) (h : k (.int (i * j))) : mulD (.int i) (.int j) k := ⟨hc, h⟩
theorem s_mullst {x : List D} {j : Int} {k : D → Prop} (h1 : -1000000 ≤ j ∧ j ≤ 1000000) (h2 : x.length * j.toNat ≤ 100000) (h : k (.ml (List.replicate j.toNat x).flatten)) : mulD (.lst x) (.int j) k := ⟨h1, h2, h⟩
theorem s_mulml {x : List D} {j : Int} {k : D → Prop} (h1 : -1000000 ≤ j ∧ j ≤ 1000000) (h2 : x.length * j.toNat ≤ 100000) (h : k (.ml (List.replicate j.toNat x).flatten)) : mulD (.ml x) (.int j) k := ⟨h1, h2, h⟩
theorem s_ixlst {x : List D} {i : Int} {d : D} {k : D → Prop} (h1 : atI x i = some d) (h : k d) : ixD (.lst x) (.int i) k := ⟨d, h1, h⟩
theorem s_lenlst {x : List D} {k : D → Prop} (h : k (.int x.length)) : lenD (.lst x) k := h
theorem s_ixml {x : List D} {i : Int} {d : D} {k : D → Prop} (h1 : atI x i = some d) (h : k d) : ixD (.ml x) (.int i) k := ⟨d, h1, h⟩
theorem s_lenml {x : List D} {k : D → Prop} (h : k (.int x.length)) : lenD (.ml x) k := h
theorem s_ixrl {x : List D} {i : Int} {d : D} {k : D → Prop} (h1 : atI x i = some d) (h : k d) : ixD (.rl x) (.int i) k := ⟨d, h1, h⟩
theorem s_lenrl {x : List D} {k : D → Prop} (h : k (.int x.length)) : lenD (.rl x) k := h
theorem s_ixtup {x : List D} {i : Int} {d : D} {k : D → Prop} (h1 : atI x i = some d) (h : k d) : ixD (.tup x) (.int i) k := ⟨d, h1, h⟩
theorem s_lentup {x : List D} {k : D → Prop} (h : k (.int x.length)) : lenD (.tup x) k := h
theorem s_ixbyt {x : List Int} {i n : Int} {k : D → Prop} (h0 : x.length ≤ 100000) (h1 : 0 ≤ i) (h2 : x[i.toNat]? = some n) (h : k (.int n)) : ixD (.byt x) (.int i) k := ⟨h0, h1, n, h2, h⟩
theorem s_lenbyt {x : List Int} {k : D → Prop} (h0 : x.length ≤ 100000) (h : k (.int x.length)) : lenD (.byt x) k := ⟨h0, h⟩
theorem s_sltup {x : List D} {lo hi : Option Int} {k : D → Prop} (h : k (.tup (cutL x lo hi))) : slD (.tup x) lo hi k := h
theorem s_sllst {x : List D} {lo hi : Option Int} {k : D → Prop} (h : k (.ml (cutL x lo hi))) : slD (.lst x) lo hi k := h
theorem s_slml {x : List D} {lo hi : Option Int} {k : D → Prop} (h : k (.ml (cutL x lo hi))) : slD (.ml x) lo hi k := h
theorem s_slrl {x : List D} {lo hi : Option Int} {k : D → Prop} (h : k (.ml (cutL x lo hi))) : slD (.rl x) lo hi k := h
theorem s_slbyt {x : List Int} {lo hi : Option Int} {k : D → Prop} (h0 : x.length ≤ 100000) (h : k (.byt (cutL x lo hi))) : slD (.byt x) lo hi k := ⟨h0, h⟩
theorem s_eq {x y : D} {b : Bool} {k : D → Prop} (h0 : eqF 9 x y = some b) (h : k (.bl b)) : eqD x y k := by
  unfold eqD
  rw [h0]
  exact h
theorem s_ne {x y : D} {b : Bool} {k : D → Prop} (h0 : eqF 9 x y = some b) (h : k (.bl (!b))) : neD x y k := by
  unfold neD
  rw [h0]
  exact h
theorem s_in {x y : D} {v : V} {ws : List V} {k : D → Prop} (h0 : flatD x = some v) (h1 : (seqOf y).bind flatA = some ws) (h : k (.bl (inV v ws))) : inD x y k := by
  unfold inD
  rw [h0, h1]
  exact h
theorem s_nin {x y : D} {v : V} {ws : List V} {k : D → Prop} (h0 : flatD x = some v) (h1 : (seqOf y).bind flatA = some ws) (h : k (.bl (!inV v ws))) : ninD x y k := by
  unfold ninD
  rw [h0, h1]
  exact h
theorem s_is {x : D} {b : Bool} {k : D → Prop} (h0 : isNone x = some b) (h : k (.bl b)) : isD x .non k := by
  unfold isD
  rw [h0]
  exact h
theorem s_isnt {x : D} {b : Bool} {k : D → Prop} (h0 : isNone x = some b) (h : k (.bl (!b))) : isntD x .non k := by
  unfold isntD
  rw [h0]
  exact h
theorem s_intint {i : Int} {k : D → Prop} (h : k (.int i)) : intD (.int i) k := h
theorem s_intbl {b : Bool} {k : D → Prop} (h : k (.int (if b then 1 else 0))) : intD (.bl b) k := h
theorem s_tuplelst {x : List D} {k : D → Prop} (h : k (.tup x)) : tupleD (.lst x) k := h
theorem s_listlst {x : List D} {k : D → Prop} (h : k (.ml x)) : listD (.lst x) k := h
theorem s_tupleml {x : List D} {k : D → Prop} (h : k (.tup x)) : tupleD (.ml x) k := h
theorem s_listml {x : List D} {k : D → Prop} (h : k (.ml x)) : listD (.ml x) k := h
theorem s_tuplerl {x : List D} {k : D → Prop} (h : k (.tup x)) : tupleD (.rl x) k := h
theorem s_listrl {x : List D} {k : D → Prop} (h : k (.ml x)) : listD (.rl x) k := h
theorem s_tupletup {x : List D} {k : D → Prop} (h : k (.tup x)) : tupleD (.tup x) k := h
theorem s_listtup {x : List D} {k : D → Prop} (h : k (.ml x)) : listD (.tup x) k := h
theorem s_listbyt {x : List Int} {k : D → Prop} (h0 : x.length ≤ 100000) (h : k (.ml (x.map .int))) : listD (.byt x) k := ⟨h0, h⟩
theorem s_byteslst {x : List D} {ns : List Int} {k : D → Prop} (h0 : intsOf x = some ns) (h : B8 ns ∧ k (.byt ns)) : bytesD (.lst x) k := by
  show (match (some x).bind intsOf with | some ns => B8 ns ∧ k (.byt ns) | none => False)
  rw [Option.bind_some, h0]
  exact h
theorem s_bytesml {x : List D} {ns : List Int} {k : D → Prop} (h0 : intsOf x = some ns) (h : B8 ns ∧ k (.byt ns)) : bytesD (.ml x) k := by
  show (match (some x).bind intsOf with | some ns => B8 ns ∧ k (.byt ns) | none => False)
  rw [Option.bind_some, h0]
  exact h
theorem s_sumlst {x : List D} {ns : List Int} {k : D → Prop} (h0 : intsOf x = some ns) (h : k (.int ns.sum)) : sumD (.lst x) k := by
  show (match (some x).bind intsOf with | some ns => k (.int ns.sum) | none => False)
  rw [Option.bind_some, h0]
  exact h
theorem s_summl {x : List D} {ns : List Int} {k : D → Prop} (h0 : intsOf x = some ns) (h : k (.int ns.sum)) : sumD (.ml x) k := by
  show (match (some x).bind intsOf with | some ns => k (.int ns.sum) | none => False)
  rw [Option.bind_some, h0]
  exact h
theorem s_maxlst {x : List D} {ns : List Int} {k : D → Prop} (h0 : intsOf x = some ns) (h : ns ≠ [] ∧ ∀ m, m ∈ ns → (∀ y, y ∈ ns → y ≤ m) → k (.int m)) : maxD (.lst x) k := by
  show (match (some x).bind intsOf with | some ns => ns ≠ [] ∧ ∀ m, m ∈ ns → (∀ y, y ∈ ns → y ≤ m) → k (.int m) | none => False)
  rw [Option.bind_some, h0]
  exact h
theorem s_maxml {x : List D} {ns : List Int} {k : D → Prop} (h0 : intsOf x = some ns) (h : ns ≠ [] ∧ ∀ m, m ∈ ns → (∀ y, y ∈ ns → y ≤ m) → k (.int m)) : maxD (.ml x) k := by
  show (match (some x).bind intsOf with | some ns => ns ≠ [] ∧ ∀ m, m ∈ ns → (∀ y, y ∈ ns → y ≤ m) → k (.int m) | none => False)
  rw [Option.bind_some, h0]
  exact h
theorem s_minlst {x : List D} {ns : List Int} {k : D → Prop} (h0 : intsOf x = some ns) (h : ns ≠ [] ∧ ∀ m, m ∈ ns → (∀ y, y ∈ ns → m ≤ y) → k (.int m)) : minD (.lst x) k := by
  show (match (some x).bind intsOf with | some ns => ns ≠ [] ∧ ∀ m, m ∈ ns → (∀ y, y ∈ ns → m ≤ y) → k (.int m) | none => False)
  rw [Option.bind_some, h0]
  exact h
theorem s_minml {x : List D} {ns : List Int} {k : D → Prop} (h0 : intsOf x = some ns) (h : ns ≠ [] ∧ ∀ m, m ∈ ns → (∀ y, y ∈ ns → m ≤ y) → k (.int m)) : minD (.ml x) k := by
  show (match (some x).bind intsOf with | some ns => ns ≠ [] ∧ ∀ m, m ∈ ns → (∀ y, y ∈ ns → m ≤ y) → k (.int m) | none => False)
  rw [Option.bind_some, h0]
  exact h
theorem s_max2 {i j : Int} {k : D → Prop} (h : k (.int (if j > i then j else i))) : max2D [.int i, .int j] k := h
theorem s_min2 {i j : Int} {k : D → Prop} (h : k (.int (if j < i then j else i))) : min2D [.int i, .int j] k := h
theorem s_append {x : List D} {d : D} {k : List D → D → Prop} (h0 : x.length < 100000) (h : k (x ++ [d]) .non) : appendG x [d] k := ⟨h0, h⟩
theorem s_extend {x y : List D} {k : List D → D → Prop} (h0 : x.length + y.length ≤ 100000) (h : k (x ++ y) .non) : extendG x [.lst y] k := ⟨h0, h⟩
theorem s_isi {Ts : List String} {i : Nat} {x0 : D} {a : String} {xi : Xi} {ρ : Rho} {P : D → Rho → Prop} (h0 : plF ρ i = some x0) (h1 : tagD x0 = some a) (h : P (.bl (Ts.any (isiB a))) ρ) : wIsi Ts i [] xi ρ P := ⟨x0, plF_ok h0, by unfold isiD; rw [h1]; exact h⟩
theorem s_ite {c : Bool} {A B : Prop} (h1 : c = true → A) (h2 : c = false → B) : if c = true then A else B := by
  cases c with
  | true => exact (if_pos rfl).mpr (h1 rfl)
  | false => exact (if_neg (by decide)).mpr (h2 rfl)
theorem s_ifT {c : Bool} {A B : Prop} (h1 : c = true) (h : A) : if c = true then A else B := s_ite (fun _ => h) fun e => by rw [h1] at e; cases e
theorem s_ifF {c : Bool} {A B : Prop} (h1 : c = false) (h : B) : if c = true then A else B := s_ite (fun e => by rw [h1] at e; cases e) fun _ => h
theorem s_k {k : Bool} {K : Bool → Prop} (h : K k) : ∃ j, D.bl k = .bl j ∧ K j := ⟨k, rfl, h⟩
theorem s_sz {A B : Prop} (h1 : A) (h : B) : A ∧ B := ⟨h1, h⟩
def frB : D → Bool
  | .ml _ => false
  | .md _ _ => false
  | .ms _ _ => false
  | .mi _ _ _ => false
  | _ => true
theorem frB_ok : ∀ {d : D}, frB d = true → Fro d fun _ => True := by
  intro d h
  cases d <;> first
    | trivial
    | cases h
theorem r_nil {r2 : Rho} : RetR [] r2 [] := rfl
theorem r_no {r r2 rr : Rho} {c : Cell} (h : RetR r r2 rr) : RetR (.no :: r) (c :: r2) (.no :: rr) := ⟨rr, rfl, h⟩
theorem r_vl {r r2 rr : Rho} {d : D} {c : Cell} (hf : frB d = true) (h : RetR r r2 rr) : RetR (.vl d :: r) (c :: r2) (.vl d :: rr) := ⟨rr, rfl, frB_ok hf, h⟩
theorem r_io {r r2 rr : Rho} {v : V} {d d2 : D} (h : RetR r r2 rr) : RetR (.io v d :: r) (.io v d2 :: r2) (.io v d2 :: rr) := ⟨d2, rr, rfl, rfl, h⟩
theorem s_exb {vv : Nat → V} {k : Nat} {as : List Arg} {ρc ρ1 r : Rho} {K : Rho → Prop} (h0 : backC vv k as ρc ρ1 = some r) (h : K r) : ∃ r, backC vv k as ρc ρ1 = some r ∧ K r := ⟨r, h0, h⟩
theorem s_retr {ρ ρ2 ρr : Rho} {d : D} {K : D → Rho → Prop} (h0 : RetR ρ ρ2 ρr) (h : K d ρr) : ∃ ρr, RetR ρ ρ2 ρr ∧ K d ρr := ⟨ρr, h0, h⟩
theorem s_fz_of {d : D} {k : D → Prop} (h0 : frB d = true) (h : k d) : Fz d k := by
  cases d <;> first
    | exact h
    | cases h0
theorem s_fro_of {d : D} {k : D → Prop} (h0 : frB d = true) (h : k d) : Fro d k := by
  cases d <;> first
    | exact h
    | cases h0
/-! ### places of one field -/
theorem pl1_ok {ρ : Rho} {i : Nat} {C : Addr} {ns : List Str} {xs : List D} {f : Str} {d : D} (h0 : plF ρ i = some (.mi C ns xs)) (h1 : (ns.zip xs).lookup f = some d) : PlD ρ i [(C, f)] d := ⟨ns, xs, plF_ok h0, h1⟩
theorem s_opP1 {i : Nat} {C : Addr} {ns : List Str} {xs : List D} {f : Str} {g : D → D → (D → Prop) → Prop} {wb : WE} {x0 : D} {xi : Xi} {ρ : Rho} {P : D → Rho → Prop} (h0 : plF ρ i = some (.mi C ns xs)) (h1 : (ns.zip xs).lookup f = some x0) (h : wb xi ρ fun y ρ1 => ∃ x, PlD ρ1 i [(C, f)] x ∧ g x y fun z => P z ρ1) : wOpP g i [(C, f)] wb xi ρ P := ⟨⟨x0, pl1_ok h0 h1⟩, h⟩
theorem s_pl1 {i : Nat} {C : Addr} {ns : List Str} {xs : List D} {f : Str} {x0 : D} {K : D → Prop} {ρ : Rho} (h0 : plF ρ i = some (.mi C ns xs)) (h1 : (ns.zip xs).lookup f = some x0) (h : K x0) : ∃ x, PlD ρ i [(C, f)] x ∧ K x := ⟨x0, pl1_ok h0 h1, h⟩
theorem s_wpl1 {i : Nat} {C : Addr} {ns : List Str} {xs : List D} {f : Str} {x0 : D} {xi : Xi} {ρ : Rho} {P : D → Rho → Prop} (h0 : plF ρ i = some (.mi C ns xs)) (h1 : (ns.zip xs).lookup f = some x0) (h : Fro x0 fun d => P d ρ) : wPl i [(C, f)] xi ρ P := ⟨x0, pl1_ok h0 h1, h⟩
theorem s_call1P1 {i : Nat} {C : Addr} {ns : List Str} {xs : List D} {f : Str} {x0 : D} {g : D → (D → Prop) → Prop} {xi : Xi} {ρ : Rho} {P : D → Rho → Prop} (h0 : plF ρ i = some (.mi C ns xs)) (h1 : (ns.zip xs).lookup f = some x0) (h : g x0 fun z => P z ρ) : wCall1P g i [(C, f)] xi ρ P := ⟨x0, pl1_ok h0 h1, h⟩
theorem s_mt1 {i : Nat} {C : Addr} {ns : List Str} {xs : List D} {f : Str} {x0 : List D} {wl : WL} {g : List D → List D → (List D → D → Prop) → Prop} {xi : Xi} {ρ : Rho} {P : D → Rho → Prop} (h0 : plF ρ i = some (.mi C ns xs)) (h1 : (ns.zip xs).lookup f = some (.ml x0)) (h : wl xi ρ fun ds ρ1 => ∃ xs, PlD ρ1 i [(C, f)] (.ml xs) ∧ g xs ds fun ys rd => ∃ ρ2, PtD ρ1 i [(C, f)] (.ml ys) ρ2 ∧ P rd ρ2) : wMt g i [(C, f)] wl xi ρ P := ⟨⟨x0, pl1_ok h0 h1⟩, h⟩
theorem s_plml1 {i : Nat} {C : Addr} {ns : List Str} {xs : List D} {f : Str} {x0 : List D} {K : List D → Prop} {ρ : Rho} (h0 : plF ρ i = some (.mi C ns xs)) (h1 : (ns.zip xs).lookup f = some (.ml x0)) (h : K x0) : ∃ xs, PlD ρ i [(C, f)] (.ml xs) ∧ K xs := ⟨x0, pl1_ok h0 h1, h⟩
theorem s_pt1 {i : Nat} {C : Addr} {ns : List Str} {xs ys : List D} {f : Str} {d : D} {K : Rho → Prop} {ρ ρ2 : Rho} (h0 : plF ρ i = some (.mi C ns xs)) (hy : setX f d ns xs = ys) (h1 : ptF ρ i (.mi C ns ys) = some ρ2) (h : K ρ2) : ∃ ρ2, PtD ρ i [(C, f)] d ρ2 ∧ K ρ2 := ⟨ρ2, ⟨ns, xs, plF_ok h0, by rw [hy]; exact ptF_ok h1⟩, h⟩
theorem s_setIxP {i : Nat} {C : Addr} {f : Str} {we wi : WE} {xi : Xi} {ρ : Rho} {P : PEn} (h : we xi ρ fun d ρ1 => Fz d fun d => (∃ x0, PlD ρ1 i [(C, f)] (.ml x0)) ∧ wi xi ρ1 fun y ρ2 => ∃ xs n j, y = .int n ∧ PlD ρ2 i [(C, f)] (.ml xs) ∧ ixN xs.length n = some j ∧ ∃ ρ3, PtD ρ2 i [(C, f)] (.ml (xs.set j d)) ρ3 ∧ P.nx ρ3) : wSetIx i [(C, f)] we wi xi ρ P := h
theorem s_plex1 {i : Nat} {C : Addr} {ns : List Str} {xs : List D} {f : Str} {x0 : List D} {A : Prop} {ρ : Rho} (h0 : plF ρ i = some (.mi C ns xs)) (h1 : (ns.zip xs).lookup f = some (.ml x0)) (h : A) : (∃ x0, PlD ρ i [(C, f)] (.ml x0)) ∧ A := ⟨⟨x0, pl1_ok h0 h1⟩, h⟩
theorem s_setIxP2 {i j : Nat} {C : Addr} {ns : List Str} {fs : List D} {f : Str} {n : Int} {xs : List D} {K : List D → Nat → Prop} {ρ : Rho} (h0 : plF ρ i = some (.mi C ns fs)) (h1 : (ns.zip fs).lookup f = some (.ml xs)) (h2 : ixN xs.length n = some j) (h : K xs j) : ∃ xs m j, D.int n = .int m ∧ PlD ρ i [(C, f)] (.ml xs) ∧ ixN xs.length m = some j ∧ K xs j := ⟨xs, n, j, rfl, pl1_ok h0 h1, h2, h⟩
theorem s_slP {i : Nat} {x0 : D} {wl wh : WO} {xi : Xi} {ρ : Rho} {P : D → Rho → Prop} (h0 : plF ρ i = some x0) (h : wl xi ρ fun lo ρ1 => wh xi ρ1 fun hi ρ2 => ∃ x, PlD ρ2 i [] x ∧ slD x lo hi fun z => P z ρ2) : wSlP i [] wl wh xi ρ P := ⟨⟨x0, plF_ok h0⟩, h⟩
theorem s_slP1 {i : Nat} {C : Addr} {ns : List Str} {xs : List D} {f : Str} {x0 : D} {wl wh : WO} {xi : Xi} {ρ : Rho} {P : D → Rho → Prop} (h0 : plF ρ i = some (.mi C ns xs)) (h1 : (ns.zip xs).lookup f = some x0) (h : wl xi ρ fun lo ρ1 => wh xi ρ1 fun hi ρ2 => ∃ x, PlD ρ2 i [(C, f)] x ∧ slD x lo hi fun z => P z ρ2) : wSlP i [(C, f)] wl wh xi ρ P := ⟨⟨x0, pl1_ok h0 h1⟩, h⟩
theorem s_delAll1 {i : Nat} {C : Addr} {ns : List Str} {xs ys : List D} {f : Str} {x0 : List D} {xi : Xi} {ρ ρ2 : Rho} {P : PEn} (h0 : plF ρ i = some (.mi C ns xs)) (h1 : (ns.zip xs).lookup f = some (.ml x0)) (hy : setX f (.ml []) ns xs = ys) (h2 : ptF ρ i (.mi C ns ys) = some ρ2) (h : P.nx ρ2) : wDelAll i [(C, f)] xi ρ P := ⟨x0, pl1_ok h0 h1, ρ2, ⟨ns, xs, plF_ok h0, by rw [hy]; exact ptF_ok h2⟩, h⟩
theorem s_fld {i : Nat} {C : Addr} {f : Str} {we : WE} {xi : Xi} {ρ : Rho} {P : PEn} (h : we xi ρ fun d ρ1 => ∃ ns xs, PlD ρ1 i [] (.mi C ns xs) ∧ ns.length < 1000 ∧ ∃ ρ2, PtD ρ1 i [] (.mi C (putN f ns) (putX f d ns xs)) ρ2 ∧ P.nx ρ2) : wFld i [] C f we xi ρ P := h
theorem s_fld2 {i : Nat} {C : Addr} {f : Str} {d : D} {ns ms : List Str} {xs ys : List D} {K : Rho → Prop} {ρ ρ2 : Rho} (h0 : plF ρ i = some (.mi C ns xs)) (hl : ns.length < 1000) (hm : putN f ns = ms) (hy : putX f d ns xs = ys) (h1 : ptF ρ i (.mi C ms ys) = some ρ2) (h : K ρ2) : ∃ ns xs, PlD ρ i [] (.mi C ns xs) ∧ ns.length < 1000 ∧ ∃ ρ2, PtD ρ i [] (.mi C (putN f ns) (putX f d ns xs)) ρ2 ∧ K ρ2 := ⟨ns, xs, plF_ok h0, hl, ρ2, by rw [hm, hy]; exact ptF_ok h1, h⟩
theorem s_meth {n i : Nat} {C : Addr} {mn : Str} {wf : WE} {wa : WA} {ns : List Str} {xs : List D} {xi : Xi} {ρ : Rho} {P : D → Rho → Prop} (h0 : plF ρ i = some (.mi C ns xs)) (hm : mn ∉ ns) (h : wa xi ρ fun as ρ1 => (Arg.slot i :: as).length = n ∧ (slotsOf (.slot i :: as)).Nodup ∧ ∀ vv : Nat → V, ∃ ρc, argCs ρ1 vv 0 (.slot i :: as) = some ρc ∧ wf (fun _ _ => False) ρc fun z ρc2 => ∃ ρ2, backC vv 0 (.slot i :: as) ρc2 ρ1 = some ρ2 ∧ P z ρ2) : wMeth n C mn wf i wa xi ρ P := ⟨⟨ns, xs, plF_ok h0, hm⟩, h⟩
theorem s_mk {n : Nat} {C : Addr} {wf : WE} {wa : WA} {xi : Xi} {ρ : Rho} {P : D → Rho → Prop} (h : wa xi ρ fun as ρ1 => (Arg.slot ρ1.length :: as).length = n ∧ (slotsOf (.slot ρ1.length :: as)).Nodup ∧ ∀ vv : Nat → V, ∃ ρc, argCs (ρ1 ++ [.vl (.mi C [] [])]) vv 0 (.slot ρ1.length :: as) = some ρc ∧ wf (fun _ _ => False) ρc fun z ρc2 => ∃ ρ2, backC vv 0 (.slot ρ1.length :: as) ρc2 (ρ1 ++ [.vl (.mi C [] [])]) = some ρ2 ∧ z = .non ∧ ∃ ρ3 d, ρ2 = ρ3 ++ [.vl d] ∧ ρ3.length = ρ1.length ∧ P d ρ3) : wMk n C wf wa xi ρ P := h
theorem s_star {i j : Nat} {we : WE} {xi : Xi} {ρ : Rho} {P : PEn} (h : we xi ρ fun d ρ1 => Fz d fun d => ∃ x xs, lstOf d = some (x :: xs) ∧ P.nx ((ρ1.set i (.vl x)).set j (.vl (.ml xs)))) : wStar i j we xi ρ P := h
theorem s_star2 {x : D} {xs : List D} {d : D} {K : D → List D → Prop} (h0 : lstOf d = some (x :: xs)) (h : K x xs) : ∃ x xs, lstOf d = some (x :: xs) ∧ K x xs := ⟨x, xs, h0, h⟩
theorem setX_1 {f : Str} {d x : D} {ns : List Str} {xs : List D} : setX f d (f :: ns) (x :: xs) = d :: xs := by
  show (if f == f then d :: xs else x :: setX f d ns xs) = d :: xs
  rw [if_pos (beq_self_eq_true f)]
theorem setX_2 {f g : Str} {d x : D} {ns : List Str} {xs ys : List D} (h : (f == g) = false) (h2 : setX f d ns xs = ys) : setX f d (g :: ns) (x :: xs) = x :: ys := by
  show (if f == g then d :: xs else x :: setX f d ns xs) = x :: ys
  rw [if_neg (by rw [h]; decide), h2]
/-! ### d[k] += e -/
theorem s_daug {i : Nat} {op : Int → Int → Int} {wk we : WE} {ks : List Key} {xs : List D} {xi : Xi} {ρ : Rho} {P : PEn} (h0 : ρ[i]? = some (.vl (.md ks xs))) (h : wk xi ρ fun y ρ1 => ∃ k i0, keyOf y = some k ∧ dLook ks xs k = some (.int i0) ∧ ks.length < 100000 ∧ we xi ρ1 fun z ρ2 => ∃ j, z = .int j ∧ PlD ρ2 i [] (.md ks xs) ∧ ∃ ρ3, PtD ρ2 i [] (.md ks (repX ks xs k (.int (op i0 j)))) ρ3 ∧ P.nx ρ3) : wDAug i [] op wk we xi ρ P := ⟨ks, xs, .inl h0, h⟩
theorem s_daug2 {y : D} {ks : List Key} {xs : List D} {k : Key} {i0 : Int} {F : Key → Int → Prop} (h1 : keyOf y = some k) (h2 : dLook ks xs k = some (.int i0)) (hl : ks.length < 100000) (h : F k i0) : ∃ k i0, keyOf y = some k ∧ dLook ks xs k = some (.int i0) ∧ ks.length < 100000 ∧ F k i0 := ⟨k, i0, h1, h2, hl, h⟩
theorem s_daug3 {i : Nat} {op : Int → Int → Int} {j i0 : Int} {ks : List Key} {xs : List D} {k : Key} {ρ : Rho} {KR : Rho → Prop} (h0 : ρ[i]? = some (.vl (.md ks xs))) (h : KR (ρ.set i (.vl (.md ks (repX ks xs k (.int (op i0 j))))))) : ∃ j', D.int j = .int j' ∧ PlD ρ i [] (.md ks xs) ∧ ∃ ρ3, PtD ρ i [] (.md ks (repX ks xs k (.int (op i0 j')))) ρ3 ∧ KR ρ3 := ⟨j, rfl, .inl h0, _, .inl ⟨_, h0, rfl⟩, h⟩

local macro_rules | `(tactic| array_get_dec) => `(tactic| first | (with_reducible assumption) | omega | rfl | (decide) | assumption | (simp; done) | (simp [*]; done) | (simp; omega))
local macro_rules | `(tactic| array_mem_dec) => `(tactic| (first | (with_reducible assumption) | rfl | assumption))
local macro_rules | `(tactic| decreasing_trivial) => `(tactic| try dsimp only [List.cons_append, List.nil_append, List.replicate, List.set, wipeR, setAll, Pat.asg, Pat.asgs, backC, reC, List.getElem?_cons_zero, List.getElem?_cons_succ])
local macro_rules | `(tactic| sizeOf_list_dec) => `(tactic|
 ((first
  | with_reducible apply s_conso
  | with_reducible apply s_tup
  | with_reducible apply s_lst
  | ((with_reducible apply s_isnt); focus (first | (with_reducible assumption) | rfl | assumption))
  | ((with_reducible apply s_is); focus (first | (with_reducible assumption) | rfl | assumption))
  | with_reducible apply s_if
  | with_reducible apply s_call1
  | with_reducible apply s_calls
  | with_reducible apply s_setIxP
  | ((with_reducible apply s_setIxP2); (focus (first | (with_reducible assumption) | rfl | assumption)); (focus (first | (with_reducible assumption) | rfl | assumption)); (focus (first | (with_reducible assumption) | rfl | assumption)))
  | ((with_reducible apply s_call1P1); (focus (first | (with_reducible assumption) | rfl | assumption)); (focus (first | (with_reducible assumption) | rfl | assumption)))
  | ((with_reducible apply s_plml1); (focus (first | (with_reducible assumption) | rfl | assumption)); (focus (first | (with_reducible assumption) | rfl | assumption)))
  | with_reducible apply s_fro_non
  | with_reducible apply s_fz_non
  | with_reducible apply s_fro_bl
  | with_reducible apply s_fz_bl
  | with_reducible apply s_fro_str
  | with_reducible apply s_fz_str
  | with_reducible apply s_fro_byt
  | with_reducible apply s_fz_byt
  | with_reducible apply s_fro_rl
  | with_reducible apply s_fz_rl
  | with_reducible apply s_fro_tup
  | with_reducible apply s_fz_tup
  | with_reducible apply s_and
  | with_reducible apply s_or
  | with_reducible apply s_not
  | with_reducible apply s_andv
  | with_reducible apply s_orv
  | with_reducible apply s_notv
  | with_reducible apply s_neg
  | with_reducible apply s_on
  | with_reducible apply s_os
  | with_reducible apply s_sl
  | with_reducible apply s_chain
  | with_reducible apply s_setIx
  | with_reducible apply s_it
  | with_reducible apply s_rng1
  | with_reducible apply s_rng2
  | with_reducible apply s_enum
  | with_reducible apply s_zip
  | with_reducible apply s_indexL
  | with_reducible apply s_indexG
  | with_reducible apply s_lolst
  | ((with_reducible apply s_fldaugC); (focus (first | (with_reducible assumption) | rfl | assumption)); (focus rfl); (focus (first | decide | simp)); (focus rfl); (focus rfl))
  | with_reducible apply s_dn
  | ((with_reducible apply s_isx); (focus rfl); (focus assumption))
  | ((with_reducible apply s_xf); (focus rfl); (focus rfl))
  | with_reducible apply s_idxB
  | with_reducible apply s_eqbt1
  | with_reducible apply s_eqbt2
  | with_reducible apply s_eqbt3
  | with_reducible apply s_raise0
  | with_reducible apply s_raise1
  | with_reducible apply s_callX
  | ((with_reducible apply s_methX); (focus (first | (with_reducible assumption) | rfl | assumption)); (focus (first | assumption | decide)))
  | with_reducible apply s_toldC
  | with_reducible apply s_cntB
  | ((with_reducible apply s_vF); (focus (first | (with_reducible assumption) | rfl | assumption)); (focus array_get_dec))
  | with_reducible apply s_keys
  | with_reducible apply s_items
  | with_reducible apply s_dicd
  | with_reducible apply s_fro_dic
  | with_reducible apply s_fz_dic
  | ((with_reducible apply s_dg); (focus rfl); (focus rfl); (focus assumption))
  | ((with_reducible apply s_din); (focus rfl); (focus rfl); (focus assumption))
  | with_reducible apply s_opR
  | ((with_reducible apply s_lend); (focus rfl))
  | ((with_reducible apply s_sorted); (focus rfl); (focus array_get_dec))
  | ((with_reducible apply s_sortedKD); (focus rfl); (focus assumption))
  | with_reducible apply s_dput
  | ((with_reducible apply s_dput2); (focus (first | (with_reducible assumption) | rfl | assumption)))
  | ((with_reducible apply s_dput3); (focus rfl); (focus (first | (with_reducible assumption) | rfl | assumption)); (focus array_get_dec); (focus assumption))
  | ((with_reducible apply s_dput3o); (focus rfl); (focus (first | (with_reducible assumption) | rfl | assumption)); (focus array_get_dec); (focus assumption); (focus (first | rfl | trivial)))
  | with_reducible apply s_set0
  | ((with_reducible apply s_sadd); (focus (first | (with_reducible assumption) | rfl | assumption)))
  | ((with_reducible apply s_sadd2); (focus (first | (with_reducible assumption) | rfl | assumption)); (focus array_get_dec))
  | ((with_reducible apply s_sin); (focus assumption))
  | ((with_reducible apply s_lens); (focus array_get_dec))
  | ((with_reducible apply s_mtD); (focus (first | (with_reducible assumption) | rfl | assumption)))
  | ((with_reducible apply s_mtD2); (focus rfl); (focus assumption))
  | ((with_reducible apply s_mtD3); (focus (first | (with_reducible assumption) | rfl | assumption)); (focus assumption))
  | ((with_reducible apply s_mtD4); (focus (first | (with_reducible assumption) | rfl | assumption)))
  | with_reducible apply s_lstRg
  | ((with_reducible apply s_lstRg2); (focus assumption))
  | with_reducible apply s_rev
  | ((with_reducible apply s_daug); (focus (first | (with_reducible assumption) | rfl | assumption)))
  | ((with_reducible apply s_daug2); (focus rfl); (focus assumption); (focus array_get_dec))
  | ((with_reducible apply s_daug3); (focus (first | (with_reducible assumption) | rfl | assumption)))
  | with_reducible apply s_dcO
  | with_reducible apply s_get2
  | ((with_reducible apply s_key); (focus rfl))
  | ((with_reducible apply s_lookS); (focus assumption))
  | ((with_reducible apply s_lookN); (focus assumption))
  | with_reducible apply s_rng3
  | ((with_reducible apply s_alld); (focus rfl); (focus assumption))
  | with_reducible apply s_inE
  | with_reducible apply s_sortIt
  | with_reducible apply s_lc2
  | with_reducible apply s_sc
  | with_reducible apply s_dc
  | ((with_reducible apply s_sdis); (focus (first | (with_reducible assumption) | rfl | assumption)))
  | ((with_reducible apply s_sdis2); (focus (first | (with_reducible assumption) | rfl | assumption)))
  | ((with_reducible apply s_ts); (focus (first | (with_reducible assumption) | rfl | assumption)))
  | with_reducible apply s_yes
  | with_reducible apply s_joinb
  | with_reducible apply s_bk
  | with_reducible apply s_ct
  | with_reducible apply s_asg
  | with_reducible apply s_retn
  | with_reducible apply s_asgo
  | with_reducible apply s_lc
  | with_reducible apply s_addib
  | with_reducible apply s_lenml
  | with_reducible apply s_lenrl
  | with_reducible apply s_lentup
  | with_reducible apply s_sltup
  | with_reducible apply s_sllst
  | with_reducible apply s_slml
  | with_reducible apply s_slrl
  | with_reducible apply s_intint
  | with_reducible apply s_intbl
  | with_reducible apply s_tuplelst
  | with_reducible apply s_listlst
  | with_reducible apply s_tupleml
  | with_reducible apply s_listml
  | with_reducible apply s_tuplerl
  | with_reducible apply s_listrl
  | with_reducible apply s_tupletup
  | with_reducible apply s_listtup
  | with_reducible apply s_max2
  | with_reducible apply s_min2
  | ((with_reducible apply s_v); focus (first | (with_reducible assumption) | rfl | assumption))
  | ((with_reducible apply s_wpl); focus (first | (with_reducible assumption) | rfl | assumption))
  | ((with_reducible apply s_mt); focus (first | (with_reducible assumption) | rfl | assumption))
  | ((with_reducible apply s_plml); focus (first | (with_reducible assumption) | rfl | assumption))
  | ((with_reducible apply s_pt); focus (first | (with_reducible assumption) | rfl | assumption))
  | ((with_reducible apply s_ex1); focus (first | (with_reducible assumption) | rfl | assumption))
  | ((with_reducible apply s_aug); focus (first | (with_reducible assumption) | rfl | assumption))
  | ((with_reducible apply s_was); focus (first | (with_reducible assumption) | rfl | assumption))
  | ((with_reducible apply s_ixml); focus (first | (with_reducible assumption) | rfl | assumption))
  | ((with_reducible apply s_ixrl); focus (first | (with_reducible assumption) | rfl | assumption))
  | ((with_reducible apply s_setIx2); (focus rfl); (focus (first | (with_reducible assumption) | rfl | assumption)))
  | ((with_reducible apply s_ixbyt); (focus array_get_dec); (focus array_get_dec); (focus (first | (with_reducible assumption) | rfl | assumption)))
  | ((with_reducible apply s_mt1); (focus (first | (with_reducible assumption) | rfl | assumption)); (focus (first | (with_reducible assumption) | rfl | assumption)))
  | ((with_reducible apply s_slP1); (focus (first | (with_reducible assumption) | rfl | assumption)); (focus (first | (with_reducible assumption) | rfl | assumption)))
  | ((with_reducible apply s_slP); (focus (first | (with_reducible assumption) | rfl | assumption)))
  | ((with_reducible apply s_delAll1); (focus (first | (with_reducible assumption) | rfl | assumption)); (focus (first | (with_reducible assumption) | rfl | assumption)); (focus (first | exact setX_1 | exact setX_2 rfl setX_1 | exact setX_2 rfl (setX_2 rfl setX_1) | exact setX_2 rfl (setX_2 rfl (setX_2 rfl setX_1)) | exact setX_2 rfl (setX_2 rfl (setX_2 rfl (setX_2 rfl (setX_2 rfl setX_1)))) | rfl)); (focus (first | (with_reducible assumption) | rfl | assumption)))
  | with_reducible apply s_mk
  | ((with_reducible apply s_star))
  | ((with_reducible apply s_star2); (focus (first | (with_reducible assumption) | rfl | assumption)))
  | ((with_reducible apply s_opP2); (focus (first | (with_reducible assumption) | rfl | assumption)); (focus rfl); (focus rfl))
  | ((with_reducible apply s_pl2); (focus (first | (with_reducible assumption) | rfl | assumption)); (focus rfl); (focus rfl))
  | ((with_reducible apply s_wpl2); (focus (first | (with_reducible assumption) | rfl | assumption)); (focus rfl); (focus rfl))
  | ((with_reducible apply s_call1P2); (focus (first | (with_reducible assumption) | rfl | assumption)); (focus rfl); (focus rfl))
  | with_reducible apply s_assert
  | ((with_reducible apply s_pinS); (focus (first | (with_reducible assumption) | rfl | assumption)))
  | ((with_reducible apply s_raw); (focus (first | (with_reducible assumption) | rfl | assumption)))
  | ((with_reducible apply s_lendL); (focus (first | (with_reducible assumption) | rfl | assumption)))
  | with_reducible apply s_enumB
  | ((with_reducible apply s_sumtup); first | (focus array_get_dec) | rotate_left 1)
  | with_reducible apply s_methT
  | ((with_reducible apply s_mv); (focus (first | (with_reducible assumption) | rfl | assumption)))
  | ((with_reducible apply s_somes); (focus rfl); (focus rfl); (focus (first | decide | simp)))
  | ((with_reducible apply s_augIx); (focus rfl); (focus rfl))
  | ((with_reducible apply s_augIx2); (focus rfl); (focus rfl); (focus array_get_dec); (focus (first | assumption | rfl)))
  | with_reducible apply s_k
  | ((with_reducible apply s_in); (focus rfl); (focus rfl))
  | ((with_reducible apply s_nin); (focus rfl); (focus rfl))
  | ((with_reducible apply s_retrX); focus (repeat (first | exact r_nil | apply r_vl (by rfl) | apply r_io | apply r_no)))
  | ((with_reducible apply s_iid); first | (focus array_get_dec) | rotate_left 1)
  | ((with_reducible apply s_addlstlst); first | (focus array_get_dec) | rotate_left 1)
  | ((with_reducible apply s_addlstml); first | (focus array_get_dec) | rotate_left 1)
  | ((with_reducible apply s_addmllst); first | (focus array_get_dec) | rotate_left 1)
  | ((with_reducible apply s_addmlml); first | (focus array_get_dec) | rotate_left 1)
  | ((with_reducible apply s_addtup); first | (focus array_get_dec) | rotate_left 1)
  | ((with_reducible apply s_addbyt); first | (focus array_get_dec) | rotate_left 1)
  | ((with_reducible apply s_mulii); first | (focus array_get_dec) | rotate_left 1)
  | ((with_reducible apply s_mullst); (first | (focus array_get_dec) | rotate_left 1); (first | (focus array_get_dec) | rotate_left 1))
  | ((with_reducible apply s_mulml); (first | (focus array_get_dec) | rotate_left 1); (first | (focus array_get_dec) | rotate_left 1))
  | ((with_reducible apply s_lenbyt); first | (focus array_get_dec) | rotate_left 1)
  | ((with_reducible apply s_slbyt); first | (focus array_get_dec) | rotate_left 1)
  | ((with_reducible apply s_listbyt); first | (focus array_get_dec) | rotate_left 1)
  | ((with_reducible apply s_byteslst); first | (focus array_get_dec) | rotate_left 1)
  | ((with_reducible apply s_bytesml); first | (focus array_get_dec) | rotate_left 1)
  | ((with_reducible apply s_sumbyt); first | (focus array_get_dec) | rotate_left 1)
  | ((with_reducible apply s_sumlst); first | (focus array_get_dec) | rotate_left 1)
  | ((with_reducible apply s_summl); first | (focus array_get_dec) | rotate_left 1)
  | ((with_reducible apply s_maxlst); first | (focus array_get_dec) | rotate_left 1)
  | ((with_reducible apply s_maxml); first | (focus array_get_dec) | rotate_left 1)
  | ((with_reducible apply s_minlst); first | (focus array_get_dec) | rotate_left 1)
  | ((with_reducible apply s_minml); first | (focus array_get_dec) | rotate_left 1)
  | ((with_reducible apply s_append); first | (focus array_get_dec) | rotate_left 1)
  | ((with_reducible apply s_extend); first | (focus array_get_dec) | rotate_left 1)
  | ((with_reducible apply s_isi); (focus (first | (with_reducible assumption) | rfl | assumption)); (focus rfl))
  | ((with_reducible apply s_vp); focus (first | (with_reducible assumption) | rfl | assumption))
  | with_reducible apply s_c
  | with_reducible apply s_op
  | with_reducible apply s_wav
  | with_reducible apply s_wanil
  | with_reducible apply s_call
  | ((with_reducible apply s_callk); (focus rfl); (focus (first | decide | simp)); (focus (intro; rfl)); intro _)
  | ((with_reducible apply s_exb); focus (first | (with_reducible assumption) | rfl | assumption))
  | with_reducible apply s_cons
  | ((with_reducible apply s_pl); focus (first | (with_reducible assumption) | rfl | assumption))
  | with_reducible apply s_fz_int
  | with_reducible apply s_b
  | with_reducible apply s_fro_int
  | with_reducible apply s_seq
  | ((with_reducible apply s_opP); focus (first | (with_reducible assumption) | rfl | assumption))
  | with_reducible apply s_nil
  | ((with_reducible apply s_ifT); focus array_get_dec)
  | ((with_reducible apply s_ifF); focus array_get_dec)
  | with_reducible apply s_fz_lst
  | with_reducible apply s_fro_lst
  | with_reducible apply s_ifs
  | ((with_reducible apply s_ixtup); focus (first | (with_reducible assumption) | rfl | assumption))
  | with_reducible apply s_nx
  | with_reducible apply s_ii0
  | ((with_reducible apply s_call1P); focus (first | (with_reducible assumption) | rfl | assumption))
  | with_reducible apply s_set
  | with_reducible apply s_fz_ml
  | ((with_reducible apply s_eq); focus (first | (with_reducible assumption) | rfl | assumption))
  | ((with_reducible apply s_ne); focus (first | (with_reducible assumption) | rfl | assumption))
  | ((with_reducible apply s_ixlst); focus (first | (with_reducible assumption) | rfl | assumption))
  | with_reducible apply s_addii
  | with_reducible apply s_lenlst
  | with_reducible apply s_for
  | ((with_reducible apply s_fz_of); (focus assumption))
  | ((with_reducible apply s_fro_of); (focus assumption))
  | ((with_reducible apply s_retr); focus (repeat (first | exact r_nil | apply r_vl (by rfl) | apply r_io | apply r_no)))
  | with_reducible apply s_fld
  | ((with_reducible apply s_fld2); (focus (first | (with_reducible assumption) | rfl | assumption)); (focus (first | decide | simp)); (focus rfl); (focus rfl); (focus (first | (with_reducible assumption) | rfl | assumption)))
  | ((with_reducible apply s_meth); (focus (first | (with_reducible assumption) | rfl | assumption)); (focus (first | assumption | decide)))
  | ((with_reducible apply s_wpl1); (focus (first | (with_reducible assumption) | rfl | assumption)); (focus (first | (with_reducible assumption) | rfl | assumption)))
  | ((with_reducible apply s_pl1); (focus (first | (with_reducible assumption) | rfl | assumption)); (focus (first | (with_reducible assumption) | rfl | assumption)))
  | ((with_reducible apply s_opP1); (focus (first | (with_reducible assumption) | rfl | assumption)); (focus (first | (with_reducible assumption) | rfl | assumption)))
  | ((with_reducible apply s_pt1); (focus (first | (with_reducible assumption) | rfl | assumption)); (focus (first | exact setX_1 | exact setX_2 rfl setX_1 | exact setX_2 rfl (setX_2 rfl setX_1) | exact setX_2 rfl (setX_2 rfl (setX_2 rfl setX_1)) | exact setX_2 rfl (setX_2 rfl (setX_2 rfl (setX_2 rfl (setX_2 rfl setX_1)))) | rfl)); (focus (first | (with_reducible assumption) | rfl | assumption)))
  | with_reducible apply s_x
  | with_reducible apply s_ret
  | ((with_reducible apply s_callkX); (focus rfl); (focus (first | decide | simp)); (focus (intro; rfl)); intro _)
  | ((with_reducible apply s_asgo2); (focus rfl); (focus (first | decide | simp)))
  | ((with_reducible apply s_plex); focus (first | (with_reducible assumption) | rfl | assumption))
  | ((with_reducible apply s_plex1); (focus (first | (with_reducible assumption) | rfl | assumption)); (focus (first | (with_reducible assumption) | rfl | assumption)))
  | ((with_reducible apply s_sz); focus array_get_dec)
  | ((with_reducible apply s_lenS); (focus array_get_dec))
  | ((with_reducible apply s_ixS); (focus array_get_dec); (focus assumption))
  | with_reducible apply s_itS
  | with_reducible apply s_itS2
  | ((with_reducible apply s_inS); (focus rfl))
  | with_reducible apply s_ms
  | with_reducible apply s_ms2
  | with_reducible apply s_isiE
  | ((with_reducible apply s_str); (focus assumption))); (try dsimp only [List.cons_append, List.nil_append, List.replicate, List.set, wipeR, setAll, Pat.asg, Pat.asgs, backC, reC, List.getElem?_cons_zero, List.getElem?_cons_succ])))
def Dice (d : D) : Prop := ∃ (ns : List Int) (c m h : Int), d = .ml [.rl (ns.map .int), .int c, .int m, .int h] ∧ ns.length ≤ 63 ∧ 0 ≤ c ∧ 0 ≤ m ∧ m < 2147483647 ∧ 0 ≤ h
theorem atI_of {xs : List D} {i : Int} (h0 : 0 ≤ i) (h1 : i < xs.length) : ∃ d, atI xs i = some d ∧ xs[i.toNat]? = some d := by
  have h2 : i.toNat < xs.length := by omega
  refine ⟨xs[i.toNat], ?_, List.getElem?_eq_getElem h2⟩
  unfold atI ixN
  rw [if_pos h0, if_pos h1]
  exact List.getElem?_eq_getElem h2
theorem atI_ints {ns : List Int} {i : Int} (h0 : 0 ≤ i) (h1 : i < ns.length) : ∃ n, atI (ns.map D.int) i = some (.int n) ∧ ns[i.toNat]? = some n := by
  obtain ⟨d, h2, h3⟩ := atI_of (xs := ns.map D.int) h0 (by simpa using h1)
  rw [List.getElem?_map] at h3
  obtain ⟨n, h4, h5⟩ := Option.map_eq_some_iff.mp h3
  exact ⟨n, by rw [h2, h5], h4⟩
/-! ### _law_bytes -/
/-! ### _law_dice -/
/-! ### need_count, bytes_of -/
def b_need_count : WS := (wIfS (wNot (wB (wChain leD leD (wVp 1) (wVp 0) (wVp 2)))) wNever wNx)
def w_need_count : WE := fun _ ρ P => ∃ n lo hi : Int, ρ = [.vl (.int n), .vl (.int lo), .vl (.int hi)] ∧ lo ≤ n ∧ n ≤ hi ∧ P .non ρ
theorem u_need_count : UB 3 3 w_need_count b_need_count := by
  rintro ρ P0 - ⟨n, lo, hi, rfl, h1, h2, h⟩
  show b_need_count _ [.vl (.int n), .vl (.int lo), .vl (.int hi)] _
  unfold b_need_count
  (with_reducible apply s_ifs; decreasing_trivial
   with_reducible apply s_not; decreasing_trivial
   with_reducible apply s_b; decreasing_trivial
   with_reducible apply s_chain; decreasing_trivial
   ((with_reducible apply s_vp); focus array_mem_dec); decreasing_trivial
   with_reducible apply s_fro_int; decreasing_trivial
   ((with_reducible apply s_vp); focus array_mem_dec); decreasing_trivial
   with_reducible apply s_fro_int; decreasing_trivial
   with_reducible apply s_ii0; decreasing_trivial
   with_reducible apply s_k; decreasing_trivial
   ((with_reducible apply s_ifT); focus array_get_dec); decreasing_trivial
   ((with_reducible apply s_vp); focus array_mem_dec); decreasing_trivial
   with_reducible apply s_fro_int; decreasing_trivial
   with_reducible apply s_ii0; decreasing_trivial
   ((with_reducible apply s_ifF); focus array_get_dec); decreasing_trivial
   with_reducible apply s_nx; decreasing_trivial
   ((with_reducible apply s_retr); focus (repeat (first | exact r_nil | apply r_vl (by rfl) | apply r_io | apply r_no))); decreasing_trivial)
  exact h
def b_bytes_of : WS := (wSeq (wFor (.nm 1) (wIt (wVp 0)) (wX (wCall 3 w_need_count (waV (wVp 1) (waV (wC (.int 0)) (waV (wC (.int 255)) waNil)))))) (wRet (wCall1P bytesD 0 [])))
def w_bytes_of : WE := fun _ ρ P => ∃ ns : List Int, ρ = [.vl (.lst (ns.map .int))] ∧ B8 ns ∧ ns.length ≤ 100000 ∧ P (.byt ns) [.vl (.lst (ns.map .int))]
theorem u_bytes_of : UB 1 2 w_bytes_of b_bytes_of := by
  rintro ρ P0 - ⟨ns, rfl, hb, hl, h⟩
  show b_bytes_of _ [.vl (.lst (ns.map .int)), .no] _
  unfold b_bytes_of
  (with_reducible apply s_seq; decreasing_trivial
   with_reducible apply s_for; decreasing_trivial
   with_reducible apply s_it; decreasing_trivial
   ((with_reducible apply s_vp); focus array_mem_dec); decreasing_trivial
   with_reducible apply s_fro_lst; decreasing_trivial
   with_reducible apply s_fz_lst; decreasing_trivial)
  refine loopD_ind (fun ds ρ => ∃ ms c, ds = ms.map .int ∧ B8 ms ∧ ρ = [.vl (.lst (ns.map .int)), c]) ?_ ?_ _ _ ⟨ns, .no, rfl, hb, rfl⟩
  · rintro d ds _ ⟨ms, c, e, hm, rfl⟩ ih
    cases ms with
    | nil => cases e
    | cons m ms =>
      cases e
      have h2 := hm m (by simp)
      refine ⟨_, rfl, ?_⟩
      (with_reducible apply s_x; decreasing_trivial
       with_reducible apply s_call; decreasing_trivial
       with_reducible apply s_wav; decreasing_trivial
       ((with_reducible apply s_vp); focus array_mem_dec); decreasing_trivial
       with_reducible apply s_fro_int; decreasing_trivial
       with_reducible apply s_fz_int; decreasing_trivial
       with_reducible apply s_wav; decreasing_trivial
       with_reducible apply s_c; decreasing_trivial
       with_reducible apply s_fz_int; decreasing_trivial
       with_reducible apply s_wav; decreasing_trivial
       with_reducible apply s_c; decreasing_trivial
       with_reducible apply s_fz_int; decreasing_trivial
       with_reducible apply s_wanil; decreasing_trivial
       ((with_reducible apply s_callk); (focus rfl); (focus (first | decide | simp)); (focus (intro; rfl)); intro _); decreasing_trivial)
      refine ⟨m, 0, 255, rfl, h2.1, by have := h2.2; omega, ?_⟩
      (((with_reducible apply s_ex1); focus array_mem_dec); decreasing_trivial)
      exact ih _ ⟨ms, _, rfl, fun n hn => hm n (by simp [hn]), rfl⟩
  · rintro _ ⟨ms, c, e, hm, rfl⟩
    have hi := intsOf_map ns
    (with_reducible apply s_ret; decreasing_trivial
     ((with_reducible apply s_call1P); focus array_mem_dec); decreasing_trivial
     ((with_reducible apply s_byteslst); first | (focus array_get_dec) | rotate_left 1); decreasing_trivial
     ((with_reducible apply s_sz); focus array_get_dec); decreasing_trivial
     ((with_reducible apply s_retr); focus (repeat (first | exact r_nil | apply r_vl (by rfl) | apply r_io | apply r_no))); decreasing_trivial)
    exact h
theorem c_bytes_of {xi : Xi} {ns : List Int} {P : D → Rho → Prop} (h1 : B8 ns) (h2 : ns.length ≤ 100000) (h : P (.byt ns) [.vl (.lst (ns.map .int))]) : w_bytes_of xi [.vl (.lst (ns.map .int))] P := ⟨ns, rfl, h1, h2, h⟩
inductive Pc where
  | cp (b n : Int)
  | br (ns : List Int)
  | rn (b n : Int)
def Pc.sz : Pc → Int
  | .cp _ n => n
  | .br ns => ns.length
  | .rn _ n => n
def pcD : Pc → D
  | .cp b n => .tup [.str "copy", .int b, .int n]
  | .br ns => .tup [.str "bring", .byt ns]
  | .rn b n => .tup [.str "run", .int b, .int n]
def rowD : Pc → D
  | .cp b n => .tup [.str "copy", .int b, .int n]
  | .br ns => .tup [.str "bring", .lst (ns.map .int)]
  | .rn b n => .tup [.str "run", .int b, .int n]
def PcOk : Pc → Prop
  | .cp b n => 0 ≤ b ∧ 1 ≤ n ∧ b + n ≤ 200
  | .br ns => 1 ≤ ns.length ∧ ns.length ≤ 200 ∧ B8 ns
  | .rn b n => 0 ≤ b ∧ b ≤ 255 ∧ 1 ≤ n ∧ n ≤ 200
def plen : List Pc → Int
  | [] => 0
  | p :: r => p.sz + plen r
theorem plen_app (a b : List Pc) : plen (a ++ b) = plen a + plen b := by
  induction a with
  | nil => simp [plen]
  | cons p a ih => simp [plen, ih]; omega
theorem PcOk.sz {p : Pc} (h : PcOk p) : 1 ≤ p.sz ∧ p.sz ≤ 200 := by
  cases p with
  | cp b n => obtain ⟨h1, h2, h3⟩ := h; exact ⟨h2, by show n ≤ 200; omega⟩
  | br ns => obtain ⟨h1, h2, h3⟩ := h; exact ⟨by show (1 : Int) ≤ ns.length; omega, by show (ns.length : Int) ≤ 200; omega⟩
  | rn b n => obtain ⟨h1, h2, h3, h4⟩ := h; exact ⟨h3, h4⟩
theorem plen_len : ∀ {ps : List Pc}, (∀ p, p ∈ ps → PcOk p) → (ps.length : Int) ≤ plen ps
  | [], _ => by simp [plen]
  | p :: r, h => by
    have h1 := (h p (by simp)).sz
    have h2 := plen_len fun q hq => h q (List.mem_cons_of_mem p hq)
    simp only [plen, List.length_cons]
    omega
@[simp] theorem frB_pc (p : Pc) : frB (pcD p) = true := by cases p <;> rfl
@[simp] theorem frB_row (p : Pc) : frB (rowD p) = true := by cases p <;> rfl
/-! ### length, is_piece, need_patch -/
def b_length : WS := (wRet (wIf (wB (wOp eqD (wOpP ixD 0 [] (wC (.int 0))) (wC (.str "bring")))) (wCall1 lenD (wOpP ixD 0 [] (wC (.int 1)))) (wOpP ixD 0 [] (wC (.int 2)))))
def w_length : WE := fun _ ρ P => ∃ p, ρ = [.vl (pcD p)] ∧ PcOk p ∧ P (.int p.sz) [.vl (pcD p)]
theorem u_length : UB 1 1 w_length b_length := by
  rintro ρ P0 - ⟨p, rfl, hp, hP⟩
  show b_length _ [.vl (pcD p)] _
  unfold b_length
  cases p with
  | cp b n => 
    simp only [pcD] at hP ⊢
    (with_reducible apply s_ret; decreasing_trivial
     with_reducible apply s_if; decreasing_trivial
     with_reducible apply s_b; decreasing_trivial
     with_reducible apply s_op; decreasing_trivial
     ((with_reducible apply s_opP); focus array_mem_dec); decreasing_trivial
     with_reducible apply s_c; decreasing_trivial
     ((with_reducible apply s_pl); focus array_mem_dec); decreasing_trivial
     ((with_reducible apply s_ixtup); focus array_mem_dec); decreasing_trivial
     with_reducible apply s_c; decreasing_trivial
     ((with_reducible apply s_eq); focus array_mem_dec); decreasing_trivial
     ((with_reducible apply s_ifF); focus array_get_dec); decreasing_trivial
     ((with_reducible apply s_opP); focus array_mem_dec); decreasing_trivial
     with_reducible apply s_c; decreasing_trivial
     ((with_reducible apply s_pl); focus array_mem_dec); decreasing_trivial
     ((with_reducible apply s_ixtup); focus array_mem_dec); decreasing_trivial
     ((with_reducible apply s_retr); focus (repeat (first | exact r_nil | apply r_vl (by rfl) | apply r_io | apply r_no))); decreasing_trivial)
    exact hP
  | br ns =>
    obtain ⟨h1, h2, h3⟩ := hp
    simp only [pcD] at hP ⊢
    (with_reducible apply s_ret; decreasing_trivial
     with_reducible apply s_if; decreasing_trivial
     with_reducible apply s_b; decreasing_trivial
     with_reducible apply s_op; decreasing_trivial
     ((with_reducible apply s_opP); focus array_mem_dec); decreasing_trivial
     with_reducible apply s_c; decreasing_trivial
     ((with_reducible apply s_pl); focus array_mem_dec); decreasing_trivial
     ((with_reducible apply s_ixtup); focus array_mem_dec); decreasing_trivial
     with_reducible apply s_c; decreasing_trivial
     ((with_reducible apply s_eq); focus array_mem_dec); decreasing_trivial
     ((with_reducible apply s_ifT); focus array_get_dec); decreasing_trivial
     with_reducible apply s_call1; decreasing_trivial
     ((with_reducible apply s_opP); focus array_mem_dec); decreasing_trivial
     with_reducible apply s_c; decreasing_trivial
     ((with_reducible apply s_pl); focus array_mem_dec); decreasing_trivial
     ((with_reducible apply s_ixtup); focus array_mem_dec); decreasing_trivial
     ((with_reducible apply s_lenbyt); first | (focus array_get_dec) | rotate_left 1); decreasing_trivial
     ((with_reducible apply s_retr); focus (repeat (first | exact r_nil | apply r_vl (by rfl) | apply r_io | apply r_no))); decreasing_trivial)
    exact hP
  | rn b n =>
    simp only [pcD] at hP ⊢
    (with_reducible apply s_ret; decreasing_trivial
     with_reducible apply s_if; decreasing_trivial
     with_reducible apply s_b; decreasing_trivial
     with_reducible apply s_op; decreasing_trivial
     ((with_reducible apply s_opP); focus array_mem_dec); decreasing_trivial
     with_reducible apply s_c; decreasing_trivial
     ((with_reducible apply s_pl); focus array_mem_dec); decreasing_trivial
     ((with_reducible apply s_ixtup); focus array_mem_dec); decreasing_trivial
     with_reducible apply s_c; decreasing_trivial
     ((with_reducible apply s_eq); focus array_mem_dec); decreasing_trivial
     ((with_reducible apply s_ifF); focus array_get_dec); decreasing_trivial
     ((with_reducible apply s_opP); focus array_mem_dec); decreasing_trivial
     with_reducible apply s_c; decreasing_trivial
     ((with_reducible apply s_pl); focus array_mem_dec); decreasing_trivial
     ((with_reducible apply s_ixtup); focus array_mem_dec); decreasing_trivial
     ((with_reducible apply s_retr); focus (repeat (first | exact r_nil | apply r_vl (by rfl) | apply r_io | apply r_no))); decreasing_trivial)
    exact hP
def b_is_piece : WS := (wSeq (wIfS (wAnd (wB (wOp eqD (wCall1P lenD 0 []) (wC (.int 2)))) (wB (wOp eqD (wOpP ixD 0 [] (wC (.int 0))) (wC (.str "bring"))))) (wRet (wChain leD leD (wC (.int 1)) (wCall1 lenD (wOpP ixD 0 [] (wC (.int 1)))) (wC (.int 200)))) wNx) (wSeq (wIfS (wOr (wB (wOp neD (wCall1P lenD 0 []) (wC (.int 3)))) (wOr (wB (wOp ninD (wOpP ixD 0 [] (wC (.int 0))) (wTup (wCons (wC (.str "copy")) (wCons (wC (.str "run")) wNil))))) (wNot (wB (wChain leD leD (wC (.int 1)) (wOpP ixD 0 [] (wC (.int 2))) (wC (.int 200))))))) (wRet (wC (.bl false))) wNx) (wSeq (wIfS (wB (wOp eqD (wOpP ixD 0 [] (wC (.int 0))) (wC (.str "run")))) (wRet (wChain leD leD (wC (.int 0)) (wOpP ixD 0 [] (wC (.int 1))) (wC (.int 255)))) wNx) (wRet (wAndV (wOp geD (wOpP ixD 0 [] (wC (.int 1))) (wC (.int 0))) (wOp leD (wOp addD (wOpP ixD 0 [] (wC (.int 1))) (wOpP ixD 0 [] (wC (.int 2)))) (wC (.int 200))))))))
def w_is_piece : WE := fun _ ρ P => ∃ p, ρ = [.vl (pcD p)] ∧ PcOk p ∧ P (.bl true) [.vl (pcD p)]
theorem u_is_piece : UB 1 1 w_is_piece b_is_piece := by
  rintro ρ P0 - ⟨p, rfl, hp, hP⟩
  show b_is_piece _ [.vl (pcD p)] _
  unfold b_is_piece
  cases p with
  | cp b n =>
    obtain ⟨h1, h2, h3⟩ := hp
    have h4 : n ≤ 200 := by omega
    simp only [pcD] at hP ⊢
    (with_reducible apply s_seq; decreasing_trivial
     with_reducible apply s_ifs; decreasing_trivial
     with_reducible apply s_and; decreasing_trivial
     with_reducible apply s_b; decreasing_trivial
     with_reducible apply s_op; decreasing_trivial
     ((with_reducible apply s_call1P); focus array_mem_dec); decreasing_trivial
     with_reducible apply s_lentup; decreasing_trivial
     with_reducible apply s_c; decreasing_trivial
     ((with_reducible apply s_eq); focus array_mem_dec); decreasing_trivial
     ((with_reducible apply s_ifF); focus array_get_dec); decreasing_trivial
     ((with_reducible apply s_ifF); focus array_get_dec); decreasing_trivial
     with_reducible apply s_nx; decreasing_trivial
     with_reducible apply s_seq; decreasing_trivial
     with_reducible apply s_ifs; decreasing_trivial
     with_reducible apply s_or; decreasing_trivial
     with_reducible apply s_b; decreasing_trivial
     with_reducible apply s_op; decreasing_trivial
     ((with_reducible apply s_call1P); focus array_mem_dec); decreasing_trivial
     with_reducible apply s_lentup; decreasing_trivial
     with_reducible apply s_c; decreasing_trivial
     ((with_reducible apply s_ne); focus array_mem_dec); decreasing_trivial
     ((with_reducible apply s_ifF); focus array_get_dec); decreasing_trivial
     with_reducible apply s_or; decreasing_trivial
     with_reducible apply s_b; decreasing_trivial
     with_reducible apply s_op; decreasing_trivial
     ((with_reducible apply s_opP); focus array_mem_dec); decreasing_trivial
     with_reducible apply s_c; decreasing_trivial
     ((with_reducible apply s_pl); focus array_mem_dec); decreasing_trivial
     ((with_reducible apply s_ixtup); focus array_mem_dec); decreasing_trivial
     with_reducible apply s_tup; decreasing_trivial
     with_reducible apply s_cons; decreasing_trivial
     with_reducible apply s_c; decreasing_trivial
     with_reducible apply s_fz_str; decreasing_trivial
     with_reducible apply s_cons; decreasing_trivial
     with_reducible apply s_c; decreasing_trivial
     with_reducible apply s_fz_str; decreasing_trivial
     with_reducible apply s_nil; decreasing_trivial
     ((with_reducible apply s_sz); focus array_get_dec); decreasing_trivial
     ((with_reducible apply s_nin); (focus rfl); (focus rfl)); decreasing_trivial
     ((with_reducible apply s_ifF); focus array_get_dec); decreasing_trivial
     with_reducible apply s_not; decreasing_trivial
     with_reducible apply s_b; decreasing_trivial
     with_reducible apply s_chain; decreasing_trivial
     with_reducible apply s_c; decreasing_trivial
     ((with_reducible apply s_opP); focus array_mem_dec); decreasing_trivial
     with_reducible apply s_c; decreasing_trivial
     ((with_reducible apply s_pl); focus array_mem_dec); decreasing_trivial
     ((with_reducible apply s_ixtup); focus array_mem_dec); decreasing_trivial
     with_reducible apply s_ii0; decreasing_trivial
     with_reducible apply s_k; decreasing_trivial
     ((with_reducible apply s_ifT); focus array_get_dec); decreasing_trivial
     with_reducible apply s_c; decreasing_trivial
     with_reducible apply s_ii0; decreasing_trivial
     ((with_reducible apply s_ifF); focus array_get_dec); decreasing_trivial
     with_reducible apply s_nx; decreasing_trivial
     with_reducible apply s_seq; decreasing_trivial
     with_reducible apply s_ifs; decreasing_trivial
     with_reducible apply s_b; decreasing_trivial
     with_reducible apply s_op; decreasing_trivial
     ((with_reducible apply s_opP); focus array_mem_dec); decreasing_trivial
     with_reducible apply s_c; decreasing_trivial
     ((with_reducible apply s_pl); focus array_mem_dec); decreasing_trivial
     ((with_reducible apply s_ixtup); focus array_mem_dec); decreasing_trivial
     with_reducible apply s_c; decreasing_trivial
     ((with_reducible apply s_eq); focus array_mem_dec); decreasing_trivial
     ((with_reducible apply s_ifF); focus array_get_dec); decreasing_trivial
     with_reducible apply s_nx; decreasing_trivial
     with_reducible apply s_ret; decreasing_trivial
     with_reducible apply s_andv; decreasing_trivial
     with_reducible apply s_op; decreasing_trivial
     ((with_reducible apply s_opP); focus array_mem_dec); decreasing_trivial
     with_reducible apply s_c; decreasing_trivial
     ((with_reducible apply s_pl); focus array_mem_dec); decreasing_trivial
     ((with_reducible apply s_ixtup); focus array_mem_dec); decreasing_trivial
     with_reducible apply s_c; decreasing_trivial
     with_reducible apply s_ii0; decreasing_trivial
     ((with_reducible apply s_ifT); focus array_get_dec); decreasing_trivial
     with_reducible apply s_op; decreasing_trivial
     with_reducible apply s_op; decreasing_trivial
     ((with_reducible apply s_opP); focus array_mem_dec); decreasing_trivial
     with_reducible apply s_c; decreasing_trivial
     ((with_reducible apply s_pl); focus array_mem_dec); decreasing_trivial
     ((with_reducible apply s_ixtup); focus array_mem_dec); decreasing_trivial
     ((with_reducible apply s_opP); focus array_mem_dec); decreasing_trivial
     with_reducible apply s_c; decreasing_trivial
     ((with_reducible apply s_pl); focus array_mem_dec); decreasing_trivial
     ((with_reducible apply s_ixtup); focus array_mem_dec); decreasing_trivial
     with_reducible apply s_addii; decreasing_trivial
     with_reducible apply s_c; decreasing_trivial
     with_reducible apply s_ii0; decreasing_trivial
     ((with_reducible apply s_retr); focus (repeat (first | exact r_nil | apply r_vl (by rfl) | apply r_io | apply r_no))); decreasing_trivial)
    rw [decide_eq_true h3]
    exact hP
  | br ns =>
    obtain ⟨h1, h2, h3⟩ := hp
    simp only [pcD] at hP ⊢
    (with_reducible apply s_seq; decreasing_trivial
     with_reducible apply s_ifs; decreasing_trivial
     with_reducible apply s_and; decreasing_trivial
     with_reducible apply s_b; decreasing_trivial
     with_reducible apply s_op; decreasing_trivial
     ((with_reducible apply s_call1P); focus array_mem_dec); decreasing_trivial
     with_reducible apply s_lentup; decreasing_trivial
     with_reducible apply s_c; decreasing_trivial
     ((with_reducible apply s_eq); focus array_mem_dec); decreasing_trivial
     ((with_reducible apply s_ifT); focus array_get_dec); decreasing_trivial
     with_reducible apply s_b; decreasing_trivial
     with_reducible apply s_op; decreasing_trivial
     ((with_reducible apply s_opP); focus array_mem_dec); decreasing_trivial
     with_reducible apply s_c; decreasing_trivial
     ((with_reducible apply s_pl); focus array_mem_dec); decreasing_trivial
     ((with_reducible apply s_ixtup); focus array_mem_dec); decreasing_trivial
     with_reducible apply s_c; decreasing_trivial
     ((with_reducible apply s_eq); focus array_mem_dec); decreasing_trivial
     ((with_reducible apply s_ifT); focus array_get_dec); decreasing_trivial
     with_reducible apply s_ret; decreasing_trivial
     with_reducible apply s_chain; decreasing_trivial
     with_reducible apply s_c; decreasing_trivial
     with_reducible apply s_call1; decreasing_trivial
     ((with_reducible apply s_opP); focus array_mem_dec); decreasing_trivial
     with_reducible apply s_c; decreasing_trivial
     ((with_reducible apply s_pl); focus array_mem_dec); decreasing_trivial
     ((with_reducible apply s_ixtup); focus array_mem_dec); decreasing_trivial
     ((with_reducible apply s_lenbyt); first | (focus array_get_dec) | rotate_left 1); decreasing_trivial
     with_reducible apply s_ii0; decreasing_trivial
     with_reducible apply s_k; decreasing_trivial
     ((with_reducible apply s_ifT); focus array_get_dec); decreasing_trivial
     with_reducible apply s_c; decreasing_trivial
     with_reducible apply s_ii0; decreasing_trivial
     ((with_reducible apply s_retr); focus (repeat (first | exact r_nil | apply r_vl (by rfl) | apply r_io | apply r_no))); decreasing_trivial)
    rw [decide_eq_true (show (ns.length : Int) ≤ 200 by omega)]
    exact hP
  | rn b n =>
    obtain ⟨h1, h2, h3, h4⟩ := hp
    simp only [pcD] at hP ⊢
    (with_reducible apply s_seq; decreasing_trivial
     with_reducible apply s_ifs; decreasing_trivial
     with_reducible apply s_and; decreasing_trivial
     with_reducible apply s_b; decreasing_trivial
     with_reducible apply s_op; decreasing_trivial
     ((with_reducible apply s_call1P); focus array_mem_dec); decreasing_trivial
     with_reducible apply s_lentup; decreasing_trivial
     with_reducible apply s_c; decreasing_trivial
     ((with_reducible apply s_eq); focus array_mem_dec); decreasing_trivial
     ((with_reducible apply s_ifF); focus array_get_dec); decreasing_trivial
     ((with_reducible apply s_ifF); focus array_get_dec); decreasing_trivial
     with_reducible apply s_nx; decreasing_trivial
     with_reducible apply s_seq; decreasing_trivial
     with_reducible apply s_ifs; decreasing_trivial
     with_reducible apply s_or; decreasing_trivial
     with_reducible apply s_b; decreasing_trivial
     with_reducible apply s_op; decreasing_trivial
     ((with_reducible apply s_call1P); focus array_mem_dec); decreasing_trivial
     with_reducible apply s_lentup; decreasing_trivial
     with_reducible apply s_c; decreasing_trivial
     ((with_reducible apply s_ne); focus array_mem_dec); decreasing_trivial
     ((with_reducible apply s_ifF); focus array_get_dec); decreasing_trivial
     with_reducible apply s_or; decreasing_trivial
     with_reducible apply s_b; decreasing_trivial
     with_reducible apply s_op; decreasing_trivial
     ((with_reducible apply s_opP); focus array_mem_dec); decreasing_trivial
     with_reducible apply s_c; decreasing_trivial
     ((with_reducible apply s_pl); focus array_mem_dec); decreasing_trivial
     ((with_reducible apply s_ixtup); focus array_mem_dec); decreasing_trivial
     with_reducible apply s_tup; decreasing_trivial
     with_reducible apply s_cons; decreasing_trivial
     with_reducible apply s_c; decreasing_trivial
     with_reducible apply s_fz_str; decreasing_trivial
     with_reducible apply s_cons; decreasing_trivial
     with_reducible apply s_c; decreasing_trivial
     with_reducible apply s_fz_str; decreasing_trivial
     with_reducible apply s_nil; decreasing_trivial
     ((with_reducible apply s_sz); focus array_get_dec); decreasing_trivial
     ((with_reducible apply s_nin); (focus rfl); (focus rfl)); decreasing_trivial
     ((with_reducible apply s_ifF); focus array_get_dec); decreasing_trivial
     with_reducible apply s_not; decreasing_trivial
     with_reducible apply s_b; decreasing_trivial
     with_reducible apply s_chain; decreasing_trivial
     with_reducible apply s_c; decreasing_trivial
     ((with_reducible apply s_opP); focus array_mem_dec); decreasing_trivial
     with_reducible apply s_c; decreasing_trivial
     ((with_reducible apply s_pl); focus array_mem_dec); decreasing_trivial
     ((with_reducible apply s_ixtup); focus array_mem_dec); decreasing_trivial
     with_reducible apply s_ii0; decreasing_trivial
     with_reducible apply s_k; decreasing_trivial
     ((with_reducible apply s_ifT); focus array_get_dec); decreasing_trivial
     with_reducible apply s_c; decreasing_trivial
     with_reducible apply s_ii0; decreasing_trivial
     ((with_reducible apply s_ifF); focus array_get_dec); decreasing_trivial
     with_reducible apply s_nx; decreasing_trivial
     with_reducible apply s_seq; decreasing_trivial
     with_reducible apply s_ifs; decreasing_trivial
     with_reducible apply s_b; decreasing_trivial
     with_reducible apply s_op; decreasing_trivial
     ((with_reducible apply s_opP); focus array_mem_dec); decreasing_trivial
     with_reducible apply s_c; decreasing_trivial
     ((with_reducible apply s_pl); focus array_mem_dec); decreasing_trivial
     ((with_reducible apply s_ixtup); focus array_mem_dec); decreasing_trivial
     with_reducible apply s_c; decreasing_trivial
     ((with_reducible apply s_eq); focus array_mem_dec); decreasing_trivial
     ((with_reducible apply s_ifT); focus array_get_dec); decreasing_trivial
     with_reducible apply s_ret; decreasing_trivial
     with_reducible apply s_chain; decreasing_trivial
     with_reducible apply s_c; decreasing_trivial
     ((with_reducible apply s_opP); focus array_mem_dec); decreasing_trivial
     with_reducible apply s_c; decreasing_trivial
     ((with_reducible apply s_pl); focus array_mem_dec); decreasing_trivial
     ((with_reducible apply s_ixtup); focus array_mem_dec); decreasing_trivial
     with_reducible apply s_ii0; decreasing_trivial
     with_reducible apply s_k; decreasing_trivial
     ((with_reducible apply s_ifT); focus array_get_dec); decreasing_trivial
     with_reducible apply s_c; decreasing_trivial
     with_reducible apply s_ii0; decreasing_trivial
     ((with_reducible apply s_retr); focus (repeat (first | exact r_nil | apply r_vl (by rfl) | apply r_io | apply r_no))); decreasing_trivial)
    rw [decide_eq_true h2]
    exact hP

def patD (ps : List Pc) : D := .tup (ps.map pcD)
def PatOk (ps : List Pc) : Prop := (∀ p, p ∈ ps → PcOk p) ∧ plen ps ≤ 200
@[simp] theorem frB_pat (ps : List Pc) : frB (patD ps) = true := rfl
theorem c_length {xi : Xi} {p : Pc} {P : D → Rho → Prop} (hp : PcOk p) (h : P (.int p.sz) [.vl (pcD p)]) : w_length xi [.vl (pcD p)] P := ⟨p, rfl, hp, h⟩
theorem c_is_piece {xi : Xi} {p : Pc} {P : D → Rho → Prop} (hp : PcOk p) (h : P (.bl true) [.vl (pcD p)]) : w_is_piece xi [.vl (pcD p)] P := ⟨p, rfl, hp, h⟩
def b_need_patch : WS := (wSeq (wSet 1 (wC (.int 0))) (wFor (.tp [(.nm 2), (.nm 3)]) (wEnum (wCons (wVp 0) wNil)) (wSeq (wIfS (wOr (wNot (wB (wCall 1 w_is_piece (waV (wVp 3) waNil)))) (wB (wOp gtD (wOp addD (wVp 1) (wCall 1 w_length (waV (wVp 3) waNil))) (wC (.int 200))))) wNever wNx) (wAug 1 (ii0 fun i j => .int (i + j)) (wCall 1 w_length (waV (wVp 3) waNil))))))
def w_need_patch : WE := fun _ ρ P => ∃ ps, ρ = [.vl (patD ps)] ∧ PatOk ps ∧ P .non [.vl (patD ps)]
def enumD (k : Nat) (ps : List Pc) : List D := ((ps.map pcD).zipIdx k).map fun p => .tup [.int (p.2 : Nat), p.1]
theorem enumD_cons (k : Nat) (p : Pc) (ps : List Pc) : enumD k (p :: ps) = .tup [.int (k : Nat), pcD p] :: enumD (k + 1) ps := rfl
theorem u_need_patch : UB 1 4 w_need_patch b_need_patch := by
  rintro ρ P0 - ⟨ps, rfl, ⟨h1, h2⟩, hP⟩
  show b_need_patch _ [.vl (.tup (ps.map pcD)), .no, .no, .no] _
  unfold b_need_patch
  (with_reducible apply s_seq; decreasing_trivial
   with_reducible apply s_set; decreasing_trivial
   with_reducible apply s_c; decreasing_trivial
   with_reducible apply s_for; decreasing_trivial
   with_reducible apply s_enum; decreasing_trivial
   with_reducible apply s_cons; decreasing_trivial
   ((with_reducible apply s_vp); focus array_mem_dec); decreasing_trivial
   with_reducible apply s_fro_tup; decreasing_trivial
   with_reducible apply s_fz_tup; decreasing_trivial
   with_reducible apply s_nil; decreasing_trivial)
  refine loopD_ind (fun ds ρ => ∃ (k : Nat) (qs : List Pc) (t : Int) (c2 c3 : Cell), ds = enumD k qs ∧ ρ = [.vl (.tup (ps.map pcD)), .vl (.int t), c2, c3] ∧ (∀ p, p ∈ qs → PcOk p) ∧ 0 ≤ t ∧ t + plen qs ≤ 200) ?_ ?_ _ _ ⟨0, ps, 0, .no, .no, rfl, rfl, h1, by decide, by omega⟩
  · rintro x ds _ ⟨k, qs, t, c2, c3, e, rfl, hq, h0, hl⟩ ih
    cases qs with
    | nil => cases e
    | cons p qs =>
      rw [enumD_cons] at e
      cases e
      have hp := hq p (by simp)
      have hs := hp.sz
      have h5 := plen_len (ps := qs) fun p hp => hq p (by simp [hp])
      have hfp := frB_pc p
      simp only [plen] at hl
      refine ⟨_, rfl, ?_⟩
      (with_reducible apply s_seq; decreasing_trivial
       with_reducible apply s_ifs; decreasing_trivial
       with_reducible apply s_or; decreasing_trivial
       with_reducible apply s_not; decreasing_trivial
       with_reducible apply s_b; decreasing_trivial
       with_reducible apply s_call; decreasing_trivial
       with_reducible apply s_wav; decreasing_trivial
       ((with_reducible apply s_vp); focus array_mem_dec); decreasing_trivial
       ((with_reducible apply s_fro_of); (focus assumption)); decreasing_trivial
       ((with_reducible apply s_fz_of); (focus assumption)); decreasing_trivial
       with_reducible apply s_wanil; decreasing_trivial
       ((with_reducible apply s_callk); (focus rfl); (focus (first | decide | simp)); (focus (intro; rfl)); intro _); decreasing_trivial)
      refine c_is_piece hp ?_
      (((with_reducible apply s_ex1); focus array_mem_dec); decreasing_trivial
       ((with_reducible apply s_ifF); focus array_get_dec); decreasing_trivial
       with_reducible apply s_b; decreasing_trivial
       with_reducible apply s_op; decreasing_trivial
       with_reducible apply s_op; decreasing_trivial
       ((with_reducible apply s_vp); focus array_mem_dec); decreasing_trivial
       with_reducible apply s_fro_int; decreasing_trivial
       with_reducible apply s_call; decreasing_trivial
       with_reducible apply s_wav; decreasing_trivial
       ((with_reducible apply s_vp); focus array_mem_dec); decreasing_trivial
       ((with_reducible apply s_fro_of); (focus assumption)); decreasing_trivial
       ((with_reducible apply s_fz_of); (focus assumption)); decreasing_trivial
       with_reducible apply s_wanil; decreasing_trivial
       ((with_reducible apply s_callk); (focus rfl); (focus (first | decide | simp)); (focus (intro; rfl)); intro _); decreasing_trivial)
      refine c_length hp ?_
      (((with_reducible apply s_ex1); focus array_mem_dec); decreasing_trivial
       with_reducible apply s_addii; decreasing_trivial
       with_reducible apply s_c; decreasing_trivial
       with_reducible apply s_ii0; decreasing_trivial
       ((with_reducible apply s_ifF); focus array_get_dec); decreasing_trivial
       with_reducible apply s_nx; decreasing_trivial
       ((with_reducible apply s_aug); focus array_mem_dec); decreasing_trivial
       with_reducible apply s_fro_int; decreasing_trivial
       with_reducible apply s_call; decreasing_trivial
       with_reducible apply s_wav; decreasing_trivial
       ((with_reducible apply s_vp); focus array_mem_dec); decreasing_trivial
       ((with_reducible apply s_fro_of); (focus assumption)); decreasing_trivial
       ((with_reducible apply s_fz_of); (focus assumption)); decreasing_trivial
       with_reducible apply s_wanil; decreasing_trivial
       ((with_reducible apply s_callk); (focus rfl); (focus (first | decide | simp)); (focus (intro; rfl)); intro _); decreasing_trivial)
      refine c_length hp ?_
      (((with_reducible apply s_ex1); focus array_mem_dec); decreasing_trivial
       with_reducible apply s_ii0; decreasing_trivial)
      exact ih _ ⟨k + 1, qs, _, _, _, rfl, rfl, fun p hp => hq p (by simp [hp]), by omega, by omega⟩
  · rintro _ ⟨k, qs, t, c2, c3, e, rfl, hq, h0, hl⟩
    (((with_reducible apply s_retr); focus (repeat (first | exact r_nil | apply r_vl (by rfl) | apply r_io | apply r_no))); decreasing_trivial)
    exact hP
/-! ### cells -/
theorem lcD_mapA {α : Type} {p : Pat} {wt : WT} {we : WE} {vs : List Nat} {P : D → Rho → Prop} {ρ : Rho} (g : α → D) (F : α → Option D) : ∀ {as : List α} {acc : List D}
    (hF : ∀ a, a ∈ as → ∀ (K0 : Rho → Prop) (K1 : D → Rho → Prop), (match F a with | none => K0 ρ | some y => K1 y ρ) → ∃ ρ1, p.asg (g a) ρ = some ρ1 ∧ wt (fun _ _ => False) ρ1 fun b ρ2 => if b = true then we (fun _ _ => False) ρ2 fun y ρ3 => Fz y fun y => K1 y (wipeR ρ3 vs) else K0 (wipeR ρ2 vs))
    (hl : acc.length + (as.filterMap F).length ≤ 100000) (hP : P (.ml (acc ++ as.filterMap F)) ρ), lcD p wt we vs P (as.map g) ρ acc := by
  intro as
  induction as with
  | nil => intro acc _ _ hP; rw [List.filterMap_nil, List.append_nil] at hP; exact hP
  | cons d ds ih =>
    intro acc hF hl hP
    refine hF d (by simp) (fun ρ2 => lcD p wt we vs P (ds.map g) ρ2 acc) (fun y ρ2 => acc.length < 100000 ∧ lcD p wt we vs P (ds.map g) ρ2 (acc ++ [y])) ?_
    cases e : F d with
    | none =>
      rw [List.filterMap_cons, e] at hl hP
      exact ih (fun x hx => hF x (by simp [hx])) hl hP
    | some y =>
      rw [List.filterMap_cons, e] at hl hP
      have hl' : acc.length + ((ds.filterMap F).length + 1) ≤ 100000 := hl
      refine ⟨by omega, ih (fun x hx => hF x (by simp [hx])) (by rw [List.length_append, List.length_singleton]; omega) ?_⟩
      rw [List.append_assoc]
      exact hP
/-! ### _law_cells, _law_handed -/
/-! ### _law_rows -/
/-! ### what a patch makes -/
/-! ### made, needed -/
def IsMax (m : Int) (ns : List Int) : Prop := m ∈ ns ∧ ∀ y, y ∈ ns → y ≤ m
theorem IsMax.eq {m m' : Int} {ns : List Int} (h : IsMax m ns) (h' : IsMax m' ns) : m = m' := Int.le_antisymm (h'.2 m h.1) (h.2 m' h'.1)
def b_numbers_of : WS := (wRet (wCall1P listD 0 []))
def w_numbers_of : WE := fun _ ρ P => ∃ es, ρ = [.vl (.byt es)] ∧ es.length ≤ 100000 ∧ P (.ml (es.map .int)) [.vl (.byt es)]
theorem u_numbers_of : UB 1 1 w_numbers_of b_numbers_of := by
  rintro ρ P0 - ⟨es, rfl, he, hP⟩
  show b_numbers_of _ [.vl (.byt es)] _
  unfold b_numbers_of
  (with_reducible apply s_ret; decreasing_trivial
   ((with_reducible apply s_call1P); focus array_mem_dec); decreasing_trivial
   ((with_reducible apply s_listbyt); first | (focus array_get_dec) | rotate_left 1); decreasing_trivial
   ((with_reducible apply s_retr); focus (repeat (first | exact r_nil | apply r_vl (by rfl) | apply r_io | apply r_no))); decreasing_trivial)
  exact hP

/-! ### cells as pairs -/
/-! ### _law_like -/
def Lk : Nat → D → Prop
  | 0, _ => False
  | n + 1, .lst xs => xs.length ≤ 100000 ∧ ∀ x, x ∈ xs → Lk n x
  | n + 1, .tup xs => xs.length ≤ 100000 ∧ ∀ x, x ∈ xs → Lk n x
  | _ + 1, .int _ => True
  | _ + 1, .str _ => True
  | _ + 1, .non => True
  | _ + 1, .bl _ => True
  | _ + 1, .byt _ => True
  | _ + 1, _ => False
theorem Lk.fr : ∀ {n : Nat} {x : D}, Lk n x → frB x = true
  | 0, _, h => h.elim
  | n + 1, x, h => by
    cases x <;> first
      | rfl
      | exact h.elim
open TL
/-! ### patches as texts, plain -/
def numT (i : Int) : Str := Str.ofString (toString i)
def partsT : Pc → List Str
  | .cp b n => [Str.ofString "copy", numT b, numT n]
  | .br ns => Str.ofString "bring" :: ns.map numT
  | .rn b n => [Str.ofString "run", numT b, numT n]
def blankT : Str := Str.ofString " "
def lineT : Str := Str.ofString "\n"
def rowT (p : Pc) : Str := Txt.join blankT (partsT p)
def textT (ps : List Pc) : Str := Txt.join lineT (ps.map rowT)
theorem tl_numT {i : Int} (h : 0 ≤ i) : tl (numT i) = numL i.toNat := by
  have := tl_num i.toNat
  rw [show ((i.toNat : Nat) : Int) = i by omega] at this
  exact this
theorem numT_len {i : Int} (h : 0 ≤ i) (h2 : i ≤ 999) : 1 ≤ (numT i).length ∧ (numT i).length ≤ 3 := by
  rw [len_tl, tl_numT h]
  refine ⟨List.length_pos_iff.mpr (numL_ne _), numL_len (k := 3) (by decide) (by omega)⟩
theorem numL_head : ∀ n : Nat, 0 < n → ∃ c r, numL n = c :: r ∧ c ≠ 48 := by
  intro n
  induction n using Nat.strongRecOn with
  | _ n ih =>
    intro h
    by_cases h10 : n < 10
    · exact ⟨48 + n, [], numL_lt h10, by omega⟩
    · obtain ⟨c, r, e, hc⟩ := ih (n / 10) (by omega) (by omega)
      exact ⟨c, r ++ [48 + n % 10], by rw [numL_step (by omega), e]; rfl, hc⟩
theorem numL_sign {n c : Nat} (h : c ∈ numL n) : 48 ≤ c ∧ c ≤ 57 := by
  by_cases h1 : c < 48
  · exact absurd h (numL_free (.inl h1))
  · by_cases h2 : 57 < c
    · exact absurd h (numL_free (.inr h2))
    · omega
theorem part_free {p : Pc} (h : PcOk p) {s : Nat} (hs : s = 32 ∨ s = 10) : ∀ x, x ∈ partsT p → s ∉ tl x := by
  have num : ∀ i : Int, 0 ≤ i → s ∉ tl (numT i) := fun i hi => by
    rw [tl_numT hi]
    exact numL_free (.inl (by omega))
  have word : ∀ w : String, (32 ∉ w.toList.map Char.toNat) → (10 ∉ w.toList.map Char.toNat) → s ∉ tl (Str.ofString w) := fun w h1 h2 => by
    rw [tl_ofString]
    rcases hs with rfl | rfl <;> assumption
  intro x hx
  cases p with
  | cp b n =>
    obtain ⟨h1, h2, h3⟩ := h
    simp only [partsT, List.mem_cons, List.not_mem_nil, or_false] at hx
    rcases hx with rfl | rfl | rfl
    · exact word "copy" (by decide) (by decide)
    · exact num b h1
    · exact num n (by omega)
  | rn b n =>
    obtain ⟨h1, h2, h3, h4⟩ := h
    simp only [partsT, List.mem_cons, List.not_mem_nil, or_false] at hx
    rcases hx with rfl | rfl | rfl
    · exact word "run" (by decide) (by decide)
    · exact num b h1
    · exact num n (by omega)
  | br ns =>
    rcases List.mem_cons.mp (show x ∈ Str.ofString "bring" :: ns.map numT from hx) with rfl | hx
    · exact word "bring" (by decide) (by decide)
    · obtain ⟨i, hi, rfl⟩ := List.mem_map.mp hx
      exact num i (h.2.2 i hi).1
theorem partsT_ne (p : Pc) : partsT p ≠ [] := by cases p <;> exact fun z => by cases z
theorem tl_blank : tl blankT = [32] := by show tl (Str.ofString " ") = _; rw [tl_ofString]; rfl
theorem tl_line : tl lineT = [10] := by show tl (Str.ofString "\n") = _; rw [tl_ofString]; rfl
theorem all_blank : blankT.cps.all (· < 256) = true := by rw [← Array.all_toList, show blankT.cps.toList = [32] from tl_blank]; rfl
theorem all_line : lineT.cps.all (· < 256) = true := by rw [← Array.all_toList, show lineT.cps.toList = [10] from tl_line]; rfl
theorem split_row {p : Pc} (h : PcOk p) : Txt.split (rowT p) blankT = partsT p :=
  split_join (s := 32) (S := []) tl_blank all_blank (partsT_ne p) (part_free h (.inl rfl))
theorem joinL_mem {s c : Nat} : ∀ {l : List (List Nat)}, c ∈ joinL [s] l → c = s ∨ ∃ x, x ∈ l ∧ c ∈ x
  | [], h => by cases h
  | [x], h => .inr ⟨x, List.mem_cons_self, h⟩
  | x :: y :: l, h => by
    rcases List.mem_append.mp (show c ∈ x ++ ([s] ++ joinL [s] (y :: l)) from h) with h | h
    · exact .inr ⟨x, List.mem_cons_self, h⟩
    · rcases List.mem_append.mp h with h | h
      · exact .inl (List.mem_singleton.mp h)
      · rcases joinL_mem h with h | ⟨z, h1, h2⟩
        · exact .inl h
        · exact .inr ⟨z, List.mem_cons_of_mem _ h1, h2⟩
theorem tl_rowT (p : Pc) : tl (rowT p) = joinL [32] ((partsT p).map tl) := by
  unfold rowT
  rw [join_eq, tl_join, tl_blank]
theorem row_free {p : Pc} (h : PcOk p) : 10 ∉ tl (rowT p) := fun hm => by
  rw [tl_rowT] at hm
  rcases joinL_mem hm with e | ⟨x, hx, hc⟩
  · cases e
  · obtain ⟨y, hy, rfl⟩ := List.mem_map.mp hx
    exact part_free h (.inr rfl) y hy hc
theorem split_text {ps : List Pc} (h : ∀ p, p ∈ ps → PcOk p) (hne : ps ≠ []) : Txt.split (textT ps) lineT = ps.map rowT :=
  split_join (s := 10) (S := []) tl_line all_line (fun z => hne (List.map_eq_nil_iff.mp z)) fun x hx => by
    obtain ⟨p, hp, rfl⟩ := List.mem_map.mp hx
    exact row_free (h p hp)
theorem joinL_len (S : List Nat) : ∀ l : List (List Nat), (joinL S l).length ≤ (l.map List.length).sum + l.length * S.length
  | [] => Nat.zero_le _
  | [x] => by show x.length ≤ _; simp
  | x :: y :: l => by
    have ih := joinL_len S (y :: l)
    show (x ++ (S ++ joinL S (y :: l))).length ≤ _
    rw [List.length_append, List.length_append, List.map_cons, List.sum_cons, List.length_cons (a := x), Nat.succ_mul]
    omega
theorem sum_le {α : Type} {f : α → Nat} {m : Nat} : ∀ {l : List α}, (∀ x, x ∈ l → f x ≤ m) → (l.map f).sum ≤ l.length * m
  | [], _ => Nat.zero_le _
  | x :: l, h => by
    rw [List.map_cons, List.sum_cons, List.length_cons, Nat.succ_mul]
    have h1 := h x List.mem_cons_self
    have h2 := sum_le (l := l) fun y hy => h y (List.mem_cons_of_mem _ hy)
    omega
theorem part_len {p : Pc} (h : PcOk p) : (partsT p).length ≤ 201 ∧ ∀ x, x ∈ partsT p → x.length ≤ 5 := by
  have num : ∀ i : Int, 0 ≤ i → i ≤ 999 → (numT i).length ≤ 5 := fun i h1 h2 => by have := (numT_len h1 h2).2; omega
  have word : ∀ w : String, w.toList.length ≤ 5 → (Str.ofString w).length ≤ 5 := fun w hw => by rw [len_tl, tl_ofString, List.length_map]; exact hw
  cases p with
  | cp b n =>
    obtain ⟨h1, h2, h3⟩ := h
    refine ⟨by show 3 ≤ 201; decide, fun x hx => ?_⟩
    simp only [partsT, List.mem_cons, List.not_mem_nil, or_false] at hx
    rcases hx with rfl | rfl | rfl
    · exact word "copy" (by decide)
    · exact num b h1 (by omega)
    · exact num n (by omega) (by omega)
  | rn b n =>
    obtain ⟨h1, h2, h3, h4⟩ := h
    refine ⟨by show 3 ≤ 201; decide, fun x hx => ?_⟩
    simp only [partsT, List.mem_cons, List.not_mem_nil, or_false] at hx
    rcases hx with rfl | rfl | rfl
    · exact word "run" (by decide)
    · exact num b h1 (by omega)
    · exact num n (by omega) (by omega)
  | br ns =>
    obtain ⟨h1, h2, h3⟩ := h
    refine ⟨by show (ns.map numT).length + 1 ≤ 201; rw [List.length_map]; omega, fun x hx => ?_⟩
    rcases List.mem_cons.mp (show x ∈ Str.ofString "bring" :: ns.map numT from hx) with rfl | hx
    · exact word "bring" (by decide)
    · obtain ⟨i, hi, rfl⟩ := List.mem_map.mp hx
      have := h3 i hi
      exact num i this.1 (by omega)
theorem row_len {p : Pc} (h : PcOk p) : (rowT p).length ≤ 1300 := by
  obtain ⟨h1, h2⟩ := part_len h
  rw [len_tl, tl_rowT]
  have := joinL_len [32] ((partsT p).map tl)
  rw [List.map_map, List.length_map] at this
  have h3 := sum_le (f := List.length ∘ tl) (m := 5) (l := partsT p) fun x hx => by
    show (tl x).length ≤ 5
    rw [← len_tl]; exact h2 x hx
  simp only [List.length_singleton] at this
  omega
theorem text_len {ps : List Pc} (h : ∀ p, p ∈ ps → PcOk p) (hl : ps.length ≤ 200) : (textT ps).length ≤ 270000 := by
  unfold textT
  rw [len_tl, join_eq, tl_join, tl_line]
  have := joinL_len [10] ((ps.map rowT).map tl)
  have e : (((ps.map rowT).map tl).map List.length) = ps.map (fun p => (tl (rowT p)).length) := by rw [List.map_map, List.map_map]; rfl
  rw [e, List.length_map, List.length_map] at this
  have h3 := sum_le (f := fun p => (tl (rowT p)).length) (m := 1300) (l := ps) fun x hx => by
    show (tl (rowT x)).length ≤ 1300
    rw [← len_tl]; exact row_len (h x hx)
  simp only [List.length_singleton] at this
  omega
theorem parts_sum {p : Pc} (h : PcOk p) : ((partsT p).map (·.length)).sum + (partsT p).length * blankT.length ≤ 16777216 := by
  obtain ⟨h1, h2⟩ := part_len h
  have h3 := sum_le (f := fun x : Str => x.length) (m := 5) (l := partsT p) h2
  rw [len_tl blankT, tl_blank]
  simp only [List.length_singleton]
  omega
theorem rows_sum {ps : List Pc} (h : ∀ p, p ∈ ps → PcOk p) (hl : ps.length ≤ 200) : ((ps.map rowT).map (·.length)).sum + (ps.map rowT).length * lineT.length ≤ 16777216 := by
  have h3 := sum_le (f := fun x : Str => x.length) (m := 1300) (l := ps.map rowT) fun x hx => by
    obtain ⟨p, hp, rfl⟩ := List.mem_map.mp hx
    exact row_len (h p hp)
  rw [len_tl lineT, tl_line]
  rw [List.length_map] at h3 ⊢
  simp only [List.length_singleton]
  omega
theorem text_nil : textT [] = Str.ofString "" := ext_tl (by
  unfold textT
  rw [join_eq, tl_join, tl_ofString]
  rfl)
theorem row_pos {p : Pc} : tl (rowT p) ≠ [] := by
  rw [tl_rowT]
  have first : ∀ (x : List Nat) (l : List (List Nat)), x ≠ [] → joinL [32] (x :: l) ≠ [] := fun x l h => by
    cases l with
    | nil => exact h
    | cons y l => exact fun z => h (List.append_eq_nil_iff.mp (show x ++ ([32] ++ joinL [32] (y :: l)) = [] from z)).1
  cases p with
  | cp b n => exact first _ _ (by rw [tl_ofString]; decide)
  | br ns => exact first _ _ (by rw [tl_ofString]; decide)
  | rn b n => exact first _ _ (by rw [tl_ofString]; decide)
theorem text_ne {p : Pc} {ps : List Pc} : textT (p :: ps) ≠ Str.ofString "" := fun z => by
  have e : tl (textT (p :: ps)) = [] := by rw [z, tl_ofString]; rfl
  unfold textT at e
  rw [join_eq, tl_join, tl_line] at e
  cases ps with
  | nil => exact row_pos (show tl (rowT p) = [] from e)
  | cons q ps => exact row_pos (List.append_eq_nil_iff.mp (show tl (rowT p) ++ ([10] ++ _) = [] from e)).1
theorem numT_int {i : Int} (h : 0 ≤ i) (h2 : i ≤ 999) : PySem.intText? (numT i) = some i := by
  have := int_num (n := i.toNat) (by
    have := numL_len (n := i.toNat) (k := 3) (by decide) (by omega)
    omega)
  rw [show ((i.toNat : Nat) : Int) = i by omega] at this
  exact this

theorem cutT_take {α : Type} (xs : List α) (n : Nat) : cutL xs none (some (n : Int)) = xs.take n := by
  unfold cutL
  show (xs.drop 0).take (HT.sIx xs.length xs.length (some (n : Int)) - 0) = _
  have : HT.sIx xs.length xs.length (some (n : Int)) = min n xs.length := by
    unfold HT.sIx
    simp
    omega
  rw [this, List.drop_zero, Nat.sub_zero]
  by_cases h : n ≤ xs.length
  · rw [Nat.min_eq_left h]
  · rw [Nat.min_eq_right (by omega), List.take_length, List.take_of_length_le (by omega)]
/-! ### numbers of a script, taken -/
def b__law_taken : WS := (wSeq (wIfS (wB (wOp gtD (wOpP ixD 0 [] (wC (.int 3))) (wC (.int 0)))) (wSeq (wSet 2 (wOp modD (wCall1 intD (wOpP ixD 0 [] (wC (.int 3)))) (wVp 1))) (wSeq (wSetIx 0 [] (wOp fdivD (wOpP ixD 0 [] (wC (.int 3))) (wVp 1)) (wC (.int 3))) (wRet (wVp 2)))) wNx) (wSeq (wSetIx 0 [] (wOp addD (wOpP ixD 0 [] (wC (.int 1))) (wC (.int 1))) (wC (.int 1))) (wSeq (wIfS (wB (wOp gtD (wOpP ixD 0 [] (wC (.int 1))) (wCall1 lenD (wOpP ixD 0 [] (wC (.int 0)))))) (wSeq (wSetIx 0 [] (wOp modD (wOp addD (wOp mulD (wOpP ixD 0 [] (wC (.int 2))) (wC (.int 48271))) (wC (.int 11))) (wC (.int 2147483647))) (wC (.int 2))) (wRet (wOp modD (wOp fdivD (wOpP ixD 0 [] (wC (.int 2))) (wC (.int 7))) (wVp 1)))) wNx) (wSeq (wSet 3 (wOp ixD (wOpP ixD 0 [] (wC (.int 0))) (wOp subD (wOpP ixD 0 [] (wC (.int 1))) (wC (.int 1))))) (wSeq (wSetIx 0 [] (wOp modD (wOp addD (wOp addD (wOp mulD (wOpP ixD 0 [] (wC (.int 2))) (wC (.int 48271))) (wVp 3)) (wC (.int 11))) (wC (.int 2147483647))) (wC (.int 2))) (wSeq (wIfS (wB (wOpP geD 3 [] (wOp powD (wC (.int 10)) (wC (.int 18))))) (wSetIx 0 [] (wOp fdivD (wVp 3) (wVp 1)) (wC (.int 3))) wNx) (wRet (wOp modD (wCall1P intD 3 []) (wVp 1)))))))))
def w__law_taken : WE := fun _ ρ P => ∃ (v : V) (d : D) (k : Int), ρ = [.io v d, .vl (.int k)] ∧ Dice d ∧ 0 < k ∧ k < 1000000 ∧ ∀ (r : Int) (d' : D), Dice d' → 0 ≤ r → r < k → P (.int r) [.io v d', .vl (.int k)]
theorem u__law_taken : UB 2 4 w__law_taken b__law_taken := by
  rintro ρ P0 - ⟨v, d, k, rfl, ⟨ns, c, m, h, rfl, hn, hc, hm0, hm1, hh⟩, hk0, hk1, hP⟩
  have mk : ∀ (r c m h : Int), 0 ≤ c → 0 ≤ m → m < 2147483647 → 0 ≤ h → 0 ≤ r → r < k → P0 (.int r) [.io v (.ml [.rl (ns.map .int), .int c, .int m, .int h]), .vl (.int k)] := fun r c m h h1 h2 h3 h4 h5 h6 => hP r _ ⟨ns, c, m, h, rfl, hn, h1, h2, h3, h4⟩ h5 h6
  have cd : ∀ x, CDiv x k := fun x => ⟨hk0, by omega⟩
  have md : ∀ x : Int, 0 ≤ x % k ∧ x % k < k := fun x => ⟨Int.emod_nonneg _ (by omega), Int.emod_lt_of_pos _ hk0⟩
  have cdh := cd h
  have cp18 : CPow 10 18 := ⟨by decide, by decide, by decide⟩
  show b__law_taken _ [.io v (.ml [.rl (ns.map .int), .int c, .int m, .int h]), .vl (.int k), .no, .no] _
  have c1 : CMul m 48271 := .inr (by decide)
  have e1 : ∀ z : Int, 0 ≤ z % 2147483647 := fun z => Int.emod_nonneg _ (by decide)
  have e2 : ∀ z : Int, z % 2147483647 < 2147483647 := fun z => Int.emod_lt_of_pos _ (by decide)
  have c2 : ∀ z : Int, CDiv z 7 := fun z => ⟨by decide, by decide⟩
  have c21 := c2 ((m * 48271 + 11) % 2147483647)
  unfold b__law_taken
  (with_reducible apply s_seq; decreasing_trivial
   with_reducible apply s_ifs; decreasing_trivial
   with_reducible apply s_b; decreasing_trivial
   with_reducible apply s_op; decreasing_trivial
   ((with_reducible apply s_opP); focus array_mem_dec); decreasing_trivial
   with_reducible apply s_c; decreasing_trivial
   ((with_reducible apply s_pl); focus array_mem_dec); decreasing_trivial
   ((with_reducible apply s_ixml); focus array_mem_dec); decreasing_trivial
   with_reducible apply s_c; decreasing_trivial
   with_reducible apply s_ii0; decreasing_trivial)
  refine s_ite (fun h1 => ?_) (fun h1 => ?_)
  · have h1 := of_decide_eq_true h1
    (with_reducible apply s_seq; decreasing_trivial
     with_reducible apply s_set; decreasing_trivial
     with_reducible apply s_op; decreasing_trivial
     with_reducible apply s_call1; decreasing_trivial
     ((with_reducible apply s_opP); focus array_mem_dec); decreasing_trivial
     with_reducible apply s_c; decreasing_trivial
     ((with_reducible apply s_pl); focus array_mem_dec); decreasing_trivial
     ((with_reducible apply s_ixml); focus array_mem_dec); decreasing_trivial
     with_reducible apply s_intint; decreasing_trivial
     ((with_reducible apply s_vp); focus array_mem_dec); decreasing_trivial
     with_reducible apply s_fro_int; decreasing_trivial
     ((with_reducible apply s_iid); first | (focus array_get_dec) | rotate_left 1); decreasing_trivial
     with_reducible apply s_seq; decreasing_trivial
     with_reducible apply s_setIx; decreasing_trivial
     with_reducible apply s_op; decreasing_trivial
     ((with_reducible apply s_opP); focus array_mem_dec); decreasing_trivial
     with_reducible apply s_c; decreasing_trivial
     ((with_reducible apply s_pl); focus array_mem_dec); decreasing_trivial
     ((with_reducible apply s_ixml); focus array_mem_dec); decreasing_trivial
     ((with_reducible apply s_vp); focus array_mem_dec); decreasing_trivial
     with_reducible apply s_fro_int; decreasing_trivial
     ((with_reducible apply s_iid); first | (focus array_get_dec) | rotate_left 1); decreasing_trivial
     with_reducible apply s_fz_int; decreasing_trivial
     ((with_reducible apply s_plex); focus array_mem_dec); decreasing_trivial
     with_reducible apply s_c; decreasing_trivial
     ((with_reducible apply s_setIx2); (focus rfl); (focus array_mem_dec)); decreasing_trivial
     ((with_reducible apply s_pt); focus array_mem_dec); decreasing_trivial
     with_reducible apply s_ret; decreasing_trivial
     ((with_reducible apply s_vp); focus array_mem_dec); decreasing_trivial
     with_reducible apply s_fro_int; decreasing_trivial
     ((with_reducible apply s_retr); focus (repeat (first | exact r_nil | apply r_vl (by rfl) | apply r_io | apply r_no))); decreasing_trivial)
    exact mk _ _ _ _ hc hm0 hm1 (Int.ediv_nonneg hh (by omega)) (md _).1 (md _).2
  · (with_reducible apply s_nx; decreasing_trivial
     with_reducible apply s_seq; decreasing_trivial
     with_reducible apply s_setIx; decreasing_trivial
     with_reducible apply s_op; decreasing_trivial
     ((with_reducible apply s_opP); focus array_mem_dec); decreasing_trivial
     with_reducible apply s_c; decreasing_trivial
     ((with_reducible apply s_pl); focus array_mem_dec); decreasing_trivial
     ((with_reducible apply s_ixml); focus array_mem_dec); decreasing_trivial
     with_reducible apply s_c; decreasing_trivial
     with_reducible apply s_addii; decreasing_trivial
     with_reducible apply s_fz_int; decreasing_trivial
     ((with_reducible apply s_plex); focus array_mem_dec); decreasing_trivial
     with_reducible apply s_c; decreasing_trivial
     ((with_reducible apply s_setIx2); (focus rfl); (focus array_mem_dec)); decreasing_trivial
     ((with_reducible apply s_pt); focus array_mem_dec); decreasing_trivial
     with_reducible apply s_seq; decreasing_trivial
     with_reducible apply s_ifs; decreasing_trivial
     with_reducible apply s_b; decreasing_trivial
     with_reducible apply s_op; decreasing_trivial
     ((with_reducible apply s_opP); focus array_mem_dec); decreasing_trivial
     with_reducible apply s_c; decreasing_trivial
     ((with_reducible apply s_pl); focus array_mem_dec); decreasing_trivial
     ((with_reducible apply s_ixml); focus array_mem_dec); decreasing_trivial
     with_reducible apply s_call1; decreasing_trivial
     ((with_reducible apply s_opP); focus array_mem_dec); decreasing_trivial
     with_reducible apply s_c; decreasing_trivial
     ((with_reducible apply s_pl); focus array_mem_dec); decreasing_trivial
     ((with_reducible apply s_ixml); focus array_mem_dec); decreasing_trivial
     with_reducible apply s_lenrl; decreasing_trivial
     with_reducible apply s_ii0; decreasing_trivial)
    refine s_ite (fun h2 => ?_) (fun h2 => ?_)
    · (with_reducible apply s_seq; decreasing_trivial
       with_reducible apply s_setIx; decreasing_trivial
       with_reducible apply s_op; decreasing_trivial
       with_reducible apply s_op; decreasing_trivial
       with_reducible apply s_op; decreasing_trivial
       ((with_reducible apply s_opP); focus array_mem_dec); decreasing_trivial
       with_reducible apply s_c; decreasing_trivial
       ((with_reducible apply s_pl); focus array_mem_dec); decreasing_trivial
       ((with_reducible apply s_ixml); focus array_mem_dec); decreasing_trivial
       with_reducible apply s_c; decreasing_trivial
       ((with_reducible apply s_mulii); first | (focus array_get_dec) | rotate_left 1); decreasing_trivial
       with_reducible apply s_c; decreasing_trivial
       with_reducible apply s_addii; decreasing_trivial
       with_reducible apply s_c; decreasing_trivial
       ((with_reducible apply s_iid); first | (focus array_get_dec) | rotate_left 1); decreasing_trivial
       with_reducible apply s_fz_int; decreasing_trivial
       ((with_reducible apply s_plex); focus array_mem_dec); decreasing_trivial
       with_reducible apply s_c; decreasing_trivial
       ((with_reducible apply s_setIx2); (focus rfl); (focus array_mem_dec)); decreasing_trivial
       ((with_reducible apply s_pt); focus array_mem_dec); decreasing_trivial
       with_reducible apply s_ret; decreasing_trivial
       with_reducible apply s_op; decreasing_trivial
       with_reducible apply s_op; decreasing_trivial
       ((with_reducible apply s_opP); focus array_mem_dec); decreasing_trivial
       with_reducible apply s_c; decreasing_trivial
       ((with_reducible apply s_pl); focus array_mem_dec); decreasing_trivial
       ((with_reducible apply s_ixml); focus array_mem_dec); decreasing_trivial
       with_reducible apply s_c; decreasing_trivial
       ((with_reducible apply s_iid); first | (focus array_get_dec) | rotate_left 1); decreasing_trivial
       ((with_reducible apply s_vp); focus array_mem_dec); decreasing_trivial
       with_reducible apply s_fro_int; decreasing_trivial
       ((with_reducible apply s_iid); first | (focus array_get_dec) | rotate_left 1); decreasing_trivial
       ((with_reducible apply s_retr); focus (repeat (first | exact r_nil | apply r_vl (by rfl) | apply r_io | apply r_no))); decreasing_trivial)
      exact mk _ _ _ _ (by omega) (e1 _) (e2 _) hh (md _).1 (md _).2
    · have h2 := of_decide_eq_false h2
      rw [List.length_map] at h2
      obtain ⟨n, hn1, _⟩ := atI_ints (ns := ns) (i := c + 1 - 1) (by omega) (by omega)
      have cdn := cd n
      (with_reducible apply s_nx; decreasing_trivial
       with_reducible apply s_seq; decreasing_trivial
       with_reducible apply s_set; decreasing_trivial
       with_reducible apply s_op; decreasing_trivial
       ((with_reducible apply s_opP); focus array_mem_dec); decreasing_trivial
       with_reducible apply s_c; decreasing_trivial
       ((with_reducible apply s_pl); focus array_mem_dec); decreasing_trivial
       ((with_reducible apply s_ixml); focus array_mem_dec); decreasing_trivial
       with_reducible apply s_op; decreasing_trivial
       ((with_reducible apply s_opP); focus array_mem_dec); decreasing_trivial
       with_reducible apply s_c; decreasing_trivial
       ((with_reducible apply s_pl); focus array_mem_dec); decreasing_trivial
       ((with_reducible apply s_ixml); focus array_mem_dec); decreasing_trivial
       with_reducible apply s_c; decreasing_trivial
       with_reducible apply s_ii0; decreasing_trivial
       ((with_reducible apply s_ixrl); focus array_mem_dec); decreasing_trivial
       with_reducible apply s_seq; decreasing_trivial
       with_reducible apply s_setIx; decreasing_trivial
       with_reducible apply s_op; decreasing_trivial
       with_reducible apply s_op; decreasing_trivial
       with_reducible apply s_op; decreasing_trivial
       with_reducible apply s_op; decreasing_trivial
       ((with_reducible apply s_opP); focus array_mem_dec); decreasing_trivial
       with_reducible apply s_c; decreasing_trivial
       ((with_reducible apply s_pl); focus array_mem_dec); decreasing_trivial
       ((with_reducible apply s_ixml); focus array_mem_dec); decreasing_trivial
       with_reducible apply s_c; decreasing_trivial
       ((with_reducible apply s_mulii); first | (focus array_get_dec) | rotate_left 1); decreasing_trivial
       ((with_reducible apply s_vp); focus array_mem_dec); decreasing_trivial
       with_reducible apply s_fro_int; decreasing_trivial
       with_reducible apply s_addii; decreasing_trivial
       with_reducible apply s_c; decreasing_trivial
       with_reducible apply s_addii; decreasing_trivial
       with_reducible apply s_c; decreasing_trivial
       ((with_reducible apply s_iid); first | (focus array_get_dec) | rotate_left 1); decreasing_trivial
       with_reducible apply s_fz_int; decreasing_trivial
       ((with_reducible apply s_plex); focus array_mem_dec); decreasing_trivial
       with_reducible apply s_c; decreasing_trivial
       ((with_reducible apply s_setIx2); (focus rfl); (focus array_mem_dec)); decreasing_trivial
       ((with_reducible apply s_pt); focus array_mem_dec); decreasing_trivial
       with_reducible apply s_seq; decreasing_trivial
       with_reducible apply s_ifs; decreasing_trivial
       with_reducible apply s_b; decreasing_trivial
       ((with_reducible apply s_opP); focus array_mem_dec); decreasing_trivial
       with_reducible apply s_op; decreasing_trivial
       with_reducible apply s_c; decreasing_trivial
       with_reducible apply s_c; decreasing_trivial
       ((with_reducible apply s_iid); first | (focus array_get_dec) | rotate_left 1); decreasing_trivial
       ((with_reducible apply s_pl); focus array_mem_dec); decreasing_trivial
       with_reducible apply s_ii0; decreasing_trivial)
      refine s_ite (fun h3 => ?_) (fun h3 => ?_)
      · have h3 := of_decide_eq_true h3
        (with_reducible apply s_setIx; decreasing_trivial
         with_reducible apply s_op; decreasing_trivial
         ((with_reducible apply s_vp); focus array_mem_dec); decreasing_trivial
         with_reducible apply s_fro_int; decreasing_trivial
         ((with_reducible apply s_vp); focus array_mem_dec); decreasing_trivial
         with_reducible apply s_fro_int; decreasing_trivial
         ((with_reducible apply s_iid); first | (focus array_get_dec) | rotate_left 1); decreasing_trivial
         with_reducible apply s_fz_int; decreasing_trivial
         ((with_reducible apply s_plex); focus array_mem_dec); decreasing_trivial
         with_reducible apply s_c; decreasing_trivial
         ((with_reducible apply s_setIx2); (focus rfl); (focus array_mem_dec)); decreasing_trivial
         ((with_reducible apply s_pt); focus array_mem_dec); decreasing_trivial
         with_reducible apply s_ret; decreasing_trivial
         with_reducible apply s_op; decreasing_trivial
         ((with_reducible apply s_call1P); focus array_mem_dec); decreasing_trivial
         with_reducible apply s_intint; decreasing_trivial
         ((with_reducible apply s_vp); focus array_mem_dec); decreasing_trivial
         with_reducible apply s_fro_int; decreasing_trivial
         ((with_reducible apply s_iid); first | (focus array_get_dec) | rotate_left 1); decreasing_trivial
         ((with_reducible apply s_retr); focus (repeat (first | exact r_nil | apply r_vl (by rfl) | apply r_io | apply r_no))); decreasing_trivial)
        exact mk _ _ _ _ (by omega) (e1 _) (e2 _) (Int.ediv_nonneg (Int.le_trans (by decide) h3) (by omega)) (md _).1 (md _).2
      · (with_reducible apply s_nx; decreasing_trivial
         with_reducible apply s_ret; decreasing_trivial
         with_reducible apply s_op; decreasing_trivial
         ((with_reducible apply s_call1P); focus array_mem_dec); decreasing_trivial
         with_reducible apply s_intint; decreasing_trivial
         ((with_reducible apply s_vp); focus array_mem_dec); decreasing_trivial
         with_reducible apply s_fro_int; decreasing_trivial
         ((with_reducible apply s_iid); first | (focus array_get_dec) | rotate_left 1); decreasing_trivial
         ((with_reducible apply s_retr); focus (repeat (first | exact r_nil | apply r_vl (by rfl) | apply r_io | apply r_no))); decreasing_trivial)
        exact mk _ _ _ _ (by omega) (e1 _) (e2 _) hh (md _).1 (md _).2
theorem c_taken {xi : Xi} {v : V} {d : D} {k : Int} {P : D → Rho → Prop} (hd : Dice d) (h0 : 0 < k) (h1 : k < 1000000) (h : ∀ r d', Dice d' → 0 ≤ r → r < k → P (.int r) [.io v d', .vl (.int k)]) : w__law_taken xi [.io v d, .vl (.int k)] P := ⟨v, d, k, rfl, hd, h0, h1, h⟩
/-! ### a patch of up to so many pieces -/
def b__law_patch : WS := (wSeq (wAsgO [2, 3] (wConsO (wLst wNil) (wConsO (wC (.int 0)) wNil))) (wSeq (wFor (.nm 4) (wRng1 (wCons (wCall 2 w__law_taken (waS 0 (waV (wOp addD (wVp 1) (wC (.int 1))) waNil))) wNil)) (wSeq (wAsgO [5, 6] (wConsO (wCall 2 w__law_taken (waS 0 (waV (wC (.int 3)) waNil))) (wConsO (wOp addD (wC (.int 1)) (wCall 2 w__law_taken (waS 0 (waV (wOp ixD (wLst (wCons (wC (.int 4)) (wCons (wC (.int 40)) wNil))) (wCall 2 w__law_taken (waS 0 (waV (wC (.int 2)) waNil)))) waNil)))) wNil))) (wIfS (wB (wOp leD (wOp addD (wVp 3) (wVp 6)) (wC (.int 200)))) (wSeq (wAug 3 (ii0 fun i j => .int (i + j)) (wVp 6)) (wSeq (wSet 7 (wLc (.nm 9) [9] (wRng1 (wCons (wCalls min2D (wCons (wVp 6) (wCons (wC (.int 9)) wNil))) wNil)) wYes (wCall 2 w__law_taken (waS 0 (waV (wC (.int 256)) waNil))))) (wSeq (wSet 7 (wSl (wOp mulD (wV 7) (wC (.int 9))) woN (woS (wVp 6)))) (wSeq (wSet 8 (wCall 2 w__law_taken (waS 0 (waV (wOp subD (wC (.int 201)) (wVp 6)) waNil)))) (wX (wMt appendG 2 [] (wCons (wOp ixD (wLst (wCons (wTup (wCons (wC (.str "copy")) (wCons (wVp 8) (wCons (wVp 6) wNil)))) (wCons (wTup (wCons (wC (.str "bring")) (wCons (wCall 1 w_bytes_of (waV (wV 7) waNil)) wNil))) (wCons (wTup (wCons (wC (.str "run")) (wCons (wOpP ixD 7 [] (wC (.int 0))) (wCons (wVp 6) wNil)))) wNil)))) (wVp 5)) wNil))))))) wNx))) (wRet (wCall1P tupleD 2 []))))
def w__law_patch : WE := fun _ ρ P => ∃ (v : V) (d : D) (most : Int), ρ = [.io v d, .vl (.int most)] ∧ Dice d ∧ 0 ≤ most ∧ most ≤ 100 ∧ ∀ (ps : List Pc) (d' : D), PatOk ps → (ps.length : Int) ≤ most → Dice d' → P (patD ps) [.io v d', .vl (.int most)]
theorem u__law_patch : UB 2 10 w__law_patch b__law_patch := by
  rintro ρ P0 - ⟨v, d, most, rfl, hd, h0, h1, hP⟩
  show b__law_patch _ [.io v d, .vl (.int most), .no, .no, .no, .no, .no, .no, .no, .no] _
  unfold b__law_patch
  (with_reducible apply s_seq; decreasing_trivial
   with_reducible apply s_asgo; decreasing_trivial
   with_reducible apply s_conso; decreasing_trivial
   with_reducible apply s_lst; decreasing_trivial
   with_reducible apply s_nil; decreasing_trivial
   ((with_reducible apply s_sz); focus array_get_dec); decreasing_trivial
   with_reducible apply s_conso; decreasing_trivial
   with_reducible apply s_c; decreasing_trivial
   with_reducible apply s_nil; decreasing_trivial
   ((with_reducible apply s_asgo2); (focus rfl); (focus (first | decide | simp))); decreasing_trivial
   with_reducible apply s_seq; decreasing_trivial
   with_reducible apply s_for; decreasing_trivial
   with_reducible apply s_rng1; decreasing_trivial
   with_reducible apply s_cons; decreasing_trivial
   with_reducible apply s_call; decreasing_trivial
   ((with_reducible apply s_was); focus array_mem_dec); decreasing_trivial
   with_reducible apply s_wav; decreasing_trivial
   with_reducible apply s_op; decreasing_trivial
   ((with_reducible apply s_vp); focus array_mem_dec); decreasing_trivial
   with_reducible apply s_fro_int; decreasing_trivial
   with_reducible apply s_c; decreasing_trivial
   with_reducible apply s_addii; decreasing_trivial
   with_reducible apply s_fz_int; decreasing_trivial
   with_reducible apply s_wanil; decreasing_trivial
   ((with_reducible apply s_callk); (focus rfl); (focus (first | decide | simp)); (focus (intro; rfl)); intro _); decreasing_trivial)
  refine c_taken hd (by omega) (by omega) fun r d1 hd1 hr0 hr1 => ?_
  (((with_reducible apply s_ex1); focus array_mem_dec); decreasing_trivial
   with_reducible apply s_fz_int; decreasing_trivial
   with_reducible apply s_nil; decreasing_trivial
   ((with_reducible apply s_sz); focus array_get_dec); decreasing_trivial)
  refine loopD_ind (fun ds ρ => ∃ (d : D) (ps : List Pc) (c4 c5 c6 c7 c8 : Cell), ρ = [.io v d, .vl (.int most), .vl (.ml (ps.map pcD)), .vl (.int (plen ps)), c4, c5, c6, c7, c8, .no] ∧ PatOk ps ∧ (ds.length : Int) + ps.length ≤ most ∧ Dice d) ?_ ?_ _ _ ⟨d1, [], _, _, _, _, _, rfl, ⟨(fun _ z => nomatch z), by decide⟩, by simp [rangeL]; omega, hd1⟩
  · rintro x ds _ ⟨d, ps, c4, c5, c6, c7, c8, rfl, hok, hlen, hd⟩ ih
    rw [List.length_cons] at hlen
    refine ⟨_, rfl, ?_⟩
    (with_reducible apply s_seq; decreasing_trivial
     with_reducible apply s_asgo; decreasing_trivial
     with_reducible apply s_conso; decreasing_trivial
     with_reducible apply s_call; decreasing_trivial
     ((with_reducible apply s_was); focus array_mem_dec); decreasing_trivial
     with_reducible apply s_wav; decreasing_trivial
     with_reducible apply s_c; decreasing_trivial
     with_reducible apply s_fz_int; decreasing_trivial
     with_reducible apply s_wanil; decreasing_trivial
     ((with_reducible apply s_callk); (focus rfl); (focus (first | decide | simp)); (focus (intro; rfl)); intro _); decreasing_trivial)
    refine c_taken hd (by decide) (by decide) fun w d2 hd2 hw0 hw1 => ?_
    (((with_reducible apply s_ex1); focus array_mem_dec); decreasing_trivial
     with_reducible apply s_conso; decreasing_trivial
     with_reducible apply s_op; decreasing_trivial
     with_reducible apply s_c; decreasing_trivial
     with_reducible apply s_call; decreasing_trivial
     ((with_reducible apply s_was); focus array_mem_dec); decreasing_trivial
     with_reducible apply s_wav; decreasing_trivial
     with_reducible apply s_op; decreasing_trivial
     with_reducible apply s_lst; decreasing_trivial
     with_reducible apply s_cons; decreasing_trivial
     with_reducible apply s_c; decreasing_trivial
     with_reducible apply s_fz_int; decreasing_trivial
     with_reducible apply s_cons; decreasing_trivial
     with_reducible apply s_c; decreasing_trivial
     with_reducible apply s_fz_int; decreasing_trivial
     with_reducible apply s_nil; decreasing_trivial
     ((with_reducible apply s_sz); focus array_get_dec); decreasing_trivial
     with_reducible apply s_call; decreasing_trivial
     ((with_reducible apply s_was); focus array_mem_dec); decreasing_trivial
     with_reducible apply s_wav; decreasing_trivial
     with_reducible apply s_c; decreasing_trivial
     with_reducible apply s_fz_int; decreasing_trivial
     with_reducible apply s_wanil; decreasing_trivial
     ((with_reducible apply s_callk); (focus rfl); (focus (first | decide | simp)); (focus (intro; rfl)); intro _); decreasing_trivial)
    refine c_taken hd2 (by decide) (by decide) fun r2 d3 hd3 h20 h21 => ?_
    obtain ⟨kk, ek, hk0, hk1⟩ : ∃ kk, atI [D.int 4, D.int 40] r2 = some (.int kk) ∧ 0 < kk ∧ kk ≤ 40 := by
      rcases (by omega : r2 = 0 ∨ r2 = 1) with e | e <;> subst e
      · exact ⟨4, rfl, by decide, by decide⟩
      · exact ⟨40, rfl, by decide, by decide⟩
    (((with_reducible apply s_ex1); focus array_mem_dec); decreasing_trivial
     ((with_reducible apply s_ixml); focus array_mem_dec); decreasing_trivial
     with_reducible apply s_fz_int; decreasing_trivial
     with_reducible apply s_wanil; decreasing_trivial
     ((with_reducible apply s_callk); (focus rfl); (focus (first | decide | simp)); (focus (intro; rfl)); intro _); decreasing_trivial)
    refine c_taken hd3 (by omega) (by omega) fun r3 d4 hd4 h30 h31 => ?_
    (((with_reducible apply s_ex1); focus array_mem_dec); decreasing_trivial
     with_reducible apply s_addii; decreasing_trivial
     with_reducible apply s_nil; decreasing_trivial
     ((with_reducible apply s_asgo2); (focus rfl); (focus (first | decide | simp))); decreasing_trivial
     with_reducible apply s_ifs; decreasing_trivial
     with_reducible apply s_b; decreasing_trivial
     with_reducible apply s_op; decreasing_trivial
     with_reducible apply s_op; decreasing_trivial
     ((with_reducible apply s_vp); focus array_mem_dec); decreasing_trivial
     with_reducible apply s_fro_int; decreasing_trivial
     ((with_reducible apply s_vp); focus array_mem_dec); decreasing_trivial
     with_reducible apply s_fro_int; decreasing_trivial
     with_reducible apply s_addii; decreasing_trivial
     with_reducible apply s_c; decreasing_trivial
     with_reducible apply s_ii0; decreasing_trivial)
    by_cases hfit : plen ps + (1 + r3) ≤ 200
    · rw [if_pos (decide_eq_true hfit)]
      (with_reducible apply s_seq; decreasing_trivial
       ((with_reducible apply s_aug); focus array_mem_dec); decreasing_trivial
       with_reducible apply s_fro_int; decreasing_trivial
       ((with_reducible apply s_vp); focus array_mem_dec); decreasing_trivial
       with_reducible apply s_fro_int; decreasing_trivial
       with_reducible apply s_ii0; decreasing_trivial
       with_reducible apply s_seq; decreasing_trivial
       with_reducible apply s_set; decreasing_trivial
       with_reducible apply s_lc; decreasing_trivial
       with_reducible apply s_rng1; decreasing_trivial
       with_reducible apply s_cons; decreasing_trivial
       with_reducible apply s_calls; decreasing_trivial
       with_reducible apply s_cons; decreasing_trivial
       ((with_reducible apply s_vp); focus array_mem_dec); decreasing_trivial
       with_reducible apply s_fro_int; decreasing_trivial
       with_reducible apply s_fz_int; decreasing_trivial
       with_reducible apply s_cons; decreasing_trivial
       with_reducible apply s_c; decreasing_trivial
       with_reducible apply s_fz_int; decreasing_trivial
       with_reducible apply s_nil; decreasing_trivial
       with_reducible apply s_min2; decreasing_trivial
       with_reducible apply s_fz_int; decreasing_trivial
       with_reducible apply s_nil; decreasing_trivial
       ((with_reducible apply s_sz); focus array_get_dec); decreasing_trivial)
      refine lcD_ind (fun ds ρ acc => ∃ (es : List Int) (d5 : D), ρ = [.io v d5, .vl (.int most), .vl (.ml (ps.map pcD)), .vl (.int (plen ps + (1 + r3))), .vl x, .vl (.int w), .vl (.int (1 + r3)), c7, c8, .no] ∧ acc = es.map .int ∧ B8 es ∧ Dice d5 ∧ (ds.length : Int) + es.length = (if 9 < 1 + r3 then 9 else 1 + r3)) ?_ ?_ _ _ _ ⟨[], d4, rfl, rfl, (fun _ z => nomatch z), hd4, ?_⟩
      · rintro y ds2 _ _ ⟨es, d5, rfl, rfl, hb, hd5, hl⟩ ih2
        refine ⟨_, rfl, ?_⟩
        rw [List.length_cons] at hl
        (with_reducible apply s_yes; decreasing_trivial
         ((with_reducible apply s_ifT); focus array_get_dec); decreasing_trivial
         with_reducible apply s_call; decreasing_trivial
         ((with_reducible apply s_was); focus array_mem_dec); decreasing_trivial
         with_reducible apply s_wav; decreasing_trivial
         with_reducible apply s_c; decreasing_trivial
         with_reducible apply s_fz_int; decreasing_trivial
         with_reducible apply s_wanil; decreasing_trivial
         ((with_reducible apply s_callk); (focus rfl); (focus (first | decide | simp)); (focus (intro; rfl)); intro _); decreasing_trivial)
        refine c_taken hd5 (by decide) (by decide) fun r4 d6 hd6 h40 h41 => ?_
        (((with_reducible apply s_ex1); focus array_mem_dec); decreasing_trivial
         with_reducible apply s_fz_int; decreasing_trivial
         ((with_reducible apply s_sz); focus array_get_dec); decreasing_trivial)
        have hel : (es.map D.int).length < 100000 := by rw [List.length_map]; split at hl <;> omega
        exact ih2 _ _ ⟨es ++ [r4], d6, rfl, by simp, hb.app fun y hy => by
          rw [List.mem_singleton.mp hy]
          exact ⟨h40, h41⟩, hd6, by simp; simp at hl; omega⟩
      · rintro _ _ ⟨es, d5, rfl, rfl, hb, hd5, hl⟩
        have hesl : (es.length : Int) = (if 9 < 1 + r3 then 9 else 1 + r3) := by simpa using hl
        have h9 : es.length ≤ 9 := by split at hesl <;> omega
        have hfl : (List.replicate 9 es).flatten.length = 9 * es.length := by simp; omega
        have hmul : (es.map D.int).length * (9 : Int).toNat ≤ 100000 := by rw [List.length_map]; show es.length * 9 ≤ _; omega
        have hcut : cutL (List.replicate (Int.toNat 9) (es.map D.int)).flatten none (some (1 + r3)) = ((List.replicate 9 es).flatten.take (1 + r3).toNat).map D.int := by
          have e : (List.replicate (Int.toNat 9) (es.map D.int)).flatten = (List.replicate 9 es).flatten.map D.int := by
            rw [List.map_flatten, List.map_replicate]; rfl
          rw [e]
          have := cutT_take ((List.replicate 9 es).flatten.map D.int) (1 + r3).toNat
          rw [show (((1 + r3).toNat : Nat) : Int) = 1 + r3 by omega] at this
          rw [this, List.map_take]
        have hgl : (((List.replicate 9 es).flatten.take (1 + r3).toNat).length : Int) = 1 + r3 := by
          rw [List.length_take, hfl]
          split at hesl <;> omega
        have hg8 : B8 ((List.replicate 9 es).flatten.take (1 + r3).toNat) := fun z hz => by
          obtain ⟨l, hl1, hl2⟩ := List.mem_flatten.mp (List.mem_of_mem_take hz)
          rw [(List.mem_replicate.mp hl1).2] at hl2
          exact hb z hl2
        (with_reducible apply s_seq; decreasing_trivial
         with_reducible apply s_set; decreasing_trivial
         with_reducible apply s_sl; decreasing_trivial
         with_reducible apply s_op; decreasing_trivial
         ((with_reducible apply s_v); focus array_mem_dec); decreasing_trivial
         with_reducible apply s_fz_ml; decreasing_trivial
         with_reducible apply s_c; decreasing_trivial
         ((with_reducible apply s_mullst); (first | (focus array_get_dec) | rotate_left 1); (first | (focus array_get_dec) | rotate_left 1)); decreasing_trivial
         with_reducible apply s_on; decreasing_trivial
         with_reducible apply s_os; decreasing_trivial
         ((with_reducible apply s_vp); focus array_mem_dec); decreasing_trivial
         with_reducible apply s_fro_int; decreasing_trivial
         with_reducible apply s_slml; decreasing_trivial
         with_reducible apply s_seq; decreasing_trivial
         with_reducible apply s_set; decreasing_trivial
         with_reducible apply s_call; decreasing_trivial
         ((with_reducible apply s_was); focus array_mem_dec); decreasing_trivial
         with_reducible apply s_wav; decreasing_trivial
         with_reducible apply s_op; decreasing_trivial
         with_reducible apply s_c; decreasing_trivial
         ((with_reducible apply s_vp); focus array_mem_dec); decreasing_trivial
         with_reducible apply s_fro_int; decreasing_trivial
         with_reducible apply s_ii0; decreasing_trivial
         with_reducible apply s_fz_int; decreasing_trivial
         with_reducible apply s_wanil; decreasing_trivial
         ((with_reducible apply s_callk); (focus rfl); (focus (first | decide | simp)); (focus (intro; rfl)); intro _); decreasing_trivial)
        rw [hcut]
        generalize (List.replicate 9 es).flatten.take (1 + r3).toNat = gs at *
        refine c_taken hd5 (by omega) (by omega) fun r5 d6 hd6 h50 h51 => ?_
        obtain ⟨g0, gr, hgs⟩ : ∃ g0 gr, gs = g0 :: gr := by
          cases gs with
          | nil => simp at hgl; omega
          | cons a b => exact ⟨a, b, rfl⟩
        have hg0 : 0 ≤ g0 ∧ g0 < 256 := hg8 g0 (by rw [hgs]; exact List.mem_cons_self)
        have hat : atI (gs.map D.int) 0 = some (.int g0) := by
          obtain ⟨d0, q1, q2⟩ := atI_of (xs := gs.map D.int) (i := 0) (by decide) (by rw [List.length_map]; omega)
          rw [q1, ← q2, hgs]; rfl
        have hpl := fun p => ih p
        have hlen2 : (ps.map pcD).length < 100000 := by rw [List.length_map]; omega
        have hat2 : atI (gs.map D.int) 0 = some (.int g0) := hat
        clear hat2 hcut hmul hfl
        have hnext : ∀ (p : Pc), PcOk p → p.sz = 1 + r3 → PatOk (ps ++ [p]) ∧ plen (ps ++ [p]) = plen ps + (1 + r3) := fun p hp hz => by
          have e : plen (ps ++ [p]) = plen ps + (1 + r3) := by rw [plen_app]; show plen ps + (p.sz + 0) = _; omega
          refine ⟨⟨fun q hq => ?_, by rw [e]; omega⟩, e⟩
          rcases List.mem_append.mp hq with hq | hq
          · exact hok.1 q hq
          · rw [List.mem_singleton.mp hq]; exact hp
        have go : ∀ (p : Pc) c7 c8, PcOk p → p.sz = 1 + r3 → ∃ (d' : D) (ps' : List Pc) (a4 a5 a6 a7 a8 : Cell), [Cell.io v d6, .vl (.int most), .vl (.ml (ps.map pcD ++ [pcD p])), .vl (.int (plen ps + (1 + r3))), .vl x, .vl (.int w), .vl (.int (1 + r3)), c7, c8, .no] = [.io v d', .vl (.int most), .vl (.ml (ps'.map pcD)), .vl (.int (plen ps')), a4, a5, a6, a7, a8, .no] ∧ PatOk ps' ∧ (ds.length : Int) + ps'.length ≤ most ∧ Dice d' := fun p c7 c8 hp hz => by
          obtain ⟨a1, a2⟩ := hnext p hp hz
          refine ⟨d6, ps ++ [p], .vl x, .vl (.int w), .vl (.int (1 + r3)), c7, c8, ?_, a1, by rw [List.length_append, List.length_singleton]; omega, hd6⟩
          rw [a2, List.map_append]
          rfl
        rcases (by omega : w = 0 ∨ w = 1 ∨ w = 2) with rfl | rfl | rfl
        · (((with_reducible apply s_ex1); focus array_mem_dec); decreasing_trivial
           with_reducible apply s_x; decreasing_trivial
           ((with_reducible apply s_mt); focus array_mem_dec); decreasing_trivial
           with_reducible apply s_cons; decreasing_trivial
           with_reducible apply s_op; decreasing_trivial
           with_reducible apply s_lst; decreasing_trivial
           with_reducible apply s_cons; decreasing_trivial
           with_reducible apply s_tup; decreasing_trivial
           with_reducible apply s_cons; decreasing_trivial
           with_reducible apply s_c; decreasing_trivial
           with_reducible apply s_fz_str; decreasing_trivial
           with_reducible apply s_cons; decreasing_trivial
           ((with_reducible apply s_vp); focus array_mem_dec); decreasing_trivial
           with_reducible apply s_fro_int; decreasing_trivial
           with_reducible apply s_fz_int; decreasing_trivial
           with_reducible apply s_cons; decreasing_trivial
           ((with_reducible apply s_vp); focus array_mem_dec); decreasing_trivial
           with_reducible apply s_fro_int; decreasing_trivial
           with_reducible apply s_fz_int; decreasing_trivial
           with_reducible apply s_nil; decreasing_trivial
           ((with_reducible apply s_sz); focus array_get_dec); decreasing_trivial
           with_reducible apply s_fz_tup; decreasing_trivial
           with_reducible apply s_cons; decreasing_trivial
           with_reducible apply s_tup; decreasing_trivial
           with_reducible apply s_cons; decreasing_trivial
           with_reducible apply s_c; decreasing_trivial
           with_reducible apply s_fz_str; decreasing_trivial
           with_reducible apply s_cons; decreasing_trivial
           with_reducible apply s_call; decreasing_trivial
           with_reducible apply s_wav; decreasing_trivial
           ((with_reducible apply s_v); focus array_mem_dec); decreasing_trivial
           with_reducible apply s_fz_ml; decreasing_trivial
           with_reducible apply s_fz_lst; decreasing_trivial
           with_reducible apply s_wanil; decreasing_trivial
           ((with_reducible apply s_callk); (focus rfl); (focus (first | decide | simp)); (focus (intro; rfl)); intro _); decreasing_trivial)
          refine c_bytes_of hg8 (by omega) ?_
          (((with_reducible apply s_ex1); focus array_mem_dec); decreasing_trivial
           with_reducible apply s_fz_byt; decreasing_trivial
           with_reducible apply s_nil; decreasing_trivial
           ((with_reducible apply s_sz); focus array_get_dec); decreasing_trivial
           with_reducible apply s_fz_tup; decreasing_trivial
           with_reducible apply s_cons; decreasing_trivial
           with_reducible apply s_tup; decreasing_trivial
           with_reducible apply s_cons; decreasing_trivial
           with_reducible apply s_c; decreasing_trivial
           with_reducible apply s_fz_str; decreasing_trivial
           with_reducible apply s_cons; decreasing_trivial
           ((with_reducible apply s_opP); focus array_mem_dec); decreasing_trivial
           with_reducible apply s_c; decreasing_trivial
           ((with_reducible apply s_pl); focus array_mem_dec); decreasing_trivial
           ((with_reducible apply s_ixlst); focus array_mem_dec); decreasing_trivial
           with_reducible apply s_fz_int; decreasing_trivial
           with_reducible apply s_cons; decreasing_trivial
           ((with_reducible apply s_vp); focus array_mem_dec); decreasing_trivial
           with_reducible apply s_fro_int; decreasing_trivial
           with_reducible apply s_fz_int; decreasing_trivial
           with_reducible apply s_nil; decreasing_trivial
           ((with_reducible apply s_sz); focus array_get_dec); decreasing_trivial
           with_reducible apply s_fz_tup; decreasing_trivial
           with_reducible apply s_nil; decreasing_trivial
           ((with_reducible apply s_sz); focus array_get_dec); decreasing_trivial
           ((with_reducible apply s_vp); focus array_mem_dec); decreasing_trivial
           with_reducible apply s_fro_int; decreasing_trivial
           ((with_reducible apply s_ixml); focus array_mem_dec); decreasing_trivial
           with_reducible apply s_fz_tup; decreasing_trivial
           with_reducible apply s_nil; decreasing_trivial
           ((with_reducible apply s_plml); focus array_mem_dec); decreasing_trivial
           ((with_reducible apply s_append); first | (focus array_get_dec) | rotate_left 1); decreasing_trivial
           ((with_reducible apply s_pt); focus array_mem_dec); decreasing_trivial)
          exact ih _ <| go (.cp r5 (1 + r3)) _ _ ⟨h50, by omega, by omega⟩ rfl
        · (((with_reducible apply s_ex1); focus array_mem_dec); decreasing_trivial
           with_reducible apply s_x; decreasing_trivial
           ((with_reducible apply s_mt); focus array_mem_dec); decreasing_trivial
           with_reducible apply s_cons; decreasing_trivial
           with_reducible apply s_op; decreasing_trivial
           with_reducible apply s_lst; decreasing_trivial
           with_reducible apply s_cons; decreasing_trivial
           with_reducible apply s_tup; decreasing_trivial
           with_reducible apply s_cons; decreasing_trivial
           with_reducible apply s_c; decreasing_trivial
           with_reducible apply s_fz_str; decreasing_trivial
           with_reducible apply s_cons; decreasing_trivial
           ((with_reducible apply s_vp); focus array_mem_dec); decreasing_trivial
           with_reducible apply s_fro_int; decreasing_trivial
           with_reducible apply s_fz_int; decreasing_trivial
           with_reducible apply s_cons; decreasing_trivial
           ((with_reducible apply s_vp); focus array_mem_dec); decreasing_trivial
           with_reducible apply s_fro_int; decreasing_trivial
           with_reducible apply s_fz_int; decreasing_trivial
           with_reducible apply s_nil; decreasing_trivial
           ((with_reducible apply s_sz); focus array_get_dec); decreasing_trivial
           with_reducible apply s_fz_tup; decreasing_trivial
           with_reducible apply s_cons; decreasing_trivial
           with_reducible apply s_tup; decreasing_trivial
           with_reducible apply s_cons; decreasing_trivial
           with_reducible apply s_c; decreasing_trivial
           with_reducible apply s_fz_str; decreasing_trivial
           with_reducible apply s_cons; decreasing_trivial
           with_reducible apply s_call; decreasing_trivial
           with_reducible apply s_wav; decreasing_trivial
           ((with_reducible apply s_v); focus array_mem_dec); decreasing_trivial
           with_reducible apply s_fz_ml; decreasing_trivial
           with_reducible apply s_fz_lst; decreasing_trivial
           with_reducible apply s_wanil; decreasing_trivial
           ((with_reducible apply s_callk); (focus rfl); (focus (first | decide | simp)); (focus (intro; rfl)); intro _); decreasing_trivial)
          refine c_bytes_of hg8 (by omega) ?_
          (((with_reducible apply s_ex1); focus array_mem_dec); decreasing_trivial
           with_reducible apply s_fz_byt; decreasing_trivial
           with_reducible apply s_nil; decreasing_trivial
           ((with_reducible apply s_sz); focus array_get_dec); decreasing_trivial
           with_reducible apply s_fz_tup; decreasing_trivial
           with_reducible apply s_cons; decreasing_trivial
           with_reducible apply s_tup; decreasing_trivial
           with_reducible apply s_cons; decreasing_trivial
           with_reducible apply s_c; decreasing_trivial
           with_reducible apply s_fz_str; decreasing_trivial
           with_reducible apply s_cons; decreasing_trivial
           ((with_reducible apply s_opP); focus array_mem_dec); decreasing_trivial
           with_reducible apply s_c; decreasing_trivial
           ((with_reducible apply s_pl); focus array_mem_dec); decreasing_trivial
           ((with_reducible apply s_ixlst); focus array_mem_dec); decreasing_trivial
           with_reducible apply s_fz_int; decreasing_trivial
           with_reducible apply s_cons; decreasing_trivial
           ((with_reducible apply s_vp); focus array_mem_dec); decreasing_trivial
           with_reducible apply s_fro_int; decreasing_trivial
           with_reducible apply s_fz_int; decreasing_trivial
           with_reducible apply s_nil; decreasing_trivial
           ((with_reducible apply s_sz); focus array_get_dec); decreasing_trivial
           with_reducible apply s_fz_tup; decreasing_trivial
           with_reducible apply s_nil; decreasing_trivial
           ((with_reducible apply s_sz); focus array_get_dec); decreasing_trivial
           ((with_reducible apply s_vp); focus array_mem_dec); decreasing_trivial
           with_reducible apply s_fro_int; decreasing_trivial
           ((with_reducible apply s_ixml); focus array_mem_dec); decreasing_trivial
           with_reducible apply s_fz_tup; decreasing_trivial
           with_reducible apply s_nil; decreasing_trivial
           ((with_reducible apply s_plml); focus array_mem_dec); decreasing_trivial
           ((with_reducible apply s_append); first | (focus array_get_dec) | rotate_left 1); decreasing_trivial
           ((with_reducible apply s_pt); focus array_mem_dec); decreasing_trivial)
          exact ih _ <| go (.br gs) _ _ ⟨by omega, by omega, hg8⟩ hgl
        · (((with_reducible apply s_ex1); focus array_mem_dec); decreasing_trivial
           with_reducible apply s_x; decreasing_trivial
           ((with_reducible apply s_mt); focus array_mem_dec); decreasing_trivial
           with_reducible apply s_cons; decreasing_trivial
           with_reducible apply s_op; decreasing_trivial
           with_reducible apply s_lst; decreasing_trivial
           with_reducible apply s_cons; decreasing_trivial
           with_reducible apply s_tup; decreasing_trivial
           with_reducible apply s_cons; decreasing_trivial
           with_reducible apply s_c; decreasing_trivial
           with_reducible apply s_fz_str; decreasing_trivial
           with_reducible apply s_cons; decreasing_trivial
           ((with_reducible apply s_vp); focus array_mem_dec); decreasing_trivial
           with_reducible apply s_fro_int; decreasing_trivial
           with_reducible apply s_fz_int; decreasing_trivial
           with_reducible apply s_cons; decreasing_trivial
           ((with_reducible apply s_vp); focus array_mem_dec); decreasing_trivial
           with_reducible apply s_fro_int; decreasing_trivial
           with_reducible apply s_fz_int; decreasing_trivial
           with_reducible apply s_nil; decreasing_trivial
           ((with_reducible apply s_sz); focus array_get_dec); decreasing_trivial
           with_reducible apply s_fz_tup; decreasing_trivial
           with_reducible apply s_cons; decreasing_trivial
           with_reducible apply s_tup; decreasing_trivial
           with_reducible apply s_cons; decreasing_trivial
           with_reducible apply s_c; decreasing_trivial
           with_reducible apply s_fz_str; decreasing_trivial
           with_reducible apply s_cons; decreasing_trivial
           with_reducible apply s_call; decreasing_trivial
           with_reducible apply s_wav; decreasing_trivial
           ((with_reducible apply s_v); focus array_mem_dec); decreasing_trivial
           with_reducible apply s_fz_ml; decreasing_trivial
           with_reducible apply s_fz_lst; decreasing_trivial
           with_reducible apply s_wanil; decreasing_trivial
           ((with_reducible apply s_callk); (focus rfl); (focus (first | decide | simp)); (focus (intro; rfl)); intro _); decreasing_trivial)
          refine c_bytes_of hg8 (by omega) ?_
          (((with_reducible apply s_ex1); focus array_mem_dec); decreasing_trivial
           with_reducible apply s_fz_byt; decreasing_trivial
           with_reducible apply s_nil; decreasing_trivial
           ((with_reducible apply s_sz); focus array_get_dec); decreasing_trivial
           with_reducible apply s_fz_tup; decreasing_trivial
           with_reducible apply s_cons; decreasing_trivial
           with_reducible apply s_tup; decreasing_trivial
           with_reducible apply s_cons; decreasing_trivial
           with_reducible apply s_c; decreasing_trivial
           with_reducible apply s_fz_str; decreasing_trivial
           with_reducible apply s_cons; decreasing_trivial
           ((with_reducible apply s_opP); focus array_mem_dec); decreasing_trivial
           with_reducible apply s_c; decreasing_trivial
           ((with_reducible apply s_pl); focus array_mem_dec); decreasing_trivial
           ((with_reducible apply s_ixlst); focus array_mem_dec); decreasing_trivial
           with_reducible apply s_fz_int; decreasing_trivial
           with_reducible apply s_cons; decreasing_trivial
           ((with_reducible apply s_vp); focus array_mem_dec); decreasing_trivial
           with_reducible apply s_fro_int; decreasing_trivial
           with_reducible apply s_fz_int; decreasing_trivial
           with_reducible apply s_nil; decreasing_trivial
           ((with_reducible apply s_sz); focus array_get_dec); decreasing_trivial
           with_reducible apply s_fz_tup; decreasing_trivial
           with_reducible apply s_nil; decreasing_trivial
           ((with_reducible apply s_sz); focus array_get_dec); decreasing_trivial
           ((with_reducible apply s_vp); focus array_mem_dec); decreasing_trivial
           with_reducible apply s_fro_int; decreasing_trivial
           ((with_reducible apply s_ixml); focus array_mem_dec); decreasing_trivial
           with_reducible apply s_fz_tup; decreasing_trivial
           with_reducible apply s_nil; decreasing_trivial
           ((with_reducible apply s_plml); focus array_mem_dec); decreasing_trivial
           ((with_reducible apply s_append); first | (focus array_get_dec) | rotate_left 1); decreasing_trivial
           ((with_reducible apply s_pt); focus array_mem_dec); decreasing_trivial)
          exact ih _ <| go (.rn g0 (1 + r3)) _ _ ⟨hg0.1, by omega, by omega, by omega⟩ rfl
      · simp [rangeL]
        omega
    · rw [if_neg (fun z => hfit (of_decide_eq_true z))]
      (with_reducible apply s_nx; decreasing_trivial)
      exact ih _ ⟨d4, ps, _, _, _, _, _, rfl, hok, by omega, hd4⟩
  · rintro _ ⟨d, ps, c4, c5, c6, c7, c8, rfl, hok, hlen, hd⟩
    (with_reducible apply s_ret; decreasing_trivial
     ((with_reducible apply s_call1P); focus array_mem_dec); decreasing_trivial
     with_reducible apply s_tupleml; decreasing_trivial
     ((with_reducible apply s_retr); focus (repeat (first | exact r_nil | apply r_vl (by rfl) | apply r_io | apply r_no))); decreasing_trivial)
    exact hP ps d hok (by simp at hlen; omega) hd
theorem c_law_patch {xi : Xi} {v : V} {d : D} {most : Int} {P : D → Rho → Prop} (hd : Dice d) (h0 : 0 ≤ most) (h1 : most ≤ 100) (h : ∀ (ps : List Pc) (d' : D), PatOk ps → (ps.length : Int) ≤ most → Dice d' → P (patD ps) [.io v d', .vl (.int most)]) : w__law_patch xi [.io v d, .vl (.int most)] P := ⟨v, d, most, rfl, hd, h0, h1, h⟩

open TL
/-! ### the row of a piece -/
def numsP : Pc → List Int
  | .cp b n => [b, n]
  | .br ns => ns
  | .rn b n => [b, n]
theorem log_small {i : Int} (h : 0 ≤ i) (h2 : i ≤ 999) : i.natAbs.log2 < 1920 := by
  have : i.natAbs < 2 ^ 10 := by omega
  have h3 : i.natAbs.log2 < 10 ∨ i.natAbs = 0 := by
    by_cases e : i.natAbs = 0
    · exact .inr e
    · exact .inl ((Nat.log2_lt e).mpr this)
  rcases h3 with h3 | h3
  · omega
  · rw [h3]; decide
theorem numsP_ok {p : Pc} (h : PcOk p) : ∀ i, i ∈ numsP p → 0 ≤ i ∧ i ≤ 255 := fun i hi => by
  cases p with
  | cp b n =>
    obtain ⟨h1, h2, h3⟩ := h
    simp only [numsP, List.mem_cons, List.not_mem_nil, or_false] at hi
    rcases hi with rfl | rfl <;> omega
  | br ns => have := h.2.2 i hi; omega
  | rn b n =>
    obtain ⟨h1, h2, h3, h4⟩ := h
    simp only [numsP, List.mem_cons, List.not_mem_nil, or_false] at hi
    rcases hi with rfl | rfl <;> omega
def wordP : Pc → Str
  | .cp _ _ => Str.ofString "copy"
  | .br _ => Str.ofString "bring"
  | .rn _ _ => Str.ofString "run"
theorem partsT_eq (p : Pc) : partsT p = [wordP p] ++ (numsP p).map numT := by cases p <;> rfl
def b__law_row : WS := (wSeq (wSet 1 (wIf (wB (wOp eqD (wOpP ixD 0 [] (wC (.int 0))) (wC (.str "bring")))) (wCall 1 w_numbers_of (waV (wOpP ixD 0 [] (wC (.int 1))) waNil)) (wCall1 listD (wSl (wVp 0) (woS (wC (.int 1))) woN)))) (wRet (wMs joinSD (wC (.str " ")) (wOp addD (wLst (wCons (wOpP ixD 0 [] (wC (.int 0))) wNil)) (wLc (.nm 2) [2] (wIt (wV 1)) wYes (wCall1P strD 2 []))))))
def w__law_row : WE := fun _ ρ P => ∃ p, ρ = [.vl (pcD p)] ∧ PcOk p ∧ P (.str (rowT p)) [.vl (pcD p)]
theorem u__law_row : UB 1 3 w__law_row b__law_row := by
  rintro ρ P0 - ⟨p, rfl, hp, hP⟩
  have hpl := (part_len hp).1
  have hjs := parts_sum hp
  have hno := numsP_ok hp
  have hpe := partsT_eq p
  have hl : (numsP p).length ≤ 200 := by rw [hpe, List.length_append, List.length_map] at hpl; simp at hpl; omega
  cases p with
  | cp b n =>
    have row : rowT (Pc.cp b n) = Txt.join (Str.ofString " ") (partsT (Pc.cp b n)) := rfl
    rw [row] at hP
    show b__law_row _ [.vl (.tup [.str "copy", .int b, .int n]), .no, .no] _
    unfold b__law_row
    (with_reducible apply s_seq; decreasing_trivial
     with_reducible apply s_set; decreasing_trivial
     with_reducible apply s_if; decreasing_trivial
     with_reducible apply s_b; decreasing_trivial
     with_reducible apply s_op; decreasing_trivial
     ((with_reducible apply s_opP); focus array_mem_dec); decreasing_trivial
     with_reducible apply s_c; decreasing_trivial
     ((with_reducible apply s_pl); focus array_mem_dec); decreasing_trivial
     ((with_reducible apply s_ixtup); focus array_mem_dec); decreasing_trivial
     with_reducible apply s_c; decreasing_trivial
     ((with_reducible apply s_eq); focus array_mem_dec); decreasing_trivial
     ((with_reducible apply s_ifF); focus array_get_dec); decreasing_trivial
     with_reducible apply s_call1; decreasing_trivial
     with_reducible apply s_sl; decreasing_trivial
     ((with_reducible apply s_vp); focus array_mem_dec); decreasing_trivial
     with_reducible apply s_fro_tup; decreasing_trivial
     with_reducible apply s_os; decreasing_trivial
     with_reducible apply s_c; decreasing_trivial
     with_reducible apply s_on; decreasing_trivial
     with_reducible apply s_sltup; decreasing_trivial
     with_reducible apply s_listtup; decreasing_trivial
     with_reducible apply s_ret; decreasing_trivial
     with_reducible apply s_ms; decreasing_trivial
     with_reducible apply s_c; decreasing_trivial
     ((with_reducible apply s_sz); focus array_get_dec); decreasing_trivial
     with_reducible apply s_op; decreasing_trivial
     with_reducible apply s_lst; decreasing_trivial
     with_reducible apply s_cons; decreasing_trivial
     ((with_reducible apply s_opP); focus array_mem_dec); decreasing_trivial
     with_reducible apply s_c; decreasing_trivial
     ((with_reducible apply s_pl); focus array_mem_dec); decreasing_trivial
     ((with_reducible apply s_ixtup); focus array_mem_dec); decreasing_trivial
     with_reducible apply s_fz_str; decreasing_trivial
     with_reducible apply s_nil; decreasing_trivial
     ((with_reducible apply s_sz); focus array_get_dec); decreasing_trivial
     with_reducible apply s_lc; decreasing_trivial
     with_reducible apply s_it; decreasing_trivial
     ((with_reducible apply s_v); focus array_mem_dec); decreasing_trivial
     with_reducible apply s_fz_ml; decreasing_trivial
     with_reducible apply s_fz_lst; decreasing_trivial)
    rw [show cutL [D.str (Str.ofString "copy"), D.int b, D.int n] (some 1) none = [b, n].map D.int from rfl]
    refine lcD_mapA D.int (fun i => some (.str (numT i))) (fun i hi K0 K1 hkk => ?_) ?_ ?_
    · obtain ⟨i1, i2⟩ := hno i hi
      have hlog := log_small i1 (by omega)
      refine ⟨[.vl (.tup [.str "copy", .int b, .int n]), .vl (.lst ([b, n].map .int)), .vl (.int i)], rfl, ?_⟩
      (with_reducible apply s_yes; decreasing_trivial
       ((with_reducible apply s_ifT); focus array_get_dec); decreasing_trivial
       ((with_reducible apply s_call1P); focus array_mem_dec); decreasing_trivial
       ((with_reducible apply s_str); (focus assumption)); decreasing_trivial
       with_reducible apply s_fz_str; decreasing_trivial)
      exact hkk
    · rw [List.filterMap_eq_map', List.length_map]; show 0 + (numsP (Pc.cp b n)).length ≤ _; omega
    rw [List.filterMap_eq_map', List.nil_append, show ([b, n].map fun i => D.str (numT i)) = ((numsP (Pc.cp b n)).map numT).map D.str by rw [List.map_map]; rfl]
    have hal : [D.str (Str.ofString "copy")].length + (((numsP (Pc.cp b n)).map numT).map D.str).length ≤ 100000 := by rw [List.length_map, List.length_map]; show 1 + _ ≤ _; omega
    (((with_reducible apply s_addmlml); first | (focus array_get_dec) | rotate_left 1); decreasing_trivial)
    refine s_joinS (ys := partsT (Pc.cp b n)) ?_ hjs ?_
    · rw [hpe, List.map_append]; rfl
    (((with_reducible apply s_retr); focus (repeat (first | exact r_nil | apply r_vl (by rfl) | apply r_io | apply r_no))); decreasing_trivial)
    exact hP
  | br ns =>
    have row : rowT (Pc.br ns) = Txt.join (Str.ofString " ") (partsT (Pc.br ns)) := rfl
    rw [row] at hP
    show b__law_row _ [.vl (.tup [.str "bring", .byt ns]), .no, .no] _
    unfold b__law_row
    have hnl : ns.length ≤ 100000 := by have := hp.2.1; omega
    (with_reducible apply s_seq; decreasing_trivial
     with_reducible apply s_set; decreasing_trivial
     with_reducible apply s_if; decreasing_trivial
     with_reducible apply s_b; decreasing_trivial
     with_reducible apply s_op; decreasing_trivial
     ((with_reducible apply s_opP); focus array_mem_dec); decreasing_trivial
     with_reducible apply s_c; decreasing_trivial
     ((with_reducible apply s_pl); focus array_mem_dec); decreasing_trivial
     ((with_reducible apply s_ixtup); focus array_mem_dec); decreasing_trivial
     with_reducible apply s_c; decreasing_trivial
     ((with_reducible apply s_eq); focus array_mem_dec); decreasing_trivial
     ((with_reducible apply s_ifT); focus array_get_dec); decreasing_trivial
     with_reducible apply s_call; decreasing_trivial
     with_reducible apply s_wav; decreasing_trivial
     ((with_reducible apply s_opP); focus array_mem_dec); decreasing_trivial
     with_reducible apply s_c; decreasing_trivial
     ((with_reducible apply s_pl); focus array_mem_dec); decreasing_trivial
     ((with_reducible apply s_ixtup); focus array_mem_dec); decreasing_trivial
     with_reducible apply s_fz_byt; decreasing_trivial
     with_reducible apply s_wanil; decreasing_trivial
     ((with_reducible apply s_callk); (focus rfl); (focus (first | decide | simp)); (focus (intro; rfl)); intro _); decreasing_trivial)
    refine ⟨ns, rfl, hnl, ?_⟩
    (((with_reducible apply s_ex1); focus array_mem_dec); decreasing_trivial
     with_reducible apply s_ret; decreasing_trivial
     with_reducible apply s_ms; decreasing_trivial
     with_reducible apply s_c; decreasing_trivial
     ((with_reducible apply s_sz); focus array_get_dec); decreasing_trivial
     with_reducible apply s_op; decreasing_trivial
     with_reducible apply s_lst; decreasing_trivial
     with_reducible apply s_cons; decreasing_trivial
     ((with_reducible apply s_opP); focus array_mem_dec); decreasing_trivial
     with_reducible apply s_c; decreasing_trivial
     ((with_reducible apply s_pl); focus array_mem_dec); decreasing_trivial
     ((with_reducible apply s_ixtup); focus array_mem_dec); decreasing_trivial
     with_reducible apply s_fz_str; decreasing_trivial
     with_reducible apply s_nil; decreasing_trivial
     ((with_reducible apply s_sz); focus array_get_dec); decreasing_trivial
     with_reducible apply s_lc; decreasing_trivial
     with_reducible apply s_it; decreasing_trivial
     ((with_reducible apply s_v); focus array_mem_dec); decreasing_trivial
     with_reducible apply s_fz_ml; decreasing_trivial
     with_reducible apply s_fz_lst; decreasing_trivial)
    refine lcD_mapA D.int (fun i => some (.str (numT i))) (fun i hi K0 K1 hkk => ?_) ?_ ?_
    · obtain ⟨i1, i2⟩ := hno i hi
      have hlog := log_small i1 (by omega)
      refine ⟨[.vl (.tup [.str "bring", .byt ns]), .vl (.lst (ns.map .int)), .vl (.int i)], rfl, ?_⟩
      (with_reducible apply s_yes; decreasing_trivial
       ((with_reducible apply s_ifT); focus array_get_dec); decreasing_trivial
       ((with_reducible apply s_call1P); focus array_mem_dec); decreasing_trivial
       ((with_reducible apply s_str); (focus assumption)); decreasing_trivial
       with_reducible apply s_fz_str; decreasing_trivial)
      exact hkk
    · rw [List.filterMap_eq_map', List.length_map]; show 0 + (numsP (Pc.br ns)).length ≤ _; omega
    rw [List.filterMap_eq_map', List.nil_append, show (ns.map fun i => D.str (numT i)) = ((numsP (Pc.br ns)).map numT).map D.str by rw [List.map_map]; rfl]
    have hal : [D.str (Str.ofString "bring")].length + (((numsP (Pc.br ns)).map numT).map D.str).length ≤ 100000 := by rw [List.length_map, List.length_map]; show 1 + _ ≤ _; omega
    (((with_reducible apply s_addmlml); first | (focus array_get_dec) | rotate_left 1); decreasing_trivial)
    refine s_joinS (ys := partsT (Pc.br ns)) ?_ hjs ?_
    · rw [hpe, List.map_append]; rfl
    (((with_reducible apply s_retr); focus (repeat (first | exact r_nil | apply r_vl (by rfl) | apply r_io | apply r_no))); decreasing_trivial)
    exact hP
  | rn b n =>
    have row : rowT (Pc.rn b n) = Txt.join (Str.ofString " ") (partsT (Pc.rn b n)) := rfl
    rw [row] at hP
    show b__law_row _ [.vl (.tup [.str "run", .int b, .int n]), .no, .no] _
    unfold b__law_row
    (with_reducible apply s_seq; decreasing_trivial
     with_reducible apply s_set; decreasing_trivial
     with_reducible apply s_if; decreasing_trivial
     with_reducible apply s_b; decreasing_trivial
     with_reducible apply s_op; decreasing_trivial
     ((with_reducible apply s_opP); focus array_mem_dec); decreasing_trivial
     with_reducible apply s_c; decreasing_trivial
     ((with_reducible apply s_pl); focus array_mem_dec); decreasing_trivial
     ((with_reducible apply s_ixtup); focus array_mem_dec); decreasing_trivial
     with_reducible apply s_c; decreasing_trivial
     ((with_reducible apply s_eq); focus array_mem_dec); decreasing_trivial
     ((with_reducible apply s_ifF); focus array_get_dec); decreasing_trivial
     with_reducible apply s_call1; decreasing_trivial
     with_reducible apply s_sl; decreasing_trivial
     ((with_reducible apply s_vp); focus array_mem_dec); decreasing_trivial
     with_reducible apply s_fro_tup; decreasing_trivial
     with_reducible apply s_os; decreasing_trivial
     with_reducible apply s_c; decreasing_trivial
     with_reducible apply s_on; decreasing_trivial
     with_reducible apply s_sltup; decreasing_trivial
     with_reducible apply s_listtup; decreasing_trivial
     with_reducible apply s_ret; decreasing_trivial
     with_reducible apply s_ms; decreasing_trivial
     with_reducible apply s_c; decreasing_trivial
     ((with_reducible apply s_sz); focus array_get_dec); decreasing_trivial
     with_reducible apply s_op; decreasing_trivial
     with_reducible apply s_lst; decreasing_trivial
     with_reducible apply s_cons; decreasing_trivial
     ((with_reducible apply s_opP); focus array_mem_dec); decreasing_trivial
     with_reducible apply s_c; decreasing_trivial
     ((with_reducible apply s_pl); focus array_mem_dec); decreasing_trivial
     ((with_reducible apply s_ixtup); focus array_mem_dec); decreasing_trivial
     with_reducible apply s_fz_str; decreasing_trivial
     with_reducible apply s_nil; decreasing_trivial
     ((with_reducible apply s_sz); focus array_get_dec); decreasing_trivial
     with_reducible apply s_lc; decreasing_trivial
     with_reducible apply s_it; decreasing_trivial
     ((with_reducible apply s_v); focus array_mem_dec); decreasing_trivial
     with_reducible apply s_fz_ml; decreasing_trivial
     with_reducible apply s_fz_lst; decreasing_trivial)
    rw [show cutL [D.str (Str.ofString "run"), D.int b, D.int n] (some 1) none = [b, n].map D.int from rfl]
    refine lcD_mapA D.int (fun i => some (.str (numT i))) (fun i hi K0 K1 hkk => ?_) ?_ ?_
    · obtain ⟨i1, i2⟩ := hno i hi
      have hlog := log_small i1 (by omega)
      refine ⟨[.vl (.tup [.str "run", .int b, .int n]), .vl (.lst ([b, n].map .int)), .vl (.int i)], rfl, ?_⟩
      (with_reducible apply s_yes; decreasing_trivial
       ((with_reducible apply s_ifT); focus array_get_dec); decreasing_trivial
       ((with_reducible apply s_call1P); focus array_mem_dec); decreasing_trivial
       ((with_reducible apply s_str); (focus assumption)); decreasing_trivial
       with_reducible apply s_fz_str; decreasing_trivial)
      exact hkk
    · rw [List.filterMap_eq_map', List.length_map]; show 0 + (numsP (Pc.rn b n)).length ≤ _; omega
    rw [List.filterMap_eq_map', List.nil_append, show ([b, n].map fun i => D.str (numT i)) = ((numsP (Pc.rn b n)).map numT).map D.str by rw [List.map_map]; rfl]
    have hal : [D.str (Str.ofString "run")].length + (((numsP (Pc.rn b n)).map numT).map D.str).length ≤ 100000 := by rw [List.length_map, List.length_map]; show 1 + _ ≤ _; omega
    (((with_reducible apply s_addmlml); first | (focus array_get_dec) | rotate_left 1); decreasing_trivial)
    refine s_joinS (ys := partsT (Pc.rn b n)) ?_ hjs ?_
    · rw [hpe, List.map_append]; rfl
    (((with_reducible apply s_retr); focus (repeat (first | exact r_nil | apply r_vl (by rfl) | apply r_io | apply r_no))); decreasing_trivial)
    exact hP
def b_piece_row : WS := (wSeq (wSet 1 (wIf (wB (wOp eqD (wOpP ixD 0 [] (wC (.int 0))) (wC (.str "bring")))) (wCall1 listD (wOpP ixD 0 [] (wC (.int 1)))) (wCall1 listD (wSl (wVp 0) (woS (wC (.int 1))) woN)))) (wRet (wMs joinSD (wC (.str " ")) (wOp addD (wLst (wCons (wOpP ixD 0 [] (wC (.int 0))) wNil)) (wLc (.nm 2) [2] (wIt (wV 1)) wYes (wCall1P strD 2 []))))))
def w_piece_row : WE := fun _ ρ P => ∃ p, ρ = [.vl (pcD p)] ∧ PcOk p ∧ P (.str (rowT p)) [.vl (pcD p)]
theorem u_piece_row : UB 1 3 w_piece_row b_piece_row := by
  rintro ρ P0 - ⟨p, rfl, hp, hP⟩
  have hpl := (part_len hp).1
  have hjs := parts_sum hp
  have hno := numsP_ok hp
  have hpe := partsT_eq p
  have hl : (numsP p).length ≤ 200 := by rw [hpe, List.length_append, List.length_map] at hpl; simp at hpl; omega
  cases p with
  | cp b n =>
    have row : rowT (Pc.cp b n) = Txt.join (Str.ofString " ") (partsT (Pc.cp b n)) := rfl
    rw [row] at hP
    show b_piece_row _ [.vl (.tup [.str "copy", .int b, .int n]), .no, .no] _
    unfold b_piece_row
    (with_reducible apply s_seq; decreasing_trivial
     with_reducible apply s_set; decreasing_trivial
     with_reducible apply s_if; decreasing_trivial
     with_reducible apply s_b; decreasing_trivial
     with_reducible apply s_op; decreasing_trivial
     ((with_reducible apply s_opP); focus array_mem_dec); decreasing_trivial
     with_reducible apply s_c; decreasing_trivial
     ((with_reducible apply s_pl); focus array_mem_dec); decreasing_trivial
     ((with_reducible apply s_ixtup); focus array_mem_dec); decreasing_trivial
     with_reducible apply s_c; decreasing_trivial
     ((with_reducible apply s_eq); focus array_mem_dec); decreasing_trivial
     ((with_reducible apply s_ifF); focus array_get_dec); decreasing_trivial
     with_reducible apply s_call1; decreasing_trivial
     with_reducible apply s_sl; decreasing_trivial
     ((with_reducible apply s_vp); focus array_mem_dec); decreasing_trivial
     with_reducible apply s_fro_tup; decreasing_trivial
     with_reducible apply s_os; decreasing_trivial
     with_reducible apply s_c; decreasing_trivial
     with_reducible apply s_on; decreasing_trivial
     with_reducible apply s_sltup; decreasing_trivial
     with_reducible apply s_listtup; decreasing_trivial
     with_reducible apply s_ret; decreasing_trivial
     with_reducible apply s_ms; decreasing_trivial
     with_reducible apply s_c; decreasing_trivial
     ((with_reducible apply s_sz); focus array_get_dec); decreasing_trivial
     with_reducible apply s_op; decreasing_trivial
     with_reducible apply s_lst; decreasing_trivial
     with_reducible apply s_cons; decreasing_trivial
     ((with_reducible apply s_opP); focus array_mem_dec); decreasing_trivial
     with_reducible apply s_c; decreasing_trivial
     ((with_reducible apply s_pl); focus array_mem_dec); decreasing_trivial
     ((with_reducible apply s_ixtup); focus array_mem_dec); decreasing_trivial
     with_reducible apply s_fz_str; decreasing_trivial
     with_reducible apply s_nil; decreasing_trivial
     ((with_reducible apply s_sz); focus array_get_dec); decreasing_trivial
     with_reducible apply s_lc; decreasing_trivial
     with_reducible apply s_it; decreasing_trivial
     ((with_reducible apply s_v); focus array_mem_dec); decreasing_trivial
     with_reducible apply s_fz_ml; decreasing_trivial
     with_reducible apply s_fz_lst; decreasing_trivial)
    rw [show cutL [D.str (Str.ofString "copy"), D.int b, D.int n] (some 1) none = [b, n].map D.int from rfl]
    refine lcD_mapA D.int (fun i => some (.str (numT i))) (fun i hi K0 K1 hkk => ?_) ?_ ?_
    · obtain ⟨i1, i2⟩ := hno i hi
      have hlog := log_small i1 (by omega)
      refine ⟨[.vl (.tup [.str "copy", .int b, .int n]), .vl (.lst ([b, n].map .int)), .vl (.int i)], rfl, ?_⟩
      (with_reducible apply s_yes; decreasing_trivial
       ((with_reducible apply s_ifT); focus array_get_dec); decreasing_trivial
       ((with_reducible apply s_call1P); focus array_mem_dec); decreasing_trivial
       ((with_reducible apply s_str); (focus assumption)); decreasing_trivial
       with_reducible apply s_fz_str; decreasing_trivial)
      exact hkk
    · rw [List.filterMap_eq_map', List.length_map]; show 0 + (numsP (Pc.cp b n)).length ≤ _; omega
    rw [List.filterMap_eq_map', List.nil_append, show ([b, n].map fun i => D.str (numT i)) = ((numsP (Pc.cp b n)).map numT).map D.str by rw [List.map_map]; rfl]
    have hal : [D.str (Str.ofString "copy")].length + (((numsP (Pc.cp b n)).map numT).map D.str).length ≤ 100000 := by rw [List.length_map, List.length_map]; show 1 + _ ≤ _; omega
    (((with_reducible apply s_addmlml); first | (focus array_get_dec) | rotate_left 1); decreasing_trivial)
    refine s_joinS (ys := partsT (Pc.cp b n)) ?_ hjs ?_
    · rw [hpe, List.map_append]; rfl
    (((with_reducible apply s_retr); focus (repeat (first | exact r_nil | apply r_vl (by rfl) | apply r_io | apply r_no))); decreasing_trivial)
    exact hP
  | br ns =>
    have row : rowT (Pc.br ns) = Txt.join (Str.ofString " ") (partsT (Pc.br ns)) := rfl
    rw [row] at hP
    show b_piece_row _ [.vl (.tup [.str "bring", .byt ns]), .no, .no] _
    unfold b_piece_row
    have hnl : ns.length ≤ 100000 := by have := hp.2.1; omega
    (with_reducible apply s_seq; decreasing_trivial
     with_reducible apply s_set; decreasing_trivial
     with_reducible apply s_if; decreasing_trivial
     with_reducible apply s_b; decreasing_trivial
     with_reducible apply s_op; decreasing_trivial
     ((with_reducible apply s_opP); focus array_mem_dec); decreasing_trivial
     with_reducible apply s_c; decreasing_trivial
     ((with_reducible apply s_pl); focus array_mem_dec); decreasing_trivial
     ((with_reducible apply s_ixtup); focus array_mem_dec); decreasing_trivial
     with_reducible apply s_c; decreasing_trivial
     ((with_reducible apply s_eq); focus array_mem_dec); decreasing_trivial
     ((with_reducible apply s_ifT); focus array_get_dec); decreasing_trivial
     with_reducible apply s_call1; decreasing_trivial
     ((with_reducible apply s_opP); focus array_mem_dec); decreasing_trivial
     with_reducible apply s_c; decreasing_trivial
     ((with_reducible apply s_pl); focus array_mem_dec); decreasing_trivial
     ((with_reducible apply s_ixtup); focus array_mem_dec); decreasing_trivial
     ((with_reducible apply s_listbyt); first | (focus array_get_dec) | rotate_left 1); decreasing_trivial
     with_reducible apply s_ret; decreasing_trivial
     with_reducible apply s_ms; decreasing_trivial
     with_reducible apply s_c; decreasing_trivial
     ((with_reducible apply s_sz); focus array_get_dec); decreasing_trivial
     with_reducible apply s_op; decreasing_trivial
     with_reducible apply s_lst; decreasing_trivial
     with_reducible apply s_cons; decreasing_trivial
     ((with_reducible apply s_opP); focus array_mem_dec); decreasing_trivial
     with_reducible apply s_c; decreasing_trivial
     ((with_reducible apply s_pl); focus array_mem_dec); decreasing_trivial
     ((with_reducible apply s_ixtup); focus array_mem_dec); decreasing_trivial
     with_reducible apply s_fz_str; decreasing_trivial
     with_reducible apply s_nil; decreasing_trivial
     ((with_reducible apply s_sz); focus array_get_dec); decreasing_trivial
     with_reducible apply s_lc; decreasing_trivial
     with_reducible apply s_it; decreasing_trivial
     ((with_reducible apply s_v); focus array_mem_dec); decreasing_trivial
     with_reducible apply s_fz_ml; decreasing_trivial
     with_reducible apply s_fz_lst; decreasing_trivial)
    refine lcD_mapA D.int (fun i => some (.str (numT i))) (fun i hi K0 K1 hkk => ?_) ?_ ?_
    · obtain ⟨i1, i2⟩ := hno i hi
      have hlog := log_small i1 (by omega)
      refine ⟨[.vl (.tup [.str "bring", .byt ns]), .vl (.lst (ns.map .int)), .vl (.int i)], rfl, ?_⟩
      (with_reducible apply s_yes; decreasing_trivial
       ((with_reducible apply s_ifT); focus array_get_dec); decreasing_trivial
       ((with_reducible apply s_call1P); focus array_mem_dec); decreasing_trivial
       ((with_reducible apply s_str); (focus assumption)); decreasing_trivial
       with_reducible apply s_fz_str; decreasing_trivial)
      exact hkk
    · rw [List.filterMap_eq_map', List.length_map]; show 0 + (numsP (Pc.br ns)).length ≤ _; omega
    rw [List.filterMap_eq_map', List.nil_append, show (ns.map fun i => D.str (numT i)) = ((numsP (Pc.br ns)).map numT).map D.str by rw [List.map_map]; rfl]
    have hal : [D.str (Str.ofString "bring")].length + (((numsP (Pc.br ns)).map numT).map D.str).length ≤ 100000 := by rw [List.length_map, List.length_map]; show 1 + _ ≤ _; omega
    (((with_reducible apply s_addmlml); first | (focus array_get_dec) | rotate_left 1); decreasing_trivial)
    refine s_joinS (ys := partsT (Pc.br ns)) ?_ hjs ?_
    · rw [hpe, List.map_append]; rfl
    (((with_reducible apply s_retr); focus (repeat (first | exact r_nil | apply r_vl (by rfl) | apply r_io | apply r_no))); decreasing_trivial)
    exact hP
  | rn b n =>
    have row : rowT (Pc.rn b n) = Txt.join (Str.ofString " ") (partsT (Pc.rn b n)) := rfl
    rw [row] at hP
    show b_piece_row _ [.vl (.tup [.str "run", .int b, .int n]), .no, .no] _
    unfold b_piece_row
    (with_reducible apply s_seq; decreasing_trivial
     with_reducible apply s_set; decreasing_trivial
     with_reducible apply s_if; decreasing_trivial
     with_reducible apply s_b; decreasing_trivial
     with_reducible apply s_op; decreasing_trivial
     ((with_reducible apply s_opP); focus array_mem_dec); decreasing_trivial
     with_reducible apply s_c; decreasing_trivial
     ((with_reducible apply s_pl); focus array_mem_dec); decreasing_trivial
     ((with_reducible apply s_ixtup); focus array_mem_dec); decreasing_trivial
     with_reducible apply s_c; decreasing_trivial
     ((with_reducible apply s_eq); focus array_mem_dec); decreasing_trivial
     ((with_reducible apply s_ifF); focus array_get_dec); decreasing_trivial
     with_reducible apply s_call1; decreasing_trivial
     with_reducible apply s_sl; decreasing_trivial
     ((with_reducible apply s_vp); focus array_mem_dec); decreasing_trivial
     with_reducible apply s_fro_tup; decreasing_trivial
     with_reducible apply s_os; decreasing_trivial
     with_reducible apply s_c; decreasing_trivial
     with_reducible apply s_on; decreasing_trivial
     with_reducible apply s_sltup; decreasing_trivial
     with_reducible apply s_listtup; decreasing_trivial
     with_reducible apply s_ret; decreasing_trivial
     with_reducible apply s_ms; decreasing_trivial
     with_reducible apply s_c; decreasing_trivial
     ((with_reducible apply s_sz); focus array_get_dec); decreasing_trivial
     with_reducible apply s_op; decreasing_trivial
     with_reducible apply s_lst; decreasing_trivial
     with_reducible apply s_cons; decreasing_trivial
     ((with_reducible apply s_opP); focus array_mem_dec); decreasing_trivial
     with_reducible apply s_c; decreasing_trivial
     ((with_reducible apply s_pl); focus array_mem_dec); decreasing_trivial
     ((with_reducible apply s_ixtup); focus array_mem_dec); decreasing_trivial
     with_reducible apply s_fz_str; decreasing_trivial
     with_reducible apply s_nil; decreasing_trivial
     ((with_reducible apply s_sz); focus array_get_dec); decreasing_trivial
     with_reducible apply s_lc; decreasing_trivial
     with_reducible apply s_it; decreasing_trivial
     ((with_reducible apply s_v); focus array_mem_dec); decreasing_trivial
     with_reducible apply s_fz_ml; decreasing_trivial
     with_reducible apply s_fz_lst; decreasing_trivial)
    rw [show cutL [D.str (Str.ofString "run"), D.int b, D.int n] (some 1) none = [b, n].map D.int from rfl]
    refine lcD_mapA D.int (fun i => some (.str (numT i))) (fun i hi K0 K1 hkk => ?_) ?_ ?_
    · obtain ⟨i1, i2⟩ := hno i hi
      have hlog := log_small i1 (by omega)
      refine ⟨[.vl (.tup [.str "run", .int b, .int n]), .vl (.lst ([b, n].map .int)), .vl (.int i)], rfl, ?_⟩
      (with_reducible apply s_yes; decreasing_trivial
       ((with_reducible apply s_ifT); focus array_get_dec); decreasing_trivial
       ((with_reducible apply s_call1P); focus array_mem_dec); decreasing_trivial
       ((with_reducible apply s_str); (focus assumption)); decreasing_trivial
       with_reducible apply s_fz_str; decreasing_trivial)
      exact hkk
    · rw [List.filterMap_eq_map', List.length_map]; show 0 + (numsP (Pc.rn b n)).length ≤ _; omega
    rw [List.filterMap_eq_map', List.nil_append, show ([b, n].map fun i => D.str (numT i)) = ((numsP (Pc.rn b n)).map numT).map D.str by rw [List.map_map]; rfl]
    have hal : [D.str (Str.ofString "run")].length + (((numsP (Pc.rn b n)).map numT).map D.str).length ≤ 100000 := by rw [List.length_map, List.length_map]; show 1 + _ ≤ _; omega
    (((with_reducible apply s_addmlml); first | (focus array_get_dec) | rotate_left 1); decreasing_trivial)
    refine s_joinS (ys := partsT (Pc.rn b n)) ?_ hjs ?_
    · rw [hpe, List.map_append]; rfl
    (((with_reducible apply s_retr); focus (repeat (first | exact r_nil | apply r_vl (by rfl) | apply r_io | apply r_no))); decreasing_trivial)
    exact hP
def b_written : WS := (wSeq (wX (wCall 1 w_need_patch (waV (wVp 0) waNil))) (wRet (wMs joinSD (wC (.str "\n")) (wLc (.nm 1) [1] (wIt (wVp 0)) wYes (wCall 1 w_piece_row (waV (wVp 1) waNil))))))
def w_written : WE := fun _ ρ P => ∃ ps, ρ = [.vl (patD ps)] ∧ PatOk ps ∧ P (.str (textT ps)) [.vl (patD ps)]
theorem u_written : UB 1 2 w_written b_written := by
  rintro ρ P0 - ⟨ps, rfl, hp, hP⟩
  show b_written _ [.vl (.tup (ps.map pcD)), .no] _
  have hpl := hp.2
  have hpn := plen_len hp.1
  have hrs := rows_sum hp.1 (by omega)
  unfold b_written
  (with_reducible apply s_seq; decreasing_trivial
   with_reducible apply s_x; decreasing_trivial
   with_reducible apply s_call; decreasing_trivial
   with_reducible apply s_wav; decreasing_trivial
   ((with_reducible apply s_vp); focus array_mem_dec); decreasing_trivial
   with_reducible apply s_fro_tup; decreasing_trivial
   with_reducible apply s_fz_tup; decreasing_trivial
   with_reducible apply s_wanil; decreasing_trivial
   ((with_reducible apply s_callk); (focus rfl); (focus (first | decide | simp)); (focus (intro; rfl)); intro _); decreasing_trivial)
  refine ⟨ps, rfl, hp, ?_⟩
  (((with_reducible apply s_ex1); focus array_mem_dec); decreasing_trivial
   with_reducible apply s_ret; decreasing_trivial
   with_reducible apply s_ms; decreasing_trivial
   with_reducible apply s_c; decreasing_trivial
   ((with_reducible apply s_sz); focus array_get_dec); decreasing_trivial
   with_reducible apply s_lc; decreasing_trivial
   with_reducible apply s_it; decreasing_trivial
   ((with_reducible apply s_vp); focus array_mem_dec); decreasing_trivial
   with_reducible apply s_fro_tup; decreasing_trivial
   with_reducible apply s_fz_tup; decreasing_trivial)
  refine lcD_mapA pcD (fun p => some (.str (rowT p))) (fun p hpm K0 K1 hkk => ?_) ?_ ?_
  · have hfp := frB_pc p
    refine ⟨_, rfl, ?_⟩
    (with_reducible apply s_yes; decreasing_trivial
     ((with_reducible apply s_ifT); focus array_get_dec); decreasing_trivial
     with_reducible apply s_call; decreasing_trivial
     with_reducible apply s_wav; decreasing_trivial
     ((with_reducible apply s_vp); focus array_mem_dec); decreasing_trivial
     ((with_reducible apply s_fro_of); (focus assumption)); decreasing_trivial
     ((with_reducible apply s_fz_of); (focus assumption)); decreasing_trivial
     with_reducible apply s_wanil; decreasing_trivial
     ((with_reducible apply s_callk); (focus rfl); (focus (first | decide | simp)); (focus (intro; rfl)); intro _); decreasing_trivial)
    refine ⟨p, rfl, hp.1 p hpm, ?_⟩
    (((with_reducible apply s_ex1); focus array_mem_dec); decreasing_trivial
     with_reducible apply s_fz_str; decreasing_trivial)
    exact hkk
  · rw [List.filterMap_eq_map', List.length_map]; show 0 + ps.length ≤ _; omega
  rw [List.filterMap_eq_map', List.nil_append, show (ps.map fun p => D.str (rowT p)) = (ps.map rowT).map D.str by rw [List.map_map]; rfl]
  skip
  refine s_joinS (ys := ps.map rowT) rfl hrs ?_
  (((with_reducible apply s_retr); focus (repeat (first | exact r_nil | apply r_vl (by rfl) | apply r_io | apply r_no))); decreasing_trivial)
  exact hP

open TL
theorem figs : tl (Str.ofString "0123456789") = [48, 49, 50, 51, 52, 53, 54, 55, 56, 57] := by rw [tl_ofString]; rfl
theorem fig_mem {c : Nat} (h : 48 ≤ c ∧ c ≤ 57) : c ∈ (Str.ofString "0123456789").cps.toList := by
  rw [show (Str.ofString "0123456789").cps.toList = [48, 49, 50, 51, 52, 53, 54, 55, 56, 57] from figs]
  simp
  omega
def b_number_in : WS := (wSeq (wIfS (wOr (wNot (wB (wChain leD leD (wC (.int 1)) (wCall1P lenD 0 []) (wVp 1)))) (wNot (wB (wCall1 allD (wLc (.nm 2) [2] (wItS (wVp 0)) wYes (wOpP inSD 2 [] (wC (.str "0123456789")))))))) (wRet (wC .non)) wNx) (wRet (wIf (wOr (wB (wOpP eqD 0 [] (wC (.str "0")))) (wB (wOp neD (wOpP ixD 0 [] (wC (.int 0))) (wC (.str "0"))))) (wCall1P intSD 0 []) (wC .non))))
def w_number_in : WE := fun _ ρ P => ∃ n : Int, ρ = [.vl (.str (numT n)), .vl (.int 3)] ∧ 0 ≤ n ∧ n ≤ 999 ∧ P (.int n) [.vl (.str (numT n)), .vl (.int 3)]
theorem u_number_in : UB 2 3 w_number_in b_number_in := by
  rintro ρ P0 - ⟨n, rfl, h0, h1, hP⟩
  show b_number_in _ [.vl (.str (numT n)), .vl (.int 3), .no] _
  obtain ⟨l1, l2⟩ := numT_len h0 h1
  have hc1 : decide ((1 : Int) ≤ ((numT n).length : Int)) = true := decide_eq_true (by omega)
  have hc2 : decide (((numT n).length : Int) ≤ 3) = true := decide_eq_true (by omega)
  have hit := numT_int h0 h1
  have htl := tl_numT h0
  unfold b_number_in
  (with_reducible apply s_seq; decreasing_trivial
   with_reducible apply s_ifs; decreasing_trivial
   with_reducible apply s_or; decreasing_trivial
   with_reducible apply s_not; decreasing_trivial
   with_reducible apply s_b; decreasing_trivial
   with_reducible apply s_chain; decreasing_trivial
   with_reducible apply s_c; decreasing_trivial
   ((with_reducible apply s_call1P); focus array_mem_dec); decreasing_trivial
   ((with_reducible apply s_lenS); (focus array_get_dec)); decreasing_trivial
   with_reducible apply s_ii0; decreasing_trivial
   with_reducible apply s_k; decreasing_trivial
   ((with_reducible apply s_ifT); focus array_get_dec); decreasing_trivial
   ((with_reducible apply s_vp); focus array_mem_dec); decreasing_trivial
   with_reducible apply s_fro_int; decreasing_trivial
   with_reducible apply s_ii0; decreasing_trivial
   ((with_reducible apply s_ifF); focus array_get_dec); decreasing_trivial
   with_reducible apply s_not; decreasing_trivial
   with_reducible apply s_b; decreasing_trivial
   with_reducible apply s_call1; decreasing_trivial
   with_reducible apply s_lc; decreasing_trivial
   with_reducible apply s_itS; decreasing_trivial
   ((with_reducible apply s_vp); focus array_mem_dec); decreasing_trivial
   with_reducible apply s_fro_str; decreasing_trivial
   with_reducible apply s_fz_str; decreasing_trivial)
  have hsg : signs (numT n) = (numL n.toNat).map fun c => D.str ⟨#[c]⟩ := by unfold signs; rw [show (numT n).cps.toList = numL n.toNat from htl]
  refine ⟨_, rfl, ?_⟩
  rw [hsg]
  refine lcD_mapA (fun c : Nat => D.str ⟨#[c]⟩) (fun _ => some (.bl true)) (fun c hc K0 K1 hkk => ?_) ?_ ?_
  · refine ⟨[.vl (.str (numT n)), .vl (.int 3), .vl (.str ⟨#[c]⟩)], rfl, ?_⟩
    have hm := fig_mem (numL_sign hc)
    (with_reducible apply s_yes; decreasing_trivial
     ((with_reducible apply s_ifT); focus array_get_dec); decreasing_trivial
     ((with_reducible apply s_opP); focus array_mem_dec); decreasing_trivial
     with_reducible apply s_c; decreasing_trivial
     ((with_reducible apply s_pl); focus array_mem_dec); decreasing_trivial
     ((with_reducible apply s_inS); (focus rfl)); decreasing_trivial
     with_reducible apply s_fz_bl; decreasing_trivial)
    rw [decide_eq_true hm]
    exact hkk
  · rw [List.filterMap_eq_map', List.length_map, ← htl, ← len_tl]; show 0 + _ ≤ _; omega
  rw [List.filterMap_eq_map', List.nil_append]
  have hbl : ∀ l : List Nat, blsOf (l.map fun _ => D.bl true) = some (l.map fun _ => true) := fun l => by
    induction l with
    | nil => rfl
    | cons a l ih => show (blsOf (l.map fun _ => D.bl true)).map (true :: ·) = _; rw [ih]; rfl
  have hall : ∀ l : List Nat, ((l.map fun _ => true).all id) = true := fun l => by
    induction l with
    | nil => rfl
    | cons a l ih => show (true && _) = true; rw [ih]; rfl
  refine ⟨_, _, rfl, hbl _, ?_⟩
  rw [hall]
  obtain ⟨c0, r0, hc0⟩ : ∃ c r, numL n.toNat = c :: r := by
    cases e : numL n.toNat with
    | nil => exact absurd e (numL_ne _)
    | cons a b => exact ⟨a, b, rfl⟩
  have hat : atI (numT n).cps.toList 0 = some c0 := by
    rw [show (numT n).cps.toList = c0 :: r0 by rw [← hc0]; exact htl]
    unfold atI ixN
    rw [if_pos (by decide), if_pos (by simp)]
    rfl
  by_cases hz : n = 0
  · have hd : decide (numT n = Str.ofString "0") = true := decide_eq_true (by rw [hz]; rfl)
    (((with_reducible apply s_ifF); focus array_get_dec); decreasing_trivial
     with_reducible apply s_nx; decreasing_trivial
     with_reducible apply s_ret; decreasing_trivial
     with_reducible apply s_if; decreasing_trivial
     with_reducible apply s_or; decreasing_trivial
     with_reducible apply s_b; decreasing_trivial
     ((with_reducible apply s_opP); focus array_mem_dec); decreasing_trivial
     with_reducible apply s_c; decreasing_trivial
     ((with_reducible apply s_pl); focus array_mem_dec); decreasing_trivial
     ((with_reducible apply s_eq); focus array_mem_dec); decreasing_trivial
     ((with_reducible apply s_ifT); focus array_get_dec); decreasing_trivial
     ((with_reducible apply s_ifT); focus array_get_dec); decreasing_trivial
     ((with_reducible apply s_call1P); focus array_mem_dec); decreasing_trivial)
    refine s_intS hit (by omega) ?_
    (((with_reducible apply s_retr); focus (repeat (first | exact r_nil | apply r_vl (by rfl) | apply r_io | apply r_no))); decreasing_trivial)
    exact hP
  · have hd : decide (numT n = Str.ofString "0") = false := decide_eq_false fun e => hz (by
      have e2 := congrArg tl e
      rw [htl, tl_ofString] at e2
      have e3 : numL n.toNat = numL 0 := by rw [e2]; rfl
      have := numL_inj e3
      omega)
    have hne : decide ((⟨#[c0]⟩ : Str) = Str.ofString "0") = false := decide_eq_false fun e => by
      obtain ⟨c, r, e2, h48⟩ := numL_head n.toNat (by omega)
      rw [hc0] at e2
      have e3 := congrArg tl e
      rw [tl_ofString] at e3
      have e4 : c0 = 48 := (List.cons.inj (show [c0] = [48] from e3)).1
      exact h48 (by rw [← (List.cons.inj e2).1]; exact e4)
    (((with_reducible apply s_ifF); focus array_get_dec); decreasing_trivial
     with_reducible apply s_nx; decreasing_trivial
     with_reducible apply s_ret; decreasing_trivial
     with_reducible apply s_if; decreasing_trivial
     with_reducible apply s_or; decreasing_trivial
     with_reducible apply s_b; decreasing_trivial
     ((with_reducible apply s_opP); focus array_mem_dec); decreasing_trivial
     with_reducible apply s_c; decreasing_trivial
     ((with_reducible apply s_pl); focus array_mem_dec); decreasing_trivial
     ((with_reducible apply s_eq); focus array_mem_dec); decreasing_trivial
     ((with_reducible apply s_ifF); focus array_get_dec); decreasing_trivial
     with_reducible apply s_b; decreasing_trivial
     with_reducible apply s_op; decreasing_trivial
     ((with_reducible apply s_opP); focus array_mem_dec); decreasing_trivial
     with_reducible apply s_c; decreasing_trivial
     ((with_reducible apply s_pl); focus array_mem_dec); decreasing_trivial
     ((with_reducible apply s_ixS); (focus array_get_dec); (focus assumption)); decreasing_trivial
     with_reducible apply s_c; decreasing_trivial
     ((with_reducible apply s_ne); focus array_mem_dec); decreasing_trivial
     ((with_reducible apply s_ifT); focus array_get_dec); decreasing_trivial
     ((with_reducible apply s_call1P); focus array_mem_dec); decreasing_trivial)
    refine s_intS hit (by omega) ?_
    (((with_reducible apply s_retr); focus (repeat (first | exact r_nil | apply r_vl (by rfl) | apply r_io | apply r_no))); decreasing_trivial)
    exact hP
theorem flatA_intsT : ∀ ns : List Int, flatA (ns.map .int) = some (ns.map V.int)
  | [] => rfl
  | n :: ns => by
    show (match flatD (.int n), flatA (ns.map .int) with | some v, some vs => some (v :: vs) | _, _ => none) = _
    rw [flatA_intsT ns]; rfl
theorem inV_nonT : ∀ ns : List Int, inV .non (ns.map V.int) = false
  | [] => rfl
  | n :: ns => by
    show (eqV (.int n) .non || inV .non (ns.map V.int)) = _
    rw [inV_nonT ns]; rfl
def b_piece_in : WS := (wSeq (wStar 1 2 (wMs splitD (wVp 0) (wC (.str " ")))) (wSeq (wSet 3 (wLc (.nm 4) [4] (wIt (wV 2)) wYes (wCall 2 w_number_in (waV (wVp 4) (waV (wC (.int 3)) waNil))))) (wSeq (wIfS (wOr (wB (wOp inD (wC .non) (wV 3))) (wB (wOpP ninD 1 [] (wTup (wCons (wC (.str "copy")) (wCons (wC (.str "bring")) (wCons (wC (.str "run")) wNil))))))) (wRet (wC .non)) wNx) (wSeq (wIfS (wB (wOpP eqD 1 [] (wC (.str "bring")))) (wRet (wIf (wAnd (wB (wOpP neD 3 [] (wLst wNil))) (wB (wOp ltD (wCall1P maxD 3 []) (wC (.int 256))))) (wTup (wCons (wC (.str "bring")) (wCons (wCall1P bytesD 3 []) wNil))) (wC .non))) wNx) (wRet (wIf (wB (wOp eqD (wCall1P lenD 3 []) (wC (.int 2)))) (wTup (wCons (wVp 1) (wCons (wOpP ixD 3 [] (wC (.int 0))) (wCons (wOpP ixD 3 [] (wC (.int 1))) wNil)))) (wC .non)))))))
def w_piece_in : WE := fun _ ρ P => ∃ p, ρ = [.vl (.str (rowT p))] ∧ PcOk p ∧ P (pcD p) [.vl (.str (rowT p))]
theorem u_piece_in : UB 1 5 w_piece_in b_piece_in := by
  rintro ρ P0 - ⟨p, rfl, hp, hP⟩
  show b_piece_in _ [.vl (.str (rowT p)), .no, .no, .no, .no] _
  have hpl := (part_len hp).1
  have hno := numsP_ok hp
  have hpe := partsT_eq p
  have hl : (numsP p).length ≤ 200 := by rw [hpe, List.length_append, List.length_map] at hpl; simp at hpl; omega
  have hrl := row_len hp
  have hsp := split_row hp
  unfold b_piece_in
  (with_reducible apply s_seq; decreasing_trivial
   ((with_reducible apply s_star)); decreasing_trivial
   with_reducible apply s_ms; decreasing_trivial
   ((with_reducible apply s_vp); focus array_mem_dec); decreasing_trivial
   with_reducible apply s_fro_str; decreasing_trivial
   ((with_reducible apply s_sz); focus array_get_dec); decreasing_trivial
   with_reducible apply s_c; decreasing_trivial)
  have hsz : 2000 ≤ sizeLine := by decide
  refine s_split (l := partsT p) (b := Str.ofString " ") (by decide) (by omega) hsp ?_
  (with_reducible apply s_fz_ml; decreasing_trivial)
  refine ⟨.str (wordP p), (numsP p).map (fun i => .str (numT i)), by rw [hpe, List.map_append, List.map_map]; rfl, ?_⟩
  generalize hR : rowT p = row at *
  (with_reducible apply s_seq; decreasing_trivial
   with_reducible apply s_set; decreasing_trivial
   with_reducible apply s_lc; decreasing_trivial
   with_reducible apply s_it; decreasing_trivial
   ((with_reducible apply s_v); focus array_mem_dec); decreasing_trivial
   with_reducible apply s_fz_ml; decreasing_trivial
   with_reducible apply s_fz_lst; decreasing_trivial)
  refine lcD_mapA (fun i => D.str (numT i)) (fun i => some (.int i)) (fun i hi K0 K1 hkk => ?_) ?_ ?_
  · obtain ⟨i1, i2⟩ := hno i hi
    refine ⟨_, rfl, ?_⟩
    (with_reducible apply s_yes; decreasing_trivial
     ((with_reducible apply s_ifT); focus array_get_dec); decreasing_trivial
     with_reducible apply s_call; decreasing_trivial
     with_reducible apply s_wav; decreasing_trivial
     ((with_reducible apply s_vp); focus array_mem_dec); decreasing_trivial
     with_reducible apply s_fro_str; decreasing_trivial
     with_reducible apply s_fz_str; decreasing_trivial
     with_reducible apply s_wav; decreasing_trivial
     with_reducible apply s_c; decreasing_trivial
     with_reducible apply s_fz_int; decreasing_trivial
     with_reducible apply s_wanil; decreasing_trivial
     ((with_reducible apply s_callk); (focus rfl); (focus (first | decide | simp)); (focus (intro; rfl)); intro _); decreasing_trivial)
    refine ⟨i, rfl, i1, by omega, ?_⟩
    (((with_reducible apply s_ex1); focus array_mem_dec); decreasing_trivial
     with_reducible apply s_fz_int; decreasing_trivial)
    exact hkk
  · rw [List.filterMap_eq_map', List.length_map]; show 0 + _ ≤ _; omega
  rw [List.filterMap_eq_map', List.nil_append]
  (with_reducible apply s_seq; decreasing_trivial
   with_reducible apply s_ifs; decreasing_trivial
   with_reducible apply s_or; decreasing_trivial
   with_reducible apply s_b; decreasing_trivial
   with_reducible apply s_op; decreasing_trivial
   with_reducible apply s_c; decreasing_trivial
   ((with_reducible apply s_v); focus array_mem_dec); decreasing_trivial
   with_reducible apply s_fz_ml; decreasing_trivial)
  refine s_in (v := .non) (ws := (numsP p).map V.int) rfl (flatA_intsT _) ?_
  rw [inV_nonT]
  cases p with
  | cp b n =>
    (((with_reducible apply s_ifF); focus array_get_dec); decreasing_trivial
     with_reducible apply s_b; decreasing_trivial
     ((with_reducible apply s_opP); focus array_mem_dec); decreasing_trivial
     with_reducible apply s_tup; decreasing_trivial
     with_reducible apply s_cons; decreasing_trivial
     with_reducible apply s_c; decreasing_trivial
     with_reducible apply s_fz_str; decreasing_trivial
     with_reducible apply s_cons; decreasing_trivial
     with_reducible apply s_c; decreasing_trivial
     with_reducible apply s_fz_str; decreasing_trivial
     with_reducible apply s_cons; decreasing_trivial
     with_reducible apply s_c; decreasing_trivial
     with_reducible apply s_fz_str; decreasing_trivial
     with_reducible apply s_nil; decreasing_trivial
     ((with_reducible apply s_sz); focus array_get_dec); decreasing_trivial
     ((with_reducible apply s_pl); focus array_mem_dec); decreasing_trivial
     ((with_reducible apply s_nin); (focus rfl); (focus rfl)); decreasing_trivial
     ((with_reducible apply s_ifF); focus array_get_dec); decreasing_trivial
     with_reducible apply s_nx; decreasing_trivial
     with_reducible apply s_seq; decreasing_trivial
     with_reducible apply s_ifs; decreasing_trivial
     with_reducible apply s_b; decreasing_trivial
     ((with_reducible apply s_opP); focus array_mem_dec); decreasing_trivial
     with_reducible apply s_c; decreasing_trivial
     ((with_reducible apply s_pl); focus array_mem_dec); decreasing_trivial
     ((with_reducible apply s_eq); focus array_mem_dec); decreasing_trivial
     ((with_reducible apply s_ifF); focus array_get_dec); decreasing_trivial
     with_reducible apply s_nx; decreasing_trivial
     with_reducible apply s_ret; decreasing_trivial
     with_reducible apply s_if; decreasing_trivial
     with_reducible apply s_b; decreasing_trivial
     with_reducible apply s_op; decreasing_trivial
     ((with_reducible apply s_call1P); focus array_mem_dec); decreasing_trivial
     with_reducible apply s_lenlst; decreasing_trivial
     with_reducible apply s_c; decreasing_trivial
     ((with_reducible apply s_eq); focus array_mem_dec); decreasing_trivial
     ((with_reducible apply s_ifT); focus array_get_dec); decreasing_trivial
     with_reducible apply s_tup; decreasing_trivial
     with_reducible apply s_cons; decreasing_trivial
     ((with_reducible apply s_vp); focus array_mem_dec); decreasing_trivial
     with_reducible apply s_fro_str; decreasing_trivial
     with_reducible apply s_fz_str; decreasing_trivial
     with_reducible apply s_cons; decreasing_trivial
     ((with_reducible apply s_opP); focus array_mem_dec); decreasing_trivial
     with_reducible apply s_c; decreasing_trivial
     ((with_reducible apply s_pl); focus array_mem_dec); decreasing_trivial
     ((with_reducible apply s_ixlst); focus array_mem_dec); decreasing_trivial
     with_reducible apply s_fz_int; decreasing_trivial
     with_reducible apply s_cons; decreasing_trivial
     ((with_reducible apply s_opP); focus array_mem_dec); decreasing_trivial
     with_reducible apply s_c; decreasing_trivial
     ((with_reducible apply s_pl); focus array_mem_dec); decreasing_trivial
     ((with_reducible apply s_ixlst); focus array_mem_dec); decreasing_trivial
     with_reducible apply s_fz_int; decreasing_trivial
     with_reducible apply s_nil; decreasing_trivial
     ((with_reducible apply s_sz); focus array_get_dec); decreasing_trivial
     ((with_reducible apply s_retr); focus (repeat (first | exact r_nil | apply r_vl (by rfl) | apply r_io | apply r_no))); decreasing_trivial)
    exact hP
  | br ns =>
    have hB := hp.2.2
    have hn1 := hp.1
    rw [show numsP (.br ns) = ns from rfl]
    have hq : eqF 9 (.lst (ns.map .int)) (.ml []) = some false := by
      show (if (ns.map D.int).length = ([] : List D).length then eqLs (eqF 8) (ns.map .int) [] else some false) = _
      rw [if_neg (by rw [List.length_map, List.length_nil]; omega)]
    have hio : intsOf (ns.map D.int) = some ns := intsOf_map ns
    (((with_reducible apply s_ifF); focus array_get_dec); decreasing_trivial
     with_reducible apply s_b; decreasing_trivial
     ((with_reducible apply s_opP); focus array_mem_dec); decreasing_trivial
     with_reducible apply s_tup; decreasing_trivial
     with_reducible apply s_cons; decreasing_trivial
     with_reducible apply s_c; decreasing_trivial
     with_reducible apply s_fz_str; decreasing_trivial
     with_reducible apply s_cons; decreasing_trivial
     with_reducible apply s_c; decreasing_trivial
     with_reducible apply s_fz_str; decreasing_trivial
     with_reducible apply s_cons; decreasing_trivial
     with_reducible apply s_c; decreasing_trivial
     with_reducible apply s_fz_str; decreasing_trivial
     with_reducible apply s_nil; decreasing_trivial
     ((with_reducible apply s_sz); focus array_get_dec); decreasing_trivial
     ((with_reducible apply s_pl); focus array_mem_dec); decreasing_trivial
     ((with_reducible apply s_nin); (focus rfl); (focus rfl)); decreasing_trivial
     ((with_reducible apply s_ifF); focus array_get_dec); decreasing_trivial
     with_reducible apply s_nx; decreasing_trivial
     with_reducible apply s_seq; decreasing_trivial
     with_reducible apply s_ifs; decreasing_trivial
     with_reducible apply s_b; decreasing_trivial
     ((with_reducible apply s_opP); focus array_mem_dec); decreasing_trivial
     with_reducible apply s_c; decreasing_trivial
     ((with_reducible apply s_pl); focus array_mem_dec); decreasing_trivial
     ((with_reducible apply s_eq); focus array_mem_dec); decreasing_trivial
     ((with_reducible apply s_ifT); focus array_get_dec); decreasing_trivial
     with_reducible apply s_ret; decreasing_trivial
     with_reducible apply s_if; decreasing_trivial
     with_reducible apply s_and; decreasing_trivial
     with_reducible apply s_b; decreasing_trivial
     ((with_reducible apply s_opP); focus array_mem_dec); decreasing_trivial
     with_reducible apply s_lst; decreasing_trivial
     with_reducible apply s_nil; decreasing_trivial
     ((with_reducible apply s_sz); focus array_get_dec); decreasing_trivial
     ((with_reducible apply s_pl); focus array_mem_dec); decreasing_trivial
     ((with_reducible apply s_ne); focus array_mem_dec); decreasing_trivial
     ((with_reducible apply s_ifT); focus array_get_dec); decreasing_trivial
     with_reducible apply s_b; decreasing_trivial
     with_reducible apply s_op; decreasing_trivial
     ((with_reducible apply s_call1P); focus array_mem_dec); decreasing_trivial
     ((with_reducible apply s_maxlst); first | (focus array_get_dec) | rotate_left 1); decreasing_trivial)
    refine ⟨fun z => by rw [z] at hn1; simp at hn1, fun m hm _ => ?_⟩
    have hm8 := hB m hm
    have c9 : decide (m < 256) = true := decide_eq_true hm8.2
    (with_reducible apply s_c; decreasing_trivial
     with_reducible apply s_ii0; decreasing_trivial
     ((with_reducible apply s_ifT); focus array_get_dec); decreasing_trivial
     with_reducible apply s_tup; decreasing_trivial
     with_reducible apply s_cons; decreasing_trivial
     with_reducible apply s_c; decreasing_trivial
     with_reducible apply s_fz_str; decreasing_trivial
     with_reducible apply s_cons; decreasing_trivial
     ((with_reducible apply s_call1P); focus array_mem_dec); decreasing_trivial
     ((with_reducible apply s_byteslst); first | (focus array_get_dec) | rotate_left 1); decreasing_trivial
     ((with_reducible apply s_sz); focus array_get_dec); decreasing_trivial
     with_reducible apply s_fz_byt; decreasing_trivial
     with_reducible apply s_nil; decreasing_trivial
     ((with_reducible apply s_sz); focus array_get_dec); decreasing_trivial
     ((with_reducible apply s_retr); focus (repeat (first | exact r_nil | apply r_vl (by rfl) | apply r_io | apply r_no))); decreasing_trivial)
    exact hP
  | rn b n =>
    (((with_reducible apply s_ifF); focus array_get_dec); decreasing_trivial
     with_reducible apply s_b; decreasing_trivial
     ((with_reducible apply s_opP); focus array_mem_dec); decreasing_trivial
     with_reducible apply s_tup; decreasing_trivial
     with_reducible apply s_cons; decreasing_trivial
     with_reducible apply s_c; decreasing_trivial
     with_reducible apply s_fz_str; decreasing_trivial
     with_reducible apply s_cons; decreasing_trivial
     with_reducible apply s_c; decreasing_trivial
     with_reducible apply s_fz_str; decreasing_trivial
     with_reducible apply s_cons; decreasing_trivial
     with_reducible apply s_c; decreasing_trivial
     with_reducible apply s_fz_str; decreasing_trivial
     with_reducible apply s_nil; decreasing_trivial
     ((with_reducible apply s_sz); focus array_get_dec); decreasing_trivial
     ((with_reducible apply s_pl); focus array_mem_dec); decreasing_trivial
     ((with_reducible apply s_nin); (focus rfl); (focus rfl)); decreasing_trivial
     ((with_reducible apply s_ifF); focus array_get_dec); decreasing_trivial
     with_reducible apply s_nx; decreasing_trivial
     with_reducible apply s_seq; decreasing_trivial
     with_reducible apply s_ifs; decreasing_trivial
     with_reducible apply s_b; decreasing_trivial
     ((with_reducible apply s_opP); focus array_mem_dec); decreasing_trivial
     with_reducible apply s_c; decreasing_trivial
     ((with_reducible apply s_pl); focus array_mem_dec); decreasing_trivial
     ((with_reducible apply s_eq); focus array_mem_dec); decreasing_trivial
     ((with_reducible apply s_ifF); focus array_get_dec); decreasing_trivial
     with_reducible apply s_nx; decreasing_trivial
     with_reducible apply s_ret; decreasing_trivial
     with_reducible apply s_if; decreasing_trivial
     with_reducible apply s_b; decreasing_trivial
     with_reducible apply s_op; decreasing_trivial
     ((with_reducible apply s_call1P); focus array_mem_dec); decreasing_trivial
     with_reducible apply s_lenlst; decreasing_trivial
     with_reducible apply s_c; decreasing_trivial
     ((with_reducible apply s_eq); focus array_mem_dec); decreasing_trivial
     ((with_reducible apply s_ifT); focus array_get_dec); decreasing_trivial
     with_reducible apply s_tup; decreasing_trivial
     with_reducible apply s_cons; decreasing_trivial
     ((with_reducible apply s_vp); focus array_mem_dec); decreasing_trivial
     with_reducible apply s_fro_str; decreasing_trivial
     with_reducible apply s_fz_str; decreasing_trivial
     with_reducible apply s_cons; decreasing_trivial
     ((with_reducible apply s_opP); focus array_mem_dec); decreasing_trivial
     with_reducible apply s_c; decreasing_trivial
     ((with_reducible apply s_pl); focus array_mem_dec); decreasing_trivial
     ((with_reducible apply s_ixlst); focus array_mem_dec); decreasing_trivial
     with_reducible apply s_fz_int; decreasing_trivial
     with_reducible apply s_cons; decreasing_trivial
     ((with_reducible apply s_opP); focus array_mem_dec); decreasing_trivial
     with_reducible apply s_c; decreasing_trivial
     ((with_reducible apply s_pl); focus array_mem_dec); decreasing_trivial
     ((with_reducible apply s_ixlst); focus array_mem_dec); decreasing_trivial
     with_reducible apply s_fz_int; decreasing_trivial
     with_reducible apply s_nil; decreasing_trivial
     ((with_reducible apply s_sz); focus array_get_dec); decreasing_trivial
     ((with_reducible apply s_retr); focus (repeat (first | exact r_nil | apply r_vl (by rfl) | apply r_io | apply r_no))); decreasing_trivial)
    exact hP
def b_read : WS := (wSeq (wSet 1 (wLst wNil)) (wSeq (wFor (.tp [(.nm 2), (.nm 3)]) (wEnum (wCons (wIf (wB (wOpP neD 0 [] (wC (.str "")))) (wMs splitD (wVp 0) (wC (.str "\n"))) (wLst wNil)) wNil)) (wSeq (wSet 4 (wCall 1 w_piece_in (waV (wVp 3) waNil))) (wSeq (wIfS (wB (wOpP isD 4 [] (wC .non))) wNever wNx) (wX (wMt appendG 1 [] (wCons (wVp 4) wNil)))))) (wSeq (wX (wCall 1 w_need_patch (waV (wCall1P tupleD 1 []) waNil))) (wRet (wCall1P tupleD 1 [])))))
def w_read : WE := fun _ ρ P => ∃ ps, ρ = [.vl (.str (textT ps))] ∧ PatOk ps ∧ P (patD ps) [.vl (.str (textT ps))]
theorem u_read : UB 1 5 w_read b_read := by
  rintro ρ P0 - ⟨ps, rfl, hp, hP⟩
  show b_read _ [.vl (.str (textT ps)), .no, .no, .no, .no] _
  have hpl := hp.2
  have hpn := plen_len hp.1
  have htl := text_len hp.1 (by omega)
  unfold b_read
  have hfin : ∀ (p : Pc) (qs : List Pc), ps = p :: qs → ps ≠ [] := fun p qs e => by rw [e]; exact fun z => nomatch z
  have hsp := fun h => split_text (ps := ps) hp.1 h
  cases hps : ps with
  | nil =>
    rw [hps] at hP
    have hd : decide (textT ([] : List Pc) = Str.ofString "") = true := decide_eq_true text_nil
    (with_reducible apply s_seq; decreasing_trivial
     with_reducible apply s_set; decreasing_trivial
     with_reducible apply s_lst; decreasing_trivial
     with_reducible apply s_nil; decreasing_trivial
     ((with_reducible apply s_sz); focus array_get_dec); decreasing_trivial
     with_reducible apply s_seq; decreasing_trivial
     with_reducible apply s_for; decreasing_trivial
     with_reducible apply s_enum; decreasing_trivial
     with_reducible apply s_cons; decreasing_trivial
     with_reducible apply s_if; decreasing_trivial
     with_reducible apply s_b; decreasing_trivial
     ((with_reducible apply s_opP); focus array_mem_dec); decreasing_trivial
     with_reducible apply s_c; decreasing_trivial
     ((with_reducible apply s_pl); focus array_mem_dec); decreasing_trivial
     ((with_reducible apply s_ne); focus array_mem_dec); decreasing_trivial
     ((with_reducible apply s_ifF); focus array_get_dec); decreasing_trivial
     with_reducible apply s_lst; decreasing_trivial
     with_reducible apply s_nil; decreasing_trivial
     ((with_reducible apply s_sz); focus array_get_dec); decreasing_trivial
     with_reducible apply s_fz_ml; decreasing_trivial
     with_reducible apply s_nil; decreasing_trivial)
    refine loopD_ind (fun ds ρ => ds = [] ∧ ρ = [.vl (.str (textT [])), .vl (.ml []), .no, .no, .no]) ?_ ?_ _ _ ⟨rfl, rfl⟩
    · rintro d ds _ ⟨z, _⟩ _
      cases z
    · rintro _ ⟨_, rfl⟩
      (with_reducible apply s_seq; decreasing_trivial
       with_reducible apply s_x; decreasing_trivial
       with_reducible apply s_call; decreasing_trivial
       with_reducible apply s_wav; decreasing_trivial
       ((with_reducible apply s_call1P); focus array_mem_dec); decreasing_trivial
       with_reducible apply s_tupleml; decreasing_trivial
       with_reducible apply s_fz_tup; decreasing_trivial
       with_reducible apply s_wanil; decreasing_trivial
       ((with_reducible apply s_callk); (focus rfl); (focus (first | decide | simp)); (focus (intro; rfl)); intro _); decreasing_trivial)
      refine ⟨[], rfl, ⟨(fun _ z => nomatch z), by decide⟩, ?_⟩
      (((with_reducible apply s_ex1); focus array_mem_dec); decreasing_trivial
       with_reducible apply s_ret; decreasing_trivial
       ((with_reducible apply s_call1P); focus array_mem_dec); decreasing_trivial
       with_reducible apply s_tupleml; decreasing_trivial
       ((with_reducible apply s_retr); focus (repeat (first | exact r_nil | apply r_vl (by rfl) | apply r_io | apply r_no))); decreasing_trivial)
      exact hP
  | cons p0 qs =>
    have hne : ps ≠ [] := hfin _ _ hps
    rw [← hps]
    have hd : decide (textT ps = Str.ofString "") = false := decide_eq_false (by rw [hps]; exact text_ne)
    have hsp := hsp hne
    clear hfin hps
    (with_reducible apply s_seq; decreasing_trivial
     with_reducible apply s_set; decreasing_trivial
     with_reducible apply s_lst; decreasing_trivial
     with_reducible apply s_nil; decreasing_trivial
     ((with_reducible apply s_sz); focus array_get_dec); decreasing_trivial
     with_reducible apply s_seq; decreasing_trivial
     with_reducible apply s_for; decreasing_trivial
     with_reducible apply s_enum; decreasing_trivial
     with_reducible apply s_cons; decreasing_trivial
     with_reducible apply s_if; decreasing_trivial
     with_reducible apply s_b; decreasing_trivial
     ((with_reducible apply s_opP); focus array_mem_dec); decreasing_trivial
     with_reducible apply s_c; decreasing_trivial
     ((with_reducible apply s_pl); focus array_mem_dec); decreasing_trivial
     ((with_reducible apply s_ne); focus array_mem_dec); decreasing_trivial
     ((with_reducible apply s_ifT); focus array_get_dec); decreasing_trivial
     with_reducible apply s_ms; decreasing_trivial
     ((with_reducible apply s_vp); focus array_mem_dec); decreasing_trivial
     with_reducible apply s_fro_str; decreasing_trivial
     ((with_reducible apply s_sz); focus array_get_dec); decreasing_trivial
     with_reducible apply s_c; decreasing_trivial)
    have hsz : 300000 ≤ sizeLine := by decide
    refine s_split (l := ps.map rowT) (b := Str.ofString "\n") (by decide) (by omega) hsp ?_
    generalize hT : textT ps = tx at *
    (with_reducible apply s_fz_ml; decreasing_trivial
     with_reducible apply s_nil; decreasing_trivial)
    refine loopD_ind (fun ds ρ => ∃ (k : Nat) (dn td : List Pc) (c2 c3 c4 : Cell), ps = dn ++ td ∧ ds = ((td.map fun p => D.str (rowT p)).zipIdx k).map (fun p => .tup [.int (p.2 : Nat), p.1]) ∧ ρ = [.vl (.str tx), .vl (.ml (dn.map pcD)), c2, c3, c4]) ?_ ?_ _ _ ⟨0, [], ps, .no, .no, .no, rfl, by rw [List.map_map]; rfl, rfl⟩
    · rintro d ds _ ⟨k, dn, td, c2, c3, c4, hdt, hds, rfl⟩ ih
      cases td with
      | nil => cases hds
      | cons p td =>
      rw [List.map_cons, List.zipIdx_cons, List.map_cons] at hds
      obtain ⟨rfl, rfl⟩ := List.cons.inj hds
      refine ⟨[.vl (.str tx), .vl (.ml (dn.map pcD)), .vl (.int (k : Nat)), .vl (.str (rowT p)), c4], rfl, ?_⟩
      have hpp : PcOk p := hp.1 p (by rw [hdt]; exact List.mem_append_right _ List.mem_cons_self)
      have hdl : (dn.map pcD).length < 100000 := by
        have := congrArg List.length hdt
        rw [List.length_append, List.length_cons] at this
        rw [List.length_map]; omega
      have hfp := frB_pc p
      have hnn : isNone (pcD p) = some false := by cases p <;> rfl
      (with_reducible apply s_seq; decreasing_trivial
       with_reducible apply s_set; decreasing_trivial
       with_reducible apply s_call; decreasing_trivial
       with_reducible apply s_wav; decreasing_trivial
       ((with_reducible apply s_vp); focus array_mem_dec); decreasing_trivial
       with_reducible apply s_fro_str; decreasing_trivial
       with_reducible apply s_fz_str; decreasing_trivial
       with_reducible apply s_wanil; decreasing_trivial
       ((with_reducible apply s_callk); (focus rfl); (focus (first | decide | simp)); (focus (intro; rfl)); intro _); decreasing_trivial)
      refine ⟨p, rfl, hpp, ?_⟩
      (((with_reducible apply s_ex1); focus array_mem_dec); decreasing_trivial
       with_reducible apply s_seq; decreasing_trivial
       with_reducible apply s_ifs; decreasing_trivial
       with_reducible apply s_b; decreasing_trivial
       ((with_reducible apply s_opP); focus array_mem_dec); decreasing_trivial
       with_reducible apply s_c; decreasing_trivial
       ((with_reducible apply s_pl); focus array_mem_dec); decreasing_trivial
       ((with_reducible apply s_is); focus array_mem_dec); decreasing_trivial
       ((with_reducible apply s_ifF); focus array_get_dec); decreasing_trivial
       with_reducible apply s_nx; decreasing_trivial
       with_reducible apply s_x; decreasing_trivial
       ((with_reducible apply s_mt); focus array_mem_dec); decreasing_trivial
       with_reducible apply s_cons; decreasing_trivial
       ((with_reducible apply s_vp); focus array_mem_dec); decreasing_trivial
       ((with_reducible apply s_fro_of); (focus assumption)); decreasing_trivial
       ((with_reducible apply s_fz_of); (focus assumption)); decreasing_trivial
       with_reducible apply s_nil; decreasing_trivial
       ((with_reducible apply s_plml); focus array_mem_dec); decreasing_trivial
       ((with_reducible apply s_append); first | (focus array_get_dec) | rotate_left 1); decreasing_trivial
       ((with_reducible apply s_pt); focus array_mem_dec); decreasing_trivial)
      exact ih _ ⟨k + 1, dn ++ [p], td, .vl (.int (k : Nat)), .vl (.str (rowT p)), .vl (pcD p), by rw [hdt]; simp, rfl, by rw [List.map_append]; rfl⟩
    · rintro _ ⟨k, dn, td, c2, c3, c4, hdt, hds, rfl⟩
      have : td = [] := by cases td with
        | nil => rfl
        | cons _ _ => cases hds
      subst this
      rw [List.append_nil] at hdt
      subst hdt
      (with_reducible apply s_seq; decreasing_trivial
       with_reducible apply s_x; decreasing_trivial
       with_reducible apply s_call; decreasing_trivial
       with_reducible apply s_wav; decreasing_trivial
       ((with_reducible apply s_call1P); focus array_mem_dec); decreasing_trivial
       with_reducible apply s_tupleml; decreasing_trivial
       with_reducible apply s_fz_tup; decreasing_trivial
       with_reducible apply s_wanil; decreasing_trivial
       ((with_reducible apply s_callk); (focus rfl); (focus (first | decide | simp)); (focus (intro; rfl)); intro _); decreasing_trivial)
      refine ⟨ps, rfl, hp, ?_⟩
      (((with_reducible apply s_ex1); focus array_mem_dec); decreasing_trivial
       with_reducible apply s_ret; decreasing_trivial
       ((with_reducible apply s_call1P); focus array_mem_dec); decreasing_trivial
       with_reducible apply s_tupleml; decreasing_trivial
       ((with_reducible apply s_retr); focus (repeat (first | exact r_nil | apply r_vl (by rfl) | apply r_io | apply r_no))); decreasing_trivial)
      exact hP
theorem c_read {xi : Xi} {ps : List Pc} {P : D → Rho → Prop} (hp : PatOk ps) (h : P (patD ps) [.vl (.str (textT ps))]) : w_read xi [.vl (.str (textT ps))] P := ⟨ps, rfl, hp, h⟩

open TL
theorem eqLs_refl61 {f : D → D → Option Bool} : ∀ {xs : List D}, (∀ x, x ∈ xs → f x x = some true) → eqLs f xs xs = some true
  | [], _ => rfl
  | x :: r, h => by
    show (match f x x, eqLs f r r with | some b, some c => some (b && c) | _, _ => none) = some true
    rw [h x (by simp), eqLs_refl61 fun y hy => h y (List.mem_cons_of_mem _ hy)]
    rfl
theorem eqF_pc61 (n : Nat) (p : Pc) : eqF (n + 2) (pcD p) (pcD p) = some true := by
  cases p with
  | cp b k =>
    show (match some (decide (("copy" : Str) = "copy")), (match some (decide (b = b)), (match some (decide (k = k)), some true with | some b, some c => some (b && c) | _, _ => none) with | some b, some c => some (b && c) | _, _ => none) with | some b, some c => some (b && c) | _, _ => none) = some true
    simp
  | br ns =>
    show (match some (decide (("bring" : Str) = "bring")), (match some (decide (ns = ns)), some true with | some b, some c => some (b && c) | _, _ => none) with | some b, some c => some (b && c) | _, _ => none) = some true
    simp
  | rn b k =>
    show (match some (decide (("run" : Str) = "run")), (match some (decide (b = b)), (match some (decide (k = k)), some true with | some b, some c => some (b && c) | _, _ => none) with | some b, some c => some (b && c) | _, _ => none) with | some b, some c => some (b && c) | _, _ => none) = some true
    simp
theorem eqF_pat61 (ps : List Pc) : eqF 9 (patD ps) (patD ps) = some true := by
  show eqLs (eqF 8) (ps.map pcD) (ps.map pcD) = some true
  exact eqLs_refl61 fun x hx => by
    obtain ⟨p, _, rfl⟩ := List.mem_map.mp hx
    exact eqF_pc61 6 p
theorem s_isiT {ds : List D} {k : D → Prop} (h : k (.bl true)) : isiD ["tuple"] (.tup ds) k := by
  show k (.bl (["tuple"].any (isiB "tuple")))
  rw [show ["tuple"].any (isiB "tuple") = true by decide]
  exact h
def b_law : WS := (wSeq (wSet 1 (wLst (wCons (wVp 0) (wCons (wC (.int 0)) (wCons (wC (.int 0)) (wCons (wC (.int 0)) wNil)))))) (wSeq (wFor (.nm 2) (wRng1 (wCons (wC (.int 5)) wNil)) (wSeq (wSet 3 (wCall 2 w__law_patch (waS 1 (waV (wC (.int 12)) waNil)))) (wSeq (wSet 4 (wMs joinSD (wC (.str "\n")) (wLc (.nm 6) [6] (wIt (wVp 3)) wYes (wCall 1 w__law_row (waV (wVp 6) waNil))))) (wFor (.nm 5) (wRng1 (wCons (wC (.int 2)) wNil)) (wIfS (wOr (wB (wOp neD (wCall 1 w_written (waV (wVp 3) waNil)) (wVp 4))) (wOr (wB (wOp neD (wCall 1 w_read (waV (wVp 4) waNil)) (wVp 3))) (wNot (wB (wIsiE ["tuple"] (wCall 1 w_read (waV (wVp 4) waNil))))))) (wRet (wC (.bl false))) wNx))))) (wRet (wC (.bl true)))))
def w_law : WE := fun _ ρ P => ∃ ns : List Int, ρ = [.vl (.rl (ns.map .int))] ∧ ns.length ≤ 63 ∧ ∀ ρ, P (.bl true) ρ
theorem u_law : UB 1 7 w_law b_law := by
  rintro ρ P0 - ⟨ns, rfl, hn, hP⟩
  show b_law _ [.vl (.rl (ns.map .int)), .no, .no, .no, .no, .no, .no] _
  unfold b_law
  (with_reducible apply s_seq; decreasing_trivial
   with_reducible apply s_set; decreasing_trivial
   with_reducible apply s_lst; decreasing_trivial
   with_reducible apply s_cons; decreasing_trivial
   ((with_reducible apply s_vp); focus array_mem_dec); decreasing_trivial
   with_reducible apply s_fro_rl; decreasing_trivial
   with_reducible apply s_fz_rl; decreasing_trivial
   with_reducible apply s_cons; decreasing_trivial
   with_reducible apply s_c; decreasing_trivial
   with_reducible apply s_fz_int; decreasing_trivial
   with_reducible apply s_cons; decreasing_trivial
   with_reducible apply s_c; decreasing_trivial
   with_reducible apply s_fz_int; decreasing_trivial
   with_reducible apply s_cons; decreasing_trivial
   with_reducible apply s_c; decreasing_trivial
   with_reducible apply s_fz_int; decreasing_trivial
   with_reducible apply s_nil; decreasing_trivial
   ((with_reducible apply s_sz); focus array_get_dec); decreasing_trivial
   with_reducible apply s_seq; decreasing_trivial
   with_reducible apply s_for; decreasing_trivial
   with_reducible apply s_rng1; decreasing_trivial
   with_reducible apply s_cons; decreasing_trivial
   with_reducible apply s_c; decreasing_trivial
   with_reducible apply s_fz_int; decreasing_trivial
   with_reducible apply s_nil; decreasing_trivial
   ((with_reducible apply s_sz); focus array_get_dec); decreasing_trivial)
  refine loopD_ind (fun ds ρ => ∃ (d : D) (c2 c3 c4 c5 : Cell), ρ = [.vl (.rl (ns.map .int)), .vl d, c2, c3, c4, c5, .no] ∧ Dice d) ?_ ?_ _ _ ⟨_, .no, .no, .no, .no, rfl, ⟨ns, 0, 0, 0, rfl, hn, by decide, by decide, by decide, by decide⟩⟩
  · rintro x ds _ ⟨d, c2, c3, c4, c5, rfl, hd⟩ ih
    refine ⟨_, rfl, ?_⟩
    (with_reducible apply s_seq; decreasing_trivial
     with_reducible apply s_set; decreasing_trivial
     with_reducible apply s_call; decreasing_trivial
     ((with_reducible apply s_was); focus array_mem_dec); decreasing_trivial
     with_reducible apply s_wav; decreasing_trivial
     with_reducible apply s_c; decreasing_trivial
     with_reducible apply s_fz_int; decreasing_trivial
     with_reducible apply s_wanil; decreasing_trivial
     ((with_reducible apply s_callk); (focus rfl); (focus (first | decide | simp)); (focus (intro; rfl)); intro _); decreasing_trivial)
    refine c_law_patch hd (by decide) (by decide) fun ps d2 hp hpl hd2 => ?_
    have hfp := frB_pat ps
    have hpn := plen_len hp.1
    have hp2 := hp.2
    have hrs := rows_sum hp.1 (by omega)
    have hqq := eqF_pat61 ps
    unfold patD
    (((with_reducible apply s_ex1); focus array_mem_dec); decreasing_trivial
     with_reducible apply s_seq; decreasing_trivial
     with_reducible apply s_set; decreasing_trivial
     with_reducible apply s_ms; decreasing_trivial
     with_reducible apply s_c; decreasing_trivial
     ((with_reducible apply s_sz); focus array_get_dec); decreasing_trivial
     with_reducible apply s_lc; decreasing_trivial
     with_reducible apply s_it; decreasing_trivial
     ((with_reducible apply s_vp); focus array_mem_dec); decreasing_trivial
     with_reducible apply s_fro_tup; decreasing_trivial
     with_reducible apply s_fz_tup; decreasing_trivial)
    refine lcD_mapA pcD (fun p => some (.str (rowT p))) (fun p hpm K0 K1 hkk => ?_) ?_ ?_
    · have hfq := frB_pc p
      refine ⟨_, rfl, ?_⟩
      (with_reducible apply s_yes; decreasing_trivial
       ((with_reducible apply s_ifT); focus array_get_dec); decreasing_trivial
       with_reducible apply s_call; decreasing_trivial
       with_reducible apply s_wav; decreasing_trivial
       ((with_reducible apply s_vp); focus array_mem_dec); decreasing_trivial
       ((with_reducible apply s_fro_of); (focus assumption)); decreasing_trivial
       ((with_reducible apply s_fz_of); (focus assumption)); decreasing_trivial
       with_reducible apply s_wanil; decreasing_trivial
       ((with_reducible apply s_callk); (focus rfl); (focus (first | decide | simp)); (focus (intro; rfl)); intro _); decreasing_trivial)
      refine ⟨p, rfl, hp.1 p hpm, ?_⟩
      (((with_reducible apply s_ex1); focus array_mem_dec); decreasing_trivial
       with_reducible apply s_fz_str; decreasing_trivial)
      exact hkk
    · rw [List.filterMap_eq_map', List.length_map]; show 0 + ps.length ≤ _; omega
    rw [List.filterMap_eq_map', List.nil_append, show (ps.map fun p => D.str (rowT p)) = (ps.map rowT).map D.str by rw [List.map_map]; rfl]
    skip
    refine s_joinS (ys := ps.map rowT) rfl hrs ?_
    rw [show Txt.join (Str.ofString "\n") (ps.map rowT) = textT ps from rfl]
    (with_reducible apply s_for; decreasing_trivial
     with_reducible apply s_rng1; decreasing_trivial
     with_reducible apply s_cons; decreasing_trivial
     with_reducible apply s_c; decreasing_trivial
     with_reducible apply s_fz_int; decreasing_trivial
     with_reducible apply s_nil; decreasing_trivial
     ((with_reducible apply s_sz); focus array_get_dec); decreasing_trivial)
    have hnx := ih
    clear ih
    refine loopD_ind (fun ds ρ => ∃ (c5 : Cell), ρ = [.vl (.rl (ns.map .int)), .vl d2, .vl x, .vl (patD ps), .vl (.str (textT ps)), c5, .no]) ?_ ?_ _ _ ⟨c5, rfl⟩
    · rintro y ds2 _ ⟨c5, rfl⟩ ih2
      refine ⟨_, rfl, ?_⟩
      (with_reducible apply s_ifs; decreasing_trivial
       with_reducible apply s_or; decreasing_trivial
       with_reducible apply s_b; decreasing_trivial
       with_reducible apply s_op; decreasing_trivial
       with_reducible apply s_call; decreasing_trivial
       with_reducible apply s_wav; decreasing_trivial
       ((with_reducible apply s_vp); focus array_mem_dec); decreasing_trivial
       ((with_reducible apply s_fro_of); (focus assumption)); decreasing_trivial
       ((with_reducible apply s_fz_of); (focus assumption)); decreasing_trivial
       with_reducible apply s_wanil; decreasing_trivial
       ((with_reducible apply s_callk); (focus rfl); (focus (first | decide | simp)); (focus (intro; rfl)); intro _); decreasing_trivial)
      refine ⟨ps, rfl, hp, ?_⟩
      have hdt : decide (textT ps = textT ps) = true := decide_eq_true rfl
      (((with_reducible apply s_ex1); focus array_mem_dec); decreasing_trivial
       ((with_reducible apply s_vp); focus array_mem_dec); decreasing_trivial
       with_reducible apply s_fro_str; decreasing_trivial
       ((with_reducible apply s_ne); focus array_mem_dec); decreasing_trivial
       ((with_reducible apply s_ifF); focus array_get_dec); decreasing_trivial
       with_reducible apply s_or; decreasing_trivial
       with_reducible apply s_b; decreasing_trivial
       with_reducible apply s_op; decreasing_trivial
       with_reducible apply s_call; decreasing_trivial
       with_reducible apply s_wav; decreasing_trivial
       ((with_reducible apply s_vp); focus array_mem_dec); decreasing_trivial
       with_reducible apply s_fro_str; decreasing_trivial
       with_reducible apply s_fz_str; decreasing_trivial
       with_reducible apply s_wanil; decreasing_trivial
       ((with_reducible apply s_callk); (focus rfl); (focus (first | decide | simp)); (focus (intro; rfl)); intro _); decreasing_trivial)
      refine c_read hp ?_
      (((with_reducible apply s_ex1); focus array_mem_dec); decreasing_trivial
       ((with_reducible apply s_vp); focus array_mem_dec); decreasing_trivial
       ((with_reducible apply s_fro_of); (focus assumption)); decreasing_trivial
       ((with_reducible apply s_ne); focus array_mem_dec); decreasing_trivial
       ((with_reducible apply s_ifF); focus array_get_dec); decreasing_trivial
       with_reducible apply s_not; decreasing_trivial
       with_reducible apply s_b; decreasing_trivial
       with_reducible apply s_isiE; decreasing_trivial
       with_reducible apply s_call; decreasing_trivial
       with_reducible apply s_wav; decreasing_trivial
       ((with_reducible apply s_vp); focus array_mem_dec); decreasing_trivial
       with_reducible apply s_fro_str; decreasing_trivial
       with_reducible apply s_fz_str; decreasing_trivial
       with_reducible apply s_wanil; decreasing_trivial
       ((with_reducible apply s_callk); (focus rfl); (focus (first | decide | simp)); (focus (intro; rfl)); intro _); decreasing_trivial)
      refine c_read hp ?_
      (((with_reducible apply s_ex1); focus array_mem_dec); decreasing_trivial)
      refine s_isiT ?_
      (((with_reducible apply s_ifF); focus array_get_dec); decreasing_trivial
       with_reducible apply s_nx; decreasing_trivial)
      exact ih2 _ ⟨_, rfl⟩
    · rintro _ ⟨c5, rfl⟩
      exact hnx _ ⟨d2, _, _, _, c5, rfl, hd2⟩
  · rintro _ ⟨d, c2, c3, c4, c5, rfl, hd⟩
    (with_reducible apply s_ret; decreasing_trivial
     with_reducible apply s_c; decreasing_trivial
     ((with_reducible apply s_retr); focus (repeat (first | exact r_nil | apply r_vl (by rfl) | apply r_io | apply r_no))); decreasing_trivial)
    exact hP _

def top (i : Nat) : Stmt := PySem.Challenge.pw_patchover_k61_patches_written_and_read.main.body.getD i (.Pass ⟨0, 0, 0, 0⟩)
abbrev s__law_taken : Stmt := top 24
abbrev s_need_count : Stmt := top 10
abbrev s_bytes_of : Stmt := top 11
abbrev s__law_patch : Stmt := top 26
abbrev s_numbers_of : Stmt := top 12
abbrev s__law_row : Stmt := top 27
abbrev s_is_piece : Stmt := top 14
abbrev s_length : Stmt := top 13
abbrev s_need_patch : Stmt := top 15
abbrev s_number_in : Stmt := top 18
abbrev s_piece_in : Stmt := top 21
abbrev s_read : Stmt := top 22
abbrev s_piece_row : Stmt := top 19
abbrev s_written : Stmt := top 20
abbrev s_law : Stmt := top 28
structure Fn1 (K : PySem.W.Frag) (mg : Str → Option Value) (x qual : Str) (st : Stmt) (ps : List Str) (f : Addr) (fd : FuncData) : Prop where
  F : Fun K x qual st f fd
  m : mg x = some (.ref f)
  b : Binds K fd ps []
  k : PySem.W.keepIn K (.ref f) = true
structure Mt1 (K : PySem.W.Frag) (C : Addr) (x qual : Str) (st : Stmt) (ps : List Str) (f : Addr) (fd : FuncData) : Prop where
  F : Fun K x qual st f fd
  m : Meth K C x f
  b : Binds K fd ps []
structure In1 (K : PySem.W.Frag) (C : Addr) (x qual : Str) (st : Stmt) (ps : List Str) (f : Addr) (fd : FuncData) : Prop where
  F : Fun K x qual st f fd
  M : Mk K C f
  b : Binds K fd ps []
structure Txt (K : PySem.W.Frag) (mg : Str → Option Value) where
  f__law_taken : Addr
  d__law_taken : FuncData
  A__law_taken : Fn1 K mg "_law_taken" "_law_taken" s__law_taken ["_law_row_here", "_law_many"] f__law_taken d__law_taken
  f_need_count : Addr
  d_need_count : FuncData
  A_need_count : Fn1 K mg "need_count" "need_count" s_need_count ["number", "low", "high"] f_need_count d_need_count
  f_bytes_of : Addr
  d_bytes_of : FuncData
  A_bytes_of : Fn1 K mg "bytes_of" "bytes_of" s_bytes_of ["numbers"] f_bytes_of d_bytes_of
  f__law_patch : Addr
  d__law_patch : FuncData
  A__law_patch : Fn1 K mg "_law_patch" "_law_patch" s__law_patch ["_law_row_here", "_law_most"] f__law_patch d__law_patch
  f_numbers_of : Addr
  d_numbers_of : FuncData
  A_numbers_of : Fn1 K mg "numbers_of" "numbers_of" s_numbers_of ["some"] f_numbers_of d_numbers_of
  f__law_row : Addr
  d__law_row : FuncData
  A__law_row : Fn1 K mg "_law_row" "_law_row" s__law_row ["_law_piece"] f__law_row d__law_row
  f_is_piece : Addr
  d_is_piece : FuncData
  A_is_piece : Fn1 K mg "is_piece" "is_piece" s_is_piece ["piece"] f_is_piece d_is_piece
  f_length : Addr
  d_length : FuncData
  A_length : Fn1 K mg "length" "length" s_length ["piece"] f_length d_length
  f_need_patch : Addr
  d_need_patch : FuncData
  A_need_patch : Fn1 K mg "need_patch" "need_patch" s_need_patch ["patch"] f_need_patch d_need_patch
  f_number_in : Addr
  d_number_in : FuncData
  A_number_in : Fn1 K mg "number_in" "number_in" s_number_in ["word", "figures"] f_number_in d_number_in
  f_piece_in : Addr
  d_piece_in : FuncData
  A_piece_in : Fn1 K mg "piece_in" "piece_in" s_piece_in ["line"] f_piece_in d_piece_in
  f_read : Addr
  d_read : FuncData
  A_read : Fn1 K mg "read" "read" s_read ["text"] f_read d_read
  f_piece_row : Addr
  d_piece_row : FuncData
  A_piece_row : Fn1 K mg "piece_row" "piece_row" s_piece_row ["piece"] f_piece_row d_piece_row
  f_written : Addr
  d_written : FuncData
  A_written : Fn1 K mg "written" "written" s_written ["patch"] f_written d_written
  f_law : Addr
  d_law : FuncData
  A_law : Fn1 K mg "law" "law" s_law ["_law_script"] f_law d_law
  t_BRING : Tok
  g_BRING : mg "BRING" = some (.str "bring" t_BRING)
  t_COPY : Tok
  g_COPY : mg "COPY" = some (.str "copy" t_COPY)
  t_FIGURES : Tok
  g_FIGURES : mg "FIGURES" = some (.str "0123456789" t_FIGURES)
  t_MOST : Tok
  g_MOST : mg "MOST" = some (.int 200 t_MOST)
  t_RUN : Tok
  g_RUN : mg "RUN" = some (.str "run" t_RUN)
  n_all : mg "all" = none
  n_bytes : mg "bytes" = none
  n_enumerate : mg "enumerate" = none
  n_int : mg "int" = none
  n_isinstance : mg "isinstance" = none
  n_len : mg "len" = none
  n_list : mg "list" = none
  n_max : mg "max" = none
  n_min : mg "min" = none
  n_range : mg "range" = none
  n_str : mg "str" = none
  n_tuple : mg "tuple" = none
section
variable {P : Program} {w : World} {K : PySem.W.Frag} {mg : Str → Option Value} {base : Heap}
theorem sc__law_taken : FnScope ["_law_row_here", "_law_many", "_law_found", "_law_cell"] ["_law_row_here", "_law_many"] (defScope s__law_taken) := ⟨rfl, rfl, rfl, by decide +kernel, rfl, by decide +kernel, by decide +kernel⟩
theorem ok__law_taken (T : Txt K mg) : FnOk P w K mg base CX0 1 T.f__law_taken T.d__law_taken ["_law_row_here", "_law_many"] (spD K 2 (w__law_taken)) :=
  fnD (wb := b__law_taken) T.A__law_taken.F sc__law_taken (fun cdv A outer s H E hr => 
  (psd_cons (psd_if (pt_cmpD od_gt (pd_ixP (pp_v (pv 0)) fok0 pd_int (fun _ _ => rfl)) pd_int (nomark _))
  (psd_cons (psd_set (i := 2) sc__law_taken.nd rfl (Or.inl rfl) (pd_op od_mod (pd_t1 cd_int rfl T.n_int rfl (pd_ixP (pp_v (pv 0)) fok0 pd_int (fun _ _ => rfl))) (pd_vp (pv 1))))
  (psd_cons (psd_setIx (pd_op od_fdiv (pd_ixP (pp_v (pv 0)) fok0 pd_int (fun _ _ => rfl)) (pd_vp (pv 1))) (pp_v (pv 0)) fok0 pd_int)
  (psd_one (psd_ret (pd_vp (pv 2))))))
  psd_nil)
  (psd_cons (psd_setIx (pd_op od_add (pd_ixP (pp_v (pv 0)) fok0 pd_int (fun _ _ => rfl)) pd_int) (pp_v (pv 0)) fok0 pd_int)
  (psd_cons (psd_if (pt_cmpD od_gt (pd_ixP (pp_v (pv 0)) fok0 pd_int (fun _ _ => rfl)) (pd_b1 cd_len rfl T.n_len rfl (pd_ixP (pp_v (pv 0)) fok0 pd_int (fun _ _ => rfl))) (nomark _))
  (psd_cons (psd_setIx (pd_op od_mod (pd_op od_add (pd_op od_mul (pd_ixP (pp_v (pv 0)) fok0 pd_int (fun _ _ => rfl)) pd_int) pd_int) pd_int) (pp_v (pv 0)) fok0 pd_int)
  (psd_one (psd_ret (pd_op od_mod (pd_op od_fdiv (pd_ixP (pp_v (pv 0)) fok0 pd_int (fun _ _ => rfl)) pd_int) (pd_vp (pv 1))))))
  psd_nil)
  (psd_cons (psd_set (i := 3) sc__law_taken.nd rfl (Or.inl rfl) (pd_ix (pd_ixP (pp_v (pv 0)) fok0 pd_int (fun _ _ => rfl)) (pd_op od_sub (pd_ixP (pp_v (pv 0)) fok0 pd_int (fun _ _ => rfl)) pd_int) (fun _ _ => rfl)))
  (psd_cons (psd_setIx (pd_op od_mod (pd_op od_add (pd_op od_add (pd_op od_mul (pd_ixP (pp_v (pv 0)) fok0 pd_int (fun _ _ => rfl)) pd_int) (pd_vp (pv 3))) pd_int) pd_int) (pp_v (pv 0)) fok0 pd_int)
  (psd_cons (psd_if (pt_cmpP od_ge (pp_v (pv 3)) fok0 (pd_op od_pow pd_int pd_int) (nomark _))
  (psd_one (psd_setIx (pd_op od_fdiv (pd_vp (pv 3)) (pd_vp (pv 1))) (pp_v (pv 0)) fok0 pd_int))
  psd_nil)
  (psd_one (psd_ret (pd_op od_mod (pd_t1P cd_int rfl T.n_int rfl (pp_v (pv 3)) fok0) (pd_vp (pv 1)))))))))))) (u__law_taken)
theorem sc_need_count : FnScope ["number", "low", "high"] ["number", "low", "high"] (defScope s_need_count) := ⟨rfl, rfl, rfl, by decide +kernel, rfl, by decide +kernel, by decide +kernel⟩
theorem ok_need_count (T : Txt K mg) : FnOk P w K mg base CX0 1 T.f_need_count T.d_need_count ["number", "low", "high"] (spD K 3 (w_need_count)) :=
  fnD (wb := b_need_count) T.A_need_count.F sc_need_count (fun cdv A outer s H E hr => 
  (psd_one (psd_if (pt_notD (pt_chainD (od_le) (od_le) (pd_vp (pv 1)) (pd_vp (pv 0)) (pd_vp (pv 2))))
  (psd_one psd_never)
  psd_nil))) (u_need_count)
theorem sc_bytes_of : FnScope ["numbers", "number"] ["numbers"] (defScope s_bytes_of) := ⟨rfl, rfl, rfl, by decide +kernel, rfl, by decide +kernel, by decide +kernel⟩
theorem ok_bytes_of (T : Txt K mg) : FnOk P w K mg base CX0 2 T.f_bytes_of T.d_bytes_of ["numbers"] (spD K 1 (w_bytes_of)) :=
  fnD (wb := b_bytes_of) T.A_bytes_of.F sc_bytes_of (fun cdv A outer s H E hr => 
  (psd_cons (psd_for PassesOwn.never rfl (pid_it (pd_vp (pv 0))) (pgd_name (pg_name (i := 1) sc_bytes_of.nd rfl (Or.inl rfl)))
  (psd_one (psd_expr (pd_call (ok_need_count T) (hr.mono (by decide)) rfl T.A_need_count.m T.A_need_count.k T.A_need_count.b (pad_v (pd_vp (pv 1)) (pad_v pd_int (pad_v pd_int pad_nil)))))))
  (psd_one (psd_ret (pd_t1P (cd_bytes rfl) rfl T.n_bytes rfl (pp_v (pv 0)) fok0))))) (u_bytes_of)
theorem sc__law_patch : FnScope ["_law_row_here", "_law_most", "_law_pieces", "_law_total", "_law_k", "_law_way_on", "_law_long", "_law_some", "_law_begin", "_law_j"] ["_law_row_here", "_law_most"] (defScope s__law_patch) := ⟨rfl, rfl, rfl, by decide +kernel, rfl, by decide +kernel, by decide +kernel⟩
theorem ok__law_patch (T : Txt K mg) : FnOk P w K mg base CX0 3 T.f__law_patch T.d__law_patch ["_law_row_here", "_law_most"] (spD K 2 (w__law_patch)) :=
  fnD (wb := b__law_patch) T.A__law_patch.F sc__law_patch (fun cdv A outer s H E hr => 
  (psd_cons (psd_par (i := 2) (j := 3) rfl sc__law_patch.nd rfl rfl (by decide) rfl rfl (plo_cons (pd_lst pl_nil) (plo_cons pd_int plo_nil)))
  (psd_cons (psd_for PassesOwn.never rfl (pid_rng1 rfl T.n_range (pl_cons (pd_call (ok__law_taken T) (hr.mono (by decide)) rfl T.A__law_taken.m T.A__law_taken.k T.A__law_taken.b (pad_s (pv 0) (pad_v (pd_op od_add (pd_vp (pv 1)) pd_int) pad_nil))) pl_nil)) (pgd_name (pg_name (i := 4) sc__law_patch.nd rfl (Or.inl rfl)))
  (psd_cons (psd_par (i := 5) (j := 6) rfl sc__law_patch.nd rfl rfl (by decide) rfl rfl (plo_cons (pd_call (ok__law_taken T) (hr.mono (by decide)) rfl T.A__law_taken.m T.A__law_taken.k T.A__law_taken.b (pad_s (pv 0) (pad_v pd_int pad_nil))) (plo_cons (pd_op od_add pd_int (pd_call (ok__law_taken T) (hr.mono (by decide)) rfl T.A__law_taken.m T.A__law_taken.k T.A__law_taken.b (pad_s (pv 0) (pad_v (pd_ix (pd_lst (pl_cons pd_int (pl_cons pd_int pl_nil))) (pd_call (ok__law_taken T) (hr.mono (by decide)) rfl T.A__law_taken.m T.A__law_taken.k T.A__law_taken.b (pad_s (pv 0) (pad_v pd_int pad_nil))) (fun _ _ => rfl)) pad_nil)))) plo_nil)))
  (psd_one (psd_if (pt_cmpD od_le (pd_op od_add (pd_vp (pv 3)) (pd_vp (pv 6))) pd_int (nomark _))
  (psd_cons (psd_aug (i := 3) sc__law_patch.nd rfl (Or.inl rfl) (pd_vp (pv 6)) oi_add)
  (psd_cons (psd_setLc (i := 7) [("_law_j", 9)] rfl sc__law_patch.nd rfl rfl (sw_true rfl rfl rfl (by decide +kernel)) (pid_rng1 rfl T.n_range (pl_cons (pd_bs (cd_min2 rfl) rfl T.n_min rfl (pl_cons (pd_vp (pv 6)) (pl_cons pd_int pl_nil))) pl_nil)) (blkOk_by (own := [("_law_j", 9)]) (N := ["_law_row_here", "_law_most", "_law_pieces", "_law_total", "_law_k", "_law_way_on", "_law_long", "_law_some", "_law_begin", "_law_j"]) (sc := defScope s__law_patch) (by decide +kernel)) (fun _ _ _ _ _ => (pgd_name (pg_name (i := 9) sc__law_patch.nd rfl (Or.inl rfl)))) (fun _ _ _ _ _ => pts0) (fun _ _ _ _ _ => (pd_call (ok__law_taken T) (hr.mono (by decide)) rfl T.A__law_taken.m T.A__law_taken.k T.A__law_taken.b (pad_s (pv 0) (pad_v pd_int pad_nil)))))
  (psd_cons (psd_set (i := 7) sc__law_patch.nd rfl (Or.inl rfl) (pd_sl (pd_op od_mul (pd_v (pv 7)) pd_int) po_n (po_s (pd_vp (pv 6)))))
  (psd_cons (psd_set (i := 8) sc__law_patch.nd rfl (Or.inl rfl) (pd_call (ok__law_taken T) (hr.mono (by decide)) rfl T.A__law_taken.m T.A__law_taken.k T.A__law_taken.b (pad_s (pv 0) (pad_v (pd_op od_sub pd_int (pd_vp (pv 6))) pad_nil))))
  (psd_one (psd_expr (pd_mt md_append PySem.F.slot_list_append PySem.F.type_list_append (pp_v (pv 2)) fok0 (pl_cons (pd_ix (pd_lst (pl_cons (pd_tup (pl_cons pd_str (pl_cons (pd_vp (pv 8)) (pl_cons (pd_vp (pv 6)) pl_nil)))) (pl_cons (pd_tup (pl_cons pd_str (pl_cons (pd_call (ok_bytes_of T) (hr.mono (by decide)) rfl T.A_bytes_of.m T.A_bytes_of.k T.A_bytes_of.b (pad_v (pd_v (pv 7)) pad_nil)) pl_nil))) (pl_cons (pd_tup (pl_cons pd_str (pl_cons (pd_ixP (pp_v (pv 7)) fok0 pd_int (fun _ _ => rfl)) (pl_cons (pd_vp (pv 6)) pl_nil)))) pl_nil)))) (pd_vp (pv 5)) (fun _ _ => rfl)) pl_nil))))))))
  psd_nil))))
  (psd_one (psd_ret (pd_t1P cd_tuple rfl T.n_tuple rfl (pp_v (pv 2)) fok0)))))) (u__law_patch)
theorem sc_numbers_of : FnScope ["some"] ["some"] (defScope s_numbers_of) := ⟨rfl, rfl, rfl, by decide +kernel, rfl, by decide +kernel, by decide +kernel⟩
theorem ok_numbers_of (T : Txt K mg) : FnOk P w K mg base CX0 1 T.f_numbers_of T.d_numbers_of ["some"] (spD K 1 (w_numbers_of)) :=
  fnD (wb := b_numbers_of) T.A_numbers_of.F sc_numbers_of (fun cdv A outer s H E hr => 
  (psd_one (psd_ret (pd_t1P (cd_list rfl) rfl T.n_list rfl (pp_v (pv 0)) fok0)))) (u_numbers_of)
theorem sc__law_row : FnScope ["_law_piece", "_law_numbers", "_law_number"] ["_law_piece"] (defScope s__law_row) := ⟨rfl, rfl, rfl, by decide +kernel, rfl, by decide +kernel, by decide +kernel⟩
theorem ok__law_row (T : Txt K mg) : FnOk P w K mg base CX0 2 T.f__law_row T.d__law_row ["_law_piece"] (spD K 1 (w__law_row)) :=
  fnD (wb := b__law_row) T.A__law_row.F sc__law_row (fun cdv A outer s H E hr => 
  (psd_cons (psd_set (i := 1) sc__law_row.nd rfl (Or.inl rfl) (pd_if (pt_cmpD (od_eq hr.units) (pd_ixP (pp_v (pv 0)) fok0 pd_int (fun _ _ => rfl)) pd_str (nomark _)) (pd_call (ok_numbers_of T) (hr.mono (by decide)) rfl T.A_numbers_of.m T.A_numbers_of.k T.A_numbers_of.b (pad_v (pd_ixP (pp_v (pv 0)) fok0 pd_int (fun _ _ => rfl)) pad_nil)) (pd_t1 (cd_list rfl) rfl T.n_list rfl (pd_sl (pd_vp (pv 0)) (po_s pd_int) po_n))))
  (psd_one (psd_ret (pd_joinS pd_str (pd_op od_add (pd_lst (pl_cons (pd_ixP (pp_v (pv 0)) fok0 pd_int (fun _ _ => rfl)) pl_nil)) (pd_lc [("_law_number", 2)] rfl sc__law_row.nd (pid_it (pd_v (pv 1))) (blkOk_by (own := [("_law_number", 2)]) (N := ["_law_piece", "_law_numbers", "_law_number"]) (sc := defScope s__law_row) (by decide +kernel)) (fun _ _ _ _ _ => (pgd_name (pg_name (i := 2) sc__law_row.nd rfl (Or.inl rfl)))) (fun _ _ _ _ _ => pts0) (fun _ _ _ _ _ => (pd_t1P cd_str rfl T.n_str rfl (pp_v (pv 2)) fok0))))))))) (u__law_row)
theorem sc_is_piece : FnScope ["piece"] ["piece"] (defScope s_is_piece) := ⟨rfl, rfl, rfl, by decide +kernel, rfl, by decide +kernel, by decide +kernel⟩
theorem ok_is_piece (T : Txt K mg) : FnOk P w K mg base CX0 1 T.f_is_piece T.d_is_piece ["piece"] (spD K 1 (w_is_piece)) :=
  fnD (wb := b_is_piece) T.A_is_piece.F sc_is_piece (fun cdv A outer s H E hr => 
  (psd_cons (psd_if (PW.pt (pw_andD (pt_cmpD (od_eq hr.units) (pd_b1P cd_len rfl T.n_len rfl (pp_v (pv 0)) fok0) pd_int (nomark _)) (pw_and1 (pt_cmpD (od_eq hr.units) (pd_ixP (pp_v (pv 0)) fok0 pd_int (fun _ _ => rfl)) (pd_c (v := .str "bring") (pe_glob rfl T.g_BRING ⟨_, rfl⟩) (fun _ => rfl)) (nomark _)))))
  (psd_one (psd_ret (pd_chain (od_le) (od_le) pd_int (pd_b1 cd_len rfl T.n_len rfl (pd_ixP (pp_v (pv 0)) fok0 pd_int (fun _ _ => rfl))) (pd_c (v := .int 200) (pe_glob rfl T.g_MOST ⟨_, rfl⟩) (fun _ => rfl)))))
  psd_nil)
  (psd_cons (psd_if (PW.pt (pw_orD (pt_cmpD (od_ne hr.units) (pd_b1P cd_len rfl T.n_len rfl (pp_v (pv 0)) fok0) pd_int (nomark _)) (pw_orD (pt_cmpD od_nin (pd_ixP (pp_v (pv 0)) fok0 pd_int (fun _ _ => rfl)) (pd_tup (pl_cons (pd_c (v := .str "copy") (pe_glob rfl T.g_COPY ⟨_, rfl⟩) (fun _ => rfl)) (pl_cons (pd_c (v := .str "run") (pe_glob rfl T.g_RUN ⟨_, rfl⟩) (fun _ => rfl)) pl_nil))) rfl) (pw_or1 (pt_notD (pt_chainD (od_le) (od_le) pd_int (pd_ixP (pp_v (pv 0)) fok0 pd_int (fun _ _ => rfl)) (pd_c (v := .int 200) (pe_glob rfl T.g_MOST ⟨_, rfl⟩) (fun _ => rfl))))))))
  (psd_one (psd_ret pd_bl))
  psd_nil)
  (psd_cons (psd_if (pt_cmpD (od_eq hr.units) (pd_ixP (pp_v (pv 0)) fok0 pd_int (fun _ _ => rfl)) (pd_c (v := .str "run") (pe_glob rfl T.g_RUN ⟨_, rfl⟩) (fun _ => rfl)) (nomark _))
  (psd_one (psd_ret (pd_chain (od_le) (od_le) pd_int (pd_ixP (pp_v (pv 0)) fok0 pd_int (fun _ _ => rfl)) pd_int)))
  psd_nil)
  (psd_one (psd_ret (pd_and (pd_cmp od_ge (pd_ixP (pp_v (pv 0)) fok0 pd_int (fun _ _ => rfl)) pd_int (nomark _)) (pe_one (pd_cmp od_le (pd_op od_add (pd_ixP (pp_v (pv 0)) fok0 pd_int (fun _ _ => rfl)) (pd_ixP (pp_v (pv 0)) fok0 pd_int (fun _ _ => rfl))) (pd_c (v := .int 200) (pe_glob rfl T.g_MOST ⟨_, rfl⟩) (fun _ => rfl)) (nomark _)))))))))) (u_is_piece)
theorem sc_length : FnScope ["piece"] ["piece"] (defScope s_length) := ⟨rfl, rfl, rfl, by decide +kernel, rfl, by decide +kernel, by decide +kernel⟩
theorem ok_length (T : Txt K mg) : FnOk P w K mg base CX0 1 T.f_length T.d_length ["piece"] (spD K 1 (w_length)) :=
  fnD (wb := b_length) T.A_length.F sc_length (fun cdv A outer s H E hr => 
  (psd_one (psd_ret (pd_if (pt_cmpD (od_eq hr.units) (pd_ixP (pp_v (pv 0)) fok0 pd_int (fun _ _ => rfl)) (pd_c (v := .str "bring") (pe_glob rfl T.g_BRING ⟨_, rfl⟩) (fun _ => rfl)) (nomark _)) (pd_b1 cd_len rfl T.n_len rfl (pd_ixP (pp_v (pv 0)) fok0 pd_int (fun _ _ => rfl))) (pd_ixP (pp_v (pv 0)) fok0 pd_int (fun _ _ => rfl)))))) (u_length)
theorem sc_need_patch : FnScope ["patch", "total", "number", "piece"] ["patch"] (defScope s_need_patch) := ⟨rfl, rfl, rfl, by decide +kernel, rfl, by decide +kernel, by decide +kernel⟩
theorem ok_need_patch (T : Txt K mg) : FnOk P w K mg base CX0 2 T.f_need_patch T.d_need_patch ["patch"] (spD K 1 (w_need_patch)) :=
  fnD (wb := b_need_patch) T.A_need_patch.F sc_need_patch (fun cdv A outer s H E hr => 
  (psd_cons (psd_set (i := 1) sc_need_patch.nd rfl (Or.inl rfl) pd_int)
  (psd_one (psd_for PassesOwn.never rfl (pid_enum rfl T.n_enumerate (pl_cons (pd_vp (pv 0)) pl_nil)) (pgd_tup rfl (pgds_cons (pgd_name (pg_name (i := 2) sc_need_patch.nd rfl (Or.inl rfl))) (pgds_cons (pgd_name (pg_name (i := 3) sc_need_patch.nd rfl (Or.inl rfl))) pgds_nil)))
  (psd_cons (psd_if (PW.pt (pw_orD (pt_notD (pt_b (pd_call (ok_is_piece T) (hr.mono (by decide)) rfl T.A_is_piece.m T.A_is_piece.k T.A_is_piece.b (pad_v (pd_vp (pv 3)) pad_nil)))) (pw_or1 (pt_cmpD od_gt (pd_op od_add (pd_vp (pv 1)) (pd_call (ok_length T) (hr.mono (by decide)) rfl T.A_length.m T.A_length.k T.A_length.b (pad_v (pd_vp (pv 3)) pad_nil))) (pd_c (v := .int 200) (pe_glob rfl T.g_MOST ⟨_, rfl⟩) (fun _ => rfl)) (nomark _)))))
  (psd_one psd_never)
  psd_nil)
  (psd_one (psd_aug (i := 1) sc_need_patch.nd rfl (Or.inl rfl) (pd_call (ok_length T) (hr.mono (by decide)) rfl T.A_length.m T.A_length.k T.A_length.b (pad_v (pd_vp (pv 3)) pad_nil)) oi_add))))))) (u_need_patch)
theorem sc_number_in : FnScope ["word", "figures", "sign"] ["word", "figures"] (defScope s_number_in) := ⟨rfl, rfl, rfl, by decide +kernel, rfl, by decide +kernel, by decide +kernel⟩
theorem ok_number_in (T : Txt K mg) : FnOk P w K mg base CX0 1 T.f_number_in T.d_number_in ["word", "figures"] (spD K 2 (w_number_in)) :=
  fnD (wb := b_number_in) T.A_number_in.F sc_number_in (fun cdv A outer s H E hr => 
  (psd_cons (psd_if (PW.pt (pw_orD (pt_notD (pt_chainD (od_le) (od_le) pd_int (pd_b1P cd_len rfl T.n_len rfl (pp_v (pv 0)) fok0) (pd_vp (pv 1)))) (pw_or1 (pt_notD (pt_b (pd_b1 (cd_all rfl) rfl T.n_all rfl (pd_lc [("sign", 2)] rfl sc_number_in.nd (pid_itS (pd_vp (pv 0))) (blkOk_by (own := [("sign", 2)]) (N := ["word", "figures", "sign"]) (sc := defScope s_number_in) (by decide +kernel)) (fun _ _ _ _ _ => (pgd_name (pg_name (i := 2) sc_number_in.nd rfl (Or.inl rfl)))) (fun _ _ _ _ _ => pts0) (fun _ _ _ _ _ => (pd_cmpP od_inS (pp_v (pv 2)) fok0 (pd_c (v := .str "0123456789") (pe_glob rfl T.g_FIGURES ⟨_, rfl⟩) (fun _ => rfl)) rfl)))))))))
  (psd_one (psd_ret pd_non))
  psd_nil)
  (psd_one (psd_ret (pd_if (PW.pt (pw_orD (pt_cmpP (od_eq hr.units) (pp_v (pv 0)) fok0 pd_str (nomark _)) (pw_or1 (pt_cmpD (od_ne hr.units) (pd_ixP (pp_v (pv 0)) fok0 pd_int (fun _ _ => rfl)) pd_str (nomark _))))) (pd_t1P cd_intS rfl T.n_int rfl (pp_v (pv 0)) fok0) pd_non))))) (u_number_in)
theorem sc_piece_in : FnScope ["line", "word", "rest", "numbers", "part"] ["line"] (defScope s_piece_in) := ⟨rfl, rfl, rfl, by decide +kernel, rfl, by decide +kernel, by decide +kernel⟩
theorem ok_piece_in (T : Txt K mg) : FnOk P w K mg base CX0 2 T.f_piece_in T.d_piece_in ["line"] (spD K 1 (w_piece_in)) :=
  fnD (wb := b_piece_in) T.A_piece_in.F sc_piece_in (fun cdv A outer s H E hr => 
  (psd_cons (psd_star (i := 1) (j := 2) rfl (pd_split (pd_vp (pv 0)) pd_str) (pgs_cons (pg_name (i := 1) sc_piece_in.nd rfl (Or.inl rfl)) (pgs_cons (pg_name (i := 2) sc_piece_in.nd rfl (Or.inl rfl)) pgs_nil)))
  (psd_cons (psd_setLc (i := 3) [("part", 4)] rfl sc_piece_in.nd rfl rfl (sw_true rfl rfl rfl (by decide +kernel)) (pid_it (pd_v (pv 2))) (blkOk_by (own := [("part", 4)]) (N := ["line", "word", "rest", "numbers", "part"]) (sc := defScope s_piece_in) (by decide +kernel)) (fun _ _ _ _ _ => (pgd_name (pg_name (i := 4) sc_piece_in.nd rfl (Or.inl rfl)))) (fun _ _ _ _ _ => pts0) (fun _ _ _ _ _ => (pd_call (ok_number_in T) (hr.mono (by decide)) rfl T.A_number_in.m T.A_number_in.k T.A_number_in.b (pad_v (pd_vp (pv 4)) (pad_v pd_int pad_nil)))))
  (psd_cons (psd_if (PW.pt (pw_orD (pt_cmpD od_in pd_non (pd_v (pv 3)) rfl) (pw_or1 (pt_cmpP od_nin (pp_v (pv 1)) fok0 (pd_tup (pl_cons (pd_c (v := .str "copy") (pe_glob rfl T.g_COPY ⟨_, rfl⟩) (fun _ => rfl)) (pl_cons (pd_c (v := .str "bring") (pe_glob rfl T.g_BRING ⟨_, rfl⟩) (fun _ => rfl)) (pl_cons (pd_c (v := .str "run") (pe_glob rfl T.g_RUN ⟨_, rfl⟩) (fun _ => rfl)) pl_nil)))) rfl))))
  (psd_one (psd_ret pd_non))
  psd_nil)
  (psd_cons (psd_if (pt_cmpP (od_eq hr.units) (pp_v (pv 1)) fok0 (pd_c (v := .str "bring") (pe_glob rfl T.g_BRING ⟨_, rfl⟩) (fun _ => rfl)) (nomark _))
  (psd_one (psd_ret (pd_if (PW.pt (pw_andD (pt_cmpP (od_ne hr.units) (pp_v (pv 3)) fok0 (pd_lst pl_nil) (nomark _)) (pw_and1 (pt_cmpD od_lt (pd_b1P (cd_max rfl) rfl T.n_max rfl (pp_v (pv 3)) fok0) pd_int (nomark _))))) (pd_tup (pl_cons (pd_c (v := .str "bring") (pe_glob rfl T.g_BRING ⟨_, rfl⟩) (fun _ => rfl)) (pl_cons (pd_t1P (cd_bytes rfl) rfl T.n_bytes rfl (pp_v (pv 3)) fok0) pl_nil))) pd_non)))
  psd_nil)
  (psd_one (psd_ret (pd_if (pt_cmpD (od_eq hr.units) (pd_b1P cd_len rfl T.n_len rfl (pp_v (pv 3)) fok0) pd_int (nomark _)) (pd_tup (pl_cons (pd_vp (pv 1)) (pl_cons (pd_ixP (pp_v (pv 3)) fok0 pd_int (fun _ _ => rfl)) (pl_cons (pd_ixP (pp_v (pv 3)) fok0 pd_int (fun _ _ => rfl)) pl_nil)))) pd_non)))))))) (u_piece_in)
theorem sc_read : FnScope ["text", "found", "row", "line", "piece"] ["text"] (defScope s_read) := ⟨rfl, rfl, rfl, by decide +kernel, rfl, by decide +kernel, by decide +kernel⟩
theorem ok_read (T : Txt K mg) : FnOk P w K mg base CX0 3 T.f_read T.d_read ["text"] (spD K 1 (w_read)) :=
  fnD (wb := b_read) T.A_read.F sc_read (fun cdv A outer s H E hr => 
  (psd_cons (psd_set (i := 1) sc_read.nd rfl (Or.inl rfl) (pd_lst pl_nil))
  (psd_cons (psd_for PassesOwn.never rfl (pid_enum rfl T.n_enumerate (pl_cons (pd_if (pt_cmpP (od_ne hr.units) (pp_v (pv 0)) fok0 pd_str (nomark _)) (pd_split (pd_vp (pv 0)) pd_str) (pd_lst pl_nil)) pl_nil)) (pgd_tup rfl (pgds_cons (pgd_name (pg_name (i := 2) sc_read.nd rfl (Or.inl rfl))) (pgds_cons (pgd_name (pg_name (i := 3) sc_read.nd rfl (Or.inl rfl))) pgds_nil)))
  (psd_cons (psd_set (i := 4) sc_read.nd rfl (Or.inl rfl) (pd_call (ok_piece_in T) (hr.mono (by decide)) rfl T.A_piece_in.m T.A_piece_in.k T.A_piece_in.b (pad_v (pd_vp (pv 3)) pad_nil)))
  (psd_cons (psd_if (pt_cmpP od_is (pp_v (pv 4)) fok0 pd_non (nomark _))
  (psd_one psd_never)
  psd_nil)
  (psd_one (psd_expr (pd_mt md_append PySem.F.slot_list_append PySem.F.type_list_append (pp_v (pv 1)) fok0 (pl_cons (pd_vp (pv 4)) pl_nil)))))))
  (psd_cons (psd_expr (pd_call (ok_need_patch T) (hr.mono (by decide)) rfl T.A_need_patch.m T.A_need_patch.k T.A_need_patch.b (pad_v (pd_t1P cd_tuple rfl T.n_tuple rfl (pp_v (pv 1)) fok0) pad_nil)))
  (psd_one (psd_ret (pd_t1P cd_tuple rfl T.n_tuple rfl (pp_v (pv 1)) fok0))))))) (u_read)
theorem sc_piece_row : FnScope ["piece", "some", "number"] ["piece"] (defScope s_piece_row) := ⟨rfl, rfl, rfl, by decide +kernel, rfl, by decide +kernel, by decide +kernel⟩
theorem ok_piece_row (T : Txt K mg) : FnOk P w K mg base CX0 1 T.f_piece_row T.d_piece_row ["piece"] (spD K 1 (w_piece_row)) :=
  fnD (wb := b_piece_row) T.A_piece_row.F sc_piece_row (fun cdv A outer s H E hr => 
  (psd_cons (psd_set (i := 1) sc_piece_row.nd rfl (Or.inl rfl) (pd_if (pt_cmpD (od_eq hr.units) (pd_ixP (pp_v (pv 0)) fok0 pd_int (fun _ _ => rfl)) (pd_c (v := .str "bring") (pe_glob rfl T.g_BRING ⟨_, rfl⟩) (fun _ => rfl)) (nomark _)) (pd_t1 (cd_list rfl) rfl T.n_list rfl (pd_ixP (pp_v (pv 0)) fok0 pd_int (fun _ _ => rfl))) (pd_t1 (cd_list rfl) rfl T.n_list rfl (pd_sl (pd_vp (pv 0)) (po_s pd_int) po_n))))
  (psd_one (psd_ret (pd_joinS pd_str (pd_op od_add (pd_lst (pl_cons (pd_ixP (pp_v (pv 0)) fok0 pd_int (fun _ _ => rfl)) pl_nil)) (pd_lc [("number", 2)] rfl sc_piece_row.nd (pid_it (pd_v (pv 1))) (blkOk_by (own := [("number", 2)]) (N := ["piece", "some", "number"]) (sc := defScope s_piece_row) (by decide +kernel)) (fun _ _ _ _ _ => (pgd_name (pg_name (i := 2) sc_piece_row.nd rfl (Or.inl rfl)))) (fun _ _ _ _ _ => pts0) (fun _ _ _ _ _ => (pd_t1P cd_str rfl T.n_str rfl (pp_v (pv 2)) fok0))))))))) (u_piece_row)
theorem sc_written : FnScope ["patch", "piece"] ["patch"] (defScope s_written) := ⟨rfl, rfl, rfl, by decide +kernel, rfl, by decide +kernel, by decide +kernel⟩
theorem ok_written (T : Txt K mg) : FnOk P w K mg base CX0 3 T.f_written T.d_written ["patch"] (spD K 1 (w_written)) :=
  fnD (wb := b_written) T.A_written.F sc_written (fun cdv A outer s H E hr => 
  (psd_cons (psd_expr (pd_call (ok_need_patch T) (hr.mono (by decide)) rfl T.A_need_patch.m T.A_need_patch.k T.A_need_patch.b (pad_v (pd_vp (pv 0)) pad_nil)))
  (psd_one (psd_ret (pd_joinS pd_str (pd_lc [("piece", 1)] rfl sc_written.nd (pid_it (pd_vp (pv 0))) (blkOk_by (own := [("piece", 1)]) (N := ["patch", "piece"]) (sc := defScope s_written) (by decide +kernel)) (fun _ _ _ _ _ => (pgd_name (pg_name (i := 1) sc_written.nd rfl (Or.inl rfl)))) (fun _ _ _ _ _ => pts0) (fun _ _ _ _ _ => (pd_call (ok_piece_row T) (hr.mono (by decide)) rfl T.A_piece_row.m T.A_piece_row.k T.A_piece_row.b (pad_v (pd_vp (pv 1)) pad_nil))))))))) (u_written)
theorem sc_law : FnScope ["_law_script", "_law_row_here", "_law_turn", "_law_patch_here", "_law_due", "_law_once", "_law_piece"] ["_law_script"] (defScope s_law) := ⟨rfl, rfl, rfl, by decide +kernel, rfl, by decide +kernel, by decide +kernel⟩
theorem ok_law (T : Txt K mg) : FnOk P w K mg base CX0 4 T.f_law T.d_law ["_law_script"] (spD K 1 (w_law)) :=
  fnD (wb := b_law) T.A_law.F sc_law (fun cdv A outer s H E hr => 
  (psd_cons (psd_set (i := 1) sc_law.nd rfl (Or.inl rfl) (pd_lst (pl_cons (pd_vp (pv 0)) (pl_cons pd_int (pl_cons pd_int (pl_cons pd_int pl_nil))))))
  (psd_cons (psd_for PassesOwn.never rfl (pid_rng1 rfl T.n_range (pl_cons pd_int pl_nil)) (pgd_name (pg_name (i := 2) sc_law.nd rfl (Or.inl rfl)))
  (psd_cons (psd_set (i := 3) sc_law.nd rfl (Or.inl rfl) (pd_call (ok__law_patch T) (hr.mono (by decide)) rfl T.A__law_patch.m T.A__law_patch.k T.A__law_patch.b (pad_s (pv 1) (pad_v pd_int pad_nil))))
  (psd_cons (psd_set (i := 4) sc_law.nd rfl (Or.inl rfl) (pd_joinS pd_str (pd_lc [("_law_piece", 6)] rfl sc_law.nd (pid_it (pd_vp (pv 3))) (blkOk_by (own := [("_law_piece", 6)]) (N := ["_law_script", "_law_row_here", "_law_turn", "_law_patch_here", "_law_due", "_law_once", "_law_piece"]) (sc := defScope s_law) (by decide +kernel)) (fun _ _ _ _ _ => (pgd_name (pg_name (i := 6) sc_law.nd rfl (Or.inl rfl)))) (fun _ _ _ _ _ => pts0) (fun _ _ _ _ _ => (pd_call (ok__law_row T) (hr.mono (by decide)) rfl T.A__law_row.m T.A__law_row.k T.A__law_row.b (pad_v (pd_vp (pv 6)) pad_nil))))))
  (psd_one (psd_for PassesOwn.never rfl (pid_rng1 rfl T.n_range (pl_cons pd_int pl_nil)) (pgd_name (pg_name (i := 5) sc_law.nd rfl (Or.inl rfl)))
  (psd_one (psd_if (PW.pt (pw_orD (pt_cmpD (od_ne hr.units) (pd_call (ok_written T) (hr.mono (by decide)) rfl T.A_written.m T.A_written.k T.A_written.b (pad_v (pd_vp (pv 3)) pad_nil)) (pd_vp (pv 4)) (nomark _)) (pw_orD (pt_cmpD (od_ne hr.units) (pd_call (ok_read T) (hr.mono (by decide)) rfl T.A_read.m T.A_read.k T.A_read.b (pad_v (pd_vp (pv 4)) pad_nil)) (pd_vp (pv 3)) (nomark _)) (pw_or1 (pt_notD (pt_b (pd_isiE rfl T.n_isinstance (pd_call (ok_read T) (hr.mono (by decide)) rfl T.A_read.m T.A_read.k T.A_read.b (pad_v (pd_vp (pv 4)) pad_nil)) rfl T.n_tuple rfl)))))))
  (psd_one (psd_ret pd_bl))
  psd_nil)))))))
  (psd_one (psd_ret pd_bl))))) (u_law)
end

def spLaw (K : PySem.W.Frag) : Sp := fun vs H Q _ => ∃ (a : Addr) (ns : List Int), vs = [.ref a] ∧ SqL K H a (ns.map V.int) ∧ ns.length ≤ 63 ∧ ∀ H', Q (.bl true) H'
theorem all_mk {l : PySem.W.OpenLaw} {w : World} {K : PySem.W.Frag} {h : Heap} {mg : Str → Option Value} {fa f1 f2 f3 f4 f5 f6 f7 f8 f9 f10 f11 f12 f13 f14 f15 : Addr} (X : K.In h) (G : h.Ns mainGlobals mg) (hfa : mg "law" = some (.ref fa))
    {od1 an1 od2 an2 od3 an3 od4 an4 od5 an5 od6 an6 od7 an7 od8 an8 od9 an9 od10 an10 od11 an11 od12 an12 od13 an13 od14 an14 od15 an15 : Option Addr} {sl1 sl2 sl3 sl4 sl5 sl6 sl7 sl8 sl9 sl10 sl11 sl12 sl13 sl14 sl15 : Array (Option Value)} {oc1 kV1 dc1 pm1 cd1 ct1 oc2 kV2 dc2 pm2 cd2 ct2 oc3 kV3 dc3 pm3 cd3 ct3 oc4 kV4 dc4 pm4 cd4 ct4 oc5 kV5 dc5 pm5 cd5 ct5 oc6 kV6 dc6 pm6 cd6 ct6 oc7 kV7 dc7 pm7 cd7 ct7 oc8 kV8 dc8 pm8 cd8 ct8 oc9 kV9 dc9 pm9 cd9 ct9 oc10 kV10 dc10 pm10 cd10 ct10 oc11 kV11 dc11 pm11 cd11 ct11 oc12 kV12 dc12 pm12 cd12 ct12 oc13 kV13 dc13 pm13 cd13 ct13 oc14 kV14 dc14 pm14 cd14 ct14 oc15 kV15 dc15 pm15 cd15 ct15 : Value} {t_BRING t_COPY t_FIGURES t_MOST t_RUN : Tok}
    (a1 : PySem.W.nsIn K mainGlobals "_law_taken" = some (some (.ref f1)))
    (l1 : K.lookup f1 = some ⟨oc1, od1, .func (PySem.W.fnOf "_law_taken" "_law_taken" (defArgs s__law_taken) (defBody s__law_taken) (defScope s__law_taken) .none kV1 dc1 pm1 an1 cd1 ct1), sl1⟩)
    (c1 : PySem.W.codeIn K cd1 "_law_taken" = true)
    (k1 : PySem.W.keepIn K (.ref f1) = true)
    (a2 : PySem.W.nsIn K mainGlobals "need_count" = some (some (.ref f2)))
    (l2 : K.lookup f2 = some ⟨oc2, od2, .func (PySem.W.fnOf "need_count" "need_count" (defArgs s_need_count) (defBody s_need_count) (defScope s_need_count) .none kV2 dc2 pm2 an2 cd2 ct2), sl2⟩)
    (c2 : PySem.W.codeIn K cd2 "need_count" = true)
    (k2 : PySem.W.keepIn K (.ref f2) = true)
    (a3 : PySem.W.nsIn K mainGlobals "bytes_of" = some (some (.ref f3)))
    (l3 : K.lookup f3 = some ⟨oc3, od3, .func (PySem.W.fnOf "bytes_of" "bytes_of" (defArgs s_bytes_of) (defBody s_bytes_of) (defScope s_bytes_of) .none kV3 dc3 pm3 an3 cd3 ct3), sl3⟩)
    (c3 : PySem.W.codeIn K cd3 "bytes_of" = true)
    (k3 : PySem.W.keepIn K (.ref f3) = true)
    (a4 : PySem.W.nsIn K mainGlobals "_law_patch" = some (some (.ref f4)))
    (l4 : K.lookup f4 = some ⟨oc4, od4, .func (PySem.W.fnOf "_law_patch" "_law_patch" (defArgs s__law_patch) (defBody s__law_patch) (defScope s__law_patch) .none kV4 dc4 pm4 an4 cd4 ct4), sl4⟩)
    (c4 : PySem.W.codeIn K cd4 "_law_patch" = true)
    (k4 : PySem.W.keepIn K (.ref f4) = true)
    (a5 : PySem.W.nsIn K mainGlobals "numbers_of" = some (some (.ref f5)))
    (l5 : K.lookup f5 = some ⟨oc5, od5, .func (PySem.W.fnOf "numbers_of" "numbers_of" (defArgs s_numbers_of) (defBody s_numbers_of) (defScope s_numbers_of) .none kV5 dc5 pm5 an5 cd5 ct5), sl5⟩)
    (c5 : PySem.W.codeIn K cd5 "numbers_of" = true)
    (k5 : PySem.W.keepIn K (.ref f5) = true)
    (a6 : PySem.W.nsIn K mainGlobals "_law_row" = some (some (.ref f6)))
    (l6 : K.lookup f6 = some ⟨oc6, od6, .func (PySem.W.fnOf "_law_row" "_law_row" (defArgs s__law_row) (defBody s__law_row) (defScope s__law_row) .none kV6 dc6 pm6 an6 cd6 ct6), sl6⟩)
    (c6 : PySem.W.codeIn K cd6 "_law_row" = true)
    (k6 : PySem.W.keepIn K (.ref f6) = true)
    (a7 : PySem.W.nsIn K mainGlobals "is_piece" = some (some (.ref f7)))
    (l7 : K.lookup f7 = some ⟨oc7, od7, .func (PySem.W.fnOf "is_piece" "is_piece" (defArgs s_is_piece) (defBody s_is_piece) (defScope s_is_piece) .none kV7 dc7 pm7 an7 cd7 ct7), sl7⟩)
    (c7 : PySem.W.codeIn K cd7 "is_piece" = true)
    (k7 : PySem.W.keepIn K (.ref f7) = true)
    (a8 : PySem.W.nsIn K mainGlobals "length" = some (some (.ref f8)))
    (l8 : K.lookup f8 = some ⟨oc8, od8, .func (PySem.W.fnOf "length" "length" (defArgs s_length) (defBody s_length) (defScope s_length) .none kV8 dc8 pm8 an8 cd8 ct8), sl8⟩)
    (c8 : PySem.W.codeIn K cd8 "length" = true)
    (k8 : PySem.W.keepIn K (.ref f8) = true)
    (a9 : PySem.W.nsIn K mainGlobals "need_patch" = some (some (.ref f9)))
    (l9 : K.lookup f9 = some ⟨oc9, od9, .func (PySem.W.fnOf "need_patch" "need_patch" (defArgs s_need_patch) (defBody s_need_patch) (defScope s_need_patch) .none kV9 dc9 pm9 an9 cd9 ct9), sl9⟩)
    (c9 : PySem.W.codeIn K cd9 "need_patch" = true)
    (k9 : PySem.W.keepIn K (.ref f9) = true)
    (a10 : PySem.W.nsIn K mainGlobals "number_in" = some (some (.ref f10)))
    (l10 : K.lookup f10 = some ⟨oc10, od10, .func (PySem.W.fnOf "number_in" "number_in" (defArgs s_number_in) (defBody s_number_in) (defScope s_number_in) .none kV10 dc10 pm10 an10 cd10 ct10), sl10⟩)
    (c10 : PySem.W.codeIn K cd10 "number_in" = true)
    (k10 : PySem.W.keepIn K (.ref f10) = true)
    (a11 : PySem.W.nsIn K mainGlobals "piece_in" = some (some (.ref f11)))
    (l11 : K.lookup f11 = some ⟨oc11, od11, .func (PySem.W.fnOf "piece_in" "piece_in" (defArgs s_piece_in) (defBody s_piece_in) (defScope s_piece_in) .none kV11 dc11 pm11 an11 cd11 ct11), sl11⟩)
    (c11 : PySem.W.codeIn K cd11 "piece_in" = true)
    (k11 : PySem.W.keepIn K (.ref f11) = true)
    (a12 : PySem.W.nsIn K mainGlobals "read" = some (some (.ref f12)))
    (l12 : K.lookup f12 = some ⟨oc12, od12, .func (PySem.W.fnOf "read" "read" (defArgs s_read) (defBody s_read) (defScope s_read) .none kV12 dc12 pm12 an12 cd12 ct12), sl12⟩)
    (c12 : PySem.W.codeIn K cd12 "read" = true)
    (k12 : PySem.W.keepIn K (.ref f12) = true)
    (a13 : PySem.W.nsIn K mainGlobals "piece_row" = some (some (.ref f13)))
    (l13 : K.lookup f13 = some ⟨oc13, od13, .func (PySem.W.fnOf "piece_row" "piece_row" (defArgs s_piece_row) (defBody s_piece_row) (defScope s_piece_row) .none kV13 dc13 pm13 an13 cd13 ct13), sl13⟩)
    (c13 : PySem.W.codeIn K cd13 "piece_row" = true)
    (k13 : PySem.W.keepIn K (.ref f13) = true)
    (a14 : PySem.W.nsIn K mainGlobals "written" = some (some (.ref f14)))
    (l14 : K.lookup f14 = some ⟨oc14, od14, .func (PySem.W.fnOf "written" "written" (defArgs s_written) (defBody s_written) (defScope s_written) .none kV14 dc14 pm14 an14 cd14 ct14), sl14⟩)
    (c14 : PySem.W.codeIn K cd14 "written" = true)
    (k14 : PySem.W.keepIn K (.ref f14) = true)
    (a15 : PySem.W.nsIn K mainGlobals "law" = some (some (.ref f15)))
    (l15 : K.lookup f15 = some ⟨oc15, od15, .func (PySem.W.fnOf "law" "law" (defArgs s_law) (defBody s_law) (defScope s_law) .none kV15 dc15 pm15 an15 cd15 ct15), sl15⟩)
    (c15 : PySem.W.codeIn K cd15 "law" = true)
    (k15 : PySem.W.keepIn K (.ref f15) = true)
    (g_BRING : PySem.W.nsIn K mainGlobals "BRING" = some (some (.str "bring" t_BRING)))
    (g_COPY : PySem.W.nsIn K mainGlobals "COPY" = some (some (.str "copy" t_COPY)))
    (g_FIGURES : PySem.W.nsIn K mainGlobals "FIGURES" = some (some (.str "0123456789" t_FIGURES)))
    (g_MOST : PySem.W.nsIn K mainGlobals "MOST" = some (some (.int 200 t_MOST)))
    (g_RUN : PySem.W.nsIn K mainGlobals "RUN" = some (some (.str "run" t_RUN)))
    (n_all : PySem.W.nsIn K mainGlobals "all" = some none)
    (n_bytes : PySem.W.nsIn K mainGlobals "bytes" = some none)
    (n_enumerate : PySem.W.nsIn K mainGlobals "enumerate" = some none)
    (n_int : PySem.W.nsIn K mainGlobals "int" = some none)
    (n_isinstance : PySem.W.nsIn K mainGlobals "isinstance" = some none)
    (n_len : PySem.W.nsIn K mainGlobals "len" = some none)
    (n_list : PySem.W.nsIn K mainGlobals "list" = some none)
    (n_max : PySem.W.nsIn K mainGlobals "max" = some none)
    (n_min : PySem.W.nsIn K mainGlobals "min" = some none)
    (n_range : PySem.W.nsIn K mainGlobals "range" = some none)
    (n_str : PySem.W.nsIn K mainGlobals "str" = some none)
    (n_tuple : PySem.W.nsIn K mainGlobals "tuple" = some none)
    : ∃ fd : FuncData, (∀ (s : Shared) (v : Value), BindsTo s fd ⟨[v], []⟩ [("_law_script", v)]) ∧ ∀ base : Heap, K.In base → base.Ns mainGlobals mg → FnOk l.prog w K mg base CX0 4 fa fd ["_law_script"] (spLaw K) := by
  have e := hfa.symm.trans (PySem.W.mg_of X G a15)
  cases e
  have F1 := fun_mk (st := s__law_taken) l1 c1 k1
  have b1 := F1.binds (ps := ["_law_row_here", "_law_many"]) fun _ _ _ _ _ _ us hl => match us, hl with | [_, _], _ => rfl
  have F2 := fun_mk (st := s_need_count) l2 c2 k2
  have b2 := F2.binds (ps := ["number", "low", "high"]) fun _ _ _ _ _ _ us hl => match us, hl with | [_, _, _], _ => rfl
  have F3 := fun_mk (st := s_bytes_of) l3 c3 k3
  have b3 := F3.binds (ps := ["numbers"]) fun _ _ _ _ _ _ us hl => match us, hl with | [_], _ => rfl
  have F4 := fun_mk (st := s__law_patch) l4 c4 k4
  have b4 := F4.binds (ps := ["_law_row_here", "_law_most"]) fun _ _ _ _ _ _ us hl => match us, hl with | [_, _], _ => rfl
  have F5 := fun_mk (st := s_numbers_of) l5 c5 k5
  have b5 := F5.binds (ps := ["some"]) fun _ _ _ _ _ _ us hl => match us, hl with | [_], _ => rfl
  have F6 := fun_mk (st := s__law_row) l6 c6 k6
  have b6 := F6.binds (ps := ["_law_piece"]) fun _ _ _ _ _ _ us hl => match us, hl with | [_], _ => rfl
  have F7 := fun_mk (st := s_is_piece) l7 c7 k7
  have b7 := F7.binds (ps := ["piece"]) fun _ _ _ _ _ _ us hl => match us, hl with | [_], _ => rfl
  have F8 := fun_mk (st := s_length) l8 c8 k8
  have b8 := F8.binds (ps := ["piece"]) fun _ _ _ _ _ _ us hl => match us, hl with | [_], _ => rfl
  have F9 := fun_mk (st := s_need_patch) l9 c9 k9
  have b9 := F9.binds (ps := ["patch"]) fun _ _ _ _ _ _ us hl => match us, hl with | [_], _ => rfl
  have F10 := fun_mk (st := s_number_in) l10 c10 k10
  have b10 := F10.binds (ps := ["word", "figures"]) fun _ _ _ _ _ _ us hl => match us, hl with | [_, _], _ => rfl
  have F11 := fun_mk (st := s_piece_in) l11 c11 k11
  have b11 := F11.binds (ps := ["line"]) fun _ _ _ _ _ _ us hl => match us, hl with | [_], _ => rfl
  have F12 := fun_mk (st := s_read) l12 c12 k12
  have b12 := F12.binds (ps := ["text"]) fun _ _ _ _ _ _ us hl => match us, hl with | [_], _ => rfl
  have F13 := fun_mk (st := s_piece_row) l13 c13 k13
  have b13 := F13.binds (ps := ["piece"]) fun _ _ _ _ _ _ us hl => match us, hl with | [_], _ => rfl
  have F14 := fun_mk (st := s_written) l14 c14 k14
  have b14 := F14.binds (ps := ["patch"]) fun _ _ _ _ _ _ us hl => match us, hl with | [_], _ => rfl
  have F15 := fun_mk (st := s_law) l15 c15 k15
  have b15 := F15.binds (ps := ["_law_script"]) fun _ _ _ _ _ _ us hl => match us, hl with | [_], _ => rfl
  exact ⟨_, fun s v => .of_eq rfl, fun base _ _ => (ok_law (P := l.prog) (w := w) (base := base) (⟨_, _, ⟨F1, PySem.W.mg_of X G a1, b1, k1⟩, _, _, ⟨F2, PySem.W.mg_of X G a2, b2, k2⟩, _, _, ⟨F3, PySem.W.mg_of X G a3, b3, k3⟩, _, _, ⟨F4, PySem.W.mg_of X G a4, b4, k4⟩, _, _, ⟨F5, PySem.W.mg_of X G a5, b5, k5⟩, _, _, ⟨F6, PySem.W.mg_of X G a6, b6, k6⟩, _, _, ⟨F7, PySem.W.mg_of X G a7, b7, k7⟩, _, _, ⟨F8, PySem.W.mg_of X G a8, b8, k8⟩, _, _, ⟨F9, PySem.W.mg_of X G a9, b9, k9⟩, _, _, ⟨F10, PySem.W.mg_of X G a10, b10, k10⟩, _, _, ⟨F11, PySem.W.mg_of X G a11, b11, k11⟩, _, _, ⟨F12, PySem.W.mg_of X G a12, b12, k12⟩, _, _, ⟨F13, PySem.W.mg_of X G a13, b13, k13⟩, _, _, ⟨F14, PySem.W.mg_of X G a14, b14, k14⟩, _, _, ⟨F15, PySem.W.mg_of X G a15, b15, k15⟩, t_BRING, PySem.W.mg_of X G g_BRING, t_COPY, PySem.W.mg_of X G g_COPY, t_FIGURES, PySem.W.mg_of X G g_FIGURES, t_MOST, PySem.W.mg_of X G g_MOST, t_RUN, PySem.W.mg_of X G g_RUN, PySem.W.mg_none_of X G n_all, PySem.W.mg_none_of X G n_bytes, PySem.W.mg_none_of X G n_enumerate, PySem.W.mg_none_of X G n_int, PySem.W.mg_none_of X G n_isinstance, PySem.W.mg_none_of X G n_len, PySem.W.mg_none_of X G n_list, PySem.W.mg_none_of X G n_max, PySem.W.mg_none_of X G n_min, PySem.W.mg_none_of X G n_range, PySem.W.mg_none_of X G n_str, PySem.W.mg_none_of X G n_tuple⟩   : Txt K mg)).imp (sp' := spLaw K) fun vs H Q E hv => by
    obtain ⟨a, ns, rfl, hS, hl, k⟩ := hv
    exact law_sp (fun P hP => ⟨ns, rfl, hl, hP⟩) hS k⟩
theorem walk {l : PySem.W.OpenLaw} {q : Program} {loose : List Str} {XP : (Str → Option Value) → Heap → Prop} {YP : World → Heap → Prop} {d : DefRec} {K : Params → PySem.W.Frag} (hn : l.most = some 63) (hdf : d.params.defaults = [])
    (hY : ∀ (w : World) (h : Heap), YP w h → (K w.params).In h)
    (F : ∀ (w : World) (mg : Str → Option Value) (fa : Addr) (h : Heap), (K w.params).In h → h.Ns mainGlobals mg → mg d.name = some (.ref fa) →
      ∃ fd : FuncData, (∀ (s : Shared) (u : Value), BindsTo s fd ⟨[u], []⟩ [("_law_script", u)]) ∧ ∀ base : Heap, (K w.params).In base → base.Ns mainGlobals mg → FnOk l.prog w (K w.params) mg base CX0 4 fa fd ["_law_script"] (spLaw (K w.params))) :
    PySem.W.WalkO q loose XP YP l.row.toRowW d [] (fun f vs => PySem.call f vs) :=
  L2.walk_of (n := 63) (k := 4) (x := "_law_script") (CX := fun _ => CX0) (sp := fun w => spLaw (K w.params)) hn (by decide) hdf ⟨rfl, by decide, by decide⟩ hY F (fun _ _ a ns hl _ hS => ⟨a, ns, rfl, hS, hl, fun _ => rfl⟩) fun _ _ _ _ _ z => z
end Po
open PySem PySem.W PyProof.Rows
set_option maxRecDepth 100000 in
set_option maxHeartbeats 0 in
theorem PySem.Challenge.cw_patchover_k61_patches_written_and_read_holds : PySem.Challenge.rw_patchover_k61_patches_written_and_read.Holds := by
  refine Po.head ?_
  k_fill
  refine Po.walk (l := PySem.Challenge.rw_patchover_k61_patches_written_and_read) rfl rfl (fun w h Y => PySem.W.kIn_of Y) ?F
  case F =>
    intro w mg fa h KX G hmg
    refine' Po.all_mk KX G hmg ?a1 ?l1 ?c1 ?k1 ?a2 ?l2 ?c2 ?k2 ?a3 ?l3 ?c3 ?k3 ?a4 ?l4 ?c4 ?k4 ?a5 ?l5 ?c5 ?k5 ?a6 ?l6 ?c6 ?k6 ?a7 ?l7 ?c7 ?k7 ?a8 ?l8 ?c8 ?k8 ?a9 ?l9 ?c9 ?k9 ?a10 ?l10 ?c10 ?k10 ?a11 ?l11 ?c11 ?k11 ?a12 ?l12 ?c12 ?k12 ?a13 ?l13 ?c13 ?k13 ?a14 ?l14 ?c14 ?k14 ?a15 ?l15 ?c15 ?k15 ?g_BRING ?g_COPY ?g_FIGURES ?g_MOST ?g_RUN ?n_all ?n_bytes ?n_enumerate ?n_int ?n_isinstance ?n_len ?n_list ?n_max ?n_min ?n_range ?n_str ?n_tuple
    (case a1 => k_is)
    (case l1 => k_is)
    (case c1 => k_is)
    (case k1 => k_is)
    (case a2 => k_is)
    (case l2 => k_is)
    (case c2 => k_is)
    (case k2 => k_is)
    (case a3 => k_is)
    (case l3 => k_is)
    (case c3 => k_is)
    (case k3 => k_is)
    (case a4 => k_is)
    (case l4 => k_is)
    (case c4 => k_is)
    (case k4 => k_is)
    (case a5 => k_is)
    (case l5 => k_is)
    (case c5 => k_is)
    (case k5 => k_is)
    (case a6 => k_is)
    (case l6 => k_is)
    (case c6 => k_is)
    (case k6 => k_is)
    (case a7 => k_is)
    (case l7 => k_is)
    (case c7 => k_is)
    (case k7 => k_is)
    (case a8 => k_is)
    (case l8 => k_is)
    (case c8 => k_is)
    (case k8 => k_is)
    (case a9 => k_is)
    (case l9 => k_is)
    (case c9 => k_is)
    (case k9 => k_is)
    (case a10 => k_is)
    (case l10 => k_is)
    (case c10 => k_is)
    (case k10 => k_is)
    (case a11 => k_is)
    (case l11 => k_is)
    (case c11 => k_is)
    (case k11 => k_is)
    (case a12 => k_is)
    (case l12 => k_is)
    (case c12 => k_is)
    (case k12 => k_is)
    (case a13 => k_is)
    (case l13 => k_is)
    (case c13 => k_is)
    (case k13 => k_is)
    (case a14 => k_is)
    (case l14 => k_is)
    (case c14 => k_is)
    (case k14 => k_is)
    (case a15 => k_is)
    (case l15 => k_is)
    (case c15 => k_is)
    (case k15 => k_is)
    (case g_BRING => k_is)
    (case g_COPY => k_is)
    (case g_FIGURES => k_is)
    (case g_MOST => k_is)
    (case g_RUN => k_is)
    (case n_all => k_is)
    (case n_bytes => k_is)
    (case n_enumerate => k_is)
    (case n_int => k_is)
    (case n_isinstance => k_is)
    (case n_len => k_is)
    (case n_list => k_is)
    (case n_max => k_is)
    (case n_min => k_is)
    (case n_range => k_is)
    (case n_str => k_is)
    (case n_tuple => k_is)
#print axioms PySem.Challenge.cw_patchover_k61_patches_written_and_read_holds
