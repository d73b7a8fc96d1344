import PyProof.Rows.All
import Wide.All
import OpenK.AllK
import Wide.FinOn
import HandS.CallSlots
import HandS.Conv
import HandS.Deep
import HandS.DictComp
import HandS.Exc
import HandS.ExcOwn
import HandS.ForMost
import HandS.IsInst
import HandS.ListItems
import HandS.RaiseMore
import HandS.SortInts
import HandS.Strs
import HandS.Style
import HandS.TryOnly
import HandS.TupAny
import HandS.TupMul
import HandS.TupSets
import HandS.Wide
import HandS.WordsExc
import HandS.Zip
import KE.DataMinMax
import KE.KDictSum
import KE.KDictZip
import KE.KItemsList
import KE.SortKeyed
import PyProof.ListStr
import PyProof.TupleOfSeq
import PySem.Challenge.RW_onlyundone_k65_walks_with_wipes
set_option Elab.async false
set_option linter.all false
set_option autoImplicit false
set_option maxRecDepth 100000
/-! PL1: plain data D, owned data O, how they lie in the abstract heap; what a step may change. -/
namespace PL
open PySem L2

/-- plain data, without the heap -/
inductive D where
  | non | bl (b : Bool) | int (i : Int) | str (x : Str) | gl (x : Str) | ty (n : String)
  | tup (xs : List D) | lst (xs : List D) | frl (xs : List D)
  | dK (ks : List Key) (vs : List D) | dT (ks : List (List Key)) (vs : List D)
  | ins (c : Str) (fs : List Str) (vs : List D)

/-- data that one place alone holds: it may be changed there -/
inductive O where
  | val (d : D) | lst (xs : List O) | dK (ks : List Key) (vs : List O) | dT (ks : List (List Key)) (vs : List O)
  | ins (c : Str) (fs : List Str) (vs : List O)

mutual
def O.er : O → D
  | .val d => d
  | .lst xs => .lst (O.ers xs)
  | .dK ks vs => .dK ks (O.ers vs)
  | .dT ks vs => .dT ks (O.ers vs)
  | .ins c fs vs => .ins c fs (O.ers vs)
def O.ers : List O → List D
  | [] => []
  | o :: os => o.er :: O.ers os
end
theorem O.ers_map : ∀ os : List O, O.ers os = os.map O.er
  | [] => rfl
  | o :: os => by rw [O.ers, O.ers_map os]; rfl
theorem O.ers_len (os : List O) : (O.ers os).length = os.length := by rw [O.ers_map, List.length_map]
theorem O.ers_val : ∀ ds : List D, O.ers (ds.map .val) = ds
  | [] => rfl
  | d :: ds => by
    show O.er (.val d) :: O.ers (ds.map .val) = d :: ds
    rw [O.ers_val ds]; rfl

/-- what is asked of a class whose instances are kept -/
structure ClsF (K : PySem.W.Frag) (C : Addr) (fs : List Str) : Prop where
  cl : Cls K C
  na : ∀ f, f ∈ fs → NoAttr K C f
/-- a tuple that is read: tracked, or of the module's own -/
def TupR (K : PySem.W.Frag) (F : Hp) (a : Addr) (vs : List V) : Prop := F a = some (.tup vs)
theorem TupR.sq {K : PySem.W.Frag} {F : Hp} {a : Addr} {vs : List V} (h : TupR K F a vs) : SqT K F a vs := .inl (.inl h)
section
variable (K : PySem.W.Frag) (G : Str → Option Value)
mutual
/-- d lies at v, in what does not change any more -/
def Rep (F : Hp) : D → V → Prop
  | .non, v => v = .non
  | .bl b, v => v = .bl b
  | .int i, v => v = .int i
  | .str x, v => v = .str x
  | .gl x, v => ∃ a, G x = some (.ref a) ∧ v = .ref a
  | .ty n, v => v = .ty n
  | .tup ds, v => ∃ a vs, v = .ref a ∧ TupR K F a vs ∧ ds.length ≤ sizeLine ∧ Reps F ds vs
  | .lst ds, v => ∃ a vs, v = .ref a ∧ F a = some (.lst vs) ∧ ds.length ≤ sizeLine ∧ Reps F ds vs
  | .frl ds, v => ∃ a vs, v = .ref a ∧ SqL K F a vs ∧ ds.length ≤ sizeLine ∧ Reps F ds vs
  | .dK ks ds, v => ∃ a vs, v = .ref a ∧ F a = some (.dK (ks.zip vs)) ∧ ks.length = ds.length ∧ ds.length ≤ sizeLine ∧ Reps F ds vs
  | .dT ks ds, v => ∃ a vs, v = .ref a ∧ F a = some (.dT (ks.zip vs)) ∧ ks.length = ds.length ∧ ds.length ≤ sizeLine ∧ Reps F ds vs
  | .ins c fs ds, v => ∃ a dx C vs, v = .ref a ∧ G c = some (.ref C) ∧ F a = some (.ins C dx (fs.zip vs)) ∧ F dx = some (.own a) ∧ fs.length = ds.length ∧ ClsF K C fs ∧ Reps F ds vs
def Reps (F : Hp) : List D → List V → Prop
  | [], vs => vs = []
  | d :: ds, vs => ∃ v r, vs = v :: r ∧ Rep F d v ∧ Reps F ds r
end
mutual
/-- o lies at v; fp: what it alone holds -/
def RO (F H : Hp) : O → V → List Addr → Prop
  | .val d, v, fp => fp = [] ∧ Rep K G F d v
  | .lst os, v, fp => ∃ a vs fs, v = .ref a ∧ H a = some (.lst vs) ∧ F a = none ∧ os.length ≤ sizeLine ∧ ROs F H os vs fs ∧ a ∉ fs ∧ fp = a :: fs
  | .dK ks os, v, fp => ∃ a vs fs, v = .ref a ∧ H a = some (.dK (ks.zip vs)) ∧ F a = none ∧ ks.length = os.length ∧ os.length ≤ sizeLine ∧ ROs F H os vs fs ∧ a ∉ fs ∧ fp = a :: fs
  | .dT ks os, v, fp => ∃ a vs fs, v = .ref a ∧ H a = some (.dT (ks.zip vs)) ∧ F a = none ∧ ks.length = os.length ∧ os.length ≤ sizeLine ∧ ROs F H os vs fs ∧ a ∉ fs ∧ fp = a :: fs
  | .ins c nms os, v, fp => ∃ a dx C vs fs, v = .ref a ∧ G c = some (.ref C) ∧ H a = some (.ins C dx (nms.zip vs)) ∧ H dx = some (.own a) ∧ F a = none ∧ F dx = none ∧ nms.length = os.length ∧ ClsF K C nms ∧ ROs F H os vs fs ∧ a ∉ fs ∧ dx ∉ fs ∧ a ≠ dx ∧ fp = a :: dx :: fs
def ROs (F H : Hp) : List O → List V → List Addr → Prop
  | [], vs, fp => vs = [] ∧ fp = []
  | o :: os, vs, fp => ∃ v r f1 f2, vs = v :: r ∧ RO F H o v f1 ∧ ROs F H os r f2 ∧ (∀ x ∈ f1, x ∉ f2) ∧ fp = f1 ++ f2
end
end

section
variable {K : PySem.W.Frag} {G : Str → Option Value} {F F' H H' : Hp}
theorem sameL (h : Same F F') {a : Addr} {vs : List V} (q : SqL K F a vs) : SqL K F' a vs := by
  rcases q with q | q
  · refine .inl ?_
    rcases q with q | ⟨o, q⟩
    · exact .inl (h _ _ q)
    · exact .inr ⟨o, h _ _ q⟩
  · exact .inr q
theorem sameT (h : Same F F') {a : Addr} {vs : List V} (q : TupR K F a vs) : TupR K F' a vs := h _ _ q
theorem sqT (h : Same F F') {a : Addr} {vs : List V} (q : TupR K F a vs) : SqT K F' a vs := (sameT h q).sq
mutual
theorem Rep.mono (h : Same F F') : ∀ (d : D) (v : V), Rep K G F d v → Rep K G F' d v
  | .non, _, q => q
  | .bl _, _, q => q
  | .int _, _, q => q
  | .str _, _, q => q
  | .gl _, _, q => q
  | .ty _, _, q => q
  | .tup ds, v, q => by
    simp only [Rep] at q ⊢
    obtain ⟨a, vs, e, s, l, r⟩ := q
    exact ⟨a, vs, e, sameT h s, l, Reps.mono h ds vs r⟩
  | .lst ds, v, q => by
    simp only [Rep] at q ⊢
    obtain ⟨a, vs, e, s, l, r⟩ := q
    exact ⟨a, vs, e, h _ _ s, l, Reps.mono h ds vs r⟩
  | .frl ds, v, q => by
    simp only [Rep] at q ⊢
    obtain ⟨a, vs, e, s, l, r⟩ := q
    exact ⟨a, vs, e, sameL h s, l, Reps.mono h ds vs r⟩
  | .dK ks ds, v, q => by
    simp only [Rep] at q ⊢
    obtain ⟨a, vs, e, s, l, l2, r⟩ := q
    exact ⟨a, vs, e, h _ _ s, l, l2, Reps.mono h ds vs r⟩
  | .dT ks ds, v, q => by
    simp only [Rep] at q ⊢
    obtain ⟨a, vs, e, s, l, l2, r⟩ := q
    exact ⟨a, vs, e, h _ _ s, l, l2, Reps.mono h ds vs r⟩
  | .ins c fs ds, v, q => by
    simp only [Rep] at q ⊢
    obtain ⟨a, dx, C, vs, e, g, s, s2, l, hc, r⟩ := q
    exact ⟨a, dx, C, vs, e, g, h _ _ s, h _ _ s2, l, hc, Reps.mono h ds vs r⟩
theorem Reps.mono (h : Same F F') : ∀ (ds : List D) (vs : List V), Reps K G F ds vs → Reps K G F' ds vs
  | [], _, q => by simpa only [Reps] using q
  | d :: ds, vs, q => by
    simp only [Reps] at q ⊢
    obtain ⟨v, r, e, q1, q2⟩ := q
    exact ⟨v, r, e, Rep.mono h d v q1, Reps.mono h ds r q2⟩
end
theorem Reps.length : ∀ {ds : List D} {vs : List V}, Reps K G F ds vs → vs.length = ds.length
  | [], vs, q => by simp only [Reps] at q; subst q; rfl
  | d :: ds, vs, q => by
    simp only [Reps] at q
    obtain ⟨v, r, e, q1, q2⟩ := q
    subst e
    simp only [List.length_cons, Reps.length q2]
theorem Reps.get : ∀ {ds : List D} {vs : List V} {i : Nat} {d : D}, Reps K G F ds vs → ds[i]? = some d → ∃ v, vs[i]? = some v ∧ Rep K G F d v
  | [], vs, i, d, q, e => by simp at e
  | d0 :: ds, vs, i, d, q, e => by
    simp only [Reps] at q
    obtain ⟨v, r, e1, q1, q2⟩ := q
    subst e1
    cases i with
    | zero => simp at e; subst e; exact ⟨v, rfl, q1⟩
    | succ i =>
      obtain ⟨v', h1, h2⟩ := Reps.get (i := i) q2 (by simpa using e)
      exact ⟨v', by simpa using h1, h2⟩
theorem Reps.get' {ds : List D} {vs : List V} {i : Nat} {v : V} (q : Reps K G F ds vs) (e : vs[i]? = some v) : ∃ d, ds[i]? = some d ∧ Rep K G F d v := by
  have hl := q.length
  have hi : i < vs.length := by
    rcases Nat.lt_or_ge i vs.length with h | h
    · exact h
    · rw [List.getElem?_eq_none h] at e; cases e
  obtain ⟨v', h1, h2⟩ := q.get (i := i) (d := ds[i]'(by omega)) (List.getElem?_eq_getElem (by omega))
  rw [e] at h1
  cases h1
  exact ⟨_, List.getElem?_eq_getElem (by omega), h2⟩
theorem Reps.append : ∀ {ds es : List D} {vs ws : List V}, Reps K G F ds vs → Reps K G F es ws → Reps K G F (ds ++ es) (vs ++ ws)
  | [], es, vs, ws, q, r => by simp only [Reps] at q; subst q; exact r
  | d :: ds, es, vs, ws, q, r => by
    simp only [Reps] at q
    obtain ⟨v, t, e, q1, q2⟩ := q
    subst e
    simp only [List.cons_append, Reps]
    exact ⟨v, t ++ ws, rfl, q1, Reps.append q2 r⟩
theorem Reps.take : ∀ {ds : List D} {vs : List V} (n : Nat), Reps K G F ds vs → Reps K G F (ds.take n) (vs.take n)
  | ds, vs, 0, q => by simp [Reps]
  | [], vs, n + 1, q => by simp only [Reps] at q; subst q; simp [Reps]
  | d :: ds, vs, n + 1, q => by
    simp only [Reps] at q
    obtain ⟨v, t, e, q1, q2⟩ := q
    subst e
    simp only [List.take_succ_cons, Reps]
    exact ⟨v, t.take n, rfl, q1, Reps.take n q2⟩
theorem Reps.drop : ∀ {ds : List D} {vs : List V} (n : Nat), Reps K G F ds vs → Reps K G F (ds.drop n) (vs.drop n)
  | ds, vs, 0, q => by simpa using q
  | [], vs, n + 1, q => by simp only [Reps] at q; subst q; simp [Reps]
  | d :: ds, vs, n + 1, q => by
    simp only [Reps] at q
    obtain ⟨v, t, e, q1, q2⟩ := q
    subst e
    simpa using Reps.drop n q2
theorem Reps.reverse : ∀ {ds : List D} {vs : List V}, Reps K G F ds vs → Reps K G F ds.reverse vs.reverse
  | [], vs, q => by simp only [Reps] at q; subst q; simp [Reps]
  | d :: ds, vs, q => by
    simp only [Reps] at q
    obtain ⟨v, t, e, q1, q2⟩ := q
    subst e
    simp only [List.reverse_cons]
    exact Reps.append (Reps.reverse q2) (by simp only [Reps]; exact ⟨v, [], rfl, q1, rfl⟩)
theorem Reps.single {d : D} {v : V} (h : Rep K G F d v) : Reps K G F [d] [v] := by simp only [Reps]; exact ⟨v, [], rfl, h, rfl⟩
theorem Reps.nil : Reps K G F [] [] := by simp only [Reps]
theorem Reps.cons {d : D} {v : V} {ds : List D} {vs : List V} (h : Rep K G F d v) (t : Reps K G F ds vs) : Reps K G F (d :: ds) (v :: vs) := by simp only [Reps]; exact ⟨v, vs, rfl, h, t⟩

mutual
/-- what o alone holds stands in H, not in F -/
theorem RO.fp : ∀ {o : O} {v : V} {fp : List Addr}, RO K G F H o v fp → ∀ a ∈ fp, F a = none ∧ H a ≠ none
  | .val d, v, fp, q, a, ha => by
    simp only [RO] at q
    rw [q.1] at ha; simp at ha
  | .lst os, v, fp, q, a, ha => by
    simp only [RO] at q
    obtain ⟨b, vs, fs, e, h1, h2, h3, h4, h5, h6⟩ := q
    subst h6
    rcases List.mem_cons.mp ha with z | z
    · subst z; exact ⟨h2, by rw [h1]; simp⟩
    · exact ROs.fp h4 a z
  | .dK ks os, v, fp, q, a, ha => by
    simp only [RO] at q
    obtain ⟨b, vs, fs, e, h1, h2, h3, h3', h4, h5, h6⟩ := q
    subst h6
    rcases List.mem_cons.mp ha with z | z
    · subst z; exact ⟨h2, by rw [h1]; simp⟩
    · exact ROs.fp h4 a z
  | .dT ks os, v, fp, q, a, ha => by
    simp only [RO] at q
    obtain ⟨b, vs, fs, e, h1, h2, h3, h3', h4, h5, h6⟩ := q
    subst h6
    rcases List.mem_cons.mp ha with z | z
    · subst z; exact ⟨h2, by rw [h1]; simp⟩
    · exact ROs.fp h4 a z
  | .ins c nms os, v, fp, q, a, ha => by
    simp only [RO] at q
    obtain ⟨b, dx, C, vs, fs, e, g, h1, h1', h2, h2', h3, hc, h4, h5, h5', h5'', h6⟩ := q
    subst h6
    rcases List.mem_cons.mp ha with z | z
    · subst z; exact ⟨h2, by rw [h1]; simp⟩
    · rcases List.mem_cons.mp z with z | z
      · subst z; exact ⟨h2', by rw [h1']; simp⟩
      · exact ROs.fp h4 a z
theorem ROs.fp : ∀ {os : List O} {vs : List V} {fp : List Addr}, ROs K G F H os vs fp → ∀ a ∈ fp, F a = none ∧ H a ≠ none
  | [], vs, fp, q, a, ha => by
    simp only [ROs] at q
    rw [q.2] at ha; simp at ha
  | o :: os, vs, fp, q, a, ha => by
    simp only [ROs] at q
    obtain ⟨v, r, f1, f2, e, q1, q2, q3, q4⟩ := q
    subst q4
    rcases List.mem_append.mp ha with z | z
    · exact RO.fp q1 a z
    · exact ROs.fp q2 a z
end
mutual
theorem RO.frame (h : Same F F') : ∀ {o : O} {v : V} {fp : List Addr}, (∀ a ∈ fp, H' a = H a ∧ F' a = none) → RO K G F H o v fp → RO K G F' H' o v fp
  | .val d, v, fp, k, q => by
    simp only [RO] at q ⊢
    exact ⟨q.1, Rep.mono h d v q.2⟩
  | .lst os, v, fp, k, q => by
    simp only [RO] at q ⊢
    obtain ⟨b, vs, fs, e, h1, h2, h3, h4, h5, h6⟩ := q
    subst h6
    have kb := k b (by simp)
    exact ⟨b, vs, fs, e, by rw [kb.1]; exact h1, kb.2, h3, ROs.frame h (fun a z => k a (List.mem_cons_of_mem _ z)) h4, h5, rfl⟩
  | .dK ks os, v, fp, k, q => by
    simp only [RO] at q ⊢
    obtain ⟨b, vs, fs, e, h1, h2, h3, h3', h4, h5, h6⟩ := q
    subst h6
    have kb := k b (by simp)
    exact ⟨b, vs, fs, e, by rw [kb.1]; exact h1, kb.2, h3, h3', ROs.frame h (fun a z => k a (List.mem_cons_of_mem _ z)) h4, h5, rfl⟩
  | .dT ks os, v, fp, k, q => by
    simp only [RO] at q ⊢
    obtain ⟨b, vs, fs, e, h1, h2, h3, h3', h4, h5, h6⟩ := q
    subst h6
    have kb := k b (by simp)
    exact ⟨b, vs, fs, e, by rw [kb.1]; exact h1, kb.2, h3, h3', ROs.frame h (fun a z => k a (List.mem_cons_of_mem _ z)) h4, h5, rfl⟩
  | .ins c nms os, v, fp, k, q => by
    simp only [RO] at q ⊢
    obtain ⟨b, dx, C, vs, fs, e, g, h1, h1', h2, h2', h3, hc, h4, h5, h5', h5'', h6⟩ := q
    subst h6
    have kb := k b (by simp)
    have kd := k dx (by simp)
    exact ⟨b, dx, C, vs, fs, e, g, by rw [kb.1]; exact h1, by rw [kd.1]; exact h1', kb.2, kd.2, h3, hc, ROs.frame h (fun a z => k a (List.mem_cons_of_mem _ (List.mem_cons_of_mem _ z))) h4, h5, h5', h5'', rfl⟩
theorem ROs.frame (h : Same F F') : ∀ {os : List O} {vs : List V} {fp : List Addr}, (∀ a ∈ fp, H' a = H a ∧ F' a = none) → ROs K G F H os vs fp → ROs K G F' H' os vs fp
  | [], vs, fp, k, q => by simpa only [ROs] using q
  | o :: os, vs, fp, k, q => by
    simp only [ROs] at q ⊢
    obtain ⟨v, r, f1, f2, e, q1, q2, q3, q4⟩ := q
    subst q4
    exact ⟨v, r, f1, f2, e, RO.frame h (fun a z => k a (List.mem_append_left _ z)) q1, ROs.frame h (fun a z => k a (List.mem_append_right _ z)) q2, q3, rfl⟩
end
mutual
/-- frozen: from now on it does not change -/
theorem RO.freeze (h : Same F F') : ∀ {o : O} {v : V} {fp : List Addr}, (∀ a ∈ fp, F' a = H a) → RO K G F H o v fp → Rep K G F' o.er v
  | .val d, v, fp, k, q => by
    simp only [RO] at q
    exact Rep.mono h d v q.2
  | .lst os, v, fp, k, q => by
    simp only [RO] at q
    obtain ⟨b, vs, fs, e, h1, h2, h3, h4, h5, h6⟩ := q
    subst h6
    have kb := k b (by simp)
    simp only [O.er, Rep]
    exact ⟨b, vs, e, by rw [kb]; exact h1, by rw [O.ers_len]; exact h3, ROs.freeze h (fun a z => k a (List.mem_cons_of_mem _ z)) h4⟩
  | .dK ks os, v, fp, k, q => by
    simp only [RO] at q
    obtain ⟨b, vs, fs, e, h1, h2, h3, h3', h4, h5, h6⟩ := q
    subst h6
    have kb := k b (by simp)
    simp only [O.er, Rep]
    exact ⟨b, vs, e, by rw [kb]; exact h1, by rw [O.ers_len]; exact h3, by rw [O.ers_len]; exact h3', ROs.freeze h (fun a z => k a (List.mem_cons_of_mem _ z)) h4⟩
  | .dT ks os, v, fp, k, q => by
    simp only [RO] at q
    obtain ⟨b, vs, fs, e, h1, h2, h3, h3', h4, h5, h6⟩ := q
    subst h6
    have kb := k b (by simp)
    simp only [O.er, Rep]
    exact ⟨b, vs, e, by rw [kb]; exact h1, by rw [O.ers_len]; exact h3, by rw [O.ers_len]; exact h3', ROs.freeze h (fun a z => k a (List.mem_cons_of_mem _ z)) h4⟩
  | .ins c nms os, v, fp, k, q => by
    simp only [RO] at q
    obtain ⟨b, dx, C, vs, fs, e, g, h1, h1', h2, h2', h3, hc, h4, h5, h5', h5'', h6⟩ := q
    subst h6
    have kb := k b (by simp)
    have kd := k dx (by simp)
    simp only [O.er, Rep]
    exact ⟨b, dx, C, vs, e, g, by rw [kb]; exact h1, by rw [kd]; exact h1', by rw [O.ers_len]; exact h3, hc, ROs.freeze h (fun a z => k a (List.mem_cons_of_mem _ (List.mem_cons_of_mem _ z))) h4⟩
theorem ROs.freeze (h : Same F F') : ∀ {os : List O} {vs : List V} {fp : List Addr}, (∀ a ∈ fp, F' a = H a) → ROs K G F H os vs fp → Reps K G F' (O.ers os) vs
  | [], vs, fp, k, q => by
    simp only [ROs] at q
    simp only [O.ers, Reps]
    exact q.1
  | o :: os, vs, fp, k, q => by
    simp only [ROs] at q
    obtain ⟨v, r, f1, f2, e, q1, q2, q3, q4⟩ := q
    subst q4
    simp only [O.ers, Reps]
    exact ⟨v, r, e, RO.freeze h (fun a z => k a (List.mem_append_left _ z)) q1, ROs.freeze h (fun a z => k a (List.mem_append_right _ z)) q2⟩
end
theorem RO.val {d : D} {v : V} (h : Rep K G F d v) : RO K G F H (.val d) v [] := by rw [RO]; exact ⟨rfl, h⟩
theorem RO.val_inv {d : D} {v : V} {fp : List Addr} (h : RO K G F H (.val d) v fp) : fp = [] ∧ Rep K G F d v := by simpa only [RO] using h
theorem ROs.vals : ∀ {ds : List D} {vs : List V}, Reps K G F ds vs → ROs K G F H (ds.map .val) vs []
  | [], vs, q => by simp only [Reps] at q; rw [List.map_nil, ROs]; exact ⟨q, rfl⟩
  | d :: ds, vs, q => by
    simp only [Reps] at q
    obtain ⟨v, r, e, q1, q2⟩ := q
    rw [List.map_cons, ROs]
    exact ⟨v, r, [], [], e, .val q1, ROs.vals q2, by simp, rfl⟩
end

/-! ### the places of a def -/
abbrev Env := List (Option O)
/-- the places: what each holds, where it lies, what it alone holds -/
structure RE (K : PySem.W.Frag) (G : Str → Option Value) (F H : Hp) (env : Env) (σ : St) (fp : Nat → List Addr) : Prop where
  len : env.length = σ.length
  slot : ∀ i o, env[i]? = some (some o) → ∃ v, σ[i]? = some (some v) ∧ RO K G F H o v (fp i)
  emp : ∀ i, (∀ o, env[i]? ≠ some (some o)) → fp i = []
  dis : ∀ i j, i ≠ j → ∀ a ∈ fp i, a ∉ fp j
/-- what may have been changed: only what W tells of what stood -/
structure Ext (F H : Hp) (W : Addr → Prop) (F' H' : Hp) : Prop where
  ff : Same F F'
  fh : Same F' H'
  keep : ∀ a o, H a = some o → ¬ W a → H' a = some o
  new : ∀ a, F' a ≠ none → F a ≠ none ∨ W a ∨ H a = none
  dom : ∀ a, H a ≠ none → H' a ≠ none
def Wf (T : List Nat) (fp : Nat → List Addr) (a : Addr) : Prop := ∃ t, t ∈ T ∧ a ∈ fp t
structure Pst (K : PySem.W.Frag) (G : Str → Option Value) (T : List Nat) (F H : Hp) (env : Env) (fp : Nat → List Addr) (F' H' : Hp) (env' : Env) (σ' : St) (fp' : Nat → List Addr) : Prop where
  ext : Ext F H (Wf T fp) F' H'
  re : RE K G F' H' env' σ' fp'
  same : ∀ j, j ∉ T → env'[j]? = env[j]? ∧ fp' j = fp j
  come : ∀ j a, a ∈ fp' j → j ∈ T → Wf T fp a ∨ H a = none
  ln : env'.length = env.length
section
variable {K : PySem.W.Frag} {G : Str → Option Value} {F F1 F2 H H1 H2 : Hp} {env env1 env2 : Env} {σ σ1 σ2 : St} {fp fp1 fp2 : Nat → List Addr} {T T1 T2 : List Nat}
theorem Same.refl : Same H H := fun _ _ e => e
theorem RE.fpin (r : RE K G F H env σ fp) {j : Nat} {a : Addr} (h : a ∈ fp j) : F a = none ∧ H a ≠ none := by
  by_cases q : ∃ o, env[j]? = some (some o)
  · obtain ⟨o, q⟩ := q
    obtain ⟨v, _, ro⟩ := r.slot j o q
    exact ro.fp a h
  · rw [r.emp j fun o e => q ⟨o, e⟩] at h
    simp at h
theorem Ext.refl (h : Same F H) {W : Addr → Prop} : Ext F H W F H := ⟨Same.refl, h, fun _ _ e _ => e, fun _ e => .inl e, fun _ e => e⟩
theorem Ext.mono {W W' : Addr → Prop} (h : ∀ a, W a → W' a) (e : Ext F H W F1 H1) : Ext F H W' F1 H1 :=
  ⟨e.ff, e.fh, fun a o h1 h2 => e.keep a o h1 fun z => h2 (h a z), fun a h1 => (e.new a h1).imp_right fun z => z.imp_left (h a), e.dom⟩
theorem Same.trans {A B C : Hp} (h1 : Same A B) (h2 : Same B C) : Same A C := fun a o e => h2 a o (h1 a o e)
theorem Ext.trans {W W2 : Addr → Prop} (e1 : Ext F H W F1 H1) (hw : ∀ a, W2 a → W a ∨ H a = none) (e2 : Ext F1 H1 W2 F2 H2) : Ext F H W F2 H2 := by
  refine ⟨e1.ff.trans e2.ff, e2.fh, fun a o h1 h2 => ?_, fun a h => ?_, fun a h => e2.dom a (e1.dom a h)⟩
  · refine e2.keep a o (e1.keep a o h1 h2) fun z => ?_
    rcases hw a z with q | q
    · exact h2 q
    · rw [h1] at q; cases q
  · rcases e2.new a h with q | q | q
    · exact e1.new a q
    · exact .inr (hw a q)
    · refine .inr (.inr ?_)
      cases z : H a with
      | none => rfl
      | some o => exact absurd q (e1.dom a (by rw [z]; simp))
theorem Pst.refl (h : Same F H) (r : RE K G F H env σ fp) : Pst K G [] F H env fp F H env σ fp :=
  ⟨Ext.refl h, r, fun j _ => ⟨rfl, rfl⟩, (fun j a _ z => by simp at z), rfl⟩
theorem Wf.mono (h : ∀ t, t ∈ T1 → t ∈ T2) {a : Addr} (w : Wf T1 fp a) : Wf T2 fp a := let ⟨t, h1, h2⟩ := w; ⟨t, h t h1, h2⟩
theorem Pst.come' (p : Pst K G T F H env fp F1 H1 env1 σ1 fp1) {j : Nat} {a : Addr} (h : a ∈ fp1 j) : a ∈ fp j ∨ Wf T fp a ∨ H a = none := by
  by_cases z : j ∈ T
  · exact .inr (p.come j a h z)
  · rw [(p.same j z).2] at h
    exact .inl h
theorem Pst.wf (p : Pst K G T1 F H env fp F1 H1 env1 σ1 fp1) {a : Addr} (w : Wf T2 fp1 a) : Wf (T1 ++ T2) fp a ∨ H a = none := by
  obtain ⟨t, h1, h2⟩ := w
  rcases p.come' h2 with q | q | q
  · exact .inl ⟨t, List.mem_append_right _ h1, q⟩
  · exact .inl (q.mono fun t h => List.mem_append_left _ h)
  · exact .inr q
theorem Pst.trans (p : Pst K G T1 F H env fp F1 H1 env1 σ1 fp1) (q : Pst K G T2 F1 H1 env1 fp1 F2 H2 env2 σ2 fp2) : Pst K G (T1 ++ T2) F H env fp F2 H2 env2 σ2 fp2 := by
  refine ⟨(p.ext.mono fun a w => Wf.mono (fun t h => List.mem_append_left _ h) w).trans (fun a w => p.wf w) q.ext, q.re, fun j hj => ?_, fun j a ha hj => ?_, q.ln.trans p.ln⟩
  · have h1 : j ∉ T1 := fun z => hj (List.mem_append_left _ z)
    have h2 : j ∉ T2 := fun z => hj (List.mem_append_right _ z)
    exact ⟨((q.same j h2).1).trans (p.same j h1).1, ((q.same j h2).2).trans (p.same j h1).2⟩
  · rcases q.come' ha with z | z | z
    · rcases p.come' z with y | y | y
      · rcases List.mem_append.mp hj with t | t
        · exact .inl ⟨j, List.mem_append_left _ t, y⟩
        · exact .inl ⟨j, List.mem_append_right _ t, y⟩
      · exact .inl (y.mono fun t h => List.mem_append_left _ h)
      · exact .inr y
    · exact p.wf z
    · refine .inr ?_
      cases y : H a with
      | none => rfl
      | some o => exact absurd z (p.ext.dom a (by rw [y]; simp))
theorem Pst.mono (h : ∀ t, t ∈ T1 → t ∈ T2) (p : Pst K G T1 F H env fp F1 H1 env1 σ1 fp1) (hr : RE K G F H env σ fp) : Pst K G T2 F H env fp F1 H1 env1 σ1 fp1 := by
  refine ⟨p.ext.mono fun a w => w.mono h, p.re, fun j hj => p.same j fun z => hj (h j z), fun j a ha hj => ?_, p.ln⟩
  rcases p.come' ha with q | q | q
  · exact .inl ⟨j, hj, q⟩
  · exact .inl (q.mono h)
  · exact .inr q
/-- what lies apart from the places stays -/
theorem Pst.keeps (p : Pst K G T F H env fp F1 H1 env1 σ1 fp1) {o : O} {v : V} {fr : List Addr} (h : RO K G F H o v fr) (hd : ∀ j a, a ∈ fr → a ∉ fp j) : RO K G F1 H1 o v fr := by
  refine RO.frame p.ext.ff (fun a ha => ?_) h
  have hn : ¬ Wf T fp a := fun ⟨t, _, z⟩ => hd t a ha z
  obtain ⟨h1, h2⟩ := h.fp a ha
  constructor
  · cases z : H a with
    | none => exact absurd z h2
    | some o => exact p.ext.keep a o z hn
  · cases z : F1 a with
    | none => rfl
    | some o =>
      rcases p.ext.new a (by rw [z]; simp) with y | y | y
      · exact absurd h1 y
      · exact absurd y hn
      · exact absurd y h2
theorem Pst.apart (p : Pst K G T F H env fp F1 H1 env1 σ1 fp1) {fr : List Addr} (hd : ∀ j a, a ∈ fr → a ∉ fp j) (hn : ∀ a ∈ fr, H a ≠ none) : ∀ j a, a ∈ fr → a ∉ fp1 j := fun j a ha z => by
  rcases p.come' z with y | ⟨t, _, y⟩ | y
  · exact hd j a ha y
  · exact hd t a ha y
  · exact hn a ha y
end
end PL
/-! PL2: the pure readings (M), the judgements (PV, PQ, PO, PB), names, constants, operators. -/
namespace PL
open PySem L2

/-- an exception: its class by name, its fields -/
structure Ex where
  c : Str
  fs : List Str
  vs : List D
/-- what a piece of code does to the places of its def -/
abbrev M (α : Type) := Env → Option (Except Ex α × Env)
namespace M
variable {α β : Type}
def ret (a : α) : M α := fun env => some (.ok a, env)
def bd (f : M α) (g : α → M β) : M β := fun env => match f env with
  | none => none
  | some (.error x, env') => some (.error x, env')
  | some (.ok a, env') => g a env'
def lift (o : Option α) : M α := fun env => match o with
  | none => none
  | some a => some (.ok a, env)
def map (h : α → β) (f : M α) : M β := bd f fun a => ret (h a)
theorem bd_cases {f : M α} {g : α → M β} {env env' : Env} {r : Except Ex β} (h : bd f g env = some (r, env')) :
    (∃ a env1, f env = some (.ok a, env1) ∧ g a env1 = some (r, env')) ∨ (∃ x, f env = some (.error x, env') ∧ r = .error x) := by
  unfold bd at h
  split at h
  · cases h
  · rename_i x e1 q
    cases h
    exact .inr ⟨x, q, rfl⟩
  · rename_i a e1 q
    exact .inl ⟨a, e1, q, h⟩
theorem lift_some {o : Option α} {env env' : Env} {r : Except Ex α} (h : lift o env = some (r, env')) : ∃ a, o = some a ∧ r = .ok a ∧ env' = env := by
  unfold lift at h
  cases o with
  | none => cases h
  | some a => cases h; exact ⟨a, rfl, rfl, rfl⟩
theorem ret_some {a : α} {env env' : Env} {r : Except Ex α} (h : ret a env = some (r, env')) : r = .ok a ∧ env' = env := by
  cases h; exact ⟨rfl, rfl⟩
theorem map_cases {h : α → β} {f : M α} {env env' : Env} {r : Except Ex β} (q : map h f env = some (r, env')) :
    (∃ a, f env = some (.ok a, env') ∧ r = .ok (h a)) ∨ (∃ x, f env = some (.error x, env') ∧ r = .error x) := by
  rcases bd_cases q with ⟨a, e1, h1, h2⟩ | q
  · obtain ⟨rfl, rfl⟩ := ret_some h2
    exact .inl ⟨a, h1, rfl⟩
  · exact .inr q
end M

section
variable (K : PySem.W.Frag) (G : Str → Option Value)
/-- an exception as it is made: its class, its own dict -/
def ExR (F H : Hp) (x : Ex) (cls : Value) (d : Option Addr) : Prop :=
  ∃ C, G x.c = some (.ref C) ∧ cls = .ref C ∧ x.fs.length = x.vs.length ∧ match x.fs with
    | [] => d = none
    | _ :: _ => ∃ a vs, d = some a ∧ H a = some (.xd (x.fs.zip vs)) ∧ Reps K G F x.vs vs
/-- what is there now: a list, a dict as it stands in H, what it holds as it stands for good -/
def RepC (F H : Hp) : D → V → Prop
  | .lst ds, v => ∃ a vs, v = .ref a ∧ H a = some (.lst vs) ∧ ds.length ≤ sizeLine ∧ Reps K G F ds vs
  | .dK ks ds, v => ∃ a vs, v = .ref a ∧ H a = some (.dK (ks.zip vs)) ∧ ks.length = ds.length ∧ ds.length ≤ sizeLine ∧ Reps K G F ds vs
  | .dT ks ds, v => ∃ a vs, v = .ref a ∧ H a = some (.dT (ks.zip vs)) ∧ ks.length = ds.length ∧ ds.length ≤ sizeLine ∧ Reps K G F ds vs
  | .ins c fs ds, v => ∃ a dx C vs, v = .ref a ∧ G c = some (.ref C) ∧ H a = some (.ins C dx (fs.zip vs)) ∧ fs.length = ds.length ∧ ClsF K C fs ∧ Reps K G F ds vs
  | d, v => Rep K G F d v
end
section
variable {K : PySem.W.Frag} {G : Str → Option Value} {F F' H H' : Hp}
theorem Rep.c (h : Same F H) : ∀ {d : D} {v : V}, Rep K G F d v → RepC K G F H d v
  | .non, _, q => q
  | .bl _, _, q => q
  | .int _, _, q => q
  | .str _, _, q => q
  | .gl _, _, q => q
  | .ty _, _, q => q
  | .tup ds, v, q => q
  | .lst ds, v, q => by
    simp only [Rep] at q
    obtain ⟨a, vs, e, s, l, r⟩ := q
    exact ⟨a, vs, e, h _ _ s, l, r⟩
  | .frl ds, v, q => q
  | .dK ks ds, v, q => by
    simp only [Rep] at q
    obtain ⟨a, vs, e, s, l, l2, r⟩ := q
    exact ⟨a, vs, e, h _ _ s, l, l2, r⟩
  | .dT ks ds, v, q => by
    simp only [Rep] at q
    obtain ⟨a, vs, e, s, l, l2, r⟩ := q
    exact ⟨a, vs, e, h _ _ s, l, l2, r⟩
  | .ins c fs ds, v, q => by
    simp only [Rep] at q
    obtain ⟨a, dx, C, vs, e, g, s, s2, l, hc, r⟩ := q
    exact ⟨a, dx, C, vs, e, g, h _ _ s, l, hc, r⟩
/-- all of these stand for good -/
def O.flat? : List O → Option (List D)
  | [] => some []
  | .val d :: os => (O.flat? os).map fun ds => d :: ds
  | _ :: _ => none
/-- what may be read of a place without giving it away -/
def O.peek : O → Option D
  | .val d => some d
  | .lst os => (O.flat? os).map .lst
  | .dK ks os => (O.flat? os).map (.dK ks)
  | .dT ks os => (O.flat? os).map (.dT ks)
  | .ins c fs os => (O.flat? os).map (.ins c fs)
theorem O.flat_vals : ∀ ds : List D, O.flat? (ds.map .val) = some ds
  | [] => rfl
  | d :: ds => by
    rw [List.map_cons, O.flat?, O.flat_vals ds]
    rfl
theorem O.flat_eq : ∀ {os : List O} {ds : List D}, O.flat? os = some ds → os = ds.map .val
  | [], ds, h => by cases h; rfl
  | .val d :: os, ds, h => by
    unfold O.flat? at h
    cases q : O.flat? os with
    | none => rw [q] at h; cases h
    | some es =>
      rw [q] at h
      cases h
      rw [O.flat_eq q]
      rfl
  | .lst _ :: os, ds, h => by cases h
  | .dK _ _ :: os, ds, h => by cases h
  | .dT _ _ :: os, ds, h => by cases h
  | .ins _ _ _ :: os, ds, h => by cases h
theorem ROs.flat : ∀ {ds : List D} {vs : List V} {fp : List Addr}, ROs K G F H (ds.map .val) vs fp → fp = [] ∧ Reps K G F ds vs
  | [], vs, fp, q => by
    simp only [List.map_nil, ROs] at q
    exact ⟨q.2, by simp only [Reps]; exact q.1⟩
  | d :: ds, vs, fp, q => by
    simp only [List.map_cons, ROs] at q
    obtain ⟨v, r, f1, f2, e, q1, q2, q3, q4⟩ := q
    obtain ⟨e1, r1⟩ := q1.val_inv
    obtain ⟨e2, r2⟩ := ROs.flat q2
    subst e1 e2 q4 e
    exact ⟨rfl, .cons r1 r2⟩
theorem RO.peek (hs : Same F H) : ∀ {o : O} {v : V} {fp : List Addr} {d : D}, RO K G F H o v fp → o.peek = some d → RepC K G F H d v
  | .val d, v, fp, d', q, e => by
    cases e
    exact q.val_inv.2.c hs
  | .lst os, v, fp, d', q, e => by
    simp only [O.peek, Option.map_eq_some_iff] at e
    obtain ⟨ds, e, rfl⟩ := e
    have := O.flat_eq e
    subst this
    simp only [RO] at q
    obtain ⟨b, vs, fs, e, h1, h2, h3, h4, h5, h6⟩ := q
    exact ⟨b, vs, e, h1, by simpa using h3, (ROs.flat h4).2⟩
  | .dK ks os, v, fp, d', q, e => by
    simp only [O.peek, Option.map_eq_some_iff] at e
    obtain ⟨ds, e, rfl⟩ := e
    have := O.flat_eq e
    subst this
    simp only [RO] at q
    obtain ⟨b, vs, fs, e, h1, h2, h3, h3', h4, h5, h6⟩ := q
    exact ⟨b, vs, e, h1, by simpa using h3, by simpa using h3', (ROs.flat h4).2⟩
  | .dT ks os, v, fp, d', q, e => by
    simp only [O.peek, Option.map_eq_some_iff] at e
    obtain ⟨ds, e, rfl⟩ := e
    have := O.flat_eq e
    subst this
    simp only [RO] at q
    obtain ⟨b, vs, fs, e, h1, h2, h3, h3', h4, h5, h6⟩ := q
    exact ⟨b, vs, e, h1, by simpa using h3, by simpa using h3', (ROs.flat h4).2⟩
  | .ins c nms os, v, fp, d', q, e => by
    simp only [O.peek, Option.map_eq_some_iff] at e
    obtain ⟨ds, e, rfl⟩ := e
    have := O.flat_eq e
    subst this
    simp only [RO] at q
    obtain ⟨b, dx, C, vs, fs, e, g, h1, h1', h2, h2', h3, hc, h4, h5, h5', h5'', h6⟩ := q
    exact ⟨b, dx, C, vs, e, g, h1, by simpa using h3, hc, (ROs.flat h4).2⟩
end

/-! ### the judgements -/
section
variable (X : Cx) (W : WX) (T : List Nat)
/-- what is wanted where an exception comes out -/
abbrev ErrK (F H : Hp) (env : Env) (σ : St) (fp : Nat → List Addr) (α : Type) (r : Except Ex α) (env' : Env) : Prop :=
  ∀ x F' H' fp' cls d, r = .error x → Pst X.K X.mg T F H env fp F' H' env' σ fp' → ExR X.K X.mg F' H' x cls d → W cls d σ H'
def SndV (t : TE) (f : M D) : Prop :=
  ∀ (F H : Hp) (env : Env) (σ : St) (fp : Nat → List Addr) (Q : VK) (r : Except Ex D) (env' : Env), Same F H → RE X.K X.mg F H env σ fp → f env = some (r, env') →
    (∀ d v F' H' fp', r = .ok d → Pst X.K X.mg T F H env fp F' H' env' σ fp' → Rep X.K X.mg F' d v → Q v H') →
    ErrK X W T F H env σ fp D r env' → t σ H Q
/-- a value that does not change any more -/
structure PV (e : Expr) (f : M D) : Prop where
  ex : ∃ t, PE X e t ∧ SndV X W T t f
def SndO (t : TE) (f : M O) : Prop :=
  ∀ (F H : Hp) (env : Env) (σ : St) (fp : Nat → List Addr) (Q : VK) (r : Except Ex O) (env' : Env), Same F H → RE X.K X.mg F H env σ fp → f env = some (r, env') →
    (∀ o v F' H' fp' fr, r = .ok o → Pst X.K X.mg T F H env fp F' H' env' σ fp' → RO X.K X.mg F' H' o v fr → (∀ j a, a ∈ fr → a ∉ fp' j) → (∀ a ∈ fr, Wf T fp a ∨ H a = none) → Q v H') →
    ErrK X W T F H env σ fp O r env' → t σ H Q
/-- a value that is handed on with what it alone holds -/
structure PO (e : Expr) (f : M O) : Prop where
  ex : ∃ t, PE X e t ∧ SndO X W T t f
/-- a reader: what is there when it is looked at -/
abbrev Rdr := Env → Option D
def SndQ (S : List Nat) (t : TE) (f : M Rdr) : Prop :=
  ∀ (F H : Hp) (env : Env) (σ : St) (fp : Nat → List Addr) (Q : VK) (r : Except Ex Rdr) (env' : Env), Same F H → RE X.K X.mg F H env σ fp → f env = some (r, env') →
    (∀ rd v F1 H1 fp1, r = .ok rd → Pst X.K X.mg T F H env fp F1 H1 env' σ fp1 →
      (∀ T2 F2 H2 env2 fp2 d, Pst X.K X.mg T2 F1 H1 env' fp1 F2 H2 env2 σ fp2 → (∀ i ∈ S, i ∉ T2) → rd env2 = some d → RepC X.K X.mg F2 H2 d v) → Q v H1) →
    ErrK X W T F H env σ fp Rdr r env' → t σ H Q
/-- an operand: looked at when all operands are there; S: the places that must be as they are till then -/
structure PQ (S : List Nat) (e : Expr) (f : M Rdr) : Prop where
  ex : ∃ t, PE X e t ∧ SndQ X W T S t f
def SndB (t : TT) (f : M Bool) : Prop :=
  ∀ (F H : Hp) (env : Env) (σ : St) (fp : Nat → List Addr) (Q : Bool → Hp → Prop) (r : Except Ex Bool) (env' : Env), Same F H → RE X.K X.mg F H env σ fp → f env = some (r, env') →
    (∀ b F' H' fp', r = .ok b → Pst X.K X.mg T F H env fp F' H' env' σ fp' → Q b H') →
    ErrK X W T F H env σ fp Bool r env' → t σ H Q
/-- a test -/
structure PB (e : Expr) (f : M Bool) : Prop where
  ex : ∃ t, PT X e t ∧ SndB X W T t f
/-- a test within and, or -/
structure PBW (e : Expr) (f : M Bool) : Prop where
  ex : ∃ t, PW X e t ∧ SndB X W T t f
def SndA (t : TA) (f : M (List D)) : Prop :=
  ∀ (F H : Hp) (env : Env) (σ : St) (fp : Nat → List Addr) (Q : List V → Hp → Prop) (r : Except Ex (List D)) (env' : Env), Same F H → RE X.K X.mg F H env σ fp → f env = some (r, env') →
    (∀ ds vs F' H' fp', r = .ok ds → Pst X.K X.mg T F H env fp F' H' env' σ fp' → Reps X.K X.mg F' ds vs → Q vs H') →
    ErrK X W T F H env σ fp (List D) r env' → t σ H Q
/-- values, from the left -/
structure PAs (es : List Expr) (f : M (List D)) : Prop where
  ex : ∃ t, PA X es t ∧ SndA X W T t f
end

section
variable {X : Cx} {W : WX} {T T1 T2 : List Nat} {F H F' H' : Hp} {env env' : Env} {σ : St} {fp fp' : Nat → List Addr}
/-- a step that changes nothing of what stood -/
theorem Pst.of_ext {K : PySem.W.Frag} {G : Str → Option Value} (r : RE K G F H env σ fp) (e : Ext F H (fun _ => False) F' H') : Pst K G [] F H env fp F' H' env σ fp := by
  have fr : ∀ j, ∀ a ∈ fp j, H' a = H a ∧ F' a = none := fun j a ha => by
    obtain ⟨h1, h2⟩ := r.fpin ha
    constructor
    · cases q : H a with
      | none => exact absurd q h2
      | some o => exact e.keep a o q id
    · cases q : F' a with
      | none => rfl
      | some o =>
        rcases e.new a (by rw [q]; simp) with z | z | z
        · exact absurd h1 z
        · exact z.elim
        · exact absurd z h2
  refine ⟨e.mono fun _ z => z.elim, ⟨r.len, fun i o h => ?_, r.emp, r.dis⟩, fun j _ => ⟨rfl, rfl⟩, (fun j a _ z => by simp at z), rfl⟩
  obtain ⟨v, h1, h2⟩ := r.slot i o h
  exact ⟨v, h1, h2.frame e.ff (fr i)⟩
theorem Ext.alloc {p : Addr} {o : HO} (h : Same F H) (n : H p = none) : Ext F H (fun _ => False) (upd F p o) (upd H p o) := by
  have nF : F p = none := by
    cases q : F p with
    | none => rfl
    | some u => rw [h p u q] at n; cases n
  refine ⟨fun a u e => ?_, fun a u e => ?_, fun a u e _ => ?_, fun a e => ?_, fun a e => ?_⟩
  · rw [upd_ne (fun z => by subst z; rw [nF] at e; cases e)]; exact e
  · by_cases z : a = p
    · subst z; rw [upd_same] at e ⊢; exact e
    · rw [upd_ne z] at e ⊢; exact h a u e
  · rw [upd_ne (fun z => by subst z; rw [n] at e; cases e)]; exact e
  · by_cases z : a = p
    · subst z; exact .inr (.inr n)
    · rw [upd_ne z] at e; exact .inl e
  · by_cases z : a = p
    · subst z; rw [upd_same]; simp
    · rw [upd_ne z]; exact e
theorem Ext.allocO {p : Addr} {o : HO} (h : Same F H) (n : H p = none) : Ext F H (fun _ => False) F (upd H p o) := by
  refine ⟨Same.refl, fun a u e => ?_, fun a u e _ => ?_, fun a e => .inl e, fun a e => ?_⟩
  · have e' := h a u e
    rw [upd_ne (fun z => by subst z; rw [n] at e'; cases e')]; exact e'
  · rw [upd_ne (fun z => by subst z; rw [n] at e; cases e)]; exact e
  · by_cases z : a = p
    · subst z; rw [upd_same]; simp
    · rw [upd_ne z]; exact e
/-- what is at hand given away: it stands for good -/
def frz (F H : Hp) (fr : List Addr) : Hp := fun a => if a ∈ fr then H a else F a
theorem frz_same {fr : List Addr} (h : ∀ a ∈ fr, F a = none) : Same F (frz F H fr) := fun a o e => by
  unfold frz
  rw [if_neg (fun z => by rw [h a z] at e; cases e)]
  exact e
theorem frz_sub {fr : List Addr} (h : Same F H) : Same (frz F H fr) H := fun a o e => by
  unfold frz at e
  split at e
  · exact e
  · exact h a o e
theorem frz_in {fr : List Addr} : ∀ a ∈ fr, frz F H fr a = H a := fun a h => by unfold frz; rw [if_pos h]
theorem Pst.freeze {K : PySem.W.Frag} {G : Str → Option Value} {F1 H1 : Hp} {env1 : Env} {fp1 : Nat → List Addr} (p : Pst K G T F H env fp F1 H1 env1 σ fp1) {fr : List Addr} (hf : ∀ a ∈ fr, F1 a = none)
    (hd : ∀ j a, a ∈ fr → a ∉ fp1 j) (hw : ∀ a ∈ fr, Wf T fp a ∨ H a = none) : Pst K G T F H env fp (frz F1 H1 fr) H1 env1 σ fp1 := by
  have s1 : Same F1 (frz F1 H1 fr) := frz_same hf
  refine ⟨⟨p.ext.ff.trans s1, frz_sub p.ext.fh, p.ext.keep, fun a h => ?_, p.ext.dom⟩, ⟨p.re.len, fun i o h => ?_, p.re.emp, p.re.dis⟩, p.same, p.come, p.ln⟩
  · by_cases z : a ∈ fr
    · rcases hw a z with y | y
      · exact .inr (.inl y)
      · exact .inr (.inr y)
    · unfold frz at h
      rw [if_neg z] at h
      exact p.ext.new a h
  · obtain ⟨v, h1, h2⟩ := p.re.slot i o h
    refine ⟨v, h1, h2.frame s1 fun a ha => ⟨rfl, ?_⟩⟩
    unfold frz
    rw [if_neg (fun z => hd i a z ha)]
    exact (h2.fp a ha).1

/-- handed on, then given away -/
def vm (f : M O) : M D := M.map O.er f
theorem pv_of {e : Expr} {f : M O} (h : PO X W T e f) : PV X W T e (vm f) := by
  obtain ⟨t, ht, hs⟩ := h.ex
  refine ⟨t, ht, fun F H env σ fp Q r env' h1 h2 h3 k ke => ?_⟩
  rcases M.map_cases h3 with ⟨o, q, rfl⟩ | ⟨x, q, rfl⟩
  · refine hs F H env σ fp Q _ env' h1 h2 q (fun o' v F' H' fp' fr e p ro hd hw => ?_) (fun x _ _ _ _ _ e => by cases e)
    cases e
    have hf : ∀ a ∈ fr, F' a = none := fun a ha => (ro.fp a ha).1
    exact k o.er v _ H' fp' rfl (p.freeze hf hd hw) (ro.freeze (frz_same hf) frz_in)
  · refine hs F H env σ fp Q _ env' h1 h2 q (fun o' v F' H' fp' fr e => by cases e) (fun x' F' H' fp' cls d e p ex => ?_)
    cases e
    exact ke x F' H' fp' cls d rfl p ex
def om (f : M D) : M O := M.map O.val f
theorem po_of {e : Expr} {f : M D} (h : PV X W T e f) : PO X W T e (om f) := by
  obtain ⟨t, ht, hs⟩ := h.ex
  refine ⟨t, ht, fun F H env σ fp Q r env' h1 h2 h3 k ke => ?_⟩
  rcases M.map_cases h3 with ⟨o, q, rfl⟩ | ⟨x, q, rfl⟩
  · refine hs F H env σ fp Q _ env' h1 h2 q (fun d v F' H' fp' e p rep => ?_) (fun x _ _ _ _ _ e => by cases e)
    cases e
    exact k _ v F' H' fp' [] rfl p (.val rep) (fun _ _ z => by simp at z) (fun _ z => by simp at z)
  · refine hs F H env σ fp Q _ env' h1 h2 q (fun o' v F' H' fp' e => by cases e) (fun x' F' H' fp' cls d e p ex => ?_)
    cases e
    exact ke x F' H' fp' cls d rfl p ex
def qm (f : M D) : M Rdr := M.map (fun d _ => some d) f
/-- a value that does not change as an operand -/
theorem pq_of {e : Expr} {f : M D} (h : PV X W T e f) : PQ X W T [] e (qm f) := by
  obtain ⟨t, ht, hs⟩ := h.ex
  refine ⟨t, ht, fun F H env σ fp Q r env' h1 h2 h3 k ke => ?_⟩
  rcases M.map_cases h3 with ⟨o, q, rfl⟩ | ⟨x, q, rfl⟩
  · refine hs F H env σ fp Q _ env' h1 h2 q (fun d v F' H' fp' e p rep => ?_) (fun x _ _ _ _ _ e => by cases e)
    cases e
    refine k _ v F' H' fp' rfl p fun T2 F2 H2 env2 fp2 d' p2 _ e2 => ?_
    cases e2
    exact (Rep.mono p2.ext.ff _ _ rep).c p2.ext.fh
  · refine hs F H env σ fp Q _ env' h1 h2 q (fun o' v F' H' fp' e => by cases e) (fun x' F' H' fp' cls d e p ex => ?_)
    cases e
    exact ke x F' H' fp' cls d rfl p ex

/-! ### names, constants -/
/-- what stands for good in a place -/
def vVar (i : Nat) : M D := fun env => match env[i]? with
  | some (some (.val d)) => some (.ok d, env)
  | _ => none
theorem vVar_some {i : Nat} {r : Except Ex D} (h : vVar i env = some (r, env')) : ∃ d, env[i]? = some (some (.val d)) ∧ r = .ok d ∧ env' = env := by
  unfold vVar at h
  split at h
  · rename_i d q
    cases h
    exact ⟨d, q, rfl, rfl⟩
  · cases h
theorem pv_var {e : Expr} (i : Nat) (h : PE X e (tVar i)) : PV X W [] e (vVar i) := by
  refine ⟨_, h, fun F H env σ fp Q r env' h1 h2 h3 k ke => ?_⟩
  obtain ⟨d, q, rfl, rfl⟩ := vVar_some h3
  obtain ⟨v, h4, h5⟩ := h2.slot i _ q
  exact ⟨v, h4, k d v F H fp rfl (.refl h1 h2) h5.val_inv.2⟩
/-- a place looked at -/
def rVar (i : Nat) : Rdr := fun env => match env[i]? with
  | some (some o) => o.peek
  | _ => none
def qVar (i : Nat) : M Rdr := fun env => match env[i]? with
  | some (some _) => some (.ok (rVar i), env)
  | _ => none
theorem pq_var {e : Expr} (i : Nat) (h : PE X e (tVar i)) : PQ X W [] [] e (qVar i) := by
  refine ⟨_, h, fun F H env σ fp Q r env' h1 h2 h3 k ke => ?_⟩
  unfold qVar at h3
  split at h3
  · rename_i o q
    cases h3
    obtain ⟨v, h4, h5⟩ := h2.slot i _ q
    refine ⟨v, h4, k _ v F H fp rfl (.refl h1 h2) fun T2 F2 H2 env2 fp2 d p2 _ e2 => ?_⟩
    unfold rVar at e2
    split at e2
    · rename_i o2 q2
      obtain ⟨v2, h6, h7⟩ := p2.re.slot i _ q2
      rw [h4] at h6
      cases h6
      exact h7.peek p2.ext.fh e2
    · cases e2
  · cases h3
/-- a place emptied: what it holds is handed on -/
def oMove (i : Nat) : M O := fun env => match env[i]? with
  | some (some o) => some (.ok o, env.set i none)
  | _ => none
theorem RE.drop {K : PySem.W.Frag} {G : Str → Option Value} (r : RE K G F H env σ fp) (i : Nat) : RE K G F H (env.set i none) σ (fun j => if j = i then [] else fp j) := by
  refine ⟨by rw [List.length_set]; exact r.len, fun j o h => ?_, fun j h => ?_, fun j l n a h1 h2 => ?_⟩
  · by_cases z : j = i
    · subst z
      rw [List.getElem?_set] at h
      simp at h
    · rw [List.getElem?_set_ne (Ne.symm z)] at h
      rw [if_neg z]
      exact r.slot j o h
  · by_cases z : j = i
    · rw [if_pos z]
    · rw [if_neg z]
      refine r.emp j fun o => ?_
      have := h o
      rwa [List.getElem?_set_ne (Ne.symm z)] at this
  · by_cases z : j = i
    · rw [if_pos z] at h1; simp at h1
    · rw [if_neg z] at h1
      by_cases y : l = i
      · rw [if_pos y] at h2; simp at h2
      · rw [if_neg y] at h2
        exact r.dis j l n a h1 h2
theorem po_move {e : Expr} (i : Nat) (h : PE X e (tVar i)) : PO X W [i] e (oMove i) := by
  refine ⟨_, h, fun F H env σ fp Q r env' h1 h2 h3 k ke => ?_⟩
  unfold oMove at h3
  split at h3
  · rename_i o q
    cases h3
    obtain ⟨v, h4, h5⟩ := h2.slot i _ q
    refine ⟨v, h4, k o v F H (fun j => if j = i then [] else fp j) (fp i) rfl ⟨.refl h1, h2.drop i, fun j hj => ?_, fun j a ha hj => ?_, List.length_set⟩ h5 (fun j a ha => ?_) (fun a ha => .inl ⟨i, by simp, ha⟩)⟩
    · have z : j ≠ i := by simpa using hj
      exact ⟨List.getElem?_set_ne (Ne.symm z), if_neg z⟩
    · have z : j = i := by simpa using hj
      rw [if_pos z] at ha; simp at ha
    · by_cases z : j = i
      · rw [if_pos z]; simp
      · rw [if_neg z]; exact h2.dis i j (Ne.symm z) a ha
  · cases h3
/-- what a place holds given away: it stands there for good -/
def vFrz (i : Nat) : M D := fun env => match env[i]? with
  | some (some o) => some (.ok o.er, env.set i (some (.val o.er)))
  | _ => none
theorem RE.put {K : PySem.W.Frag} {G : Str → Option Value} (r : RE K G F H env σ fp) {i : Nat} {o : O} {v : V} {fr : List Addr} {σ' : St} (hl : σ'.length = σ.length) (hi : i < env.length) (hv : σ'[i]? = some (some v)) (ho : ∀ j, j ≠ i → σ'[j]? = σ[j]?) (q : RO K G F H o v fr)
    (hd : ∀ j, j ≠ i → ∀ a ∈ fr, a ∉ fp j) : RE K G F H (env.set i (some o)) σ' (fun j => if j = i then fr else fp j) := by
  refine ⟨by rw [List.length_set, hl]; exact r.len, fun j o' h => ?_, fun j h => ?_, fun j l n a h1 h2 => ?_⟩
  · by_cases z : j = i
    · subst z
      rw [List.getElem?_set_self hi] at h
      cases h
      rw [if_pos rfl]
      exact ⟨v, hv, q⟩
    · rw [List.getElem?_set_ne (Ne.symm z)] at h
      rw [if_neg z, ho j z]
      exact r.slot j o' h
  · by_cases z : j = i
    · subst z
      exact absurd (List.getElem?_set_self hi) (h o)
    · rw [if_neg z]
      refine r.emp j fun o' => ?_
      have := h o'
      rwa [List.getElem?_set_ne (Ne.symm z)] at this
  · by_cases z : j = i
    · rw [if_pos z] at h1
      have y : l ≠ i := fun y => n (z.trans y.symm)
      rw [if_neg y] at h2
      exact hd l y a h1 h2
    · rw [if_neg z] at h1
      by_cases y : l = i
      · rw [if_pos y] at h2
        exact hd j z a h2 h1
      · rw [if_neg y] at h2
        exact r.dis j l n a h1 h2
theorem lt_of_get {α : Type} {l : List α} {i : Nat} {a : α} (h : l[i]? = some a) : i < l.length := by
  rcases Nat.lt_or_ge i l.length with z | z
  · exact z
  · rw [List.getElem?_eq_none z] at h; cases h
theorem pv_frz {e : Expr} (i : Nat) (h : PE X e (tVar i)) : PV X W [i] e (vFrz i) := by
  refine ⟨_, h, fun F H env σ fp Q r env' h1 h2 h3 k ke => ?_⟩
  unfold vFrz at h3
  split at h3
  · rename_i o q
    cases h3
    obtain ⟨v, h4, h5⟩ := h2.slot i _ q
    have hf : ∀ a ∈ fp i, F a = none := fun a ha => (h5.fp a ha).1
    have s1 : Same F (frz F H (fp i)) := frz_same hf
    have rep : Rep X.K X.mg (frz F H (fp i)) o.er v := h5.freeze s1 frz_in
    refine ⟨v, h4, k o.er v (frz F H (fp i)) H (fun j => if j = i then [] else fp j) rfl ⟨⟨s1, frz_sub h1, fun _ _ e _ => e, fun a ha => ?_, fun _ z => z⟩, ?_, fun j hj => ?_, fun j a ha hj => ?_, List.length_set⟩ rep⟩
    · by_cases z : a ∈ fp i
      · exact .inr (.inl ⟨i, by simp, z⟩)
      · unfold frz at ha; rw [if_neg z] at ha; exact .inl ha
    · have h2' := h2.drop i
      have h2'' : RE X.K X.mg (frz F H (fp i)) H (env.set i none) σ (fun j => if j = i then [] else fp j) := by
        refine ⟨h2'.len, fun j o' hj => ?_, h2'.emp, h2'.dis⟩
        obtain ⟨v', e1, e2⟩ := h2'.slot j o' hj
        refine ⟨v', e1, e2.frame s1 fun a ha => ⟨rfl, ?_⟩⟩
        have z : j ≠ i := fun z => by rw [if_pos z] at ha; simp at ha
        rw [if_neg z] at ha
        unfold frz
        rw [if_neg (fun y => h2.dis i j (Ne.symm z) a y ha)]
        exact (h2.fpin ha).1
      have h3 := h2''.put (i := i) (o := .val o.er) (v := v) (fr := []) (σ' := σ) rfl (by rw [List.length_set]; exact lt_of_get q) h4 (fun _ _ => rfl) (.val rep) (fun _ _ _ z => by simp at z)
      rw [List.set_set] at h3
      refine (show (fun j => if j = i then [] else if j = i then [] else fp j) = (fun j => if j = i then [] else fp j) from ?_) ▸ h3
      funext j
      by_cases z : j = i
      · rw [if_pos z]; rw [if_pos z]
      · rw [if_neg z]
    · have z : j ≠ i := by simpa using hj
      exact ⟨List.getElem?_set_ne (Ne.symm z), if_neg z⟩
    · have z : j = i := by simpa using hj
      rw [if_pos z] at ha; simp at ha
  · cases h3
theorem snd_const {v : V} {d : D} (hr : ∀ F, Rep X.K X.mg F d v) : SndV X W [] (tC v) (M.ret d) := fun F H env σ fp Q r env' h1 h2 h3 k ke => by
  obtain ⟨rfl, rfl⟩ := M.ret_some h3
  exact k d v F H fp rfl (.refl h1 h2) (hr F)
theorem pv_int {i j pos} : PV X W [] (.Constant (.int i) j pos) (M.ret (.int i)) := ⟨_, pe_int, snd_const fun _ => by simp only [Rep]⟩
theorem pv_bl {b j pos} : PV X W [] (.Constant (.bool b) j pos) (M.ret (.bl b)) := ⟨_, pe_bl, snd_const fun _ => by simp only [Rep]⟩
theorem pv_non {j pos} : PV X W [] (.Constant .none j pos) (M.ret .non) := ⟨_, pe_non, snd_const fun _ => by simp only [Rep]⟩
theorem pv_str {x j pos} : PV X W [] (.Constant (.str x) j pos) (M.ret (.str x)) := ⟨_, pe_str, snd_const fun _ => by simp only [Rep]⟩
/-- a def or a class of the text, as a value -/
theorem pv_gl {x : Str} {a : Addr} {pos : Pos} (hg : Gl X x) (hm : X.mg x = some (.ref a)) (hd : (x == ("__debug__" : Str)) = false := by decide) : PV X W [] (.Name x pos) (M.ret (.gl x)) :=
  ⟨_, pe_glob (v := .ref a) hg hm rfl hd, snd_const fun _ => by simp only [Rep]; exact ⟨a, hm, rfl⟩⟩
/-- a number, a text of the module -/
theorem pv_gc {x : Str} {v : V} {d : D} {u : Value} {pos : Pos} (hg : Gl X x) (hm : X.mg x = some u) (r : RelV v u) (hr : ∀ F, Rep X.K X.mg F d v) (hd : (x == ("__debug__" : Str)) = false := by decide) : PV X W [] (.Name x pos) (M.ret d) :=
  ⟨_, pe_glob hg hm r hd, snd_const hr⟩

/-! ### operators -/
/-- an operator by plain data -/
def OpD (X : Cx) (f : Value → Value → Sem Value) (g : D → D → Option D) : Prop :=
  ∃ r : R2, OpR X f r ∧ ∀ (F H : Hp) (x y : V) (d e z : D) (Q : VK), Same F H → RepC X.K X.mg F H d x → RepC X.K X.mg F H e y → g d e = some z →
    (∀ v F' H', Ext F H (fun _ => False) F' H' → Rep X.K X.mg F' z v → Q v H') → r x y H Q
theorem OpD.or {f : Value → Value → Sem Value} {g g' : D → D → Option D} (h : OpD X f g) (h' : OpD X f g') : OpD X f (fun d e => (g d e).or (g' d e)) := by
  obtain ⟨r, h1, h2⟩ := h
  obtain ⟨r', h1', h2'⟩ := h'
  refine ⟨_, OpR.or h1 h1', fun F H x y d e z Q hs rx ry hg k => ?_⟩
  dsimp only at hg
  cases q : g d e with
  | some z' =>
    rw [q] at hg
    cases hg
    exact .inl (h2 F H x y d e z Q hs rx ry q k)
  | none =>
    rw [q] at hg
    exact .inr (h2' F H x y d e z Q hs rx ry hg k)
def bin (g : D → D → Option D) (fa fb : M Rdr) : M D := M.bd fa fun ra => M.bd fb fun rb => fun env => M.lift ((ra env).bind fun x => (rb env).bind fun y => g x y) env
theorem snd_op {g : D → D → Option D} {r : R2} {ta tb : TE} {fa fb : M Rdr} {S1 S2 : List Nat}
    (h2 : ∀ (F H : Hp) (x y : V) (d e z : D) (Q : VK), Same F H → RepC X.K X.mg F H d x → RepC X.K X.mg F H e y → g d e = some z → (∀ v F' H', Ext F H (fun _ => False) F' H' → Rep X.K X.mg F' z v → Q v H') → r x y H Q)
    (ha : SndQ X W T1 S1 ta fa) (hb : SndQ X W T2 S2 tb fb) (hS : ∀ i ∈ S1, i ∉ T2) : SndV X W (T1 ++ T2) (tOp r ta tb) (bin g fa fb) := by
  intro F H env σ fp Q z env' k1 k2 k3 k ke
  rcases M.bd_cases k3 with ⟨ra, env1, q1, q2⟩ | ⟨x, q, rfl⟩
  · refine ha F H env σ fp _ _ env1 k1 k2 q1 (fun ra' v F1 H1 fp1 e p1 hrd => ?_) (fun x _ _ _ _ _ e => by cases e)
    cases e
    rcases M.bd_cases q2 with ⟨rb, env2, q3, q4⟩ | ⟨x, q, rfl⟩
    · refine hb F1 H1 env1 σ fp1 _ _ env2 p1.ext.fh p1.re q3 (fun rb' u F2 H2 fp2 e p2 hrd2 => ?_) (fun x _ _ _ _ _ e => by cases e)
      cases e
      obtain ⟨a, e1, rfl, rfl⟩ := M.lift_some q4
      simp only [Option.bind_eq_some_iff] at e1
      obtain ⟨d1, e2, d2, e3, e4⟩ := e1
      have c1 := hrd T2 F2 H2 env' fp2 d1 p2 hS e2
      have c2 := hrd2 [] F2 H2 env' fp2 d2 (.refl p2.ext.fh p2.re) (fun _ _ z => by simp at z) e3
      refine h2 F2 H2 v u d1 d2 a Q p2.ext.fh c1 c2 e4 fun w F3 H3 ex rep => ?_
      have p3 := Pst.of_ext p2.re ex
      have p := (p1.trans p2).trans p3
      rw [List.append_nil] at p
      exact k a w F3 H3 fp2 rfl p rep
    · refine hb F1 H1 env1 σ fp1 _ _ env' p1.ext.fh p1.re q (fun rb' u F2 H2 fp2 e => by cases e) (fun x' F' H' fp' cls d e p ex => ?_)
      cases e
      exact ke x F' H' fp' cls d rfl (p1.trans p) ex
  · refine ha F H env σ fp _ _ env' k1 k2 q (fun ra' v F1 H1 fp1 e => by cases e) (fun x' F' H' fp' cls d e p ex => ?_)
    cases e
    exact ke x F' H' fp' cls d rfl (p.mono (fun t h => List.mem_append_left _ h) k2) ex
theorem pv_op {op : Operator} {g : D → D → Option D} {a b : Expr} {fa fb : M Rdr} {S1 S2 : List Nat} {pos : Pos} (ho : OpD X (binaryOp op) g) (ha : PQ X W T1 S1 a fa) (hb : PQ X W T2 S2 b fb) (hS : ∀ i ∈ S1, i ∉ T2 := by decide) :
    PV X W (T1 ++ T2) (.BinOp a op b pos) (bin g fa fb) := by
  obtain ⟨r, h1, h2⟩ := ho
  obtain ⟨ta, a1, a2⟩ := ha.ex
  obtain ⟨tb, b1, b2⟩ := hb.ex
  exact ⟨_, pe_op h1 a1 b1, snd_op h2 a2 b2 hS⟩
theorem pv_cmp {op : CmpOp} {g : D → D → Option D} {a b : Expr} {fa fb : M Rdr} {S1 S2 : List Nat} {pos : Pos} (ho : OpD X (compareOp op) g) (ha : PQ X W T1 S1 a fa) (hb : PQ X W T2 S2 b fb) (hm : behindInMarks op b = false) (hS : ∀ i ∈ S1, i ∉ T2 := by decide) :
    PV X W (T1 ++ T2) (.Compare a [op] [b] pos) (bin g fa fb) := by
  obtain ⟨r, h1, h2⟩ := ho
  obtain ⟨ta, a1, a2⟩ := ha.ex
  obtain ⟨tb, b1, b2⟩ := hb.ex
  exact ⟨_, pe_cmpR h1 a1 b1 hm, snd_op h2 a2 b2 hS⟩
end
end PL
/-! PL3: one after another; tests; argument lists; displays; statements. -/
namespace PL
open PySem L2
section
variable {X : Cx} {W : WX} {T T1 T2 T3 : List Nat} {F H F' H' : Hp} {env env' : Env} {σ : St} {fp fp' : Nat → List Addr} {β : Type}

theorem SndV.then {t : TE} {f : M D} (hs : SndV X W T1 t f) {g : D → M β} {r : Except Ex β} {R : VK} (k1 : Same F H) (k2 : RE X.K X.mg F H env σ fp) (k3 : M.bd f g env = some (r, env'))
    (k : ∀ d v F1 H1 env1 fp1, g d env1 = some (r, env') → Pst X.K X.mg T1 F H env fp F1 H1 env1 σ fp1 → Rep X.K X.mg F1 d v → R v H1)
    (ke : ErrK X W T1 F H env σ fp β r env') : t σ H R := by
  rcases M.bd_cases k3 with ⟨a, env1, q1, q2⟩ | ⟨x, q, rfl⟩
  · exact hs F H env σ fp _ _ env1 k1 k2 q1 (fun d v F1 H1 fp1 e p rep => by cases e; exact k a v F1 H1 env1 fp1 q2 p rep) (fun x _ _ _ _ _ e => by cases e)
  · exact hs F H env σ fp _ _ env' k1 k2 q (fun d v F1 H1 fp1 e => by cases e) (fun x' F' H' fp' cls d e p ex => by cases e; exact ke x F' H' fp' cls d rfl p ex)
theorem SndO.then {t : TE} {f : M O} (hs : SndO X W T1 t f) {g : O → M β} {r : Except Ex β} {R : VK} (k1 : Same F H) (k2 : RE X.K X.mg F H env σ fp) (k3 : M.bd f g env = some (r, env'))
    (k : ∀ o v F1 H1 env1 fp1 fr, g o env1 = some (r, env') → Pst X.K X.mg T1 F H env fp F1 H1 env1 σ fp1 → RO X.K X.mg F1 H1 o v fr → (∀ j a, a ∈ fr → a ∉ fp1 j) → (∀ a ∈ fr, Wf T1 fp a ∨ H a = none) → R v H1)
    (ke : ErrK X W T1 F H env σ fp β r env') : t σ H R := by
  rcases M.bd_cases k3 with ⟨a, env1, q1, q2⟩ | ⟨x, q, rfl⟩
  · exact hs F H env σ fp _ _ env1 k1 k2 q1 (fun d v F1 H1 fp1 fr e p rep hd hw => by cases e; exact k a v F1 H1 env1 fp1 fr q2 p rep hd hw) (fun x _ _ _ _ _ e => by cases e)
  · exact hs F H env σ fp _ _ env' k1 k2 q (fun d v F1 H1 fp1 fr e => by cases e) (fun x' F' H' fp' cls d e p ex => by cases e; exact ke x F' H' fp' cls d rfl p ex)
theorem SndQ.then {S : List Nat} {t : TE} {f : M Rdr} (hs : SndQ X W T1 S t f) {g : Rdr → M β} {r : Except Ex β} {R : VK} (k1 : Same F H) (k2 : RE X.K X.mg F H env σ fp) (k3 : M.bd f g env = some (r, env'))
    (k : ∀ rd v F1 H1 env1 fp1, g rd env1 = some (r, env') → Pst X.K X.mg T1 F H env fp F1 H1 env1 σ fp1 →
      (∀ T2 F2 H2 env2 fp2 d, Pst X.K X.mg T2 F1 H1 env1 fp1 F2 H2 env2 σ fp2 → (∀ i ∈ S, i ∉ T2) → rd env2 = some d → RepC X.K X.mg F2 H2 d v) → R v H1)
    (ke : ErrK X W T1 F H env σ fp β r env') : t σ H R := by
  rcases M.bd_cases k3 with ⟨a, env1, q1, q2⟩ | ⟨x, q, rfl⟩
  · exact hs F H env σ fp _ _ env1 k1 k2 q1 (fun d v F1 H1 fp1 e p rep => by cases e; exact k a v F1 H1 env1 fp1 q2 p rep) (fun x _ _ _ _ _ e => by cases e)
  · exact hs F H env σ fp _ _ env' k1 k2 q (fun d v F1 H1 fp1 e => by cases e) (fun x' F' H' fp' cls d e p ex => by cases e; exact ke x F' H' fp' cls d rfl p ex)
theorem SndB.then {t : TT} {f : M Bool} (hs : SndB X W T1 t f) {g : Bool → M β} {r : Except Ex β} {R : Bool → Hp → Prop} (k1 : Same F H) (k2 : RE X.K X.mg F H env σ fp) (k3 : M.bd f g env = some (r, env'))
    (k : ∀ b F1 H1 env1 fp1, g b env1 = some (r, env') → Pst X.K X.mg T1 F H env fp F1 H1 env1 σ fp1 → R b H1)
    (ke : ErrK X W T1 F H env σ fp β r env') : t σ H R := by
  rcases M.bd_cases k3 with ⟨a, env1, q1, q2⟩ | ⟨x, q, rfl⟩
  · exact hs F H env σ fp _ _ env1 k1 k2 q1 (fun d F1 H1 fp1 e p => by cases e; exact k a F1 H1 env1 fp1 q2 p) (fun x _ _ _ _ _ e => by cases e)
  · exact hs F H env σ fp _ _ env' k1 k2 q (fun d F1 H1 fp1 e => by cases e) (fun x' F' H' fp' cls d e p ex => by cases e; exact ke x F' H' fp' cls d rfl p ex)
theorem SndA.then {t : TA} {f : M (List D)} (hs : SndA X W T1 t f) {g : List D → M β} {r : Except Ex β} {R : List V → Hp → Prop} (k1 : Same F H) (k2 : RE X.K X.mg F H env σ fp) (k3 : M.bd f g env = some (r, env'))
    (k : ∀ ds vs F1 H1 env1 fp1, g ds env1 = some (r, env') → Pst X.K X.mg T1 F H env fp F1 H1 env1 σ fp1 → Reps X.K X.mg F1 ds vs → R vs H1)
    (ke : ErrK X W T1 F H env σ fp β r env') : t σ H R := by
  rcases M.bd_cases k3 with ⟨a, env1, q1, q2⟩ | ⟨x, q, rfl⟩
  · exact hs F H env σ fp _ _ env1 k1 k2 q1 (fun d v F1 H1 fp1 e p rep => by cases e; exact k a v F1 H1 env1 fp1 q2 p rep) (fun x _ _ _ _ _ e => by cases e)
  · exact hs F H env σ fp _ _ env' k1 k2 q (fun d v F1 H1 fp1 e => by cases e) (fun x' F' H' fp' cls d e p ex => by cases e; exact ke x F' H' fp' cls d rfl p ex)
theorem ErrK.left {r : Except Ex β} (k2 : RE X.K X.mg F H env σ fp) (ke : ErrK X W (T1 ++ T2) F H env σ fp β r env') : ErrK X W T1 F H env σ fp β r env' :=
  fun x F' H' fp' cls d e p ex => ke x F' H' fp' cls d e (p.mono (fun t h => List.mem_append_left _ h) k2) ex
theorem ErrK.right {r : Except Ex β} {F1 H1 : Hp} {env1 : Env} {fp1 : Nat → List Addr} (p1 : Pst X.K X.mg T1 F H env fp F1 H1 env1 σ fp1) (ke : ErrK X W (T1 ++ T2) F H env σ fp β r env') : ErrK X W T2 F1 H1 env1 σ fp1 β r env' :=
  fun x F' H' fp' cls d e p ex => ke x F' H' fp' cls d e (p1.trans p) ex
theorem ErrK.mono {r : Except Ex β} (h : ∀ t, t ∈ T1 → t ∈ T2) (k2 : RE X.K X.mg F H env σ fp) (ke : ErrK X W T2 F H env σ fp β r env') : ErrK X W T1 F H env σ fp β r env' :=
  fun x F' H' fp' cls d e p ex => ke x F' H' fp' cls d e (p.mono h k2) ex

/-! ### more may change than does -/
theorem PV.mono {e : Expr} {f : M D} (h : PV X W T1 e f) (hT : ∀ t, t ∈ T1 → t ∈ T2) : PV X W T2 e f := by
  obtain ⟨t, ht, hs⟩ := h.ex
  exact ⟨t, ht, fun F H env σ fp Q r env' k1 k2 k3 k ke => hs F H env σ fp Q r env' k1 k2 k3 (fun d v F' H' fp' e p rep => k d v F' H' fp' e (p.mono hT k2) rep) (ke.mono hT k2)⟩
theorem PO.mono {e : Expr} {f : M O} (h : PO X W T1 e f) (hT : ∀ t, t ∈ T1 → t ∈ T2) : PO X W T2 e f := by
  obtain ⟨t, ht, hs⟩ := h.ex
  exact ⟨t, ht, fun F H env σ fp Q r env' k1 k2 k3 k ke => hs F H env σ fp Q r env' k1 k2 k3 (fun o v F' H' fp' fr e p rep hd hw => k o v F' H' fp' fr e (p.mono hT k2) rep hd (fun a ha => (hw a ha).imp_left fun w => w.mono hT)) (ke.mono hT k2)⟩

/-! ### tests -/
def bm (f : M D) : M Bool := M.bd f fun d => M.lift (match d with
  | .bl b => some b
  | _ => none)
theorem snd_bm {t : TE} {f : M D} (h : SndV X W T t f) : SndB X W T (tTest t) (bm f) := by
  intro F H env σ fp Q r env' k1 k2 k3 k ke
  refine SndV.then h k1 k2 k3 (fun d v F1 H1 env1 fp1 q p rep => ?_) ke
  obtain ⟨b, e, rfl, rfl⟩ := M.lift_some q
  cases d with
  | bl b' =>
    cases e
    simp only [Rep] at rep
    exact ⟨b, rep, k b F1 H1 fp1 rfl p⟩
  | _ => cases e
theorem pb_cmp {op : CmpOp} {g : D → D → Option D} {a b : Expr} {fa fb : M Rdr} {S1 S2 : List Nat} {pos : Pos} (ho : OpD X (compareOp op) g) (ha : PQ X W T1 S1 a fa) (hb : PQ X W T2 S2 b fb) (hm : behindInMarks op b = false) (hS : ∀ i ∈ S1, i ∉ T2 := by decide) :
    PB X W (T1 ++ T2) (.Compare a [op] [b] pos) (bm (bin g fa fb)) := by
  obtain ⟨r, h1, h2⟩ := ho
  obtain ⟨ta, a1, a2⟩ := ha.ex
  obtain ⟨tb, b1, b2⟩ := hb.ex
  exact ⟨_, pt_cmpR h1 a1 b1 hm, snd_bm (snd_op h2 a2 b2 hS)⟩
/-- the truth of what is there -/
def D.tru : D → Option Bool
  | .non => some false
  | .bl b => some b
  | .int i => some (i != 0)
  | .str y => if y.length ≤ sizeLine then some ((y.length : Int) != 0) else none
  | .lst xs => some (!xs.isEmpty)
  | .tup xs => some (!xs.isEmpty)
  | .dK ks _ => some (!ks.isEmpty)
  | _ => none
theorem tru_of {d : D} {v : V} {k : Bool} (hs : Same F H) (h : RepC X.K X.mg F H d v) (e : d.tru = some k) : TruV X.K v H k := by
  cases d with
  | non => cases e; simp only [RepC, Rep] at h; subst h; rfl
  | bl b => cases e; simp only [RepC, Rep] at h; subst h; rfl
  | int i => cases e; simp only [RepC, Rep] at h; subst h; rfl
  | str y =>
    simp only [D.tru] at e
    split at e
    · rename_i hy
      cases e; simp only [RepC, Rep] at h; subst h; exact ⟨hy, rfl⟩
    · cases e
  | lst xs =>
    cases e
    obtain ⟨a, vs, rfl, h2, h3, h4⟩ := h
    refine .inl ⟨vs, .of h2, ?_⟩
    have := h4.length
    cases xs <;> cases vs <;> simp_all
  | tup xs =>
    cases e
    simp only [RepC, Rep] at h
    obtain ⟨a, vs, rfl, h2, h3, h4⟩ := h
    refine .inr (.inl ⟨vs, sqT hs h2, ?_⟩)
    have := h4.length
    cases xs <;> cases vs <;> simp_all
  | dK ks ds =>
    cases e
    obtain ⟨a, vs, rfl, h2, h3, h4, h5⟩ := h
    refine .inr (.inr ⟨_, h2, ?_⟩)
    have := h5.length
    cases ks <;> cases ds <;> cases vs <;> simp_all
  | _ => cases e
def bTru (f : M Rdr) : M Bool := M.bd f fun rd env => M.lift ((rd env).bind D.tru) env
theorem pb_tru {e : Expr} {f : M Rdr} {S : List Nat} (h : PQ X W T S e f) (he : ∀ whole, isTrue e X.env whole = (do let v ← whole; standAt e.pos; holding [v] (truthy v)) := by intro _; rfl) : PB X W T e (bTru f) := by
  obtain ⟨t, ht, hs⟩ := h.ex
  refine ⟨_, pt_truth ht he, fun F H env σ fp Q r env' k1 k2 k3 k ke => ?_⟩
  refine SndQ.then hs k1 k2 k3 (fun rd v F1 H1 env1 fp1 q p hrd => ?_) ke
  obtain ⟨b, e, rfl, rfl⟩ := M.lift_some q
  simp only [Option.bind_eq_some_iff] at e
  obtain ⟨d, e1, e2⟩ := e
  have c := hrd [] F1 H1 env' fp1 d (.refl p.ext.fh p.re) (fun _ _ z => by simp at z) e1
  exact ⟨b, tru_of p.ext.fh c e2, k b F1 H1 fp1 rfl p⟩
def bNot (f : M Bool) : M Bool := M.map (fun b => !b) f
theorem pb_not {a : Expr} {f : M Bool} {pos : Pos} (h : PB X W T a f) : PB X W T (.UnaryOp .Not a pos) (bNot f) := by
  obtain ⟨t, ht, hs⟩ := h.ex
  refine ⟨_, pt_not ht, fun F H env σ fp Q r env' k1 k2 k3 k ke => ?_⟩
  refine SndB.then hs k1 k2 k3 (fun b F1 H1 env1 fp1 q p => ?_) ke
  obtain ⟨rfl, rfl⟩ := M.ret_some q
  exact k _ F1 H1 fp1 rfl p
def bAnd (f g : M Bool) : M Bool := M.bd f fun b => if b = true then g else M.ret false
def bOr (f g : M Bool) : M Bool := M.bd f fun b => if b = true then M.ret true else g
theorem pbw {e : Expr} {f : M Bool} (h : PBW X W T e f) : PB X W T e f := let ⟨t, ht, hs⟩ := h.ex; ⟨t, ht.pt, hs⟩
theorem pbw_and1 {a : Expr} {f : M Bool} {pos : Pos} (h : PB X W T a f) : PBW X W T (.BoolOp .And [a] pos) f := let ⟨t, ht, hs⟩ := h.ex; ⟨t, pw_and1 ht, hs⟩
theorem pbw_or1 {a : Expr} {f : M Bool} {pos : Pos} (h : PB X W T a f) : PBW X W T (.BoolOp .Or [a] pos) f := let ⟨t, ht, hs⟩ := h.ex; ⟨t, pw_or1 ht, hs⟩
theorem pbw_and {a b : Expr} {rest : List Expr} {f g : M Bool} {pos : Pos} (h : PB X W T1 a f) (h' : PBW X W T2 (.BoolOp .And (b :: rest) pos) g) : PBW X W (T1 ++ T2) (.BoolOp .And (a :: b :: rest) pos) (bAnd f g) := by
  obtain ⟨t, ht, hs⟩ := h.ex
  obtain ⟨u, hu, hs'⟩ := h'.ex
  refine ⟨_, pw_and ht hu, fun F H env σ fp Q r env' k1 k2 k3 k ke => ?_⟩
  refine SndB.then hs k1 k2 k3 (fun b F1 H1 env1 fp1 q p => ?_) (ke.left k2)
  cases b with
  | true =>
    exact hs' F1 H1 env1 σ fp1 Q r env' p.ext.fh p.re q (fun b' F2 H2 fp2 e p2 => k b' F2 H2 fp2 e (p.trans p2)) (ke.right p)
  | false =>
    obtain ⟨rfl, rfl⟩ := M.ret_some q
    exact k _ F1 H1 fp1 rfl (p.mono (fun t h => List.mem_append_left _ h) k2)
theorem pbw_or {a b : Expr} {rest : List Expr} {f g : M Bool} {pos : Pos} (h : PB X W T1 a f) (h' : PBW X W T2 (.BoolOp .Or (b :: rest) pos) g) : PBW X W (T1 ++ T2) (.BoolOp .Or (a :: b :: rest) pos) (bOr f g) := by
  obtain ⟨t, ht, hs⟩ := h.ex
  obtain ⟨u, hu, hs'⟩ := h'.ex
  refine ⟨_, pw_or ht hu, fun F H env σ fp Q r env' k1 k2 k3 k ke => ?_⟩
  refine SndB.then hs k1 k2 k3 (fun b F1 H1 env1 fp1 q p => ?_) (ke.left k2)
  cases b with
  | false =>
    exact hs' F1 H1 env1 σ fp1 Q r env' p.ext.fh p.re q (fun b' F2 H2 fp2 e p2 => k b' F2 H2 fp2 e (p.trans p2)) (ke.right p)
  | true =>
    obtain ⟨rfl, rfl⟩ := M.ret_some q
    exact k _ F1 H1 fp1 rfl (p.mono (fun t h => List.mem_append_left _ h) k2)
/-- .. as values: all parts give True or False -/
def vBool (f : M Bool) : M D := M.map D.bl f
def asB (f : M D) (g : Bool → M D) : M D := M.bd f fun d env => match d with
  | .bl b => g b env
  | _ => none
def vAnd (f g : M D) : M D := asB f fun b => if b = true then g else M.ret (.bl false)
def vOr (f g : M D) : M D := asB f fun b => if b = true then M.ret (.bl true) else g
def vNot (f : M D) : M D := asB f fun b => M.ret (.bl (!b))
theorem pv_one {a : Expr} {op : PySem.BoolOp} {f : M D} {pos : Pos} (h : PV X W T a f) : PV X W T (.BoolOp op [a] pos) f := let ⟨t, ht, hs⟩ := h.ex; ⟨t, pe_one ht, hs⟩
theorem pv_and {a b : Expr} {rest : List Expr} {f g : M D} {pos : Pos} (h : PV X W T1 a f) (h' : PV X W T2 (.BoolOp .And (b :: rest) pos) g) : PV X W (T1 ++ T2) (.BoolOp .And (a :: b :: rest) pos) (vAnd f g) := by
  obtain ⟨t, ht, hs⟩ := h.ex
  obtain ⟨u, hu, hs'⟩ := h'.ex
  refine ⟨_, pe_and ht hu, fun F H env σ fp Q r env' k1 k2 k3 k ke => ?_⟩
  refine SndV.then hs k1 k2 k3 (fun d v F1 H1 env1 fp1 q p rep => ?_) (ke.left k2)
  cases d with
  | bl b =>
    simp only [Rep] at rep
    refine ⟨b, rep, ?_⟩
    cases b with
    | true => exact hs' F1 H1 env1 σ fp1 Q r env' p.ext.fh p.re q (fun b' v' F2 H2 fp2 e p2 => k b' v' F2 H2 fp2 e (p.trans p2)) (ke.right p)
    | false =>
      obtain ⟨rfl, rfl⟩ := M.ret_some q
      exact k _ _ F1 H1 fp1 rfl (p.mono (fun t h => List.mem_append_left _ h) k2) (by simp only [Rep])
  | _ => cases q
theorem pv_or {a b : Expr} {rest : List Expr} {f g : M D} {pos : Pos} (h : PV X W T1 a f) (h' : PV X W T2 (.BoolOp .Or (b :: rest) pos) g) : PV X W (T1 ++ T2) (.BoolOp .Or (a :: b :: rest) pos) (vOr f g) := by
  obtain ⟨t, ht, hs⟩ := h.ex
  obtain ⟨u, hu, hs'⟩ := h'.ex
  refine ⟨_, pe_or ht hu, fun F H env σ fp Q r env' k1 k2 k3 k ke => ?_⟩
  refine SndV.then hs k1 k2 k3 (fun d v F1 H1 env1 fp1 q p rep => ?_) (ke.left k2)
  cases d with
  | bl b =>
    simp only [Rep] at rep
    refine ⟨b, rep, ?_⟩
    cases b with
    | false => exact hs' F1 H1 env1 σ fp1 Q r env' p.ext.fh p.re q (fun b' v' F2 H2 fp2 e p2 => k b' v' F2 H2 fp2 e (p.trans p2)) (ke.right p)
    | true =>
      obtain ⟨rfl, rfl⟩ := M.ret_some q
      exact k _ _ F1 H1 fp1 rfl (p.mono (fun t h => List.mem_append_left _ h) k2) (by simp only [Rep])
  | _ => cases q
theorem pv_not {a : Expr} {f : M D} {pos : Pos} (h : PV X W T a f) : PV X W T (.UnaryOp .Not a pos) (vNot f) := by
  obtain ⟨t, ht, hs⟩ := h.ex
  refine ⟨_, pe_not ht, fun F H env σ fp Q r env' k1 k2 k3 k ke => ?_⟩
  refine SndV.then hs k1 k2 k3 (fun d v F1 H1 env1 fp1 q p rep => ?_) ke
  cases d with
  | bl b =>
    simp only [Rep] at rep
    obtain ⟨rfl, rfl⟩ := M.ret_some q
    exact ⟨b, rep, k _ _ F1 H1 fp1 rfl p (by simp only [Rep])⟩
  | _ => cases q
def mIf {α : Type} (f : M Bool) (g h : M α) : M α := M.bd f fun b => if b = true then g else h
theorem pv_if {c a b : Expr} {f : M Bool} {g h : M D} {pos : Pos} (hc : PB X W T1 c f) (ha : PV X W T2 a g) (hb : PV X W T3 b h) : PV X W (T1 ++ (T2 ++ T3)) (.IfExp c a b pos) (mIf f g h) := by
  obtain ⟨t, ht, hs⟩ := hc.ex
  obtain ⟨u, hu, hsa⟩ := ha.ex
  obtain ⟨w, hw, hsb⟩ := hb.ex
  refine ⟨_, pe_ifExp ht hu hw, fun F H env σ fp Q r env' k1 k2 k3 k ke => ?_⟩
  refine SndB.then hs k1 k2 k3 (fun b F1 H1 env1 fp1 q p => ?_) (ke.left k2)
  cases b with
  | true =>
    exact hsa F1 H1 env1 σ fp1 Q r env' p.ext.fh p.re q (fun b' v' F2 H2 fp2 e p2 => k b' v' F2 H2 fp2 e (p.trans (p2.mono (fun t h => List.mem_append_left _ h) p.re))) ((ke.right p).left p.re)
  | false =>
    exact hsb F1 H1 env1 σ fp1 Q r env' p.ext.fh p.re q (fun b' v' F2 H2 fp2 e p2 => k b' v' F2 H2 fp2 e (p.trans (p2.mono (fun t h => List.mem_append_right _ h) p.re))) ((ke.right p).mono (fun t h => List.mem_append_right _ h) p.re)
theorem po_if {c a b : Expr} {f : M Bool} {g h : M O} {pos : Pos} (hc : PB X W T1 c f) (ha : PO X W T2 a g) (hb : PO X W T3 b h) : PO X W (T1 ++ (T2 ++ T3)) (.IfExp c a b pos) (mIf f g h) := by
  obtain ⟨t, ht, hs⟩ := hc.ex
  obtain ⟨u, hu, hsa⟩ := ha.ex
  obtain ⟨w, hw, hsb⟩ := hb.ex
  refine ⟨_, pe_ifExp ht hu hw, fun F H env σ fp Q r env' k1 k2 k3 k ke => ?_⟩
  refine SndB.then hs k1 k2 k3 (fun b F1 H1 env1 fp1 q p => ?_) (ke.left k2)
  have fin : ∀ {T0 : List Nat}, (∀ t, t ∈ T0 → t ∈ T2 ++ T3) → ∀ {fr : List Addr}, (∀ a ∈ fr, Wf T0 fp1 a ∨ H1 a = none) → ∀ a ∈ fr, Wf (T1 ++ (T2 ++ T3)) fp a ∨ H a = none := fun hT fr hw a ha => by
    rcases hw a ha with z | z
    · exact p.wf (z.mono hT)
    · refine .inr ?_
      cases y : H a with
      | none => rfl
      | some o => exact absurd z (p.ext.dom a (by rw [y]; simp))
  cases b with
  | true =>
    exact hsa F1 H1 env1 σ fp1 Q r env' p.ext.fh p.re q (fun b' v' F2 H2 fp2 fr e p2 ro hd hw => k b' v' F2 H2 fp2 fr e (p.trans (p2.mono (fun t h => List.mem_append_left _ h) p.re)) ro hd (fin (fun t h => List.mem_append_left _ h) hw)) ((ke.right p).left p.re)
  | false =>
    exact hsb F1 H1 env1 σ fp1 Q r env' p.ext.fh p.re q (fun b' v' F2 H2 fp2 fr e p2 ro hd hw => k b' v' F2 H2 fp2 fr e (p.trans (p2.mono (fun t h => List.mem_append_right _ h) p.re)) ro hd (fin (fun t h => List.mem_append_right _ h) hw)) ((ke.right p).mono (fun t h => List.mem_append_right _ h) p.re)

/-! ### argument lists, displays -/
def aNil : M (List D) := M.ret []
def aCons (f : M D) (g : M (List D)) : M (List D) := M.bd f fun d => M.bd g fun ds => M.ret (d :: ds)
theorem pas_nil : PAs X W [] [] aNil := ⟨_, pa_nil, fun F H env σ fp Q r env' k1 k2 k3 k ke => by
  obtain ⟨rfl, rfl⟩ := M.ret_some k3
  exact k [] [] F H fp rfl (.refl k1 k2) .nil⟩
theorem pas_cons {e : Expr} {es : List Expr} {f : M D} {g : M (List D)} (h : PV X W T1 e f) (h' : PAs X W T2 es g) (hs : starEach (e :: es) X.env = (false, eval e X.env) :: starEach es X.env := by rfl) : PAs X W (T1 ++ T2) (e :: es) (aCons f g) := by
  obtain ⟨t, ht, hs1⟩ := h.ex
  obtain ⟨u, hu, hs2⟩ := h'.ex
  refine ⟨_, pa_cons ht hu hs, fun F H env σ fp Q r env' k1 k2 k3 k ke => ?_⟩
  refine SndV.then hs1 k1 k2 k3 (fun d v F1 H1 env1 fp1 q p rep => ?_) (ke.left k2)
  refine SndA.then hs2 p.ext.fh p.re q (fun ds vs F2 H2 env2 fp2 q2 p2 reps => ?_) (ke.right p)
  obtain ⟨rfl, rfl⟩ := M.ret_some q2
  exact k _ _ F2 H2 fp2 rfl (p.trans p2) (.cons (Rep.mono p2.ext.ff _ _ rep) reps)
def vTup (f : M (List D)) : M D := M.bd f fun ds => M.lift (if ds.length ≤ sizeLine then some (.tup ds) else none)
theorem pv_tup {es : List Expr} {f : M (List D)} {x1} {pos : Pos} (h : PAs X W T es f) : PV X W T (.Tuple es x1 pos) (vTup f) := by
  obtain ⟨t, ht, hs⟩ := h.ex
  refine ⟨_, pe_tup ht, fun F H env σ fp Q r env' k1 k2 k3 k ke => ?_⟩
  refine SndA.then hs k1 k2 k3 (fun ds vs F1 H1 env1 fp1 q p reps => ?_) ke
  obtain ⟨d, e, rfl, rfl⟩ := M.lift_some q
  split at e
  · rename_i hl
    cases e
    refine ⟨by rw [reps.length]; exact hl, fun a na => ?_⟩
    have ex := Ext.alloc (o := .tup vs) p.ext.fh na
    have p2 := p.trans (Pst.of_ext p.re ex)
    rw [List.append_nil] at p2
    refine k _ _ _ _ fp1 rfl p2 ?_
    simp only [Rep]
    exact ⟨a, vs, rfl, upd_same, hl, Reps.mono ex.ff _ _ reps⟩
  · cases e
/-- [a, b, ..] of what stands for good -/
def oLst (f : M (List D)) : M O := M.bd f fun ds => M.lift (if ds.length ≤ sizeLine then some (.lst (ds.map .val)) else none)
theorem ro_new {p : Addr} {vs : List V} {ds : List D} (h : Same F H) (n : H p = none) (hl : ds.length ≤ sizeLine) (r : Reps X.K X.mg F ds vs) : RO X.K X.mg F (upd H p (.lst vs)) (.lst (ds.map .val)) (.ref p) [p] := by
  rw [RO]
  refine ⟨p, vs, [], rfl, upd_same, ?_, by simpa using hl, .vals r, by simp, rfl⟩
  cases q : F p with
  | none => rfl
  | some u => rw [h p u q] at n; cases n
theorem po_lst {es : List Expr} {f : M (List D)} {pos : Pos} (h : PAs X W T es f) : PO X W T (.List es pos) (oLst f) := by
  obtain ⟨t, ht, hs⟩ := h.ex
  refine ⟨_, pe_lst ht, fun F H env σ fp Q r env' k1 k2 k3 k ke => ?_⟩
  refine SndA.then hs k1 k2 k3 (fun ds vs F1 H1 env1 fp1 q p reps => ?_) ke
  obtain ⟨d, e, rfl, rfl⟩ := M.lift_some q
  split at e
  · rename_i hl
    cases e
    refine ⟨by rw [reps.length]; exact hl, fun a na => ?_⟩
    have ex := Ext.allocO (o := .lst vs) p.ext.fh na
    have p2 := p.trans (Pst.of_ext p.re ex)
    rw [List.append_nil] at p2
    refine k _ _ _ _ fp1 [a] rfl p2 (ro_new p.ext.fh na hl reps) (fun j b hb z => ?_) (fun b hb => ?_)
    · have e : b = a := by simpa using hb
      subst e
      exact (p.re.fpin z).2 na
    · have e : b = a := by simpa using hb
      subst e
      refine .inr ?_
      cases y : H b with
      | none => rfl
      | some o => exact absurd na (p.ext.dom b (by rw [y]; simp))
  · cases e
end
end PL
/-! PL4: statements; loops; a def by its body. -/
namespace PL
open PySem L2

/-- how a statement ends -/
inductive Fl where
  | nx | bk | ct | ret (o : O)
section
variable (X : Cx) (W : WX) (T A : List Nat)
/-- arrived: what may have changed, which names were given anew -/
structure Arr (F H : Hp) (env : Env) (σ : St) (fp : Nat → List Addr) (F' H' : Hp) (env' : Env) (σ' : St) (fp' : Nat → List Addr) : Prop where
  p : Pst X.K X.mg T F H env fp F' H' env' σ' fp'
  a : ∀ j, j ∉ A → σ'[j]? = σ[j]?
abbrev ErrS (F H : Hp) (env : Env) (σ : St) (fp : Nat → List Addr) (r : Except Ex Fl) (env' : Env) : Prop :=
  ∀ x F' H' σ' fp' cls d, r = .error x → Arr X T A F H env σ fp F' H' env' σ' fp' → ExR X.K X.mg F' H' x cls d → W cls d σ' H'
abbrev NxS (F H : Hp) (env : Env) (σ : St) (fp : Nat → List Addr) (r : Except Ex Fl) (env' : Env) (l : Fl) (N : St → Hp → Prop) : Prop :=
  ∀ F' H' σ' fp', r = .ok l → Arr X T A F H env σ fp F' H' env' σ' fp' → N σ' H'
abbrev RtS (F H : Hp) (env : Env) (σ : St) (fp : Nat → List Addr) (r : Except Ex Fl) (env' : Env) (N : VK) : Prop :=
  ∀ o v F' H' σ' fp' fr, r = .ok (.ret o) → Arr X T A F H env σ fp F' H' env' σ' fp' → RO X.K X.mg F' H' o v fr → (∀ j a, a ∈ fr → a ∉ fp' j) → (∀ a ∈ fr, Wf T fp a ∨ H a = none) → N v H'
def SndS (t : TS) (f : M Fl) : Prop :=
  ∀ (F H : Hp) (env : Env) (σ : St) (fp : Nat → List Addr) (D : Ends) (r : Except Ex Fl) (env' : Env), Same F H → RE X.K X.mg F H env σ fp → f env = some (r, env') →
    NxS X T A F H env σ fp r env' .nx D.nx → NxS X T A F H env σ fp r env' .bk D.bk → NxS X T A F H env σ fp r env' .ct D.ct → RtS X T A F H env σ fp r env' D.rt → ErrS X W T A F H env σ fp r env' → t D σ H
structure PZ (st : Stmt) (f : M Fl) : Prop where
  ex : ∃ t, PS X st t ∧ SndS X W T A t f
structure PZs (st : List Stmt) (f : M Fl) : Prop where
  ex : ∃ t, PSs X st t ∧ SndS X W T A t f
end
section
variable {X : Cx} {W : WX} {T T1 T2 T3 A A1 A2 A3 : List Nat} {F H F1 H1 F2 H2 : Hp} {env env' env1 env2 : Env} {σ σ1 σ2 : St} {fp fp1 fp2 : Nat → List Addr} {r : Except Ex Fl}
theorem Arr.refl (h : Same F H) (k : RE X.K X.mg F H env σ fp) : Arr X [] [] F H env σ fp F H env σ fp := ⟨.refl h k, fun _ _ => rfl⟩
theorem Arr.trans (p : Arr X T1 A1 F H env σ fp F1 H1 env1 σ1 fp1) (q : Arr X T2 A2 F1 H1 env1 σ1 fp1 F2 H2 env2 σ2 fp2) : Arr X (T1 ++ T2) (A1 ++ A2) F H env σ fp F2 H2 env2 σ2 fp2 :=
  ⟨p.p.trans q.p, fun j hj => (q.a j fun z => hj (List.mem_append_right _ z)).trans (p.a j fun z => hj (List.mem_append_left _ z))⟩
theorem Arr.mono (p : Arr X T1 A1 F H env σ fp F1 H1 env1 σ1 fp1) (k : RE X.K X.mg F H env σ fp) (hT : ∀ t, t ∈ T1 → t ∈ T2) (hA : ∀ t, t ∈ A1 → t ∈ A2) : Arr X T2 A2 F H env σ fp F1 H1 env1 σ1 fp1 :=
  ⟨p.p.mono hT k, fun j hj => p.a j fun z => hj (hA j z)⟩
theorem Pst.arr (p : Pst X.K X.mg T F H env fp F1 H1 env1 σ fp1) : Arr X T [] F H env σ fp F1 H1 env1 σ fp1 := ⟨p, fun _ _ => rfl⟩
theorem dom_none (p : Pst X.K X.mg T F H env fp F1 H1 env1 σ1 fp1) {a : Addr} (h : H1 a = none) : H a = none := by
  cases y : H a with
  | none => rfl
  | some o => exact absurd h (p.ext.dom a (by rw [y]; simp))
theorem Wf.none (p : Pst X.K X.mg T1 F H env fp F1 H1 env1 σ1 fp1) {a : Addr} (h : Wf T2 fp1 a ∨ H1 a = none) : Wf (T1 ++ T2) fp a ∨ H a = none := by
  rcases h with h | h
  · exact p.wf h
  · exact .inr (dom_none p h)
theorem NxS.right {l : Fl} {N : St → Hp → Prop} (p : Arr X T1 A1 F H env σ fp F1 H1 env1 σ1 fp1) (k : NxS X (T1 ++ T2) (A1 ++ A2) F H env σ fp r env' l N) : NxS X T2 A2 F1 H1 env1 σ1 fp1 r env' l N :=
  fun F' H' σ' fp' e q => k F' H' σ' fp' e (p.trans q)
theorem RtS.right {N : VK} (p : Arr X T1 A1 F H env σ fp F1 H1 env1 σ1 fp1) (k : RtS X (T1 ++ T2) (A1 ++ A2) F H env σ fp r env' N) : RtS X T2 A2 F1 H1 env1 σ1 fp1 r env' N :=
  fun o v F' H' σ' fp' fr e q ro hd hw => k o v F' H' σ' fp' fr e (p.trans q) ro hd fun a ha => Wf.none p.p (hw a ha)
theorem ErrS.right (p : Arr X T1 A1 F H env σ fp F1 H1 env1 σ1 fp1) (k : ErrS X W (T1 ++ T2) (A1 ++ A2) F H env σ fp r env') : ErrS X W T2 A2 F1 H1 env1 σ1 fp1 r env' :=
  fun x F' H' σ' fp' cls d e q ex => k x F' H' σ' fp' cls d e (p.trans q) ex
theorem NxS.mono {l : Fl} {N : St → Hp → Prop} (k2 : RE X.K X.mg F H env σ fp) (hT : ∀ t, t ∈ T1 → t ∈ T2) (hA : ∀ t, t ∈ A1 → t ∈ A2) (k : NxS X T2 A2 F H env σ fp r env' l N) : NxS X T1 A1 F H env σ fp r env' l N :=
  fun F' H' σ' fp' e q => k F' H' σ' fp' e (q.mono k2 hT hA)
theorem RtS.mono {N : VK} (k2 : RE X.K X.mg F H env σ fp) (hT : ∀ t, t ∈ T1 → t ∈ T2) (hA : ∀ t, t ∈ A1 → t ∈ A2) (k : RtS X T2 A2 F H env σ fp r env' N) : RtS X T1 A1 F H env σ fp r env' N :=
  fun o v F' H' σ' fp' fr e q ro hd hw => k o v F' H' σ' fp' fr e (q.mono k2 hT hA) ro hd fun a ha => (hw a ha).imp_left fun w => w.mono hT
theorem ErrS.mono (k2 : RE X.K X.mg F H env σ fp) (hT : ∀ t, t ∈ T1 → t ∈ T2) (hA : ∀ t, t ∈ A1 → t ∈ A2) (k : ErrS X W T2 A2 F H env σ fp r env') : ErrS X W T1 A1 F H env σ fp r env' :=
  fun x F' H' σ' fp' cls d e q ex => k x F' H' σ' fp' cls d e (q.mono k2 hT hA) ex
/-- an expression's exceptions within a statement -/
theorem ErrS.expr (k2 : RE X.K X.mg F H env σ fp) (hT : ∀ t, t ∈ T1 → t ∈ T2) (k : ErrS X W T2 A F H env σ fp r env') : ErrK X W T1 F H env σ fp Fl r env' :=
  fun x F' H' fp' cls d e p ex => k x F' H' σ fp' cls d e ⟨p.mono hT k2, fun _ _ => rfl⟩ ex
theorem mem_l {L1 L2 : List Nat} : ∀ t, t ∈ L1 → t ∈ L1 ++ L2 := fun _ h => List.mem_append_left _ h
theorem mem_r {L1 L2 : List Nat} : ∀ t, t ∈ L2 → t ∈ L1 ++ L2 := fun _ h => List.mem_append_right _ h
theorem mem_nil {L : List Nat} : ∀ t, t ∈ ([] : List Nat) → t ∈ L := fun _ h => by simp at h

theorem PZ.mono {st : Stmt} {f : M Fl} (h : PZ X W T1 A1 st f) (hT : ∀ t, t ∈ T1 → t ∈ T2) (hA : ∀ t, t ∈ A1 → t ∈ A2) : PZ X W T2 A2 st f := by
  obtain ⟨t, ht, hs⟩ := h.ex
  exact ⟨t, ht, fun F H env σ fp D r env' k1 k2 k3 n b c rt e => hs F H env σ fp D r env' k1 k2 k3 (n.mono k2 hT hA) (b.mono k2 hT hA) (c.mono k2 hT hA) (rt.mono k2 hT hA) (e.mono k2 hT hA)⟩
theorem PZs.mono {st : List Stmt} {f : M Fl} (h : PZs X W T1 A1 st f) (hT : ∀ t, t ∈ T1 → t ∈ T2) (hA : ∀ t, t ∈ A1 → t ∈ A2) : PZs X W T2 A2 st f := by
  obtain ⟨t, ht, hs⟩ := h.ex
  exact ⟨t, ht, fun F H env σ fp D r env' k1 k2 k3 n b c rt e => hs F H env σ fp D r env' k1 k2 k3 (n.mono k2 hT hA) (b.mono k2 hT hA) (c.mono k2 hT hA) (rt.mono k2 hT hA) (e.mono k2 hT hA)⟩

/-! ### blocks -/
def sNx : M Fl := M.ret .nx
def sSeq (f g : M Fl) : M Fl := M.bd f fun l => match l with
  | .nx => g
  | l => M.ret l
theorem zs_nil : PZs X W [] [] [] sNx := ⟨_, pss_nil, fun F H env σ fp D r env' k1 k2 k3 n b c rt e => by
  obtain ⟨rfl, rfl⟩ := M.ret_some k3
  exact n F H σ fp rfl (.refl k1 k2)⟩
theorem zs_one {st : Stmt} {f : M Fl} (h : PZ X W T A st f) : PZs X W T A [st] f := let ⟨t, ht, hs⟩ := h.ex; ⟨t, pss_one ht, hs⟩
theorem snd_seq {t u : TS} {f g : M Fl} (hs : SndS X W T1 A1 t f) (hs' : SndS X W T2 A2 u g) : SndS X W (T1 ++ T2) (A1 ++ A2) (tSeq t u) (sSeq f g) := by
  intro F H env σ fp D r env' k1 k2 k3 n b c rt e
  show t { D with nx := u D } σ H
  rcases M.bd_cases k3 with ⟨l, env1, q1, q2⟩ | ⟨x, q, rfl⟩
  · refine hs F H env σ fp { D with nx := u D } (.ok l) env1 k1 k2 q1 (fun F1 H1 σ1 fp1 el p => ?_) (fun F1 H1 σ1 fp1 el p => ?_) (fun F1 H1 σ1 fp1 el p => ?_) (fun o v F1 H1 σ1 fp1 fr el p ro hd hw => ?_) (fun x _ _ _ _ _ _ e => by cases e)
    · cases el
      exact hs' F1 H1 env1 σ1 fp1 D r env' p.p.ext.fh p.p.re q2 (n.right p) (b.right p) (c.right p) (rt.right p) (e.right p)
    · cases el
      obtain ⟨rfl, rfl⟩ := M.ret_some q2
      exact b F1 H1 σ1 fp1 rfl (p.mono k2 mem_l mem_l)
    · cases el
      obtain ⟨rfl, rfl⟩ := M.ret_some q2
      exact c F1 H1 σ1 fp1 rfl (p.mono k2 mem_l mem_l)
    · cases el
      obtain ⟨rfl, rfl⟩ := M.ret_some q2
      exact rt o v F1 H1 σ1 fp1 fr rfl (p.mono k2 mem_l mem_l) ro hd fun a ha => (hw a ha).imp_left fun w => w.mono mem_l
  · refine hs F H env σ fp { D with nx := u D } (.error x) env' k1 k2 q (fun F1 H1 σ1 fp1 el p => by cases el) (fun F1 H1 σ1 fp1 el p => by cases el) (fun F1 H1 σ1 fp1 el p => by cases el) (fun o v F1 H1 σ1 fp1 fr el => by cases el) (fun x F' H' σ' fp' cls d e' p ex => ?_)
    cases e'
    exact e _ F' H' σ' fp' cls d rfl (p.mono k2 mem_l mem_l) ex
theorem zs_cons {st : Stmt} {rest : List Stmt} {f g : M Fl} (h : PZ X W T1 A1 st f) (h' : PZs X W T2 A2 rest g) : PZs X W (T1 ++ T2) (A1 ++ A2) (st :: rest) (sSeq f g) := by
  obtain ⟨t, ht, hs⟩ := h.ex
  obtain ⟨u, hu, hs'⟩ := h'.ex
  exact ⟨_, pss_cons ht hu, snd_seq hs hs'⟩

/-! ### plain statements -/
theorem z_pass {pos : Pos} : PZ X W [] [] (.Pass pos) sNx := ⟨_, ps_pass, fun F H env σ fp D r env' k1 k2 k3 n b c rt e => by
  obtain ⟨rfl, rfl⟩ := M.ret_some k3
  exact n F H σ fp rfl (.refl k1 k2)⟩
theorem z_break {pos : Pos} : PZ X W [] [] (.Break pos) (M.ret .bk) := ⟨_, ps_break, fun F H env σ fp D r env' k1 k2 k3 n b c rt e => by
  obtain ⟨rfl, rfl⟩ := M.ret_some k3
  exact b F H σ fp rfl (.refl k1 k2)⟩
theorem z_continue {pos : Pos} : PZ X W [] [] (.Continue pos) (M.ret .ct) := ⟨_, ps_continue, fun F H env σ fp D r env' k1 k2 k3 n b c rt e => by
  obtain ⟨rfl, rfl⟩ := M.ret_some k3
  exact c F H σ fp rfl (.refl k1 k2)⟩
def sRet (f : M O) : M Fl := M.map Fl.ret f
theorem z_ret {e : Expr} {f : M O} {pos : Pos} (h : PO X W T e f) : PZ X W T [] (.Return (some e) pos) (sRet f) := by
  obtain ⟨t, ht, hs⟩ := h.ex
  refine ⟨_, ps_ret ht, fun F H env σ fp D r env' k1 k2 k3 n b c rt e => ?_⟩
  refine SndO.then hs k1 k2 k3 (fun o v F1 H1 env1 fp1 fr q p ro hd hw => ?_) (e.expr k2 fun _ h => h)
  obtain ⟨rfl, rfl⟩ := M.ret_some q
  exact rt o v F1 H1 σ fp1 fr rfl p.arr ro hd hw
theorem z_retN {pos : Pos} : PZ X W [] [] (.Return none pos) (M.ret (.ret (.val .non))) := ⟨_, ps_retN, fun F H env σ fp D r env' k1 k2 k3 n b c rt e => by
  obtain ⟨rfl, rfl⟩ := M.ret_some k3
  exact rt (.val .non) .non F H σ fp [] rfl (.refl k1 k2) (.val (by simp only [Rep])) (fun _ _ z => by simp at z) (fun _ z => by simp at z)⟩
def sDrop (f : M O) : M Fl := M.map (fun _ => Fl.nx) f
theorem z_expr {e : Expr} {f : M O} {pos : Pos} (h : PO X W T e f) (hsw : swapsWith e none pos.line X.env = pure false := by rfl) : PZ X W T [] (.Expr e pos) (sDrop f) := by
  obtain ⟨t, ht, hs⟩ := h.ex
  refine ⟨_, ps_expr ht hsw, fun F H env σ fp D r env' k1 k2 k3 n b c rt e => ?_⟩
  refine SndO.then hs k1 k2 k3 (fun o v F1 H1 env1 fp1 fr q p ro hd hw => ?_) (e.expr k2 fun _ h => h)
  obtain ⟨rfl, rfl⟩ := M.ret_some q
  exact n F1 H1 σ fp1 rfl p.arr
def sIf (c : M Bool) (f g : M Fl) : M Fl := M.bd c fun b => if b = true then f else g
theorem z_if {c : Expr} {p q : List Stmt} {h : M Bool} {f g : M Fl} {pos : Pos} (hc : PB X W T1 c h) (hp : PZs X W T2 A2 p f) (hq : PZs X W T3 A3 q g) : PZ X W (T1 ++ (T2 ++ T3)) (A2 ++ A3) (.If c p q pos) (sIf h f g) := by
  obtain ⟨t, ht, hs⟩ := hc.ex
  obtain ⟨u, hu, hsa⟩ := hp.ex
  obtain ⟨w, hw, hsb⟩ := hq.ex
  refine ⟨_, ps_if ht hu hw, fun F H env σ fp D r env' k1 k2 k3 n b c rt e => ?_⟩
  refine SndB.then hs k1 k2 k3 (fun bb F1 H1 env1 fp1 q p => ?_) (e.expr k2 mem_l)
  have pa : Arr X T1 [] F H env σ fp F1 H1 env1 σ fp1 := p.arr
  cases bb with
  | true => exact hsa F1 H1 env1 σ fp1 D r env' p.ext.fh p.re q ((n.right (A1 := []) pa).mono p.re mem_l mem_l) ((b.right (A1 := []) pa).mono p.re mem_l mem_l) ((c.right (A1 := []) pa).mono p.re mem_l mem_l) ((rt.right (A1 := []) pa).mono p.re mem_l mem_l) ((e.right (A1 := []) pa).mono p.re mem_l mem_l)
  | false => exact hsb F1 H1 env1 σ fp1 D r env' p.ext.fh p.re q ((n.right (A1 := []) pa).mono p.re mem_r mem_r) ((b.right (A1 := []) pa).mono p.re mem_r mem_r) ((c.right (A1 := []) pa).mono p.re mem_r mem_r) ((rt.right (A1 := []) pa).mono p.re mem_r mem_r) ((e.right (A1 := []) pa).mono p.re mem_r mem_r)

/-! ### targets -/
/-- a value put into places -/
def SndG (X : Cx) (T : List Nat) (g : TG) (f : O → M Unit) : Prop :=
  ∀ (F H : Hp) (env : Env) (σ : St) (fp : Nat → List Addr) (o : O) (v : V) (fr : List Addr) (Q : St → Hp → Prop) (env' : Env), Same F H → RE X.K X.mg F H env σ fp → RO X.K X.mg F H o v fr → (∀ j a, a ∈ fr → a ∉ fp j) →
    f o env = some (.ok (), env') →
    (∀ F' H' σ' fp', Ext F H (fun a => Wf T fp a ∨ a ∈ fr) F' H' → RE X.K X.mg F' H' env' σ' fp' → (∀ j, j ∉ T → env'[j]? = env[j]? ∧ fp' j = fp j ∧ σ'[j]? = σ[j]?) → (∀ j a, a ∈ fp' j → j ∈ T → Wf T fp a ∨ a ∈ fr ∨ H a = none) → env'.length = env.length → Q σ' H') → g v σ H Q
structure PGt (X : Cx) (T : List Nat) (e : Expr) (f : O → M Unit) : Prop where
  ex : ∃ g, PG X e g ∧ SndG X T g f
  noerr : ∀ o env x env', f o env ≠ some (.error x, env')
def gSet (i : Nat) : O → M Unit := fun o env => if i < env.length then some (.ok (), env.set i (some o)) else none
theorem snd_gName (i : Nat) : SndG X [i] (gName i) (gSet i) := by
  intro F H env σ fp o v fr Q env' k1 k2 ro hd k3 k
  unfold gSet at k3
  split at k3
  · rename_i hi
    cases k3
    have hs : i < σ.length := by rw [← k2.len]; exact hi
    refine k F H (σ.set i (some v)) (fun j => if j = i then fr else fp j) (.refl k1) (k2.put (by simp) hi (List.getElem?_set_self hs) (fun j hj => List.getElem?_set_ne (Ne.symm hj)) ro (fun j _ a ha => hd j a ha)) (fun j hj => ?_) (fun j a ha hj => ?_) List.length_set
    · have z : j ≠ i := by simpa using hj
      exact ⟨List.getElem?_set_ne (Ne.symm z), if_neg z, List.getElem?_set_ne (Ne.symm z)⟩
    · have z : j = i := by simpa using hj
      rw [if_pos z] at ha
      exact .inr (.inl ha)
  · cases k3
theorem gt_name {i : Nat} {x : Str} {pos : Pos} (hN : X.N.Nodup) (hi : X.N[i]? = some x) (hx : Loc X.env.scope x) (hf : X.fn x = true ∨ X.env.scope.names.lookup x = some .local := by first | exact .inl rfl | exact .inr rfl | assumption) : PGt X [i] (.Name x pos) (gSet i) :=
  ⟨⟨_, pg_name hN hi hx hf, snd_gName i⟩, fun o env x env' h => by unfold gSet at h; split at h <;> cases h⟩
def sSet (f : M O) (g : O → M Unit) : M Fl := M.bd f fun o => M.bd (g o) fun _ => sNx
theorem snd_asg {t : TE} {g : TG} {f : M O} {k : O → M Unit} (hs : SndO X W T1 t f) (hg : SndG X T2 g k) (hne : ∀ o env x env', k o env ≠ some (.error x, env')) : SndS X W (T1 ++ T2) T2 (tAsg t g) (sSet f k) := by
  intro F H env σ fp D r env' k1 k2 k3 n b c rt e
  refine SndO.then hs k1 k2 k3 (fun o v F1 H1 env1 fp1 fr q p ro hd hw => ?_) (e.expr k2 mem_l)
  rcases M.bd_cases q with ⟨u, env2, q1, q2⟩ | ⟨x, q9, _⟩
  · obtain ⟨rfl, rfl⟩ := M.ret_some q2
    refine hg F1 H1 env1 σ fp1 o v fr _ env' p.ext.fh p.re ro hd q1 fun F2 H2 σ2 fp2 ex re sm cm ln => ?_
    refine n F2 H2 σ2 fp2 rfl ⟨⟨Ext.trans (W := Wf (T1 ++ T2) fp) (p.ext.mono fun a w => w.mono mem_l) (fun a w => ?_) ex, re, fun j hj => ?_, fun j a ha hj => ?_, ln.trans p.ln⟩, fun j hj => ?_⟩
    · rcases w with w | w
      · exact p.wf w
      · exact (hw a w).imp_left fun w => w.mono mem_l
    · obtain ⟨e1, e2, e3⟩ := sm j fun z => hj (mem_r j z)
      obtain ⟨e4, e5⟩ := p.same j fun z => hj (mem_l j z)
      exact ⟨e1.trans e4, e2.trans e5⟩
    · by_cases z : j ∈ T2
      · rcases cm j a ha z with y | y | y
        · exact p.wf y
        · exact (hw a y).imp_left fun w => w.mono mem_l
        · exact .inr (dom_none p y)
      · rw [(sm j z).2.1] at ha
        rcases p.come' ha with y | y | y
        · exact .inl ⟨j, hj, y⟩
        · exact .inl (y.mono mem_l)
        · exact .inr y
    · exact (sm j hj).2.2
  · exact absurd q9 (hne _ _ _ _)
theorem z_set {i : Nat} {x : Str} {e : Expr} {f : M O} {pos pos' : Pos} (hN : X.N.Nodup) (hi : X.N[i]? = some x) (hx : Loc X.env.scope x) (he : PO X W T e f) (hs : swapsWith e (some (.Name x pos')) pos.line X.env = pure false := by rfl)
    (hf : X.fn x = true ∨ X.env.scope.names.lookup x = some .local := by first | exact .inl rfl | exact .inr rfl | assumption) : PZ X W (T ++ [i]) [i] (.Assign [.Name x pos'] e pos) (sSet f (gSet i)) := by
  obtain ⟨t, ht, h2⟩ := he.ex
  exact ⟨_, ps_set hN hi hx ht hs hf, snd_asg h2 (snd_gName i) (fun o env x env' h => by unfold gSet at h; split at h <;> cases h)⟩
theorem z_asg {tg e : Expr} {f : M O} {k : O → M Unit} {pos : Pos} (he : PO X W T1 e f) (hg : PGt X T2 tg k) (hs : swapsWithSole [tg] e pos.line X.env = pure false := by rfl) (hw : swappedStores [tg] e X.env = pure none := by rfl)
    (h1 : (assignEach [tg] X.env).map (·.2) = [assign tg X.env] := by rfl) : PZ X W (T1 ++ T2) T2 (.Assign [tg] e pos) (sSet f k) := by
  obtain ⟨t, ht, h2⟩ := he.ex
  obtain ⟨g, hg1, hg2⟩ := hg.ex
  exact ⟨_, ps_asg ht hg1 hs hw h1, snd_asg h2 hg2 hg.noerr⟩
end
end PL
/-! PL5: loops, what they walk. -/
namespace PL
open PySem L2
section
variable {X : Cx} {W : WX} {T T1 T2 T3 A A1 A2 A3 S : List Nat} {F H F1 H1 F2 H2 : Hp} {env env' env1 env2 : Env} {σ σ1 σ2 : St} {fp fp1 fp2 : Nat → List Addr} {r : Except Ex Fl}

/-! ### while -/
def sBack (f : M Fl) (g : M Fl) : M Fl := M.bd f fun l => match l with
  | .nx => g
  | .ct => g
  | .bk => sNx
  | .ret o => M.ret (.ret o)
def whileF (c : M Bool) (b : M Fl) : Nat → M Fl
  | 0 => fun _ => none
  | n + 1 => M.bd c fun k => if k = true then sBack b (whileF c b n) else sNx
theorem bd_mono {α β : Type} {f : M α} {g g' : α → M β} {env : Env} {r : Except Ex β × Env} (h : ∀ a e x, g a e = some x → g' a e = some x) (q : M.bd f g env = some r) : M.bd f g' env = some r := by
  obtain ⟨r, e'⟩ := r
  rcases M.bd_cases q with ⟨a, e1, h1, h2⟩ | ⟨x, h1, h2⟩
  · unfold M.bd; rw [h1]; exact h _ _ _ h2
  · subst h2; unfold M.bd; rw [h1]
theorem sBack_mono {f g g' : M Fl} {env : Env} {r : Except Ex Fl × Env} (h : ∀ e x, g e = some x → g' e = some x) (q : sBack f g env = some r) : sBack f g' env = some r :=
  bd_mono (fun a e x hx => by cases a <;> first | exact h _ _ hx | exact hx) q
theorem whileF_succ {c : M Bool} {b : M Fl} : ∀ {n : Nat} {env : Env} {r : Except Ex Fl × Env}, whileF c b n env = some r → whileF c b (n + 1) env = some r
  | 0, env, r, h => by cases h
  | n + 1, env, r, h => by
    unfold whileF at h ⊢
    refine bd_mono (fun k e x hx => ?_) h
    cases k with
    | true => exact sBack_mono (fun e x hx => whileF_succ hx) hx
    | false => exact hx
theorem whileF_le {c : M Bool} {b : M Fl} {n m : Nat} {env : Env} {r : Except Ex Fl × Env} (h : whileF c b n env = some r) (l : n ≤ m) : whileF c b m env = some r := by
  induction m with
  | zero => have : n = 0 := by omega
            subst this; exact h
  | succ m ih =>
    by_cases e : n = m + 1
    · subst e; exact h
    · exact whileF_succ (ih (by omega))
open Classical in
noncomputable def sWhile (c : M Bool) (b : M Fl) : M Fl := fun env => if h : ∃ n r, whileF c b n env = some r then whileF c b h.choose env else none
theorem sWhile_of {c : M Bool} {b : M Fl} {n : Nat} {env : Env} {r : Except Ex Fl × Env} (h : whileF c b n env = some r) : sWhile c b env = some r := by
  have q : ∃ n r, whileF c b n env = some r := ⟨n, r, h⟩
  unfold sWhile
  rw [dif_pos q]
  obtain ⟨r', hr⟩ := q.choose_spec
  have e1 := whileF_le h (Nat.le_max_left n q.choose)
  have e2 := whileF_le hr (Nat.le_max_right n q.choose)
  rw [e1] at e2
  rw [hr, ← e2]
theorem sWhile_fuel {c : M Bool} {b : M Fl} {env : Env} {r : Except Ex Fl × Env} (h : sWhile c b env = some r) : ∃ n, whileF c b n env = some r := by
  unfold sWhile at h
  split at h
  · exact ⟨_, h⟩
  · cases h
theorem sWhile_eq (c : M Bool) (b : M Fl) (env : Env) : sWhile c b env = M.bd c (fun k => if k = true then sBack b (sWhile c b) else sNx) env := by
  have to : ∀ r, sWhile c b env = some r → M.bd c (fun k => if k = true then sBack b (sWhile c b) else sNx) env = some r := fun r h => by
    obtain ⟨n, h⟩ := sWhile_fuel h
    cases n with
    | zero => cases h
    | succ n =>
      unfold whileF at h
      refine bd_mono (fun k e x hx => ?_) h
      cases k with
      | true => exact sBack_mono (fun e x hx => sWhile_of hx) hx
      | false => exact hx
  have fr : ∀ r, M.bd c (fun k => if k = true then sBack b (sWhile c b) else sNx) env = some r → sWhile c b env = some r := fun r h => by
    obtain ⟨r, e'⟩ := r
    rcases M.bd_cases h with ⟨k, e1, h1, h2⟩ | ⟨x, h1, h2⟩
    · cases k with
      | true =>
        simp only [if_true] at h2
        rcases M.bd_cases h2 with ⟨l, e2, h3, h4⟩ | ⟨x, h3, h4⟩
        · cases l with
          | nx =>
            obtain ⟨n, h4⟩ := sWhile_fuel h4
            refine sWhile_of (n := n + 1) ?_
            unfold whileF M.bd
            rw [h1]
            simp only [if_true]
            unfold sBack M.bd
            rw [h3]
            exact h4
          | ct =>
            obtain ⟨n, h4⟩ := sWhile_fuel h4
            refine sWhile_of (n := n + 1) ?_
            unfold whileF M.bd
            rw [h1]
            simp only [if_true]
            unfold sBack M.bd
            rw [h3]
            exact h4
          | bk =>
            refine sWhile_of (n := 1) ?_
            unfold whileF M.bd
            rw [h1]
            simp only [if_true]
            unfold sBack M.bd
            rw [h3]
            exact h4
          | ret o =>
            refine sWhile_of (n := 1) ?_
            unfold whileF M.bd
            rw [h1]
            simp only [if_true]
            unfold sBack M.bd
            rw [h3]
            exact h4
        · subst h4
          refine sWhile_of (n := 1) ?_
          unfold whileF M.bd
          rw [h1]
          simp only [if_true]
          unfold sBack M.bd
          rw [h3]
      | false =>
        refine sWhile_of (n := 1) ?_
        unfold whileF M.bd
        rw [h1]
        exact h2
    · subst h2
      refine sWhile_of (n := 1) ?_
      unfold whileF M.bd
      rw [h1]
  cases q : sWhile c b env with
  | some r => exact (to r q).symm
  | none =>
    cases q2 : M.bd c (fun k => if k = true then sBack b (sWhile c b) else sNx) env with
    | none => rfl
    | some r => rw [fr r q2] at q; cases q

theorem app_idem {L : List Nat} : ∀ t, t ∈ L ++ L → t ∈ L := fun t h => by simpa using h
theorem z_while {c : Expr} {body : List Stmt} {fc : M Bool} {fb : M Fl} {pos : Pos} (hp : PassesOwn (model X.prog X.w) X.A X.env X.xe) (hc : PB X W T1 c fc) (hb : PZs X W T2 A body fb) : PZ X W (T1 ++ T2) A (.While c body [] pos) (sWhile fc fb) := by
  obtain ⟨t, ht, hs⟩ := hc.ex
  obtain ⟨u, hu, hsb⟩ := hb.ex
  refine ⟨_, ps_while hp ht hu, fun F H env σ fp D r env' k1 k2 k3 n b c rt e => ?_⟩
  obtain ⟨m0, k3⟩ := sWhile_fuel k3
  refine ⟨fun m σ1 H1 => ∃ F1 env1 fp1, Arr X (T1 ++ T2) A F H env σ fp F1 H1 env1 σ1 fp1 ∧ whileF fc fb m env1 = some (r, env'), ⟨m0, F, env, fp, (Arr.refl k1 k2).mono k2 mem_nil mem_nil, k3⟩, ?_⟩
  rintro m σ1 H1 ⟨F1, env1, fp1, ar, hw⟩
  cases m with
  | zero => cases hw
  | succ m =>
    unfold whileF at hw
    have up : ∀ {F2 H2 env2 σ2 fp2}, Arr X (T1 ++ T2) A F1 H1 env1 σ1 fp1 F2 H2 env2 σ2 fp2 → Arr X (T1 ++ T2) A F H env σ fp F2 H2 env2 σ2 fp2 := fun q => (ar.trans q).mono k2 app_idem app_idem
    refine SndB.then hs ar.p.ext.fh ar.p.re hw (fun k F2 H2 env2 fp2 q p => ?_) (fun x F' H' fp' cls d e1 p ex => e x F' H' σ1 fp' cls d e1 (up ⟨p.mono mem_l ar.p.re, fun _ _ => rfl⟩) ex)
    have p' : Arr X (T1 ++ T2) A F H env σ fp F2 H2 env2 σ1 fp2 := up ⟨p.mono mem_l ar.p.re, fun _ _ => rfl⟩
    cases k with
    | false =>
      obtain ⟨rfl, rfl⟩ := M.ret_some q
      exact n F2 H2 σ1 fp2 rfl p'
    | true =>
      simp only [if_true] at q
      have up2 : ∀ {F3 H3 env3 σ3 fp3}, Arr X T2 A F2 H2 env2 σ1 fp2 F3 H3 env3 σ3 fp3 → Arr X (T1 ++ T2) A F H env σ fp F3 H3 env3 σ3 fp3 := fun q => (p'.trans (q.mono p.re mem_r fun _ h => h)).mono k2 app_idem app_idem
      simp only [if_true]
      refine ⟨fun σ3 H3 => ∃ F3 env3 fp3, Arr X (T1 ++ T2) A F H env σ fp F3 H3 env3 σ3 fp3 ∧ whileF fc fb m env3 = some (r, env'), fun σ3 H3 ⟨F3, env3, fp3, a3, w3⟩ => ⟨m, Nat.lt_succ_self m, F3, env3, fp3, a3, w3⟩, ?_⟩
      rcases M.bd_cases q with ⟨l, env3, q1, q2⟩ | ⟨x, q1, e1⟩
      · refine hsb F2 H2 env2 σ1 fp2 _ (.ok l) env3 p.ext.fh p.re q1 (fun F3 H3 σ3 fp3 el a3 => ?_) (fun F3 H3 σ3 fp3 el a3 => ?_) (fun F3 H3 σ3 fp3 el a3 => ?_) (fun o v F3 H3 σ3 fp3 fr el a3 ro hd hw9 => ?_) (fun x _ _ _ _ _ _ e => by cases e)
        · cases el; exact ⟨F3, env3, fp3, up2 a3, q2⟩
        · cases el
          obtain ⟨rfl, rfl⟩ := M.ret_some q2
          exact n F3 H3 σ3 fp3 rfl (up2 a3)
        · cases el; exact ⟨F3, env3, fp3, up2 a3, q2⟩
        · cases el
          obtain ⟨rfl, rfl⟩ := M.ret_some q2
          refine rt o v F3 H3 σ3 fp3 fr rfl (up2 a3) ro hd fun a ha => ?_
          exact (Wf.none (T2 := T2) p'.p (hw9 a ha)).imp_left fun w => w.mono fun t h => by simp only [List.mem_append] at h ⊢; rcases h with (h | h) | h <;> simp [h]
      · subst e1
        refine hsb F2 H2 env2 σ1 fp2 _ (.error x) env' p.ext.fh p.re q1 (fun F3 H3 σ3 fp3 el a3 => by cases el) (fun F3 H3 σ3 fp3 el a3 => by cases el) (fun F3 H3 σ3 fp3 el a3 => by cases el) (fun o v F3 H3 σ3 fp3 fr el => by cases el) (fun x' F' H' σ' fp' cls d e' a3 ex => ?_)
        cases e'
        exact e x F' H' σ' fp' cls d rfl (up2 a3) ex

/-! ### for -/
/-- what an iterator yields, as long as what is pinned stays -/
def Walks (X : Cx) (J : It) (items : List D) (F1 H1 : Hp) (pin : List Addr) : Prop :=
  ∀ (i : Nat) (F2 H2 : Hp), Same F1 F2 → Same F2 H2 → (∀ a ∈ pin, H2 a = H1 a) →
    (i < items.length → J.go i H2 ∧ ∀ x H3, J.yld i H2 x H3 → ∃ d F3, items[i]? = some d ∧ Ext F2 H2 (fun _ => False) F3 H3 ∧ Rep X.K X.mg F3 d x) ∧ (items.length ≤ i → J.stop i H2)
def SndI (X : Cx) (W : WX) (T S : List Nat) (wi : TI) (f : M (List D)) : Prop :=
  ∀ (F H : Hp) (env : Env) (σ : St) (fp : Nat → List Addr) (R : It → Hp → Prop) (r : Except Ex (List D)) (env' : Env), Same F H → RE X.K X.mg F H env σ fp → f env = some (r, env') →
    (∀ items J F1 H1 fp1 pin, r = .ok items → Pst X.K X.mg T F H env fp F1 H1 env' σ fp1 → Walks X J items F1 H1 pin → (∀ a ∈ pin, ∃ i, i ∈ S ∧ a ∈ fp1 i) → R J H1) →
    ErrK X W T F H env σ fp (List D) r env' → wi σ H R
structure PIt (X : Cx) (W : WX) (T S : List Nat) (tg e : Expr) (f : M (List D)) : Prop where
  ex : ∃ wi, PI X tg e wi ∧ SndI X W T S wi f
theorem SndI.then {β : Type} {wi : TI} {f : M (List D)} (hs : SndI X W T1 S wi f) {g : List D → M β} {r : Except Ex β} {R : It → Hp → Prop} (k1 : Same F H) (k2 : RE X.K X.mg F H env σ fp) (k3 : M.bd f g env = some (r, env'))
    (k : ∀ items J F1 H1 env1 fp1 pin, g items env1 = some (r, env') → Pst X.K X.mg T1 F H env fp F1 H1 env1 σ fp1 → Walks X J items F1 H1 pin → (∀ a ∈ pin, ∃ i, i ∈ S ∧ a ∈ fp1 i) → R J H1)
    (ke : ErrK X W T1 F H env σ fp β r env') : wi σ H R := by
  rcases M.bd_cases k3 with ⟨a, env1, q1, q2⟩ | ⟨x, q, rfl⟩
  · exact hs F H env σ fp _ _ env1 k1 k2 q1 (fun items J F1 H1 fp1 pin e p rep hp => by cases e; exact k a J F1 H1 env1 fp1 pin q2 p rep hp) (fun x _ _ _ _ _ e => by cases e)
  · exact hs F H env σ fp _ _ env' k1 k2 q (fun items J F1 H1 fp1 pin e => by cases e) (fun x' F' H' fp' cls d e p ex => by cases e; exact ke x F' H' fp' cls d rfl p ex)
def forF (g : O → M Unit) (b : M Fl) : List D → M Fl
  | [] => sNx
  | d :: ds => M.bd (g (.val d)) fun _ => sBack b (forF g b ds)
def sFor (f : M (List D)) (g : O → M Unit) (b : M Fl) : M Fl := M.bd f fun items => forF g b items
/-- a value given to a target, within a loop or a comprehension -/
theorem SndG.val {g : TG} {k : O → M Unit} (hg : SndG X T g k) {d : D} {v : V} {Q : St → Hp → Prop} (k1 : Same F H) (k2 : RE X.K X.mg F H env σ fp) (rep : Rep X.K X.mg F d v) (q : k (.val d) env = some (.ok (), env'))
    (kk : ∀ F' H' σ' fp', Arr X T T F H env σ fp F' H' env' σ' fp' → Q σ' H') : g v σ H Q := by
  refine hg F H env σ fp (.val d) v [] Q env' k1 k2 (.val rep) (fun _ _ z => by simp at z) q fun F' H' σ' fp' ex re sm cm ln => ?_
  refine kk F' H' σ' fp' ⟨⟨ex.mono fun a w => w.elim id fun z => by simp at z, re, fun j hj => ⟨(sm j hj).1, (sm j hj).2.1⟩, fun j a ha hj => ?_, ln⟩, fun j hj => (sm j hj).2.2⟩
  rcases cm j a ha hj with y | y | y
  · exact .inl y
  · simp at y
  · exact .inr y
theorem Pst.pinned (p : Pst X.K X.mg T F H env fp F1 H1 env1 σ1 fp1) (k2 : RE X.K X.mg F H env σ fp) {i : Nat} (hi : i ∉ T) {a : Addr} (ha : a ∈ fp i) : H1 a = H a := by
  have hn : ¬ Wf T fp a := fun ⟨t, h1, h2⟩ => k2.dis i t (fun z => hi (z ▸ h1)) a ha h2
  cases q : H a with
  | none => exact absurd q (k2.fpin ha).2
  | some o => exact p.ext.keep a o q hn
theorem z_for {tg iter : Expr} {body : List Stmt} {fi : M (List D)} {g : O → M Unit} {fb : M Fl} {pos : Pos} (hp : PassesOwn (model X.prog X.w) X.A X.env X.xe) (hc : X.calm = true) (hi : PIt X W T1 S tg iter fi) (hg : PGt X T2 tg g) (hb : PZs X W T3 A body fb)
    (hs : ∀ x, foldedSetIterable iter X.env x = pure x := by intro _; rfl) (hS : ∀ i ∈ S, i ∉ T2 ++ T3 := by decide) : PZ X W (T1 ++ (T2 ++ T3)) (T2 ++ A) (.For tg iter body [] pos) (sFor fi g fb) := by
  obtain ⟨wi, hi1, hi2⟩ := hi.ex
  obtain ⟨tg', hg1, hg2⟩ := hg.ex
  obtain ⟨u, hu, hsb⟩ := hb.ex
  refine ⟨_, ps_for hp hc hi1 hg1 hu hs, fun F0 H0 env0 σ0 fp0 D r env' k1 k2 k3 n b c rt e => ?_⟩
  refine SndI.then hi2 k1 k2 k3 (fun items J F H env fp pin q p0 wk pn => ?_) (e.expr k2 mem_l)
  have a0 : Arr X T1 [] F0 H0 env0 σ0 fp0 F H env σ0 fp := p0.arr
  have n := n.right (A1 := []) a0
  have rt := rt.right (A1 := []) a0
  have e := e.right (A1 := []) a0
  have k1 := p0.ext.fh
  have k2 := p0.re
  refine ⟨fun i m σ1 H1 => m = items.length - i ∧ i ≤ items.length ∧ ∃ F1 env1 fp1, Arr X (T2 ++ T3) (T2 ++ A) F H env σ0 fp F1 H1 env1 σ1 fp1 ∧ forF g fb (items.drop i) env1 = some (r, env'),
    ⟨items.length, rfl, Nat.zero_le _, F, env, fp, (Arr.refl k1 k2).mono k2 mem_nil mem_nil, q⟩, ?_⟩
  rintro i m σ1 H1 ⟨rfl, hil, F1, env1, fp1, ar, hf⟩
  have up : ∀ {F2 H2 env2 σ2 fp2}, Arr X (T2 ++ T3) (T2 ++ A) F1 H1 env1 σ1 fp1 F2 H2 env2 σ2 fp2 → Arr X (T2 ++ T3) (T2 ++ A) F H env σ0 fp F2 H2 env2 σ2 fp2 := fun q => (ar.trans q).mono k2 app_idem app_idem
  have pins : ∀ a ∈ pin, H1 a = H a := fun a ha => by
    obtain ⟨s, hs1, hs2⟩ := pn a ha
    exact ar.p.pinned k2 (hS s hs1) hs2
  obtain ⟨w1, w2⟩ := wk i F1 H1 ar.p.ext.ff ar.p.ext.fh pins
  by_cases hlt : i < items.length
  · obtain ⟨go, yld⟩ := w1 hlt
    refine .inr ⟨go, fun σ3 H3 => ∃ F3 env3 fp3, Arr X (T2 ++ T3) (T2 ++ A) F H env σ0 fp F3 H3 env3 σ3 fp3 ∧ forF g fb (items.drop (i + 1)) env3 = some (r, env'), fun σ3 H3 ⟨F3, env3, fp3, a3, f3⟩ => ⟨items.length - (i + 1), by omega, rfl, hlt, F3, env3, fp3, a3, f3⟩, fun x H2 hy => ?_⟩
    obtain ⟨d, F2, hd, ex, rep⟩ := yld x H2 hy
    have hdrop : items.drop i = d :: items.drop (i + 1) := by
      rw [List.drop_eq_getElem_cons hlt]
      rw [List.getElem?_eq_getElem hlt] at hd
      cases hd
      rfl
    rw [hdrop] at hf
    unfold forF at hf
    have p2 := Pst.of_ext ar.p.re ex
    rcases M.bd_cases hf with ⟨_, env2, q1, q2⟩ | ⟨x', q1, _⟩
    · refine SndG.val hg2 p2.ext.fh p2.re rep q1 fun F3 H3 σ3 fp3 a3 => ?_
      have a3' : Arr X (T2 ++ T3) (T2 ++ A) F1 H1 env1 σ1 fp1 F3 H3 env2 σ3 fp3 := (p2.arr.trans a3).mono ar.p.re (fun t h => mem_l t (by simpa using h)) (fun t h => mem_l t (by simpa using h))
      have up3 : ∀ {F4 H4 env4 σ4 fp4}, Arr X T3 A F3 H3 env2 σ3 fp3 F4 H4 env4 σ4 fp4 → Arr X (T2 ++ T3) (T2 ++ A) F H env σ0 fp F4 H4 env4 σ4 fp4 := fun q => up ((a3'.trans q).mono ar.p.re (fun t h => by simp only [List.mem_append] at h ⊢; rcases h with (h | h) | h <;> simp [h]) (fun t h => by simp only [List.mem_append] at h ⊢; rcases h with (h | h) | h <;> simp [h]))
      rcases M.bd_cases q2 with ⟨l, env3, q3, q4⟩ | ⟨x', q3, e1⟩
      · refine hsb F3 H3 env2 σ3 fp3 _ (.ok l) env3 a3.p.ext.fh a3.p.re q3 (fun F4 H4 σ4 fp4 el a4 => ?_) (fun F4 H4 σ4 fp4 el a4 => ?_) (fun F4 H4 σ4 fp4 el a4 => ?_) (fun o v F4 H4 σ4 fp4 fr el a4 ro hd hw => ?_) (fun x _ _ _ _ _ _ e => by cases e)
        · cases el; exact ⟨F4, env3, fp4, up3 a4, q4⟩
        · cases el
          obtain ⟨rfl, rfl⟩ := M.ret_some q4
          exact n F4 H4 σ4 fp4 rfl (up3 a4)
        · cases el; exact ⟨F4, env3, fp4, up3 a4, q4⟩
        · cases el
          obtain ⟨rfl, rfl⟩ := M.ret_some q4
          refine rt o v F4 H4 σ4 fp4 fr rfl (up3 a4) ro hd fun a ha => ?_
          have z := Wf.none (T2 := T3) (up a3').p (hw a ha)
          exact z.imp_left fun w => w.mono fun t h => by simp only [List.mem_append] at h ⊢; rcases h with (h | h) | h <;> simp [h]
      · subst e1
        refine hsb F3 H3 env2 σ3 fp3 _ (.error x') env' a3.p.ext.fh a3.p.re q3 (fun F3 H3 σ3 fp3 el a3 => by cases el) (fun F3 H3 σ3 fp3 el a3 => by cases el) (fun F3 H3 σ3 fp3 el a3 => by cases el) (fun o v F3 H3 σ3 fp3 fr el => by cases el) (fun x'' F' H' σ' fp' cls d e' a4 ex => ?_)
        cases e'
        exact e x' F' H' σ' fp' cls d rfl (up3 a4) ex
    · exact absurd q1 (hg.noerr _ _ _ _)
  · have e1 : i = items.length := by omega
    subst e1
    refine .inl ⟨w2 (Nat.le_refl _), ?_⟩
    rw [List.drop_length] at hf
    obtain ⟨rfl, rfl⟩ := M.ret_some hf
    exact n F1 H1 σ1 fp1 rfl ar

/-! ### what is walked -/
/-- a list, a tuple -/
def iSeq (K : PySem.W.Frag) (tl : TE) : TI := fun σ H R => tl σ H fun x H1 => ∃ a, x = .ref a ∧ (((∃ xs, SqL K H1 a xs) ∧ R (Itl K a) H1) ∨ ((∃ xs, SqT K H1 a xs) ∧ R (Itt K a) H1))
theorem pi_seq {tg l : Expr} {tl : TE} (hl : PE X l tl) : PI X tg l (iSeq X.K tl) := by
  refine ⟨fun pins s σ H R I h => ?_⟩
  refine thn (hl.run pins s σ H _ I h) fun v s1 ⟨x, H1, I1, r1, q1⟩ => ?_
  obtain ⟨a, e, q⟩ := q1
  subst e
  cases r1
  rcases q with ⟨⟨xs, hq⟩, q⟩ | ⟨⟨xs, hq⟩, q⟩
  · obtain ⟨its, rv, p, hz⟩ := I1.list hq
    refine wpAny_pyIter_list p.isList ?_
    refine ⟨s1.heap.objs.size, [s1.heap.objs.size], _, _, H1, rfl, I1.kept (t' := s1.toks) fun b o e => Heap.get?_push_of_some _ e, turn_list a _, ⟨_, Heap.get?_push_size _ rfl, rfl, rfl⟩, fun b hb => ?_, q⟩
    have e : b = s1.heap.objs.size := by simpa using hb
    subst e
    exact I1.fpOk (Nat.le_refl _) (I1.hok.fresh (Nat.le_refl _))
  · obtain ⟨its, rv, p, hz⟩ := I1.tuple hq
    refine wpAny_pyIter_tuple (show s1.heap.IsTuple a its.toArray from p) ?_
    refine ⟨s1.heap.objs.size, [s1.heap.objs.size], _, _, H1, rfl, I1.kept (t' := s1.toks) fun b o e => Heap.get?_push_of_some _ e, turn_tuple a _, ⟨_, Heap.get?_push_size _ rfl, rfl, rfl⟩, fun b hb => ?_, q⟩
    have e : b = s1.heap.objs.size := by simpa using hb
    subst e
    exact I1.fpOk (Nat.le_refl _) (I1.hok.fresh (Nat.le_refl _))
/-- what can be walked of plain data -/
def D.items : D → Option (List D)
  | .lst ds => some ds
  | .tup ds => some ds
  | _ => none
theorem walks_list {a : Addr} {vs : List V} {ds : List D} (h : SqL X.K F1 a vs) (rp : Reps X.K X.mg F1 ds vs) : Walks X (Itl X.K a) ds F1 H1 [] := by
  intro i F2 H2 s1 s2 _
  have h2 : SqL X.K H2 a vs := sameL s2 (sameL s1 h)
  refine ⟨fun hi => ?_, fun hi => ⟨vs, h2, by rw [rp.length]; exact hi⟩⟩
  obtain ⟨v, e1, e2⟩ := rp.get (List.getElem?_eq_getElem hi)
  refine ⟨⟨vs, v, h2, e1⟩, fun x H3 hy => ?_⟩
  obtain ⟨rfl, hy⟩ := hy
  have ex : x = v := Option.some.inj ((hy vs h2).symm.trans e1)
  subst ex
  exact ⟨_, F2, List.getElem?_eq_getElem hi, Ext.refl s2, Rep.mono s1 _ _ e2⟩
theorem walks_tup {a : Addr} {vs : List V} {ds : List D} (h : TupR X.K F1 a vs) (rp : Reps X.K X.mg F1 ds vs) : Walks X (Itt X.K a) ds F1 H1 [] := by
  intro i F2 H2 s1 s2 _
  have h2 : SqT X.K H2 a vs := sqT s2 (sameT s1 h)
  refine ⟨fun hi => ?_, fun hi => ⟨vs, h2, by rw [rp.length]; exact hi⟩⟩
  obtain ⟨v, e1, e2⟩ := rp.get (List.getElem?_eq_getElem hi)
  refine ⟨⟨vs, v, h2, e1⟩, fun x H3 hy => ?_⟩
  obtain ⟨rfl, hy⟩ := hy
  have ex : x = v := Option.some.inj ((hy vs h2).symm.trans e1)
  subst ex
  exact ⟨_, F2, List.getElem?_eq_getElem hi, Ext.refl s2, Rep.mono s1 _ _ e2⟩
def iVal (f : M D) : M (List D) := M.bd f fun d => M.lift d.items
theorem it_val {tg e : Expr} {f : M D} (h : PV X W T e f) : PIt X W T [] tg e (iVal f) := by
  obtain ⟨t, ht, hs⟩ := h.ex
  refine ⟨_, pi_seq ht, fun F H env σ fp R r env' k1 k2 k3 k ke => ?_⟩
  refine SndV.then hs k1 k2 k3 (fun d v F1 H1 env1 fp1 q p rep => ?_) ke
  obtain ⟨ds, e, rfl, rfl⟩ := M.lift_some q
  cases d with
  | lst xs =>
    cases e
    simp only [Rep] at rep
    obtain ⟨a, vs, rfl, s, l, rp⟩ := rep
    exact ⟨a, rfl, .inl ⟨⟨vs, .of (p.ext.fh _ _ s)⟩, k _ _ F1 H1 fp1 [] rfl p (walks_list (.of s) rp) (fun a z => by simp at z)⟩⟩
  | tup xs =>
    cases e
    simp only [Rep] at rep
    obtain ⟨a, vs, rfl, s, l, rp⟩ := rep
    exact ⟨a, rfl, .inr ⟨⟨vs, sqT p.ext.fh s⟩, k _ _ F1 H1 fp1 [] rfl p (walks_tup s rp) (fun a z => by simp at z)⟩⟩
  | _ => cases e
/-- the list in a place, as it stands -/
def iOwn (i : Nat) : M (List D) := fun env => match env[i]? with
  | some (some (.lst os)) => (O.flat? os).map fun ds => (.ok ds, env)
  | _ => none
theorem it_own {tg e : Expr} (i : Nat) (h : PE X e (tVar i)) : PIt X W [] [i] tg e (iOwn i) := by
  refine ⟨_, pi_seq h, fun F H env σ fp R r env' k1 k2 k3 k ke => ?_⟩
  unfold iOwn at k3
  split at k3
  · rename_i os q
    simp only [Option.map_eq_some_iff] at k3
    obtain ⟨ds, e1, e2⟩ := k3
    cases e2
    obtain ⟨v, h1, h2⟩ := k2.slot i _ q
    have := O.flat_eq e1
    subst this
    simp only [RO] at h2
    obtain ⟨a, vs, fs, rfl, g1, g2, g3, g4, g5, g6⟩ := h2
    have rp := (ROs.flat g4).2
    refine ⟨_, h1, a, rfl, .inl ⟨⟨vs, .of g1⟩, k ds _ F H fp [a] rfl (.refl k1 k2) (fun j F2 H2 s1 s2 pn => ?_) (fun b hb => ⟨i, by simp, ?_⟩)⟩⟩
    · have h2 : SqL X.K H2 a vs := .of (by rw [pn a (by simp)]; exact g1)
      refine ⟨fun hi => ?_, fun hi => ⟨vs, h2, by rw [rp.length]; exact hi⟩⟩
      obtain ⟨w, f1, f2⟩ := rp.get (List.getElem?_eq_getElem hi)
      refine ⟨⟨vs, w, h2, f1⟩, fun x H3 hy => ?_⟩
      obtain ⟨rfl, hy⟩ := hy
      have ex : x = w := Option.some.inj ((hy vs h2).symm.trans f1)
      subst ex
      exact ⟨_, F2, List.getElem?_eq_getElem hi, Ext.refl s2, Rep.mono s1 _ _ f2⟩
    · have e : b = a := by simpa using hb
      subst e
      rw [g6]; simp
  · cases k3
/-- range(..) -/
def rangeD (lo : Int) (n : Nat) : List D := (List.range n).map fun (i : Nat) => D.int (lo + (i : Int))
theorem walks_range {lo : Int} {n : Nat} : Walks X (Itr lo n) (rangeD lo n) F1 H1 [] := by
  intro i F2 H2 s1 s2 _
  have hl : (rangeD lo n).length = n := by simp [rangeD]
  rw [hl]
  refine ⟨fun hi => ⟨hi, fun x H3 hy => ?_⟩, fun hi => hi⟩
  obtain ⟨rfl, rfl⟩ := hy
  refine ⟨.int (lo + (i : Int)), F2, ?_, Ext.refl s2, by simp only [Rep]⟩
  simp [rangeD, hi]
def iR1 (f : M (List D)) : M (List D) := M.bd f fun ds => M.lift (match ds with
  | [.int j] => if -(2 ^ 62) ≤ j ∧ j < 2 ^ 62 then some (rangeD 0 j.toNat) else none
  | _ => none)
theorem it_range1 {tg a : Expr} {f : M (List D)} {p pos : Pos} (hg : Gl X "range") (hm : X.mg "range" = none) (h : PAs X W T [a] f) (hs : starEach [a] X.env = [(false, eval a X.env)] := by rfl) : PIt X W T [] tg (.Call (.Name "range" p) [a] [] pos) (iR1 f) := by
  obtain ⟨t, ht, h2⟩ := h.ex
  refine ⟨_, pi_range1 hg hm ht hs, fun F H env σ fp R r env' k1 k2 k3 k ke => ?_⟩
  refine SndA.then h2 k1 k2 k3 (fun ds vs F1 H1 env1 fp1 q p reps => ?_) ke
  obtain ⟨items, e, rfl, rfl⟩ := M.lift_some q
  split at e
  · rename_i j
    split at e
    · rename_i hj
      cases e
      simp only [Reps] at reps
      obtain ⟨v, w, rfl, e1, rfl⟩ := reps
      simp only [Rep] at e1
      subst e1
      exact ⟨j, rfl, hj.1, hj.2, k _ _ F1 H1 fp1 [] rfl p walks_range (fun a z => by simp at z)⟩
    · cases e
  · cases e
def iR2 (f : M (List D)) : M (List D) := M.bd f fun ds => M.lift (match ds with
  | [.int i, .int j] => if -(2 ^ 62) ≤ i ∧ i < 2 ^ 62 ∧ -(2 ^ 62) ≤ j ∧ j < 2 ^ 62 then some (rangeD i (j - i).toNat) else none
  | _ => none)
theorem it_range2 {tg a b : Expr} {f : M (List D)} {p pos : Pos} (hg : Gl X "range") (hm : X.mg "range" = none) (h : PAs X W T [a, b] f) (hs : starEach [a, b] X.env = [(false, eval a X.env), (false, eval b X.env)] := by rfl) (hs2 : starEach [b] X.env = [(false, eval b X.env)] := by rfl) :
    PIt X W T [] tg (.Call (.Name "range" p) [a, b] [] pos) (iR2 f) := by
  obtain ⟨t, ht, h2⟩ := h.ex
  refine ⟨_, pi_range2 hg hm ht hs hs2, fun F H env σ fp R r env' k1 k2 k3 k ke => ?_⟩
  refine SndA.then h2 k1 k2 k3 (fun ds vs F1 H1 env1 fp1 q p reps => ?_) ke
  obtain ⟨items, e, rfl, rfl⟩ := M.lift_some q
  split at e
  · rename_i i j
    split at e
    · rename_i hj
      cases e
      simp only [Reps] at reps
      obtain ⟨v, w, rfl, e1, v2, w2, rfl, e2, rfl⟩ := reps
      simp only [Rep] at e1 e2
      subst e1 e2
      exact ⟨i, j, rfl, hj, k _ _ F1 H1 fp1 [] rfl p walks_range (fun a z => by simp at z)⟩
    · cases e
  · cases e
end
end PL
/-! PL6: a def by its body, its call. -/
namespace PL
open PySem L2
open PyProof.Rows (envOfC)

/-- what a def does: from what its parameters hold to what it gives, and what the parameters in io hold then -/
abbrev Fn := List O → Option (Except Ex O × Env)
def outs (io : List Nat) (n : Nat) (env : Env) : Env := (List.range n).map fun j => if j ∈ io then (env[j]?).join else none
def dfn (n N : Nat) (io : List Nat) (body : M Fl) : Fn := fun os => match body (os.map some ++ List.replicate (N - n) none) with
  | some (.ok .nx, env) => some (.ok (.val .non), outs io n env)
  | some (.ok (.ret o), env) => some (.ok o, outs io n env)
  | some (.error x, env) => some (.error x, outs io n env)
  | _ => none
/-- a def's promise by plain data -/
def spD (K : PySem.W.Frag) (G : Str → Option Value) (n : Nat) (io ro : List Nat) (m : Fn) : Sp := fun vs H Q E => ∃ (F : Hp) (os : List O) (fps : Nat → List Addr) (r : Except Ex O) (out : Env),
  Same F H ∧ vs.length = n ∧ RE K G F H (os.map some) (vs.map some) fps ∧ (∀ i o, i ∉ io → i ∉ ro → os[i]? = some o → ∃ d, o = .val d) ∧ m os = some (r, out) ∧
  (∀ o v F' H' fps' fr, r = .ok o → Ext F H (Wf io fps) F' H' → RE K G F' H' out (vs.map some) fps' → (∀ j a, a ∈ fps' j → Wf io fps a ∨ H a = none) → RO K G F' H' o v fr → (∀ j a, a ∈ fr → a ∉ fps' j) → (∀ a ∈ fr, Wf io fps a ∨ H a = none) → Q v H') ∧
  (∀ x F' H' fps' cls d, r = .error x → Ext F H (Wf io fps) F' H' → RE K G F' H' out (vs.map some) fps' → (∀ j a, a ∈ fps' j → Wf io fps a ∨ H a = none) → ExR K G F' H' x cls d → E cls d H')
theorem outs_get {io : List Nat} {n : Nat} {env : Env} {j : Nat} {o : O} (h : (outs io n env)[j]? = some (some o)) : j < n ∧ j ∈ io ∧ env[j]? = some (some o) := by
  unfold outs at h
  rw [List.getElem?_map] at h
  cases q : (List.range n)[j]? with
  | none => rw [q] at h; cases h
  | some i =>
    have hj : j < n := by
      have := lt_of_get q
      simpa using this
    rw [List.getElem?_range hj] at q
    cases q
    rw [List.getElem?_range hj] at h
    simp only [Option.map_some, Option.some.injEq] at h
    split at h
    · rename_i hi
      refine ⟨hj, hi, ?_⟩
      cases z : env[j]? with
      | none => rw [z] at h; cases h
      | some y => rw [z] at h; cases h; rfl
    · cases h
section
variable {P : Program} {w : World} {K : PySem.W.Frag} {mg : Str → Option Value} {base : Heap}
/-- where a def's body stands -/
abbrev BodyX (P : Program) (w : World) (K : PySem.W.Frag) (mg : Str → Option Value) (base : Heap) (N : List Str) (qual : Str) (st : Stmt) (f : Addr) (cdv : Value) (A : Around) (outer : List PySem.Env) (s : Shared) (H : Hp) (E : XK) : Cx :=
  cxOf (L2.CX P w) P w K mg base N qual (defScope st) f cdv A outer s H E
theorem fn_pl {x qual : Str} {st : Stmt} {f : Addr} {fd : FuncData} {N ps : List Str} {k n : Nat} {io ro T A : List Nat} {body : M Fl} (Fu : Fun K x qual st f fd) (S : FnScope N ps (defScope st)) (hn : ps.length = n) (hio : ∀ j ∈ io, j ∉ A) (hro : ∀ j ∈ ro, j ∉ T)
    (hb : ∀ (cdv : Value) (Ar : Around) (outer : List PySem.Env) (s : Shared) (H : Hp) (E : XK), Room k (Ar.deeper (envOfC qual (defScope st) s.heap.objs.size f cdv)) →
      PZs (cxOf (L2.CX P w) P w K mg base N qual (defScope st) f cdv Ar outer s H E) (fun cls d _ H => E cls d H) T A (defBody st) body) :
    FnOk P w K mg base (L2.CX P w) (k + 1) f fd ps (spD K mg n io ro (dfn n N.length io body)) := by
  refine Fu.okX S (fun vs H Q E h => ?_) (fun cdv Ar outer s H vs Q E hr h => ?_)
  · obtain ⟨_, _, _, _, _, _, h2, _⟩ := h
    exact h2.trans hn.symm
  · obtain ⟨F, os, fps, r, out, h1, h2, h3, h4, h5, h6, h7⟩ := h
    obtain ⟨t, ht, hs⟩ := (hb cdv Ar outer s H E hr).ex
    refine ⟨t, ht, ?_⟩
    have hol : os.length = vs.length := by have := h3.len; simpa using this
    -- the places at the beginning
    have re : RE K mg F H (os.map some ++ List.replicate (N.length - n) none) (L2.start N vs) fps := by
      refine ⟨by rw [List.length_append, List.length_map, List.length_replicate, hol]; simp only [L2.start, List.length_append, List.length_map, List.length_replicate, h2], fun i o e => ?_, fun i e => ?_, h3.dis⟩
      · have hi : i < os.length := by
          rcases Nat.lt_or_ge i os.length with z | z
          · exact z
          · rw [List.getElem?_append_right (by simpa using z), List.getElem?_replicate] at e
            split at e <;> cases e
        rw [List.getElem?_append_left (by simpa using hi)] at e
        obtain ⟨v, e1, e2⟩ := h3.slot i o e
        refine ⟨v, ?_, e2⟩
        unfold L2.start
        rw [List.getElem?_append_left (by simpa [hol] using hi)]
        exact e1
      · refine h3.emp i fun o z => ?_
        have hi := lt_of_get z
        exact e o (by rw [List.getElem?_append_left hi]; exact z)
    have val : ∀ i, i ∉ io → i ∉ ro → fps i = [] := fun i hi hr => by
      by_cases q : ∃ o, os[i]? = some o
      · obtain ⟨o, q⟩ := q
        obtain ⟨d, rfl⟩ := h4 i o hi hr q
        obtain ⟨v, _, e2⟩ := h3.slot i (.val d) (by rw [List.getElem?_map, q]; rfl)
        exact e2.val_inv.1
      · refine h3.emp i fun o z => q ⟨o, ?_⟩
        rw [List.getElem?_map] at z
        cases y : os[i]? with
        | none => rw [y] at z; cases z
        | some o' => rw [y] at z; cases z; rfl
    have wf : ∀ a, Wf T fps a → Wf io fps a := fun a ⟨i, hT, h⟩ => ⟨i, by
      by_cases z : i ∈ io
      · exact z
      · rw [val i z fun y => hro i y hT] at h; simp at h, h⟩
    have wfn : ∀ {a}, Wf T fps a ∨ H a = none → Wf io fps a ∨ H a = none := fun h => h.imp_left (wf _)
    -- what the parameters hold at the end
    have fin : ∀ {F' H' env' σ' fp'}, Arr (cxOf (L2.CX P w) P w K mg base N qual (defScope st) f cdv Ar outer s H E) T A F H (os.map some ++ List.replicate (N.length - n) none) (L2.start N vs) fps F' H' env' σ' fp' →
        Ext F H (Wf io fps) F' H' ∧ RE K mg F' H' (outs io n env') (vs.map some) (fun j => match (outs io n env')[j]? with
          | some (some _) => fp' j
          | _ => []) ∧ (∀ (j : Nat) (a : Addr), a ∈ (match (outs io n env')[j]? with
          | some (some _) => fp' j
          | _ => []) → Wf io fps a ∨ H a = none) := fun {F' H' env' σ' fp'} ar => by
      refine ⟨ar.p.ext.mono wf, ⟨by simp [outs, h2], fun j o e => ?_, fun j e => ?_, fun i j hij a ha hb => ?_⟩, fun j a ha => ?_⟩
      · obtain ⟨e1, e2, e3⟩ := outs_get e
        obtain ⟨v, g1, g2⟩ := ar.p.re.slot j o e3
        refine ⟨v, ?_, by rw [e]; exact g2⟩
        rw [ar.a j (hio j e2)] at g1
        unfold L2.start at g1
        rw [List.getElem?_append_left (by simpa [h2] using e1)] at g1
        exact g1
      · split
        · rename_i o hj
          exact absurd hj (e o)
        · rfl
      · split at ha
        · split at hb
          · exact ar.p.re.dis i j hij a ha hb
          · simp at hb
        · simp at ha
      · split at ha
        · rename_i o hj
          rcases ar.p.come' ha with z | z | z
          · exact .inl ⟨j, (outs_get hj).2.1, z⟩
          · exact .inl (wf a z)
          · exact .inr z
        · simp at ha
    have sub : ∀ {ou : Env} {fp' : Nat → List Addr} {j : Nat} {a : Addr}, a ∈ (match ou[j]? with
          | some (some _) => fp' j
          | _ => []) → a ∈ fp' j := fun h => by
      split at h
      · exact h
      · simp at h
    unfold dfn at h5
    split at h5
    · rename_i env' hq
      cases h5
      refine hs F H _ (L2.start N vs) fps _ _ env' h1 re hq (fun F' H' σ' fp' _ ar => ?_) (fun _ _ _ _ e => by cases e) (fun _ _ _ _ e => by cases e) (fun _ _ _ _ _ _ _ e => by cases e) (fun _ _ _ _ _ _ _ e => by cases e)
      obtain ⟨g1, g2, g3⟩ := fin ar
      exact h6 (.val .non) .non F' H' _ [] rfl g1 g2 (fun j a ha => g3 j a ha) (.val (by simp only [Rep])) (fun _ _ z => by simp at z) (fun _ z => by simp at z)
    · rename_i o env' hq
      cases h5
      refine hs F H _ (L2.start N vs) fps _ _ env' h1 re hq (fun _ _ _ _ e => by cases e) (fun _ _ _ _ e => by cases e) (fun _ _ _ _ e => by cases e) (fun o' v F' H' σ' fp' fr e ar ro hd hw => ?_) (fun _ _ _ _ _ _ _ e => by cases e)
      cases e
      obtain ⟨g1, g2, g3⟩ := fin ar
      exact h6 o v F' H' _ fr rfl g1 g2 (fun j a ha => g3 j a ha) ro (fun j a ha z => hd j a ha (sub z)) (fun a ha => wfn (hw a ha))
    · rename_i x env' hq
      cases h5
      refine hs F H _ (L2.start N vs) fps _ _ env' h1 re hq (fun _ _ _ _ e => by cases e) (fun _ _ _ _ e => by cases e) (fun _ _ _ _ e => by cases e) (fun _ _ _ _ _ _ _ e => by cases e) (fun x' F' H' σ' fp' cls d e ar ex => ?_)
      cases e
      obtain ⟨g1, g2, g3⟩ := fin ar
      exact h7 x F' H' _ cls d rfl g1 g2 (fun j a ha => g3 j a ha) ex
    · cases h5
end

/-! ### calls -/
/-- an argument: a value, or a place of the caller's, lent -/
inductive Ag where
  | v (d : D) | p (i : Nat)
def Ag.pl : Ag → Option Nat
  | .v _ => none
  | .p i => some i
def Ag.o (env : Env) : Ag → Option O
  | .v d => some (.val d)
  | .p i => (env[i]?).join
def agos (env : Env) : List Ag → Option (List O)
  | [] => some []
  | a :: as => (a.o env).bind fun o => (agos env as).map fun os => o :: os
/-- at which argument a place is lent -/
def pix : List (Option Nat) → Nat → Option Nat
  | [], _ => none
  | a :: as, j => if a = some j then some 0 else (pix as j).map (· + 1)
def putBack (sh : List (Option Nat)) (out : Env) (env : Env) : Env := env.mapIdx fun j o => match pix sh j with
  | some k => (out[k]?).join
  | none => o
theorem pix_some : ∀ {sh : List (Option Nat)} {j k : Nat}, pix sh j = some k → sh[k]? = some (some j)
  | [], j, k, h => by cases h
  | a :: as, j, k, h => by
    unfold pix at h
    split at h
    · rename_i e; cases h; rw [e]; rfl
    · cases q : pix as j with
      | none => rw [q] at h; cases h
      | some i => rw [q] at h; cases h; simpa using pix_some q
theorem pix_none : ∀ {sh : List (Option Nat)} {j : Nat}, pix sh j = none → ∀ k : Nat, sh[k]? ≠ some (some j)
  | [], j, h, k => by simp
  | a :: as, j, h, k => by
    unfold pix at h
    split at h
    · cases h
    · rename_i e
      cases q : pix as j with
      | some i => rw [q] at h; cases h
      | none =>
        cases k with
        | zero => simpa using e
        | succ k => simpa using pix_none q k
def AgR (K : PySem.W.Frag) (G : Str → Option Value) (F : Hp) (σ : St) : List Ag → List V → Prop
  | [], vs => vs = []
  | .v d :: as, vs => ∃ v r, vs = v :: r ∧ Rep K G F d v ∧ AgR K G F σ as r
  | .p i :: as, vs => ∃ v r, vs = v :: r ∧ σ[i]? = some (some v) ∧ AgR K G F σ as r
section
variable {K : PySem.W.Frag} {G : Str → Option Value} {F F' : Hp} {σ : St}
theorem AgR.mono (h : Same F F') : ∀ {as : List Ag} {vs : List V}, AgR K G F σ as vs → AgR K G F' σ as vs
  | [], vs, q => q
  | .v d :: as, vs, q => by
    obtain ⟨v, r, e, h1, h2⟩ := q
    exact ⟨v, r, e, Rep.mono h _ _ h1, AgR.mono h h2⟩
  | .p i :: as, vs, q => by
    obtain ⟨v, r, e, h1, h2⟩ := q
    exact ⟨v, r, e, h1, AgR.mono h h2⟩
theorem AgR.length : ∀ {as : List Ag} {vs : List V}, AgR K G F σ as vs → vs.length = as.length
  | [], vs, q => by cases q; rfl
  | .v d :: as, vs, q => by
    obtain ⟨v, r, rfl, h1, h2⟩ := q
    simp [AgR.length h2]
  | .p i :: as, vs, q => by
    obtain ⟨v, r, rfl, h1, h2⟩ := q
    simp [AgR.length h2]
theorem agos_get {env : Env} : ∀ {as : List Ag} {os : List O} {k : Nat} {a : Ag}, agos env as = some os → as[k]? = some a → ∃ o, os[k]? = some o ∧ a.o env = some o
  | [], os, k, a, h, e => by simp at e
  | b :: as, os, k, a, h, e => by
    unfold agos at h
    simp only [Option.bind_eq_some_iff, Option.map_eq_some_iff] at h
    obtain ⟨o, h1, os', h2, rfl⟩ := h
    cases k with
    | zero => simp at e; subst e; exact ⟨o, rfl, h1⟩
    | succ k =>
      obtain ⟨o', e1, e2⟩ := agos_get (k := k) h2 (by simpa using e)
      exact ⟨o', by simpa using e1, e2⟩
theorem agos_len {env : Env} : ∀ {as : List Ag} {os : List O}, agos env as = some os → os.length = as.length
  | [], os, h => by cases h; rfl
  | b :: as, os, h => by
    unfold agos at h
    simp only [Option.bind_eq_some_iff, Option.map_eq_some_iff] at h
    obtain ⟨o, h1, os', h2, rfl⟩ := h
    simp [agos_len h2]
theorem AgR.get : ∀ {as : List Ag} {vs : List V} {k : Nat} {a : Ag}, AgR K G F σ as vs → as[k]? = some a → ∃ v, vs[k]? = some v ∧ match a with
    | .v d => Rep K G F d v
    | .p i => σ[i]? = some (some v)
  | [], vs, k, a, q, e => by simp at e
  | .v d :: as, vs, k, a, q, e => by
    obtain ⟨v, r, rfl, h1, h2⟩ := q
    cases k with
    | zero => simp at e; subst e; exact ⟨v, rfl, h1⟩
    | succ k =>
      obtain ⟨v', e1, e2⟩ := AgR.get (k := k) h2 (by simpa using e)
      exact ⟨v', by simpa using e1, e2⟩
  | .p i :: as, vs, k, a, q, e => by
    obtain ⟨v, r, rfl, h1, h2⟩ := q
    cases k with
    | zero => simp at e; subst e; exact ⟨v, rfl, h1⟩
    | succ k =>
      obtain ⟨v', e1, e2⟩ := AgR.get (k := k) h2 (by simpa using e)
      exact ⟨v', by simpa using e1, e2⟩
end
section
variable (X : Cx) (W : WX) (T : List Nat)
def SndAg (sh : List (Option Nat)) (t : TA) (f : M (List Ag)) : Prop :=
  ∀ (F H : Hp) (env : Env) (σ : St) (fp : Nat → List Addr) (Q : List V → Hp → Prop) (r : Except Ex (List Ag)) (env' : Env), Same F H → RE X.K X.mg F H env σ fp → f env = some (r, env') →
    (∀ as vs F' H' fp', r = .ok as → as.map Ag.pl = sh → Pst X.K X.mg T F H env fp F' H' env' σ fp' → AgR X.K X.mg F' σ as vs → Q vs H') →
    ErrK X W T F H env σ fp (List Ag) r env' → t σ H Q
/-- the arguments of a call -/
structure PAg (sh : List (Option Nat)) (es : List Expr) (f : M (List Ag)) : Prop where
  ex : ∃ t, PA X es t ∧ SndAg X W T sh t f
end
section
variable {X : Cx} {W : WX} {T T1 T2 : List Nat} {F H F1 H1 : Hp} {env env' env1 : Env} {σ : St} {fp fp1 : Nat → List Addr} {sh : List (Option Nat)}
def gNl : M (List Ag) := M.ret []
def gV (f : M D) (g : M (List Ag)) : M (List Ag) := M.bd f fun d => M.bd g fun as => M.ret (.v d :: as)
/-- a place of the caller's -/
def gP (i : Nat) (g : M (List Ag)) : M (List Ag) := fun env => match env[i]? with
  | some (some _) => M.bd g (fun as => M.ret (.p i :: as)) env
  | _ => none
theorem pag_nil : PAg X W [] [] [] gNl := ⟨_, pa_nil, fun F H env σ fp Q r env' k1 k2 k3 k ke => by
  obtain ⟨rfl, rfl⟩ := M.ret_some k3
  exact k [] [] F H fp rfl rfl (.refl k1 k2) rfl⟩
theorem SndAg.then {β : Type} {t : TA} {f : M (List Ag)} (hs : SndAg X W T1 sh t f) {g : List Ag → M β} {r : Except Ex β} {R : List V → Hp → Prop} (k1 : Same F H) (k2 : RE X.K X.mg F H env σ fp) (k3 : M.bd f g env = some (r, env'))
    (k : ∀ as vs F1 H1 env1 fp1, g as env1 = some (r, env') → as.map Ag.pl = sh → Pst X.K X.mg T1 F H env fp F1 H1 env1 σ fp1 → AgR X.K X.mg F1 σ as vs → R vs H1)
    (ke : ErrK X W T1 F H env σ fp β r env') : t σ H R := by
  rcases M.bd_cases k3 with ⟨a, env1, q1, q2⟩ | ⟨x, q, rfl⟩
  · exact hs F H env σ fp _ _ env1 k1 k2 q1 (fun d v F1 H1 fp1 e es p rep => by cases e; exact k a v F1 H1 env1 fp1 q2 es p rep) (fun x _ _ _ _ _ e => by cases e)
  · exact hs F H env σ fp _ _ env' k1 k2 q (fun d v F1 H1 fp1 e => by cases e) (fun x' F' H' fp' cls d e p ex => by cases e; exact ke x F' H' fp' cls d rfl p ex)
theorem pag_v {e : Expr} {es : List Expr} {f : M D} {g : M (List Ag)} (h : PV X W T1 e f) (h' : PAg X W T2 sh es g) (hs : starEach (e :: es) X.env = (false, eval e X.env) :: starEach es X.env := by rfl) : PAg X W (T1 ++ T2) (none :: sh) (e :: es) (gV f g) := by
  obtain ⟨t, ht, hs1⟩ := h.ex
  obtain ⟨u, hu, hs2⟩ := h'.ex
  refine ⟨_, pa_cons ht hu hs, fun F H env σ fp Q r env' k1 k2 k3 k ke => ?_⟩
  refine SndV.then hs1 k1 k2 k3 (fun d v F1 H1 env1 fp1 q p rep => ?_) (ke.left k2)
  refine SndAg.then hs2 p.ext.fh p.re q (fun as vs F2 H2 env2 fp2 q2 es2 p2 reps => ?_) (ke.right p)
  obtain ⟨rfl, rfl⟩ := M.ret_some q2
  exact k _ _ F2 H2 fp2 rfl (by simp [Ag.pl, es2]) (p.trans p2) ⟨v, vs, rfl, Rep.mono p2.ext.ff _ _ rep, reps⟩
theorem pag_p {e : Expr} {es : List Expr} {g : M (List Ag)} (i : Nat) (h : PE X e (tVar i)) (h' : PAg X W T sh es g) (hs : starEach (e :: es) X.env = (false, eval e X.env) :: starEach es X.env := by rfl) : PAg X W T (some i :: sh) (e :: es) (gP i g) := by
  obtain ⟨u, hu, hs2⟩ := h'.ex
  refine ⟨_, pa_cons h hu hs, fun F H env σ fp Q r env' k1 k2 k3 k ke => ?_⟩
  unfold gP at k3
  split at k3
  · rename_i o q
    obtain ⟨v, h1, h2⟩ := k2.slot i _ q
    refine ⟨v, h1, ?_⟩
    refine SndAg.then hs2 k1 k2 k3 (fun as vs F2 H2 env2 fp2 q2 es2 p2 reps => ?_) ke
    obtain ⟨rfl, rfl⟩ := M.ret_some q2
    exact k _ _ F2 H2 fp2 rfl (by simp [Ag.pl, es2]) p2 ⟨v, vs, rfl, h1, reps⟩
  · cases k3
def places (sh : List (Option Nat)) : List Nat := sh.filterMap id
/-- the places that are lent to be changed -/
def msk (io : List Nat) (sh : List (Option Nat)) : List (Option Nat) := sh.mapIdx fun k o => if k ∈ io then o else none
theorem msk_get {io : List Nat} {sh : List (Option Nat)} {k i : Nat} : (msk io sh)[k]? = some (some i) ↔ sh[k]? = some (some i) ∧ k ∈ io := by
  unfold msk
  rw [List.getElem?_mapIdx]
  cases q : sh[k]? with
  | none => simp
  | some o =>
    simp only [Option.map_some, Option.some.injEq]
    split
    · rename_i h; simp [h]
    · rename_i h; simp [h]
/-- a call by what the def does -/
def oCall (m : Fn) (sh : List (Option Nat)) (f : M (List Ag)) : M O := M.bd f fun as env => match (agos env as).bind m with
  | some (r, out) => some (r, putBack sh out env)
  | none => none
theorem mem_places {sh : List (Option Nat)} {j k : Nat} (h : sh[k]? = some (some j)) : j ∈ places sh := by
  unfold places
  rw [List.mem_filterMap]
  exact ⟨some j, List.mem_of_getElem? h, rfl⟩
theorem places_inj : ∀ {sh : List (Option Nat)} {i k l : Nat}, (places sh).Nodup → sh[k]? = some (some i) → sh[l]? = some (some i) → k = l
  | [], i, k, l, h, h1, h2 => by simp at h1
  | none :: sh, i, k, l, h, h1, h2 => by
    cases k with
    | zero => simp at h1
    | succ k =>
      cases l with
      | zero => simp at h2
      | succ l =>
        have := places_inj (sh := sh) (i := i) (k := k) (l := l) (by simpa [places] using h) (by simpa using h1) (by simpa using h2)
        omega
  | some j :: sh, i, k, l, h, h1, h2 => by
    have h' : j ∉ places sh ∧ (places sh).Nodup := by simpa [places] using h
    cases k with
    | zero =>
      simp at h1
      subst h1
      cases l with
      | zero => rfl
      | succ l => exact absurd (mem_places (k := l) (by simpa using h2)) h'.1
    | succ k =>
      cases l with
      | zero =>
        simp at h2
        subst h2
        exact absurd (mem_places (k := k) (by simpa using h1)) h'.1
      | succ l =>
        have := places_inj (sh := sh) (i := i) (k := k) (l := l) h'.2 (by simpa using h1) (by simpa using h2)
        omega
theorem putBack_get {out : Env} {j : Nat} : (putBack sh out env)[j]? = (env[j]?).map fun o => match pix sh j with
    | some k => (out[k]?).join
    | none => o := by
  unfold putBack
  rw [List.getElem?_mapIdx]
/-- the promise taken up by the caller -/
theorem spD_call {n : Nat} {io ro : List Nat} {m : Fn} {as : List Ag} {os : List O} {vs : List V} {r : Except Ex O} {out : Env} {Q : VK} {E : XK} (k1 : Same F H) (k2 : RE X.K X.mg F H env σ fp) (hsh : as.map Ag.pl = sh) (nd : (places sh).Nodup) (hn : as.length = n)
    (ha : AgR X.K X.mg F σ as vs) (ho : agos env as = some os) (hm : m os = some (r, out)) (hio : ∀ (k i : Nat), sh[k]? = some (some i) → k ∈ io ∨ k ∈ ro)
    (k : ∀ o v F' H' fp' fr, r = .ok o → Pst X.K X.mg (places (msk io sh)) F H env fp F' H' (putBack (msk io sh) out env) σ fp' → RO X.K X.mg F' H' o v fr → (∀ j a, a ∈ fr → a ∉ fp' j) → (∀ a ∈ fr, Wf (places (msk io sh)) fp a ∨ H a = none) → Q v H')
    (ke : ∀ x F' H' fp' cls d, r = .error x → Pst X.K X.mg (places (msk io sh)) F H env fp F' H' (putBack (msk io sh) out env) σ fp' → ExR X.K X.mg F' H' x cls d → E cls d H') : spD X.K X.mg n io ro m vs H Q E := by
  have hl : os.length = as.length := agos_len ho
  have hvl : vs.length = as.length := ha.length
  have shk : ∀ k : Nat, sh[k]? = (as[k]?).map Ag.pl := fun k => by rw [← hsh, List.getElem?_map]
  let fps : Nat → List Addr := fun k => match sh[k]? with
    | some (some i) => fp i
    | _ => []
  have re : RE X.K X.mg F H (os.map some) (vs.map some) fps := by
    refine ⟨by simp [hl, hvl], fun k o e => ?_, fun k e => ?_, fun k l n a h1 h2 => ?_⟩
    · rw [List.getElem?_map] at e
      cases q : os[k]? with
      | none => rw [q] at e; cases e
      | some o' =>
        rw [q] at e
        cases e
        have hk : k < as.length := by rw [← hl]; exact lt_of_get q
        obtain ⟨v, e1, e2⟩ := ha.get (List.getElem?_eq_getElem hk)
        obtain ⟨o2, e3, e4⟩ := agos_get ho (List.getElem?_eq_getElem hk)
        rw [q] at e3
        cases e3
        refine ⟨v, by rw [List.getElem?_map, e1]; rfl, ?_⟩
        have hs := shk k
        rw [List.getElem?_eq_getElem hk] at hs
        cases ga : as[k] with
        | v d =>
          rw [ga] at e2 e4 hs
          cases e4
          have : fps k = [] := by show (match sh[k]? with | some (some i) => fp i | _ => []) = []; rw [hs]; rfl
          rw [this]
          exact .val e2
        | p i =>
          rw [ga] at e2 e4 hs
          have e5 : env[i]? = some (some o) := by
            have e4' : (env[i]?).join = some o := e4
            cases y : env[i]? with
            | none => rw [y] at e4'; cases e4'
            | some z => rw [y] at e4'; simp at e4'; rw [e4']
          obtain ⟨v', g1, g2⟩ := k2.slot i _ e5
          have e2' : σ[i]? = some (some v) := e2
          rw [e2'] at g1
          cases g1
          have : fps k = fp i := by show (match sh[k]? with | some (some i) => fp i | _ => []) = fp i; rw [hs]; rfl
          rw [this]
          exact g2
    · show (match sh[k]? with | some (some i) => fp i | _ => []) = []
      split
      · rename_i i hs
        have hk : k < os.length := by
          have := lt_of_get hs
          rw [← hsh] at this
          rw [hl]; simpa using this
        exact absurd (by rw [List.getElem?_map, List.getElem?_eq_getElem hk]; rfl) (e os[k])
      · rfl
    · have h1' : a ∈ (match sh[k]? with | some (some i) => fp i | _ => []) := h1
      have h2' : a ∈ (match sh[l]? with | some (some i) => fp i | _ => []) := h2
      split at h1'
      · rename_i i hi
        split at h2'
        · rename_i j hj
          refine k2.dis i j (fun z => ?_) a h1' h2'
          subst z
          exact n (places_inj nd hi hj)
        · simp at h2'
      · simp at h1'
  have wf : ∀ a, Wf io fps a → Wf (places (msk io sh)) fp a := fun a ⟨t, h1, h2⟩ => by
    have h2' : a ∈ (match sh[t]? with | some (some i) => fp i | _ => []) := h2
    split at h2'
    · rename_i i hi
      exact ⟨i, mem_places (msk_get.mpr ⟨hi, h1⟩), h2'⟩
    · simp at h2'
  have lent : ∀ {j k : Nat}, pix (msk io sh) j = some k → ∃ v, vs[k]? = some v ∧ σ[j]? = some (some v) ∧ ∃ o, env[j]? = some (some o) := fun {j k} h => by
    have hs := (msk_get.mp (pix_some h)).1
    have hs' := hs
    rw [shk k] at hs'
    cases q : as[k]? with
    | none => rw [q] at hs'; cases hs'
    | some a =>
      rw [q] at hs'
      cases a with
      | v d => cases hs'
      | p i =>
        have e : i = j := by simpa [Ag.pl] using hs'
        subst e
        obtain ⟨v, e1, e2⟩ := ha.get q
        obtain ⟨o, e3, e4⟩ := agos_get ho q
        refine ⟨v, e1, e2, o, ?_⟩
        have e4' : (env[i]?).join = some o := e4
        cases y : env[i]? with
        | none => rw [y] at e4'; cases e4'
        | some z => rw [y] at e4'; simp at e4'; rw [e4']
  have fin : ∀ {F' H' fps'}, Ext F H (Wf io fps) F' H' → RE X.K X.mg F' H' out (vs.map some) fps' → (∀ j a, a ∈ fps' j → Wf io fps a ∨ H a = none) →
      Pst X.K X.mg (places (msk io sh)) F H env fp F' H' (putBack (msk io sh) out env) σ (fun j => match pix (msk io sh) j with
          | some k => fps' k
          | none => fp j) := fun {F' H' fps'} ex ro cm => by
    have ex' : Ext F H (Wf (places (msk io sh)) fp) F' H' := ex.mono wf
    have stays : ∀ {j : Nat}, pix (msk io sh) j = none → ∀ a ∈ fp j, ¬ Wf io fps a := fun {j} hj a ha ⟨t, h1, h2⟩ => by
      have h2' : a ∈ (match sh[t]? with | some (some i) => fp i | _ => []) := h2
      split at h2'
      · rename_i i hi
        exact k2.dis i j (fun z => pix_none hj t (z ▸ msk_get.mpr ⟨hi, h1⟩)) a h2' ha
      · simp at h2'
    refine ⟨ex', ⟨by rw [putBack, List.length_mapIdx]; exact k2.len, fun j o e => ?_, fun j e => ?_, fun i j n a h1 h2 => ?_⟩, fun j hj => ?_, fun j a ha hj => ?_, by rw [putBack, List.length_mapIdx]⟩
    · rw [putBack_get] at e
      cases q : pix (msk io sh) j with
      | some k =>
        obtain ⟨v, e1, e2, o2, e3⟩ := lent q
        rw [q, e3] at e
        have e4 : out[k]? = some (some o) := by
          simp only [Option.map_some, Option.some.injEq] at e
          cases y : out[k]? with
          | none => rw [y] at e; cases e
          | some z => rw [y] at e; simp at e; rw [e]
        obtain ⟨v', g1, g2⟩ := ro.slot k o e4
        rw [List.getElem?_map, e1] at g1
        cases g1
        exact ⟨v, e2, g2⟩
      | none =>
        rw [q] at e
        have e4 : env[j]? = some (some o) := by
          cases y : env[j]? with
          | none => rw [y] at e; cases e
          | some z => rw [y] at e; simpa using e
        obtain ⟨v, g1, g2⟩ := k2.slot j o e4
        refine ⟨v, g1, g2.frame ex.ff fun a ha => ⟨?_, ?_⟩⟩
        · cases y : H a with
          | none => exact absurd y (k2.fpin ha).2
          | some z => exact ex.keep a z y (stays q a ha)
        · cases y : F' a with
          | none => rfl
          | some z =>
            rcases ex.new a (by rw [y]; simp) with z | z | z
            · exact absurd (k2.fpin ha).1 z
            · exact absurd z (stays q a ha)
            · exact absurd z (k2.fpin ha).2
    · cases q : pix (msk io sh) j with
      | some k =>
        obtain ⟨v, e1, e2, o2, e3⟩ := lent q
        refine ro.emp k fun o z => ?_
        refine e o ?_
        rw [putBack_get, q, e3]
        show some ((out[k]?).join) = _
        rw [z]
        rfl
      | none =>
        refine k2.emp j fun o z => ?_
        refine e o ?_
        rw [putBack_get, q, z]
        rfl
    · cases q : pix (msk io sh) i with
      | some k =>
        rw [q] at h1
        cases q2 : pix (msk io sh) j with
        | some l =>
          rw [q2] at h2
          refine ro.dis k l (fun z => ?_) a h1 h2
          subst z
          have := (pix_some q).symm.trans (pix_some q2)
          simp at this
          exact n this
        | none =>
          rw [q2] at h2
          rcases cm k a h1 with y | y
          · exact stays q2 a h2 y
          · exact (k2.fpin h2).2 y
      | none =>
        rw [q] at h1
        cases q2 : pix (msk io sh) j with
        | some l =>
          rw [q2] at h2
          rcases cm l a h2 with y | y
          · exact stays q a h1 y
          · exact (k2.fpin h1).2 y
        | none =>
          rw [q2] at h2
          exact k2.dis i j n a h1 h2
    · have q : pix (msk io sh) j = none := by
        cases q : pix (msk io sh) j with
        | none => rfl
        | some k => exact absurd (mem_places (pix_some q)) hj
      refine ⟨?_, ?_⟩
      · rw [putBack_get, q]
        cases env[j]? <;> rfl
      · rw [q]
    · cases q : pix (msk io sh) j with
      | some k =>
        rw [q] at ha
        exact (cm k a ha).imp_left (wf a)
      | none =>
        exact .inl ⟨j, hj, by rw [q] at ha; exact ha⟩
  refine ⟨F, os, fps, r, out, k1, hvl.trans hn, re, fun i o hi hr hq => ?_, hm, fun o v F' H' fps' fr e ex ro cm rr hd hw => ?_, fun x F' H' fps' cls d e ex ro cm er => ?_⟩
  · have hk : i < as.length := by rw [← hl]; exact lt_of_get hq
    obtain ⟨o2, e3, e4⟩ := agos_get ho (List.getElem?_eq_getElem hk)
    rw [hq] at e3
    cases e3
    cases ga : as[i] with
    | v d => rw [ga] at e4; cases e4; exact ⟨d, rfl⟩
    | p j =>
      refine absurd (hio i j ?_) (fun z => z.elim hi hr)
      rw [shk, List.getElem?_eq_getElem hk, ga]
      rfl
  · refine k o v F' H' _ fr e (fin ex ro cm) rr (fun j a ha z => ?_) (fun a ha => (hw a ha).imp_left (wf a))
    cases q : pix (msk io sh) j with
    | some l => rw [q] at z; exact hd l a ha z
    | none =>
      rw [q] at z
      rcases hw a ha with y | ⟨y⟩
      · obtain ⟨t, h1, h2⟩ := y
        have h2' : a ∈ (match sh[t]? with | some (some i) => fp i | _ => []) := h2
        split at h2'
        · rename_i i hi
          exact k2.dis i j (fun z => pix_none q t (z ▸ msk_get.mpr ⟨hi, h1⟩)) a h2' z
        · simp at h2'
      · exact (k2.fpin z).2 (by assumption)
  · exact ke x F' H' _ cls d e (fin ex ro cm) er
theorem Wf.app {T1 T2 : List Nat} {fp : Nat → List Addr} {a : Addr} (h : Wf T2 fp a) : Wf (T1 ++ T2) fp a := h.mono mem_r
/-- f(e, ..) of a def of the text -/
theorem po_call {n k : Nat} {io ro : List Nat} {m : Fn} {f : Addr} {fd : FuncData} {ps : List Str} {x : Str} {p pos : Pos} {e : Expr} {es : List Expr} {g : M (List Ag)}
    (Fo : FnOk X.prog X.w X.K X.mg X.base (L2.CX X.prog X.w) k f fd ps (spD X.K X.mg n io ro m)) (hr : Room k X.A) (hg : Gl X x) (hm : X.mg x = some (.ref f)) (hk : PySem.W.keepIn X.K (.ref f) = true) (hb : Binds X.K fd ps []) (tk : Takes X W)
    (ha : PAg X W T sh (e :: es) g) (hn : sh.length = n) (nd : (places sh).Nodup := by decide) (hio : ∀ k, k < sh.length → (sh[k]?).join.isSome → k ∈ io ∨ k ∈ ro := by decide)
    (hdb : (x == ("__debug__" : Str)) = false := by decide) (he : starEach (e :: es) X.env = (false, eval e X.env) :: starEach es X.env := by rfl) (hpl : (backTo pos (starEach es X.env)).any (·.1) = false := by rfl) :
    PO X W (T ++ places (msk io sh)) (.Call (.Name x p) (e :: es) [] pos) (oCall m (msk io sh) g) := by
  obtain ⟨t, ht, hs⟩ := ha.ex
  refine ⟨_, pe_callS (E := WE W) Fo hr hg hm hk hb (fun σ => passAt tk σ) ht hdb he hpl, fun F H env σ fp Q r env' k1 k2 k3 kk ke => ?_⟩
  refine SndAg.then hs k1 k2 k3 (fun as vs F1 H1 env1 fp1 q es1 p rep => ?_) (ke.left k2)
  cases q1 : (agos env1 as).bind m with
  | none => rw [q1] at q; cases q
  | some ro =>
    obtain ⟨r1, out⟩ := ro
    rw [q1] at q
    cases q
    simp only [Option.bind_eq_some_iff] at q1
    obtain ⟨os, ho, hm1⟩ := q1
    refine spD_call p.ext.fh p.re es1 nd (by rw [← hn, ← es1, List.length_map]) rep ho hm1 (fun k i hki => hio k (lt_of_get hki) (by rw [hki]; rfl)) (fun o v F' H' fp' fr e p2 ro hd hw => ?_) (fun x F' H' fp' cls d e p2 er => ?_)
    · exact kk o v F' H' fp' fr e (p.trans p2) ro hd fun a ha => Wf.none p (hw a ha)
    · exact ke x F' H' fp' cls d e (p.trans p2) er
end
end PL
/-! PL7: operators, comparisons, subscripts, slices by plain data. -/
namespace PL
open PySem L2
section
variable {X : Cx} {W : WX} {T T1 T2 : List Nat} {F H F' H' : Hp} {env env' : Env} {σ : St} {fp fp' : Nat → List Addr}

/-! ### ints -/
def dInt2 (C : Int → Int → Bool) (g : Int → Int → Int) : D → D → Option D
  | .int i, .int j => if C i j = true then some (.int (g i j)) else none
  | _, _ => none
def dCmp2 (g : Int → Int → Bool) : D → D → Option D
  | .int i, .int j => some (.bl (g i j))
  | _, _ => none
theorem repC_int {i : Int} {v : V} (h : RepC X.K X.mg F H (.int i) v) : v = .int i := by simpa only [RepC, Rep] using h
theorem repC_str {z : Str} {v : V} (h : RepC X.K X.mg F H (.str z) v) : v = .str z := by simpa only [RepC, Rep] using h
theorem repC_bl {b : Bool} {v : V} (h : RepC X.K X.mg F H (.bl b) v) : v = .bl b := by simpa only [RepC, Rep] using h
theorem repC_non {v : V} (h : RepC X.K X.mg F H .non v) : v = .non := by simpa only [RepC, Rep] using h
theorem rep_int {i : Int} : Rep X.K X.mg F (.int i) (.int i) := by simp only [Rep]
theorem rep_str {i : Str} : Rep X.K X.mg F (.str i) (.str i) := by simp only [Rep]
theorem rep_bl {i : Bool} : Rep X.K X.mg F (.bl i) (.bl i) := by simp only [Rep]
theorem rep_non : Rep X.K X.mg F .non .non := by simp only [Rep]
theorem opd_int {f : Value → Value → Sem Value} {C : Int → Int → Bool} {P : Int → Int → Prop} {g : Int → Int → Int} (h : OpR X f (rI P fun i j => .int (g i j))) (hC : ∀ i j, C i j = true → P i j) : OpD X f (dInt2 C g) := by
  refine ⟨_, h, fun F H x y d e z Q hs rx ry hg k => ?_⟩
  unfold dInt2 at hg
  split at hg
  · rename_i i j
    split at hg
    · rename_i hc
      cases hg
      exact ⟨i, j, repC_int rx, repC_int ry, hC i j hc, k _ F H (.refl hs) rep_int⟩
    · cases hg
  · cases hg
theorem opd_int0 {f : Value → Value → Sem Value} {g : Int → Int → Int} (h : OpR X f (rI0 fun i j => .int (g i j))) : OpD X f (dInt2 (fun _ _ => true) g) := by
  refine ⟨_, h, fun F H x y d e z Q hs rx ry hg k => ?_⟩
  unfold dInt2 at hg
  split at hg
  · rename_i i j
    simp only [if_true] at hg
    cases hg
    exact ⟨i, j, repC_int rx, repC_int ry, k _ F H (.refl hs) rep_int⟩
  · cases hg
theorem opd_cmp0 {f : Value → Value → Sem Value} {g : Int → Int → Bool} (h : OpR X f (rI0 fun i j => .bl (g i j))) : OpD X f (dCmp2 g) := by
  refine ⟨_, h, fun F H x y d e z Q hs rx ry hg k => ?_⟩
  unfold dCmp2 at hg
  split at hg
  · rename_i i j
    cases hg
    exact ⟨i, j, repC_int rx, repC_int ry, k _ F H (.refl hs) rep_bl⟩
  · cases hg
def dSub : D → D → Option D := dInt2 (fun _ _ => true) fun i j => i - j
theorem od_sub : OpD X (binaryOp .Sub) dSub := opd_int0 op_sub
def mulOk (i j : Int) : Bool := (decide (-(2 ^ 64) < i) && decide (i < 2 ^ 64)) || (decide (-(2 ^ 64) < j) && decide (j < 2 ^ 64)) || decide (i.natAbs.log2 + j.natAbs.log2 < 1000000)
def dMulI : D → D → Option D := dInt2 mulOk fun i j => i * j
theorem od_mulI : OpD X (binaryOp .Mult) dMulI := by
  refine ⟨_, OpR.or op_mul op_mulW, fun F H x y d e z Q hs rx ry hg k => ?_⟩
  unfold dMulI dInt2 at hg
  split at hg
  · rename_i i j
    split at hg
    · rename_i hc
      cases hg
      unfold mulOk at hc
      simp only [Bool.or_eq_true, Bool.and_eq_true, decide_eq_true_eq] at hc
      rcases hc with hc | hc
      · exact .inl ⟨i, j, repC_int rx, repC_int ry, hc, k _ F H (.refl hs) rep_int⟩
      · exact .inr ⟨i, j, repC_int rx, repC_int ry, hc, k _ F H (.refl hs) rep_int⟩
    · cases hg
  · cases hg
def dFloor : D → D → Option D := dInt2 (fun _ j => decide (0 < j) && decide (j.natAbs.log2 < 9000)) fun i j => i / j
theorem od_floor : OpD X (binaryOp .FloorDiv) dFloor := opd_int op_fdivW fun i j h => by
  simp only [Bool.and_eq_true, decide_eq_true_eq] at h
  exact h
def dMod : D → D → Option D := dInt2 (fun _ j => decide (0 < j)) fun i j => i % j
theorem od_mod : OpD X (binaryOp .Mod) dMod := opd_int op_mod fun i j h => by simpa using h
def dPow : D → D → Option D := dInt2 (fun i j => decide (0 ≤ j) && decide (j ≤ 1000000) && decide (i.natAbs < 2 ^ 64)) fun i j => i ^ j.toNat
theorem od_pow : OpD X (binaryOp .Pow) dPow := opd_int op_pow fun i j h => by
  simp only [Bool.and_eq_true, decide_eq_true_eq] at h
  exact ⟨h.1.1, h.1.2, h.2⟩
def dShl : D → D → Option D := dInt2 (fun i j => decide (0 ≤ j) && decide (j ≤ 1000000) && decide (i.natAbs < 2 ^ 64)) fun i j => i * 2 ^ j.toNat
theorem od_shl : OpD X (binaryOp .LShift) dShl := opd_int op_shl fun i j h => by
  simp only [Bool.and_eq_true, decide_eq_true_eq] at h
  exact ⟨h.1.1, h.1.2, h.2⟩
def dShr : D → D → Option D := dInt2 (fun i j => decide (0 ≤ j)) fun i j => i / 2 ^ j.toNat
theorem od_shr : OpD X (binaryOp .RShift) dShr := opd_int op_shr fun i j h => by simpa using h
def dBand : D → D → Option D := dInt2 (fun _ _ => true) Builtin.bitAnd
theorem od_band : OpD X (binaryOp .BitAnd) dBand := opd_int0 op_and
def dBor : D → D → Option D := dInt2 (fun _ _ => true) Builtin.bitOr
theorem od_bor : OpD X (binaryOp .BitOr) dBor := opd_int0 op_or
def dBxor : D → D → Option D := dInt2 (fun _ _ => true) Builtin.bitXor
theorem od_bxor : OpD X (binaryOp .BitXor) dBxor := opd_int0 op_xor

/-! ### + -/
def dAdd : D → D → Option D
  | .int i, .int j => some (.int (i + j))
  | .str i, .str j => if i.length + j.length ≤ sizeLine then some (.str (i ++ j)) else none
  | .tup a, .tup b => if a.length + b.length ≤ sizeLine then some (.tup (a ++ b)) else none
  | .lst a, .lst b => if a.length + b.length ≤ sizeLine then some (.lst (a ++ b)) else none
  | _, _ => none
theorem rep_tup {a : Addr} {vs : List V} {ds : List D} (h : TupR X.K F a vs) (hl : ds.length ≤ sizeLine) (r : Reps X.K X.mg F ds vs) : Rep X.K X.mg F (.tup ds) (.ref a) := by
  simp only [Rep]; exact ⟨a, vs, rfl, h, hl, r⟩
theorem rep_lst {a : Addr} {vs : List V} {ds : List D} (h : F a = some (.lst vs)) (hl : ds.length ≤ sizeLine) (r : Reps X.K X.mg F ds vs) : Rep X.K X.mg F (.lst ds) (.ref a) := by
  simp only [Rep]; exact ⟨a, vs, rfl, h, hl, r⟩
theorem od_add : OpD X (binaryOp .Add) dAdd := by
  refine ⟨_, OpR.or op_add (OpR.or op_add_str (OpR.or op_catA op_cat)), fun F H x y d e z Q hs rx ry hg k => ?_⟩
  unfold dAdd at hg
  split at hg
  · rename_i i j
    cases hg
    exact .inl ⟨i, j, repC_int rx, repC_int ry, k _ F H (.refl hs) rep_int⟩
  · rename_i i j
    split at hg
    · rename_i hl
      cases hg
      exact .inr (.inl ⟨i, j, repC_str rx, repC_str ry, hl, k _ F H (.refl hs) rep_str⟩)
    · cases hg
  · rename_i a b
    split at hg
    · rename_i hl
      cases hg
      simp only [RepC, Rep] at rx ry
      obtain ⟨p, vs, rfl, h1, h2, h3⟩ := rx
      obtain ⟨q, ws, rfl, g1, g2, g3⟩ := ry
      have l1 := h3.length
      have l2 := g3.length
      refine .inr (.inr (.inl ⟨p, q, vs, ws, rfl, rfl, sqT hs h1, sqT hs g1, by omega, fun e => ?_, fun _ e => ?_, fun _ _ c nc => ?_⟩))
      · subst e
        have : a = [] := by cases a with
          | nil => rfl
          | cons _ _ => simp at l1
        subst this
        exact k _ F H (.refl hs) (rep_tup g1 g2 g3)
      · subst e
        have : b = [] := by cases b with
          | nil => rfl
          | cons _ _ => simp at l2
        subst this
        rw [List.append_nil] at k
        exact k _ F H (.refl hs) (rep_tup h1 h2 h3)
      · have ex := Ext.alloc (o := .tup (vs ++ ws)) hs nc
        exact k _ _ _ ex (rep_tup upd_same (by rw [List.length_append]; exact hl) (Reps.mono ex.ff _ _ (h3.append g3)))
    · cases hg
  · rename_i a b
    split at hg
    · rename_i hl
      cases hg
      obtain ⟨p, vs, rfl, h1, h2, h3⟩ := rx
      obtain ⟨q, ws, rfl, g1, g2, g3⟩ := ry
      have l1 := h3.length
      have l2 := g3.length
      refine .inr (.inr (.inr ⟨p, q, vs, ws, rfl, rfl, h1, g1, by omega, fun c nc => ?_⟩))
      have ex := Ext.alloc (o := .lst (vs ++ ws)) hs nc
      exact k _ _ _ ex (rep_lst upd_same (by rw [List.length_append]; exact hl) (Reps.mono ex.ff _ _ (h3.append g3)))
    · cases hg
  · cases hg
/-- xs + ys, a new list that is the reader's own -/
def oCat (fa fb : M Rdr) : M O := M.bd fa fun ra => M.bd fb fun rb => fun env => M.lift ((ra env).bind fun x => (rb env).bind fun y => match x, y with
  | .lst a, .lst b => if a.length + b.length ≤ sizeLine then some (O.lst ((a ++ b).map .val)) else none
  | _, _ => none) env
/-- two operands looked at, and a new thing made of them -/
theorem snd_two {g : D → D → Option O} {r : R2} {ta tb : TE} {fa fb : M Rdr} {S1 S2 : List Nat}
    (h2 : ∀ (F H : Hp) (x y : V) (d e : D) (z : O) (Q : VK), Same F H → RepC X.K X.mg F H d x → RepC X.K X.mg F H e y → g d e = some z →
      (∀ v F' H' fr, Ext F H (fun _ => False) F' H' → RO X.K X.mg F' H' z v fr → (∀ a ∈ fr, H a = none) → Q v H') → r x y H Q)
    (ha : SndQ X W T1 S1 ta fa) (hb : SndQ X W T2 S2 tb fb) (hS : ∀ i ∈ S1, i ∉ T2) : SndO X W (T1 ++ T2) (tOp r ta tb) (M.bd fa fun ra => M.bd fb fun rb => fun env => M.lift ((ra env).bind fun x => (rb env).bind fun y => g x y) env) := by
  intro F H env σ fp Q z env' k1 k2 k3 k ke
  refine SndQ.then ha k1 k2 k3 (fun ra v F1 H1 env1 fp1 q p1 hrd => ?_) (ke.left k2)
  refine SndQ.then hb p1.ext.fh p1.re q (fun rb u F2 H2 env2 fp2 q4 p2 hrd2 => ?_) (ke.right p1)
  obtain ⟨a, e1, rfl, rfl⟩ := M.lift_some q4
  simp only [Option.bind_eq_some_iff] at e1
  obtain ⟨d1, e2, d2, e3, e4⟩ := e1
  have c1 := hrd T2 F2 H2 env' fp2 d1 p2 hS e2
  have c2 := hrd2 [] F2 H2 env' fp2 d2 (.refl p2.ext.fh p2.re) (fun _ _ z => by simp at z) e3
  refine h2 F2 H2 v u d1 d2 a Q p2.ext.fh c1 c2 e4 fun w F3 H3 fr ex ro hn => ?_
  have p3 := Pst.of_ext p2.re ex
  have p := (p1.trans p2).trans p3
  rw [List.append_nil] at p
  exact k a w F3 H3 fp2 fr rfl p ro (fun j b hb z => (p2.re.fpin z).2 (hn b hb)) (fun b hb => .inr (dom_none (p1.trans p2) (hn b hb)))
theorem po_cat {a b : Expr} {fa fb : M Rdr} {S1 S2 : List Nat} {pos : Pos} (ha : PQ X W T1 S1 a fa) (hb : PQ X W T2 S2 b fb) (hS : ∀ i ∈ S1, i ∉ T2 := by decide) : PO X W (T1 ++ T2) (.BinOp a .Add b pos) (oCat fa fb) := by
  obtain ⟨ta, a1, a2⟩ := ha.ex
  obtain ⟨tb, b1, b2⟩ := hb.ex
  refine ⟨_, pe_op op_cat a1 b1, snd_two (fun F H x y d e z Q hs rx ry hg k => ?_) a2 b2 hS⟩
  split at hg
  · rename_i a b
    split at hg
    · rename_i hl
      cases hg
      obtain ⟨p, vs, rfl, h1, h2, h3⟩ := rx
      obtain ⟨q, ws, rfl, g1, g2, g3⟩ := ry
      have l1 := h3.length
      have l2 := g3.length
      refine ⟨p, q, vs, ws, rfl, rfl, h1, g1, by omega, fun c nc => ?_⟩
      exact k _ _ _ [c] (Ext.allocO hs nc) (ro_new hs nc (by rw [List.length_append]; exact hl) (h3.append g3)) (fun b hb => by
        have e : b = c := by simpa using hb
        subst e; exact nc)
    · cases hg
  · cases hg

/-! ### * of tuples and lists -/
def dMul : D → D → Option D
  | .tup a, .int k => if a ≠ [] ∧ 2 ≤ k ∧ k ≤ 1000 ∧ a.length ≤ 1000 then some (.tup (List.replicate k.toNat a).flatten) else none
  | .lst a, .int k => if -(2 ^ 63) ≤ k ∧ k < 2 ^ 63 ∧ a.length * k.toNat ≤ sizeLine then some (.lst (List.replicate k.toNat a).flatten) else none
  | d, e => dMulI d e
theorem Reps.rep {vs : List V} {ds : List D} (h : Reps X.K X.mg F ds vs) : ∀ n : Nat, Reps X.K X.mg F (List.replicate n ds).flatten (List.replicate n vs).flatten
  | 0 => by simp [Reps]
  | n + 1 => by
    rw [List.replicate_succ, List.replicate_succ, List.flatten_cons, List.flatten_cons]
    exact h.append (Reps.rep h n)
theorem rep_len {α : Type} (n : Nat) (xs : List α) : (List.replicate n xs).flatten.length = n * xs.length := by
  induction n with
  | zero => simp
  | succ n ih => rw [List.replicate_succ, List.flatten_cons, List.length_append, ih, Nat.succ_mul]; omega
theorem od_mul : OpD X (binaryOp .Mult) dMul := by
  refine ⟨_, OpR.or (OpR.or op_mul op_mulW) (OpR.or op_repT op_rep), fun F H x y d e z Q hs rx ry hg k => ?_⟩
  unfold dMul at hg
  split at hg
  · rename_i a n
    split at hg
    · rename_i hl
      cases hg
      obtain ⟨c1, c2, c3, c4⟩ := hl
      simp only [RepC, Rep] at rx
      obtain ⟨p, vs, rfl, h1, h2, h3⟩ := rx
      have l1 := h3.length
      refine .inr (.inl ⟨p, n, vs, rfl, repC_int ry, sqT hs h1, fun e => ?_, c2, c3, by omega, fun c nc => ?_⟩)
      · subst e
        cases a with
        | nil => exact c1 rfl
        | cons _ _ => simp at l1
      · have ex := Ext.alloc (o := .tup (List.replicate n.toNat vs).flatten) hs nc
        refine k _ _ _ ex (rep_tup upd_same ?_ (Reps.mono ex.ff _ _ (h3.rep _)))
        rw [rep_len, show sizeLine = 16777216 from PySem.sizeLine_eq]
        have : n.toNat ≤ 1000 := by omega
        have := Nat.mul_le_mul this c4
        omega
    · cases hg
  · rename_i a n
    split at hg
    · rename_i hl
      cases hg
      obtain ⟨c2, c3, c4⟩ := hl
      obtain ⟨p, vs, rfl, h1, h2, h3⟩ := rx
      have l1 := h3.length
      refine .inr (.inr ⟨p, n, vs, rfl, repC_int ry, h1, c2, c3, by rw [l1]; exact c4, fun c nc => ?_⟩)
      have ex := Ext.alloc (o := .lst (List.replicate n.toNat vs).flatten) hs nc
      refine k _ _ _ ex (rep_lst upd_same ?_ (Reps.mono ex.ff _ _ (h3.rep _)))
      rw [rep_len, Nat.mul_comm]
      exact c4
    · cases hg
  · unfold dMulI dInt2 at hg
    split at hg
    · rename_i i j _ _
      split at hg
      · rename_i hc
        cases hg
        unfold mulOk at hc
        simp only [Bool.or_eq_true, Bool.and_eq_true, decide_eq_true_eq] at hc
        rcases hc with hc | hc
        · exact .inl (.inl ⟨i, j, repC_int rx, repC_int ry, hc, k _ F H (.refl hs) rep_int⟩)
        · exact .inl (.inr ⟨i, j, repC_int rx, repC_int ry, hc, k _ F H (.refl hs) rep_int⟩)
      · cases hg
    · cases hg

/-! ### one operand -/
def UnD (X : Cx) (f : Value → Sem Value) (g : D → Option D) : Prop :=
  ∃ r : V → Hp → VK → Prop, UnR X f r ∧ ∀ (F H : Hp) (x : V) (d z : D) (Q : VK), Same F H → RepC X.K X.mg F H d x → g d = some z →
    (∀ v F' H', Ext F H (fun _ => False) F' H' → Rep X.K X.mg F' z v → Q v H') → r x H Q
def un (g : D → Option D) (f : M Rdr) : M D := M.bd f fun rd env => M.lift ((rd env).bind g) env
theorem pv_un {op : UnaryOp} {g : D → Option D} {a : Expr} {f : M Rdr} {S : List Nat} {pos : Pos} (ho : UnD X (unaryOp op) g) (ha : PQ X W T S a f) : PV X W T (.UnaryOp op a pos) (un g f) := by
  obtain ⟨r, h1, h2⟩ := ho
  obtain ⟨ta, a1, a2⟩ := ha.ex
  refine ⟨_, pe_un h1 a1, fun F H env σ fp Q r env' k1 k2 k3 k ke => ?_⟩
  refine SndQ.then a2 k1 k2 k3 (fun rd v F1 H1 env1 fp1 q p1 hrd => ?_) ke
  obtain ⟨z, e1, rfl, rfl⟩ := M.lift_some q
  simp only [Option.bind_eq_some_iff] at e1
  obtain ⟨d, e2, e3⟩ := e1
  have c := hrd [] F1 H1 env' fp1 d (.refl p1.ext.fh p1.re) (fun _ _ z => by simp at z) e2
  refine h2 F1 H1 v d z Q p1.ext.fh c e3 fun w F3 H3 ex rep => ?_
  have p := p1.trans (Pst.of_ext p1.re ex)
  rw [List.append_nil] at p
  exact k z w F3 H3 fp1 rfl p rep
def dInt1 (g : Int → Int) : D → Option D
  | .int i => some (.int (g i))
  | _ => none
theorem und_int {f : Value → Sem Value} {g : Int → Int} (h : UnR X f (rU fun i => .int (g i))) : UnD X f (dInt1 g) := by
  refine ⟨_, h, fun F H x d z Q hs rx hg k => ?_⟩
  unfold dInt1 at hg
  split at hg
  · rename_i i
    cases hg
    exact ⟨i, repC_int rx, k _ F H (.refl hs) rep_int⟩
  · cases hg
def dNeg : D → Option D := dInt1 fun i => -i
theorem ud_neg : UnD X (unaryOp .USub) dNeg := und_int un_neg
def dInv : D → Option D := dInt1 Builtin.bitNot
theorem ud_inv : UnD X (unaryOp .Invert) dInv := und_int un_inv

/-! ### comparisons -/
def strLt (i j : Str) : Bool := decide (i.cps.toList < j.cps.toList)
def dLt : D → D → Option D
  | .int i, .int j => some (.bl (decide (i < j)))
  | .str i, .str j => some (.bl (strLt i j))
  | _, _ => none
theorem od_lt : OpD X (compareOp .Lt) dLt := by
  refine ⟨_, OpR.or op_lt op_lt_str, fun F H x y d e z Q hs rx ry hg k => ?_⟩
  unfold dLt at hg
  split at hg
  · rename_i i j; cases hg; exact .inl ⟨i, j, repC_int rx, repC_int ry, k _ F H (.refl hs) rep_bl⟩
  · rename_i i j; cases hg; exact .inr ⟨i, j, repC_str rx, repC_str ry, k _ F H (.refl hs) rep_bl⟩
  · cases hg
def dLe : D → D → Option D := dCmp2 fun i j => decide (i ≤ j)
theorem od_le : OpD X (compareOp .LtE) dLe := opd_cmp0 op_le
def dGt : D → D → Option D := dCmp2 fun i j => decide (j < i)
theorem od_gt : OpD X (compareOp .Gt) dGt := opd_cmp0 op_gt
def dGe : D → D → Option D := dCmp2 fun i j => decide (j ≤ i)
theorem od_ge : OpD X (compareOp .GtE) dGe := opd_cmp0 op_ge

/-! ### ==, != of data -/
mutual
def D.py : D → Option PyData
  | .non => some .none
  | .bl b => some (.bool b)
  | .int i => some (.int i)
  | .str x => some (.str x)
  | .tup ds => (D.pys ds).map .tuple
  | .lst ds => (D.pys ds).map .list
  | _ => none
def D.pys : List D → Option (List PyData)
  | [] => some []
  | d :: ds => (D.py d).bind fun p => (D.pys ds).map fun ps => p :: ps
end
mutual
theorem Rep.dp (hs : Same F H) : ∀ (d : D) (v : V) (p : PyData), Rep X.K X.mg F d v → D.py d = some p → Dp X.K H v p
  | .non, v, p, h, e => by simp only [D.py, Option.some.injEq] at e; simp only [Rep] at h; subst e h; exact .non
  | .bl b, v, p, h, e => by simp only [D.py, Option.some.injEq] at e; simp only [Rep] at h; subst e h; exact .bl b
  | .int i, v, p, h, e => by simp only [D.py, Option.some.injEq] at e; simp only [Rep] at h; subst e h; exact .int i
  | .str x, v, p, h, e => by simp only [D.py, Option.some.injEq] at e; simp only [Rep] at h; subst e h; exact .str x
  | .tup ds, v, p, h, e => by
    simp only [D.py, Option.map_eq_some_iff] at e
    obtain ⟨ps, e, rfl⟩ := e
    simp only [Rep] at h
    obtain ⟨a, vs, rfl, h1, h2, h3⟩ := h
    exact .tup (sqT hs h1) (Reps.dp hs ds vs ps h3 e)
  | .lst ds, v, p, h, e => by
    simp only [D.py, Option.map_eq_some_iff] at e
    obtain ⟨ps, e, rfl⟩ := e
    simp only [Rep] at h
    obtain ⟨a, vs, rfl, h1, h2, h3⟩ := h
    exact .lst (.of (hs _ _ h1)) (Reps.dp hs ds vs ps h3 e)
  | .frl _, v, p, h, e => by simp [D.py] at e
  | .gl _, v, p, h, e => by simp [D.py] at e
  | .ty _, v, p, h, e => by simp [D.py] at e
  | .dK _ _, v, p, h, e => by simp [D.py] at e
  | .dT _ _, v, p, h, e => by simp [D.py] at e
  | .ins _ _ _, v, p, h, e => by simp [D.py] at e
theorem Reps.dp (hs : Same F H) : ∀ (ds : List D) (vs : List V) (ps : List PyData), Reps X.K X.mg F ds vs → D.pys ds = some ps → DpAll X.K H vs ps
  | [], vs, ps, h, e => by simp only [D.pys, Option.some.injEq] at e; simp only [Reps] at h; subst e h; exact .nil
  | d :: ds, vs, ps, h, e => by
    simp only [D.pys, Option.bind_eq_some_iff, Option.map_eq_some_iff] at e
    obtain ⟨p, e1, ps', e2, rfl⟩ := e
    simp only [Reps] at h
    obtain ⟨v, r, rfl, h1, h2⟩ := h
    exact .cons (Rep.dp hs d v p h1 e1) (Reps.dp hs ds r ps' h2 e2)
end
theorem RepC.dp (hs : Same F H) : ∀ (d : D) (v : V) (p : PyData), RepC X.K X.mg F H d v → D.py d = some p → Dp X.K H v p
  | .lst ds, v, p, h, e => by
    simp only [D.py, Option.map_eq_some_iff] at e
    obtain ⟨ps, e, rfl⟩ := e
    obtain ⟨a, vs, rfl, h1, h2, h3⟩ := h
    exact .lst (.of h1) (Reps.dp hs ds vs ps h3 e)
  | .non, v, p, h, e => Rep.dp hs _ _ _ h e
  | .bl _, v, p, h, e => Rep.dp hs _ _ _ h e
  | .int _, v, p, h, e => Rep.dp hs _ _ _ h e
  | .str _, v, p, h, e => Rep.dp hs _ _ _ h e
  | .tup _, v, p, h, e => Rep.dp hs _ _ _ h e
  | .frl _, v, p, h, e => by simp [D.py] at e
  | .gl _, v, p, h, e => by simp [D.py] at e
  | .ty _, v, p, h, e => by simp [D.py] at e
  | .dK _ _, v, p, h, e => by simp [D.py] at e
  | .dT _ _, v, p, h, e => by simp [D.py] at e
  | .ins _ _ _, v, p, h, e => by simp [D.py] at e
def dEqB (d e : D) : Option Bool := match D.py d, D.py e with
  | some p, some q => if (PySem.SeqAt.shaped p && PySem.SeqAt.shaped q) = true then some (PyData.eqv p q) else none
  | _, _ => none
def dEq (d e : D) : Option D := (dEqB d e).map .bl
def dNe (d e : D) : Option D := (dEqB d e).map fun b => .bl (!b)
theorem od_eq (hu : X.A.units + 64 < cLine) : OpD X (compareOp .Eq) dEq := by
  refine ⟨_, op_eqD hu, fun F H x y d e z Q hs rx ry hg k => ?_⟩
  simp only [dEq, Option.map_eq_some_iff] at hg
  obtain ⟨b, hg, rfl⟩ := hg
  unfold dEqB at hg
  split at hg
  · rename_i p q hp hq
    split at hg
    · rename_i hc
      cases hg
      rw [Bool.and_eq_true] at hc
      exact ⟨p, q, rx.dp hs _ _ _ hp, ry.dp hs _ _ _ hq, hc.1, hc.2, k _ F H (.refl hs) rep_bl⟩
    · cases hg
  · cases hg
theorem od_ne (hu : X.A.units + 64 < cLine) : OpD X (compareOp .NotEq) dNe := by
  refine ⟨_, op_neD hu, fun F H x y d e z Q hs rx ry hg k => ?_⟩
  simp only [dNe, Option.map_eq_some_iff] at hg
  obtain ⟨b, hg, rfl⟩ := hg
  unfold dEqB at hg
  split at hg
  · rename_i p q hp hq
    split at hg
    · rename_i hc
      cases hg
      rw [Bool.and_eq_true] at hc
      exact ⟨p, q, rx.dp hs _ _ _ hp, ry.dp hs _ _ _ hq, hc.1, hc.2, k _ F H (.refl hs) rep_bl⟩
    · cases hg
  · cases hg

/-! ### is -/
def D.isB (b : Bool) : D → Bool
  | .bl c => c == b
  | _ => false
def D.isN : D → Bool
  | .non => true
  | _ => false
/-- is None, True, False -/
def dIsB : D → D → Option Bool
  | .ty _, _ => none
  | d, .non => some d.isN
  | d, .bl b => some (d.isB b)
  | _, _ => none
def dIs (d e : D) : Option D := (dIsB d e).map .bl
def dIsnt (d e : D) : Option D := (dIsB d e).map fun b => .bl (!b)
def rIsS (neg : Bool) : R2 := fun x y H Q => (y = .non ∨ ∃ b, y = .bl b) ∧ (∀ n, x ≠ .ty n) ∧ Q (.bl (if neg then !decide (x = y) else decide (x = y))) H
theorem plain_is {x : V} {v : Value} {u : Value} (r : RelV x v) (hu : u = Value.none ∨ ∃ b, u = Value.bool b) (hn : ∀ n, x ≠ .ty n) : plainIs v u = true := by
  rcases hu with rfl | ⟨b, rfl⟩ <;> cases x with
  | non => cases r; rfl
  | bl _ => cases r; rfl
  | int _ => obtain ⟨t, rfl⟩ := r; rfl
  | str _ => obtain ⟨t, rfl⟩ := r; rfl
  | byt _ => obtain ⟨t, rfl⟩ := r; rfl
  | flt _ => obtain ⟨t, rfl⟩ := r; rfl
  | ref _ => cases r; rfl
  | ty n => exact absurd rfl (hn n)
theorem op_isS : OpR X (compareOp .Is) (rIsS false) := by
  intro pins s σ H x y v u Q I rx ry h
  obtain ⟨hy, hn, q⟩ := h
  have hu : u = Value.none ∨ ∃ b, u = Value.bool b := by
    rcases hy with rfl | ⟨b, rfl⟩
    · exact .inl ry
    · exact .inr ⟨b, ry⟩
  by_cases e : v = u
  · subst e
    have : x = y := rx.inj ry
    refine wpAny_is_self (plain_is rx hu hn) ⟨.bl true, H, I, rfl, ?_⟩
    simpa [this] using q
  · have ne : x ≠ y := fun z => by
      subst z
      rcases hy with rfl | ⟨b, rfl⟩ <;> (cases rx; cases ry; exact e rfl)
    refine wpAny_is_other (plain_is rx hu hn) e ⟨.bl false, H, I, rfl, ?_⟩
    simpa [ne] using q
theorem op_isntS : OpR X (compareOp .IsNot) (rIsS true) := by
  intro pins s σ H x y v u Q I rx ry h
  obtain ⟨hy, hn, q⟩ := h
  have hu : u = Value.none ∨ ∃ b, u = Value.bool b := by
    rcases hy with rfl | ⟨b, rfl⟩
    · exact .inl ry
    · exact .inr ⟨b, ry⟩
  by_cases e : v = u
  · subst e
    have : x = y := rx.inj ry
    refine wpAny_isNot_self (plain_is rx hu hn) ⟨.bl false, H, I, rfl, ?_⟩
    simpa [this] using q
  · have ne : x ≠ y := fun z => by
      subst z
      rcases hy with rfl | ⟨b, rfl⟩ <;> (cases rx; cases ry; exact e rfl)
    refine wpAny_isNot_other (plain_is rx hu hn) e ⟨.bl true, H, I, rfl, ?_⟩
    simpa [ne] using q
theorem is_of {d e : D} {x y : V} {b : Bool} (rx : RepC X.K X.mg F H d x) (ry : RepC X.K X.mg F H e y) (h : dIsB d e = some b) : (y = .non ∨ ∃ b, y = .bl b) ∧ (∀ n, x ≠ .ty n) ∧ decide (x = y) = b := by
  have key : ∀ c : Bool, (∀ n, d ≠ .ty n) → (∀ n, x ≠ .ty n) ∧ decide (x = .non) = d.isN ∧ decide (x = .bl c) = d.isB c := fun c hd => by
    cases d with
    | non => have := repC_non rx; subst this; exact ⟨fun _ z => (by cases z), rfl, rfl⟩
    | bl c' =>
      have := repC_bl rx; subst this
      refine ⟨fun _ z => (by cases z), rfl, ?_⟩
      simp only [D.isB, V.bl.injEq]
      cases c <;> cases c' <;> rfl
    | int _ => have := repC_int rx; subst this; exact ⟨fun _ z => (by cases z), rfl, rfl⟩
    | str _ => have := repC_str rx; subst this; exact ⟨fun _ z => (by cases z), rfl, rfl⟩
    | gl _ => simp only [RepC, Rep] at rx; obtain ⟨_, _, rfl⟩ := rx; exact ⟨fun _ z => (by cases z), rfl, rfl⟩
    | ty m => exact absurd rfl (hd m)
    | tup _ => simp only [RepC, Rep] at rx; obtain ⟨_, _, rfl, _⟩ := rx; exact ⟨fun _ z => (by cases z), rfl, rfl⟩
    | lst _ => obtain ⟨_, _, rfl, _⟩ := rx; exact ⟨fun _ z => (by cases z), rfl, rfl⟩
    | frl _ => simp only [RepC, Rep] at rx; obtain ⟨_, _, rfl, _⟩ := rx; exact ⟨fun _ z => (by cases z), rfl, rfl⟩
    | dK _ _ => obtain ⟨_, _, rfl, _⟩ := rx; exact ⟨fun _ z => (by cases z), rfl, rfl⟩
    | dT _ _ => obtain ⟨_, _, rfl, _⟩ := rx; exact ⟨fun _ z => (by cases z), rfl, rfl⟩
    | ins _ _ _ => obtain ⟨_, _, _, _, rfl, _⟩ := rx; exact ⟨fun _ z => (by cases z), rfl, rfl⟩
  unfold dIsB at h
  split at h
  · cases h
  · rename_i hd
    cases h
    have hy := repC_non ry
    subst hy
    obtain ⟨k1, k2, _⟩ := key true fun n z => hd n z
    exact ⟨.inl rfl, k1, k2⟩
  · rename_i b' hd
    cases h
    have hy := repC_bl ry
    subst hy
    obtain ⟨k1, _, k3⟩ := key b' fun n z => hd n z
    exact ⟨.inr ⟨_, rfl⟩, k1, k3⟩
  · cases h
theorem od_is : OpD X (compareOp .Is) dIs := by
  refine ⟨_, op_isS, fun F H x y d e z Q hs rx ry hg k => ?_⟩
  simp only [dIs, Option.map_eq_some_iff] at hg
  obtain ⟨b, hg, rfl⟩ := hg
  obtain ⟨h1, h2, h3⟩ := is_of rx ry hg
  exact ⟨h1, h2, by rw [if_neg Bool.false_ne_true, h3]; exact k _ F H (.refl hs) rep_bl⟩
theorem od_isnt : OpD X (compareOp .IsNot) dIsnt := by
  refine ⟨_, op_isntS, fun F H x y d e z Q hs rx ry hg k => ?_⟩
  simp only [dIsnt, Option.map_eq_some_iff] at hg
  obtain ⟨b, hg, rfl⟩ := hg
  obtain ⟨h1, h2, h3⟩ := is_of rx ry hg
  exact ⟨h1, h2, by rw [if_pos rfl, h3]; exact k _ F H (.refl hs) rep_bl⟩
end
end PL
/-! PL8: subscripts, slices, attributes; places within what a def's place holds. -/
namespace PL
open PySem L2
section
variable {X : Cx} {W : WX} {T T1 T2 T3 : List Nat} {F H F' H' : Hp} {env env' : Env} {σ : St} {fp fp' : Nat → List Addr}

/-! ### subscripts of what is looked at -/
def dIx : D → D → Option D
  | .lst ds, .int i => atI ds i
  | .tup ds, .int i => atI ds i
  | .str z, .int i => if z.length ≤ sizeLine then (atI z.cps.toList i).map fun c => .str ⟨#[c]⟩ else none
  | _, _ => none
theorem Reps.atI {ds : List D} {vs : List V} {i : Int} {d : D} (h : Reps X.K X.mg F ds vs) (e : L2.atI ds i = some d) : ∃ v, L2.atI vs i = some v ∧ Rep X.K X.mg F d v := by
  unfold L2.atI at e ⊢
  rw [h.length]
  cases q : ixN ds.length i with
  | none => rw [q] at e; cases e
  | some j =>
    rw [q] at e
    exact h.get (i := j) e
def OpIx (X : Cx) (g : D → D → Option D) : Prop :=
  ∃ r : R2, IxR X r ∧ ∀ (F H : Hp) (x y : V) (d e z : D) (Q : VK), Same F H → RepC X.K X.mg F H d x → RepC X.K X.mg F H e y → g d e = some z →
    (∀ v F' H', Ext F H (fun _ => False) F' H' → Rep X.K X.mg F' z v → Q v H') → r x y H Q
theorem ox_seq : OpIx X dIx := by
  refine ⟨_, IxR.or ix_list (IxR.or ix_tup ix_str), fun F H x y d e z Q hs rx ry hg k => ?_⟩
  unfold dIx at hg
  split at hg
  · rename_i ds i
    obtain ⟨a, vs, rfl, h1, h2, h3⟩ := rx
    obtain ⟨v, e1, e2⟩ := h3.atI hg
    exact .inl ⟨a, vs, i, v, rfl, repC_int ry, .of h1, e1, k v F H (.refl hs) e2⟩
  · rename_i ds i
    simp only [RepC, Rep] at rx
    obtain ⟨a, vs, rfl, h1, h2, h3⟩ := rx
    obtain ⟨v, e1, e2⟩ := h3.atI hg
    exact .inr (.inl ⟨a, vs, i, v, rfl, repC_int ry, sqT hs h1, e1, k v F H (.refl hs) e2⟩)
  · rename_i s i
    split at hg
    · rename_i hl
      simp only [Option.map_eq_some_iff] at hg
      obtain ⟨c, e1, rfl⟩ := hg
      exact .inr (.inr ⟨s, i, c, repC_str rx, repC_int ry, hl, e1, k _ F H (.refl hs) rep_str⟩)
    · cases hg
  · cases hg
theorem pv_ix {g : D → D → Option D} {a b : Expr} {fa fb : M Rdr} {S1 S2 : List Nat} {pos : Pos} (ho : OpIx X g) (ha : PQ X W T1 S1 a fa) (hb : PQ X W T2 S2 b fb) (hp : PlainIx b := by exact fun _ _ => rfl) (hS : ∀ i ∈ S1, i ∉ T2 := by decide) :
    PV X W (T1 ++ T2) (.Subscript a b pos) (bin g fa fb) := by
  obtain ⟨r, h1, h2⟩ := ho
  obtain ⟨ta, a1, a2⟩ := ha.ex
  obtain ⟨tb, b1, b2⟩ := hb.ex
  exact ⟨_, pe_ix h1 a1 b1 hp, snd_op h2 a2 b2 hS⟩

/-! ### slices -/
def SndP (X : Cx) (W : WX) (T : List Nat) (t : TO) (f : M (Option Int)) : Prop :=
  ∀ (F H : Hp) (env : Env) (σ : St) (fp : Nat → List Addr) (Q : Option Int → Hp → Prop) (r : Except Ex (Option Int)) (env' : Env), Same F H → RE X.K X.mg F H env σ fp → f env = some (r, env') →
    (∀ o F' H' fp', r = .ok o → Pst X.K X.mg T F H env fp F' H' env' σ fp' → Q o H') →
    ErrK X W T F H env σ fp (Option Int) r env' → t σ H Q
/-- a part of a slice -/
structure PSl (X : Cx) (W : WX) (T : List Nat) (e : Option Expr) (f : M (Option Int)) : Prop where
  ex : ∃ t, L2.PO X e t ∧ SndP X W T t f
theorem SndP.then {β : Type} {t : TO} {f : M (Option Int)} (hs : SndP X W T1 t f) {g : Option Int → M β} {r : Except Ex β} {R : Option Int → Hp → Prop} (k1 : Same F H) (k2 : RE X.K X.mg F H env σ fp) (k3 : M.bd f g env = some (r, env'))
    (k : ∀ o F1 H1 env1 fp1, g o env1 = some (r, env') → Pst X.K X.mg T1 F H env fp F1 H1 env1 σ fp1 → R o H1)
    (ke : ErrK X W T1 F H env σ fp β r env') : t σ H R := by
  rcases M.bd_cases k3 with ⟨a, env1, q1, q2⟩ | ⟨x, q, rfl⟩
  · exact hs F H env σ fp _ _ env1 k1 k2 q1 (fun d F1 H1 fp1 e p => by cases e; exact k a F1 H1 env1 fp1 q2 p) (fun x _ _ _ _ _ e => by cases e)
  · exact hs F H env σ fp _ _ env' k1 k2 q (fun d F1 H1 fp1 e => by cases e) (fun x' F' H' fp' cls d e p ex => by cases e; exact ke x F' H' fp' cls d rfl p ex)
def sN : M (Option Int) := M.ret none
def sP (f : M D) : M (Option Int) := M.bd f fun d => M.lift (match d with
  | .int i => some (some i)
  | _ => none)
theorem psl_none : PSl X W [] none sN := ⟨_, po_none, fun F H env σ fp Q r env' k1 k2 k3 k ke => by
  obtain ⟨rfl, rfl⟩ := M.ret_some k3
  exact k none F H fp rfl (.refl k1 k2)⟩
theorem psl_some {e : Expr} {f : M D} (h : PV X W T e f) : PSl X W T (some e) (sP f) := by
  obtain ⟨t, ht, hs⟩ := h.ex
  refine ⟨_, po_some ht, fun F H env σ fp Q r env' k1 k2 k3 k ke => ?_⟩
  refine SndV.then hs k1 k2 k3 (fun d v F1 H1 env1 fp1 q p rep => ?_) ke
  obtain ⟨o, e, rfl, rfl⟩ := M.lift_some q
  split at e
  · rename_i i
    cases e
    simp only [Rep] at rep
    exact ⟨i, rep, k _ F1 H1 fp1 rfl p⟩
  · cases e
def cutL {α : Type} (xs : List α) (lo hi : Option Int) : List α := (xs.drop (HT.sIx xs.length 0 lo)).take (HT.sIx xs.length xs.length hi - HT.sIx xs.length 0 lo)
theorem cutL_le {α : Type} (xs : List α) (lo hi : Option Int) : (cutL xs lo hi).length ≤ xs.length := by
  unfold cutL; rw [List.length_take, List.length_drop]; omega
theorem Reps.cut {ds : List D} {vs : List V} {lo hi : Option Int} (h : Reps X.K X.mg F ds vs) : Reps X.K X.mg F (cutL ds lo hi) (cutV vs lo hi) := by
  unfold cutL cutV
  rw [h.length]
  exact (h.drop _).take _
def dCut : D → Option Int → Option Int → Option D
  | .tup ds, lo, hi => some (.tup (cutL ds lo hi))
  | .str z, lo, hi => if z.length ≤ sizeLine then some (.str (cutS z lo hi)) else none
  | _, _, _ => none
/-- a slice of a tuple, a text -/
def vCut (f : M Rdr) (l h : M (Option Int)) : M D := M.bd f fun rd => M.bd l fun lo => M.bd h fun hi env => M.lift ((rd env).bind fun d => dCut d lo hi) env
theorem slr_of {r : V → Option Int → Option Int → Hp → VK → Prop} (hr : SlR X r) {e : Expr} {lo hi : Option Expr} {f : M Rdr} {l h : M (Option Int)} {S : List Nat} {p2 pos : Pos} {g : D → Option Int → Option Int → Option O}
    (h2 : ∀ (F H : Hp) (x : V) (d : D) (lo hi : Option Int) (z : O) (Q : VK), Same F H → RepC X.K X.mg F H d x → g d lo hi = some z →
      (∀ v F' H' fr, Ext F H (fun _ => False) F' H' → RO X.K X.mg F' H' z v fr → (∀ a ∈ fr, H a = none) → Q v H') → r x lo hi H Q)
    (he : PQ X W T1 S e f) (hl : PSl X W T2 lo l) (hh : PSl X W T3 hi h) (hS : ∀ i ∈ S, i ∉ T2 ++ T3) :
    PO X W (T1 ++ (T2 ++ T3)) (.Subscript e (.Slice lo hi none p2) pos) (M.bd f fun rd => M.bd l fun lo => M.bd h fun hi env => M.lift ((rd env).bind fun d => g d lo hi) env) := by
  obtain ⟨te, e1, e2⟩ := he.ex
  obtain ⟨tl, l1, l2⟩ := hl.ex
  obtain ⟨th, h1, hh2⟩ := hh.ex
  refine ⟨_, pe_slice hr e1 l1 h1, fun F H env σ fp Q r env' k1 k2 k3 k ke => ?_⟩
  refine SndQ.then e2 k1 k2 k3 (fun rd v F1 H1 env1 fp1 q p1 hrd => ?_) (ke.left k2)
  refine SndP.then l2 p1.ext.fh p1.re q (fun lo F2 H2 env2 fp2 q p2 => ?_) ((ke.right p1).left p1.re)
  refine SndP.then hh2 p2.ext.fh p2.re q (fun hi F3 H3 env3 fp3 q p3 => ?_) ((ke.right p1).right p2)
  obtain ⟨z, e3, rfl, rfl⟩ := M.lift_some q
  simp only [Option.bind_eq_some_iff] at e3
  obtain ⟨d, e4, e5⟩ := e3
  have p23 := p2.trans p3
  have c := hrd (T2 ++ T3) F3 H3 env' fp3 d p23 hS e4
  refine h2 F3 H3 v d lo hi z Q p3.ext.fh c e5 fun w F4 H4 fr ex ro hn => ?_
  have p := (p1.trans p23).trans (Pst.of_ext p3.re ex)
  rw [List.append_nil] at p
  exact k z w F4 H4 fp3 fr rfl p ro (fun j b hb z => (p3.re.fpin z).2 (hn b hb)) (fun b hb => .inr (dom_none (p1.trans p23) (hn b hb)))
theorem pv_cut {e : Expr} {lo hi : Option Expr} {f : M Rdr} {l h : M (Option Int)} {S : List Nat} {p2 pos : Pos} (he : PQ X W T1 S e f) (hl : PSl X W T2 lo l) (hh : PSl X W T3 hi h) (hS : ∀ i ∈ S, i ∉ T2 ++ T3 := by decide) :
    PV X W (T1 ++ (T2 ++ T3)) (.Subscript e (.Slice lo hi none p2) pos) (vCut f l h) := by
  have q := pv_of (slr_of (g := fun d lo hi => (dCut d lo hi).map .val) (SlR.or sl_tupA sl_str) (fun F H x d lo hi z Q hs rx hg k => ?_) he hl hh hS (p2 := p2) (pos := pos))
  · refine (show vm _ = vCut f l h from ?_) ▸ q
    funext env
    unfold vm vCut M.map M.bd
    cases f env with
    | none => rfl
    | some x =>
      obtain ⟨x, e1⟩ := x
      cases x with
      | error _ => rfl
      | ok rd =>
        dsimp only
        cases l e1 with
        | none => rfl
        | some y =>
          obtain ⟨y, e2⟩ := y
          cases y with
          | error _ => rfl
          | ok lo =>
            dsimp only
            cases h e2 with
            | none => rfl
            | some z =>
              obtain ⟨z, e3⟩ := z
              cases z with
              | error _ => rfl
              | ok hi =>
                dsimp only
                cases rd e3 with
                | none => rfl
                | some d =>
                  simp only [Option.bind_some]
                  cases dCut d lo hi <;> rfl
  · simp only [Option.map_eq_some_iff] at hg
    obtain ⟨y, hg, rfl⟩ := hg
    unfold dCut at hg
    split at hg
    · rename_i ds
      cases hg
      simp only [RepC, Rep] at rx
      obtain ⟨a, vs, rfl, h1, h2, h3⟩ := rx
      have hl := h3.length
      refine .inl ⟨a, vs, rfl, sqT hs h1, fun e => ?_, fun _ c nc => ?_⟩
      · refine k _ F H [] (.refl hs) (.val ?_) (fun _ z => by simp at z)
        have : cutL ds lo hi = ds := by
          unfold cutL
          rw [← hl, e.1, e.2, List.drop_zero, Nat.sub_zero, hl]
          exact List.take_length
        rw [this]
        exact rep_tup h1 h2 h3
      · have ex := Ext.alloc (o := .tup (cutV vs lo hi)) hs nc
        exact k _ _ _ [] ex (.val (rep_tup upd_same (Nat.le_trans (cutL_le _ _ _) h2) (Reps.mono ex.ff _ _ h3.cut))) (fun _ z => by simp at z)
    · rename_i z
      split at hg
      · rename_i hl
        cases hg
        exact .inr ⟨z, repC_str rx, hl, k _ F H [] (.refl hs) (.val rep_str) (fun _ z => by simp at z)⟩
      · cases hg
    · cases hg
/-- a slice of a list, a new list of the reader's own -/
def oCut (f : M Rdr) (l h : M (Option Int)) : M O := M.bd f fun rd => M.bd l fun lo => M.bd h fun hi env => M.lift ((rd env).bind fun d => match d with
  | .lst ds => some (O.lst ((cutL ds lo hi).map .val))
  | .frl ds => some (O.lst ((cutL ds lo hi).map .val))
  | _ => none) env
theorem po_cut {e : Expr} {lo hi : Option Expr} {f : M Rdr} {l h : M (Option Int)} {S : List Nat} {p2 pos : Pos} (he : PQ X W T1 S e f) (hl : PSl X W T2 lo l) (hh : PSl X W T3 hi h) (hS : ∀ i ∈ S, i ∉ T2 ++ T3 := by decide) :
    PO X W (T1 ++ (T2 ++ T3)) (.Subscript e (.Slice lo hi none p2) pos) (oCut f l h) := by
  refine slr_of (g := fun d lo hi => match d with
  | .lst ds => some (O.lst ((cutL ds lo hi).map .val))
  | .frl ds => some (O.lst ((cutL ds lo hi).map .val))
  | _ => none) sl_list (fun F H x d lo hi z Q hs rx hg k => ?_) he hl hh hS
  split at hg
  · rename_i ds
    cases hg
    obtain ⟨a, vs, rfl, h1, h2, h3⟩ := rx
    refine ⟨a, vs, rfl, .of h1, fun c nc => k _ _ _ [c] (Ext.allocO hs nc) (ro_new hs nc (Nat.le_trans (cutL_le _ _ _) h2) h3.cut) (fun b hb => ?_)⟩
    have e : b = c := by simpa using hb
    subst e; exact nc
  · rename_i ds
    cases hg
    simp only [RepC, Rep] at rx
    obtain ⟨a, vs, rfl, h1, h2, h3⟩ := rx
    refine ⟨a, vs, rfl, sameL hs h1, fun c nc => k _ _ _ [c] (Ext.allocO hs nc) (ro_new hs nc (Nat.le_trans (cutL_le _ _ _) h2) h3.cut) (fun b hb => ?_)⟩
    have e : b = c := by simpa using hb
    subst e; exact nc
  · cases hg

/-! ### [::-1] -/
theorem adjust_rev (n : Nat) : Builtin.Slice.sliceAdjust none none (-1) (n : Int) = ((n : Int) - 1, -1) := by
  unfold Builtin.Slice.sliceAdjust
  simp
theorem places_rev (n : Nat) : Builtin.Slice.slicePlaces ((n : Int) - 1) (-1) (-1) = n := by
  unfold Builtin.Slice.slicePlaces
  have h1 : ¬ ((-1 : Int) > 0) := by decide
  by_cases h : n = 0
  · subst h; decide
  · have h2 : (n : Int) - 1 > -1 := by omega
    have e : ((n : Int) - 1 - -1 - 1) / (- -1) = (n : Int) - 1 := by
      rw [show (- -1 : Int) = 1 by decide, Int.ediv_one]
      omega
    simp only [h1, if_false]
    split
    · rw [e]; omega
    · omega
theorem filterMap_cong {α β : Type} {f g : α → Option β} : ∀ {l : List α}, (∀ a ∈ l, f a = g a) → l.filterMap f = l.filterMap g
  | [], _ => rfl
  | a :: l, h => by
    rw [List.filterMap_cons, List.filterMap_cons, h a (by simp), filterMap_cong fun b hb => h b (List.mem_cons_of_mem _ hb)]
theorem pick_rev (xs : Array Value) : ((List.range xs.size).filterMap fun (m : Nat) => xs[(((xs.size : Int) - 1) + (m : Int) * (-1)).toNat]?).toArray = xs.toList.reverse.toArray := by
  have e : ((List.range xs.size).filterMap fun (m : Nat) => xs[(((xs.size : Int) - 1) + (m : Int) * (-1)).toNat]?) = (((List.range xs.size).map fun m => xs.size - 1 - m).filterMap fun k => xs[k]?) := by
    rw [List.filterMap_map]
    refine filterMap_cong fun m hm => ?_
    have hm := List.mem_range.mp hm
    have : (((xs.size : Int) - 1) + (m : Int) * (-1)).toNat = xs.size - 1 - m := by omega
    simp only [this, Function.comp]
  rw [e, PySem.W.krv_range, List.filterMap_reverse, PySem.W.krv_all]
theorem sliceApplied_rev {prog : Program} {w : World} {A : Around} {E : Value → Shared → Prop} {s : Shared} {sl : Addr} {u : Tok} {n : Nat} {Q : Int × Int × Nat → Shared → Prop} (hs : s.heap.IsSliceOf sl .none .none (.int (-1) u))
    (h : Q ((n : Int) - 1, -1, n) s) : wpAny (model prog w) A (Builtin.Slice.sliceApplied (.ref sl) (pure (n : Int))) Q E s := by
  obtain ⟨os, hos, hcs, hds⟩ := id hs
  unfold Builtin.Slice.sliceApplied Builtin.Slice.sliceFields
  refine wpAny_bind (wpAny_bind (wpAny_field hos hds (x := .none) rfl (wpAny_bind (wpAny_field hos hds (x := .none) rfl (wpAny_bind (wpAny_field hos hds (x := .int (-1) u) rfl (wpAny_pure ?_)))))))
  refine wpAny_bind (PyProof.Rows.slicePart_int ?_)
  show wpAny _ _ (if ((-1 : Int) == 0) = true then _ else _) _ _ s
  rw [if_neg (by decide)]
  refine wpAny_bind (PyProof.Rows.slicePart_none (wpAny_bind (PyProof.Rows.slicePart_none (wpAny_bind (wpAny_pure ?_)))))
  show wpAny _ _ (match Builtin.Slice.sliceAdjust none none (-1) (n : Int) with | (lo, hi) => pure (lo, (-1 : Int), Builtin.Slice.slicePlaces lo hi (-1))) _ _ s
  rw [adjust_rev n]
  show wpAny _ _ (pure ((n : Int) - 1, (-1 : Int), Builtin.Slice.slicePlaces ((n : Int) - 1) (-1) (-1))) _ _ s
  rw [places_rev]
  exact wpAny_pure h
theorem getItem_tuple_rev {prog : Program} {w : World} {A : Around} {E : Value → Shared → Prop} {s : Shared} {t sl : Addr} {items : Array Value} {u : Tok} {Q : Value → Shared → Prop} (ht : PyProof.Rows.IsTup s.heap t items) (hs : s.heap.IsSliceOf sl .none .none (.int (-1) u))
    (h : Q (.ref s.heap.objs.size) { s with heap := s.heap.push { cls := .type "tuple", data := .seq items.toList.reverse.toArray } })
    (hsz : items.size ≤ sizeLine) : wpAny (model prog w) A (getItem (.ref t) (.ref sl)) Q E s := by
  have htake : sizeOk (.seq items.toList.reverse.toArray) := by
    show items.toList.reverse.toArray.size ≤ sizeLine
    rw [List.size_toArray, List.length_reverse, Array.length_toList]
    exact hsz
  obtain ⟨os, hos, hcs, hds⟩ := id hs
  have hTs : s.TypeIs (.ref sl) "slice" := ⟨os, hos, hcs⟩
  unfold getItem
  try with_reducible refine wpAny_holding ?_
  first | refine wpAny_bind (wpAny_pure ?_) | skip
  refine wpAny_bind (wpAny_sequenceKey ht.typeIs (by decide) ?_)
  refine wpAny_bind (wpAny_callSpecial?_slot (name := Str.ofString "__getitem__") ht.typeIs PyProof.Rows.slot_tuple_getitem
    (wpAny_call_entry PyProof.Rows.slot_tuple_getitem ht.typeIs PyProof.Rows.entry_tuple_getitem ?_ (PyProof.Rows.args_tuple_getitem _ _)))
  show wpAny _ _ (Builtin.Tuple.tupleItemsOf (.ref t) >>= _) _ _ s
  refine wpAny_bind (PyProof.Rows.tupleItemsOf_ ht ?_)
  refine wpAny_bind (wpAny_typeOf hTs ?_)
  rw [if_pos (by decide)]
  refine wpAny_bind (sliceApplied_rev hs ?_)
  have hno : ¬ (((((items.size : Int) - 1) == 0 && (-1 : Int) == 1 && items.size == items.size) = true)) := by
    intro q
    rw [Bool.and_eq_true, Bool.and_eq_true] at q
    exact absurd q.1.2 (by decide)
  show wpAny _ _ (if (((items.size : Int) - 1) == 0 && (-1 : Int) == 1 && items.size == items.size) = true then _ else _) _ _ s
  rw [if_neg hno, pick_rev]
  first
    | exact wpAny_bind (m := Builtin.Tuple.tupleExact _) (wpAny_newObj_type (wpAny_pure ⟨_, rfl, wpAny_pure h⟩) htake)
    | exact wpAny_bind (m := Builtin.Tuple.tupleExact _) (wpAny_newObj_type (wpAny_bind (wpAny_pure (wpAny_pure ⟨_, rfl, wpAny_pure h⟩))) htake)
    | exact wpAny_bind (wpAny_bind (m := Builtin.Tuple.tupleExact _) (wpAny_newObj_type (wpAny_pure (wpAny_pure ⟨_, rfl, wpAny_pure h⟩)) htake))
    | exact wpAny_bind (wpAny_bind (m := Builtin.Tuple.tupleExact _) (wpAny_newObj_type (wpAny_pure ⟨_, rfl, wpAny_pure h⟩) htake))
/-- xs[::-1] of a list, a tuple -/
def tRevA (K : PySem.W.Frag) (te : TE) : TE := fun σ H Q => te σ H fun x H1 => ∃ a xs, x = .ref a ∧ ((SqL K H1 a xs ∧ ∀ p, H1 p = none → Q (.ref p) (upd H1 p (.lst xs.reverse))) ∨ (SqT K H1 a xs ∧ ∀ p, H1 p = none → Q (.ref p) (upd H1 p (.tup xs.reverse))))
theorem pe_revA {e : Expr} {te : TE} {k : Nat} {p1 p2 p3 pos : Pos} (he : PE X e te) : PE X (.Subscript e (.Slice none none (some (.UnaryOp .USub (.Constant (.int 1) k p1) p2)) p3) pos) (tRevA X.K te) := by
  refine ⟨fun pins s σ H Q I h => ?_⟩
  refine PyProof.Rows.Subscript_ (thn (he.run pins s σ H _ I h) fun v s1 ⟨x, H1, I1, r1, q1⟩ => ?_)
  obtain ⟨a, xs, ex, hx⟩ := q1
  subst ex
  cases r1
  have hst : L2.PO X (some (.UnaryOp .USub (.Constant (.int 1) k p1) p2)) (tPart (tUn (rU fun i => .int (-i)) (tC (.int 1)))) := po_some (pe_un un_neg pe_int)
  refine wpAny_Slice (thn (po_none.run pins s1 σ H1 (fun o H2 => o = none ∧ H2 = H1) I1 ⟨rfl, rfl⟩) fun vl s2 ⟨l, H2, I2, pl, el, e2⟩ => ?_)
  subst el e2
  refine thn (po_none.run pins s2 σ H2 (fun o H3 => o = none ∧ H3 = H2) I2 ⟨rfl, rfl⟩) fun vu s3 ⟨u, H3, I3, pu, eu, e3⟩ => ?_
  subst eu e3
  refine thn (hst.run pins s3 σ H3 (fun o H4 => o = some (-1) ∧ H4 = H3) I3 ⟨1, rfl, -1, rfl, rfl, rfl⟩) fun vs s4 ⟨o, H4, I4, ps, eo, e4⟩ => ?_
  subst eo e4
  have I5 : Inv X pins σ H4 { s4 with heap := s4.heap.push { cls := .type "slice", data := .fields #[vl, vu, vs] } } := I4.kept (t' := s4.toks) fun b ob q => Heap.get?_push_of_some _ q
  show wpAny (model X.prog X.w) X.A (PyProof.Rows.subscriptTail e (.Slice none none (some (.UnaryOp .USub (.Constant (.int 1) k p1) p2)) p3) (.ref a) (.ref s4.heap.objs.size)) (EP X pins σ Q) X.xe { s4 with heap := s4.heap.push { cls := .type "slice", data := .fields #[vl, vu, vs] } }
  rcases hx with ⟨hx, q⟩ | ⟨hx, q⟩
  · obtain ⟨its, r, ht, hz⟩ := I5.list hx
    have hlen := r.length
    refine PyProof.Rows.tail_any (ops := [.ref a, .ref s4.heap.objs.size]) ht.isList.typeIs (PySem.slot_list_getitem.lookup) ?_ (by with_unfolding_all rfl)
    refine wpAny_getItem_list_slice ht.isList (Heap.IsSliceOf.new _ vl vu vs) pl pu ps (by decide) ?_ (by rw [List.size_toArray]; omega)
    rw [PySem.W.krv_pick]
    refine ⟨.ref _, _, I5.laid (t' := s4.toks) (o := .lst xs.reverse) (fun b ob q => Heap.get?_push_of_some _ q) (Nat.le_refl _) ?_, rfl, q _ (I5.hok.fresh (Nat.le_refl _))⟩
    exact ⟨by rw [List.length_reverse]; exact hz, _, 0, r.reverse, Heap.get?_push_size _ rfl⟩
  · obtain ⟨its, r, ht, hz⟩ := I5.tuple hx
    have hlen := r.length
    cases pl
    cases pu
    cases ps with
    | int i tk =>
      refine PyProof.Rows.tail_any (ops := [.ref a, .ref s4.heap.objs.size]) ht.typeIs PyProof.Rows.slot_tuple_getitem.lookup ?_ (by with_unfolding_all rfl)
      refine getItem_tuple_rev ht (Heap.IsSliceOf.new _ _ _ _) ?_ (by rw [List.size_toArray]; omega)
      refine ⟨.ref _, _, I5.laid (t' := s4.toks) (o := .tup xs.reverse) (fun b ob q => Heap.get?_push_of_some _ q) (Nat.le_refl _) ?_, rfl, q _ (I5.hok.fresh (Nat.le_refl _))⟩
      exact ⟨by rw [List.length_reverse]; exact hz, _, r.reverse, ⟨_, Heap.get?_push_size _ rfl, rfl, _, rfl⟩⟩
def oRev (f : M Rdr) : M O := M.bd f fun rd env => M.lift ((rd env).bind fun d => match d with
  | .lst ds => some (O.lst (ds.reverse.map .val))
  | .tup ds => some (O.val (.tup ds.reverse))
  | _ => none) env
theorem po_rev {e : Expr} {f : M Rdr} {S : List Nat} {k : Nat} {p1 p2 p3 pos : Pos} (he : PQ X W T S e f) : PO X W T (.Subscript e (.Slice none none (some (.UnaryOp .USub (.Constant (.int 1) k p1) p2)) p3) pos) (oRev f) := by
  obtain ⟨te, e1, e2⟩ := he.ex
  refine ⟨_, pe_revA e1, fun F H env σ fp Q r env' k1 k2 k3 k ke => ?_⟩
  refine SndQ.then e2 k1 k2 k3 (fun rd v F1 H1 env1 fp1 q p1 hrd => ?_) ke
  obtain ⟨z, e3, rfl, rfl⟩ := M.lift_some q
  simp only [Option.bind_eq_some_iff] at e3
  obtain ⟨d, e4, e5⟩ := e3
  have c := hrd [] F1 H1 env' fp1 d (.refl p1.ext.fh p1.re) (fun _ _ z => by simp at z) e4
  split at e5
  · rename_i ds
    cases e5
    obtain ⟨a, vs, rfl, h1, h2, h3⟩ := c
    refine ⟨a, vs, rfl, .inl ⟨.of h1, fun c nc => ?_⟩⟩
    have p := p1.trans (Pst.of_ext p1.re (Ext.allocO (o := .lst vs.reverse) p1.ext.fh nc))
    rw [List.append_nil] at p
    refine k _ _ _ _ fp1 [c] rfl p (ro_new p1.ext.fh nc (by rw [List.length_reverse]; exact h2) h3.reverse) (fun j b hb z => ?_) (fun b hb => .inr ?_)
    · have e : b = c := by simpa using hb
      subst e; exact (p1.re.fpin z).2 nc
    · have e : b = c := by simpa using hb
      subst e; exact dom_none p1 nc
  · rename_i ds
    cases e5
    simp only [RepC, Rep] at c
    obtain ⟨a, vs, rfl, h1, h2, h3⟩ := c
    refine ⟨a, vs, rfl, .inr ⟨sqT p1.ext.fh h1, fun c nc => ?_⟩⟩
    have ex := Ext.alloc (o := .tup vs.reverse) p1.ext.fh nc
    have p := p1.trans (Pst.of_ext p1.re ex)
    rw [List.append_nil] at p
    exact k _ _ _ _ fp1 [] rfl p (.val (rep_tup upd_same (by rw [List.length_reverse]; exact h2) (Reps.mono ex.ff _ _ h3.reverse))) (fun _ _ z => by simp at z) (fun _ z => by simp at z)
  · cases e5
end
end PL
/-! PL9: places within what a def's place holds; lists changed there; built-in calls. -/
namespace PL
open PySem L2
/-- a step into what is held -/
inductive Sel where
  | ix (n : Nat) | fd (f : Str) | ke (k : Key)
abbrev Pth := List Sel
def fix : List Str → Str → Option Nat
  | [], _ => none
  | n :: ns, f => if f == n then some 0 else (fix ns f).map (· + 1)
def kix {κ : Type} [DecidableEq κ] : List κ → κ → Option Nat
  | [], _ => none
  | j :: ks, k => if j = k then some 0 else (kix ks k).map (· + 1)
def O.at : O → Pth → Option O
  | o, [] => some o
  | .lst os, .ix n :: p => (os[n]?).bind fun o => O.at o p
  | .ins _ nms os, .fd f :: p => (fix nms f).bind fun k => (os[k]?).bind fun o => O.at o p
  | .dK ks os, .ke k :: p => (kix ks k).bind fun j => (os[j]?).bind fun o => O.at o p
  | _, _ => none
termination_by structural _ p => p
def O.put : O → Pth → O → Option O
  | _, [], o' => some o'
  | .lst os, .ix n :: p, o' => (os[n]?).bind fun o => (O.put o p o').map fun o2 => .lst (os.set n o2)
  | .ins c nms os, .fd f :: p, o' => (fix nms f).bind fun k => (os[k]?).bind fun o => (O.put o p o').map fun o2 => .ins c nms (os.set k o2)
  | .dK ks os, .ke k :: p, o' => (kix ks k).bind fun j => (os[j]?).bind fun o => (O.put o p o').map fun o2 => .dK ks (os.set j o2)
  | _, _, _ => none
termination_by structural _ p _ => p
def PathV (K : PySem.W.Frag) (H : Hp) : Pth → V → V → Prop
  | [], v, w => v = w
  | .ix n :: p, v, w => ∃ a vs u, v = .ref a ∧ H a = some (.lst vs) ∧ vs[n]? = some u ∧ PathV K H p u w
  | .fd f :: p, v, w => ∃ a C dx fs u, v = .ref a ∧ H a = some (.ins C dx fs) ∧ Cls K C ∧ NoAttr K C f ∧ fs.lookup f = some u ∧ PathV K H p u w
  | .ke k :: p, v, w => ∃ a kvs u, v = .ref a ∧ H a = some (.dK kvs) ∧ valV kvs k = some u ∧ PathV K H p u w
theorem kix_val {κ : Type} [DecidableEq κ] {k : κ} : ∀ {ks : List κ} {vs : List V} {j : Nat} {u : V}, kix ks k = some j → vs[j]? = some u → valV (ks.zip vs) k = some u
  | [], vs, j, u, h, g => by cases h
  | i :: ks, [], j, u, h, g => by simp at g
  | i :: ks, v :: vs, j, u, h, g => by
    unfold kix at h
    unfold valV
    rw [List.zip_cons_cons, List.find?_cons]
    by_cases z : i = k
    · rw [if_pos z] at h
      cases h
      cases g
      simp [z]
    · rw [if_neg z, Option.map_eq_some_iff] at h
      obtain ⟨j', h, rfl⟩ := h
      have := kix_val (vs := vs) h (by simpa using g)
      unfold valV at this
      simp only [z, decide_false]
      exact this
theorem fix_mem : ∀ {nms : List Str} {f : Str} {k : Nat}, fix nms f = some k → f ∈ nms
  | [], f, k, h => by cases h
  | n :: ns, f, k, h => by
    unfold fix at h
    cases q : f == n with
    | true => have := eq_of_beq q; subst this; simp
    | false =>
      rw [q] at h
      simp only [Bool.false_eq_true, if_false, Option.map_eq_some_iff] at h
      obtain ⟨j, h1, _⟩ := h
      exact List.mem_cons_of_mem _ (fix_mem h1)
theorem fix_lookup {α : Type} : ∀ {nms : List Str} {vs : List α} {f : Str} {k : Nat}, nms.length = vs.length → fix nms f = some k → (nms.zip vs).lookup f = vs[k]?
  | [], vs, f, k, hl, h => by cases h
  | n :: ns, [], f, k, hl, h => by simp at hl
  | n :: ns, v :: vs, f, k, hl, h => by
    unfold fix at h
    rw [List.zip_cons_cons, List.lookup_cons]
    cases q : f == n with
    | true => rw [q] at h; simp at h; subst h; rfl
    | false =>
      rw [q] at h
      simp only [Bool.false_eq_true, if_false, Option.map_eq_some_iff] at h
      obtain ⟨j, h1, rfl⟩ := h
      rw [fix_lookup (by simpa using hl) h1]
      rfl
section
variable {K : PySem.W.Frag} {G : Str → Option Value} {F F' H H' : Hp}
theorem ROs.length : ∀ {os : List O} {vs : List V} {fp : List Addr}, ROs K G F H os vs fp → vs.length = os.length
  | [], vs, fp, q => by simp only [ROs] at q; rw [q.1]; rfl
  | o :: os, vs, fp, q => by
    simp only [ROs] at q
    obtain ⟨v, r, f1, f2, rfl, q1, q2, q3, q4⟩ := q
    simp [ROs.length q2]
/-- one of several, and what is there when it alone has been changed -/
theorem ROs.nth : ∀ {os : List O} {vs : List V} {fs : List Addr} {n : Nat} {o : O}, ROs K G F H os vs fs → os[n]? = some o →
    ∃ u fn, vs[n]? = some u ∧ RO K G F H o u fn ∧ (∀ a ∈ fn, a ∈ fs) ∧
      ∀ (F' H' : Hp) (o' : O) (u' : V) (fn' : List Addr), Same F F' → (∀ a ∈ fs, a ∉ fn → H' a = H a ∧ F' a = none) → RO K G F' H' o' u' fn' → (∀ a ∈ fn', a ∈ fs → a ∈ fn) →
        ∃ fs', ROs K G F' H' (os.set n o') (vs.set n u') fs' ∧ (∀ a ∈ fs', (a ∈ fs ∧ a ∉ fn) ∨ a ∈ fn')
  | [], vs, fs, n, o, q, e => by simp at e
  | b :: os, vs, fs, n, o, q, e => by
    simp only [ROs] at q
    obtain ⟨v, r, f1, f2, rfl, q1, q2, q3, q4⟩ := q
    subst q4
    cases n with
    | zero =>
      simp at e
      subst e
      refine ⟨v, f1, rfl, q1, fun a h => List.mem_append_left _ h, fun F' H' o' u' fn' s k ro sub => ⟨fn' ++ f2, ?_, fun a h => ?_⟩⟩
      · rw [List.set_cons_zero, List.set_cons_zero, ROs]
        refine ⟨u', r, fn', f2, rfl, ro, ROs.frame s (fun a h => k a (List.mem_append_right _ h) fun z => q3 a z h) q2, fun a h1 h2 => ?_, rfl⟩
        exact q3 a (sub a h1 (List.mem_append_right _ h2)) h2
      · rcases List.mem_append.mp h with z | z
        · exact .inr z
        · exact .inl ⟨List.mem_append_right _ z, fun y => q3 a y z⟩
    | succ n =>
      obtain ⟨u, fn, h1, h2, h3, h4⟩ := ROs.nth (n := n) q2 (by simpa using e)
      refine ⟨u, fn, by simpa using h1, h2, fun a h => List.mem_append_right _ (h3 a h), fun F' H' o' u' fn' s k ro sub => ?_⟩
      obtain ⟨fs', g1, g2⟩ := h4 F' H' o' u' fn' s (fun a h hn => k a (List.mem_append_right _ h) hn) ro (fun a h y => sub a h (List.mem_append_right _ y))
      have q1' := RO.frame s (fun a h => k a (List.mem_append_left _ h) fun z => q3 a h (h3 a z)) q1
      refine ⟨f1 ++ fs', ?_, fun a h => ?_⟩
      · rw [List.set_cons_succ, List.set_cons_succ, ROs]
        refine ⟨v, r.set n u', f1, fs', rfl, q1', g1, fun a y1 y2 => ?_, rfl⟩
        rcases g2 a y2 with z | z
        · exact q3 a y1 z.1
        · exact q3 a y1 (h3 a (sub a z (List.mem_append_left _ y1)))
      · rcases List.mem_append.mp h with z | z
        · exact .inl ⟨List.mem_append_left _ z, fun y => q3 a z (h3 a y)⟩
        · rcases g2 a z with y | y
          · exact .inl ⟨List.mem_append_right _ y.1, y.2⟩
          · exact .inr y
theorem set_same {α : Type} {l : List α} {n : Nat} {x : α} (h : l[n]? = some x) : l.set n x = l := by
  have hn := lt_of_get h
  rw [List.getElem?_eq_getElem hn] at h
  cases h
  exact List.set_getElem_self hn
/-- down a path, and back with what is changed there -/
theorem RO.lens : ∀ (p : Pth) {o o1 : O} {v : V} {fp : List Addr}, RO K G F H o v fp → o.at p = some o1 →
    ∃ v1 f1, PathV K H p v v1 ∧ RO K G F H o1 v1 f1 ∧ (∀ a ∈ f1, a ∈ fp) ∧
      ∀ (F' H' : Hp) (o1' : O) (f1' : List Addr), Same F F' → (∀ a ∈ fp, a ∉ f1 → H' a = H a ∧ F' a = none) → RO K G F' H' o1' v1 f1' → (∀ a ∈ f1', a ∈ fp → a ∈ f1) →
        ∃ o' fp', o.put p o1' = some o' ∧ RO K G F' H' o' v fp' ∧ (∀ a ∈ fp', (a ∈ fp ∧ a ∉ f1) ∨ a ∈ f1')
  | [], o, o1, v, fp, q, e => by
    have e : o = o1 := by unfold O.at at e; exact Option.some.inj e
    subst e
    exact ⟨v, fp, rfl, q, fun _ h => h, fun F' H' o1' f1' s k ro sub => ⟨o1', f1', by unfold O.put; rfl, ro, fun a h => .inr h⟩⟩
  | .ix n :: p, o, o1, v, fp, q, e => by
    cases o with
    | lst os =>
      unfold O.at at e
      simp only [Option.bind_eq_some_iff] at e
      obtain ⟨on, e1, e2⟩ := e
      simp only [RO] at q
      obtain ⟨a, vs, fs, rfl, h1, h2, h3, h4, h5, h6⟩ := q
      subst h6
      obtain ⟨u, fn, g1, g2, g3, g4⟩ := h4.nth e1
      obtain ⟨v1, f1, k1, k2, k3, k4⟩ := RO.lens p g2 e2
      refine ⟨v1, f1, ⟨a, vs, u, rfl, h1, g1, k1⟩, k2, fun b hb => List.mem_cons_of_mem _ (g3 b (k3 b hb)), fun F' H' o1' f1' s k ro sub => ?_⟩
      have ha : H' a = H a ∧ F' a = none := k a (by simp) fun z => h5 (g3 a (k3 a z))
      obtain ⟨o2, f2, m1, m2, m3⟩ := k4 F' H' o1' f1' s (fun b hb hn => k b (List.mem_cons_of_mem _ (g3 b hb)) hn) ro (fun b hb y => sub b hb (List.mem_cons_of_mem _ (g3 b y)))
      obtain ⟨fs', n1, n2⟩ := g4 F' H' o2 u f2 s (fun b hb hn => k b (List.mem_cons_of_mem _ hb) fun z => hn (k3 b z)) m2 (fun b hb y => by
        rcases m3 b hb with z | z
        · exact z.1
        · exact k3 b (sub b z (List.mem_cons_of_mem _ y)))
      rw [set_same g1] at n1
      have hafs : a ∉ fs' := fun z => by
        rcases n2 a z with y | y
        · exact h5 y.1
        · rcases m3 a y with y | y
          · exact h5 (g3 a y.1)
          · exact h5 (g3 a (k3 a (sub a y (by simp))))
      refine ⟨.lst (os.set n o2), a :: fs', by unfold O.put; rw [e1, Option.bind_some, m1]; rfl, ?_, fun b hb => ?_⟩
      · rw [RO]
        exact ⟨a, vs, fs', rfl, by rw [ha.1]; exact h1, ha.2, by rw [List.length_set]; exact h3, n1, hafs, rfl⟩
      · rcases List.mem_cons.mp hb with z | z
        · subst z
          exact .inl ⟨by simp, fun y => h5 (g3 b (k3 b y))⟩
        · rcases n2 b z with y | y
          · exact .inl ⟨List.mem_cons_of_mem _ y.1, fun w => y.2 (k3 b w)⟩
          · rcases m3 b y with y | y
            · exact .inl ⟨List.mem_cons_of_mem _ (g3 b y.1), y.2⟩
            · exact .inr y
    | _ => simp [O.at] at e
  | .ke k :: p, o, o1, v, fp, q, e => by
    cases o with
    | dK ks os =>
      unfold O.at at e
      simp only [Option.bind_eq_some_iff] at e
      obtain ⟨n, e0, on, e1, e2⟩ := e
      simp only [RO] at q
      obtain ⟨a, vs, fs, rfl, h1, h2, h2', h3, h4, h5, h6⟩ := q
      subst h6
      obtain ⟨u, fn, g1, g2, g3, g4⟩ := h4.nth e1
      obtain ⟨v1, f1, k1, k2, k3, k4⟩ := RO.lens p g2 e2
      refine ⟨v1, f1, ⟨a, _, u, rfl, h1, kix_val e0 g1, k1⟩, k2, fun b hb => List.mem_cons_of_mem _ (g3 b (k3 b hb)), fun F' H' o1' f1' s kk ro sub => ?_⟩
      have ha : H' a = H a ∧ F' a = none := kk a (by simp) fun z => h5 (g3 a (k3 a z))
      obtain ⟨o2, f2, m1, m2, m3⟩ := k4 F' H' o1' f1' s (fun b hb hn => kk b (List.mem_cons_of_mem _ (g3 b hb)) hn) ro (fun b hb y => sub b hb (List.mem_cons_of_mem _ (g3 b y)))
      obtain ⟨fs', n1, n2⟩ := g4 F' H' o2 u f2 s (fun b hb hn => kk b (List.mem_cons_of_mem _ hb) fun z => hn (k3 b z)) m2 (fun b hb y => by
        rcases m3 b hb with z | z
        · exact z.1
        · exact k3 b (sub b z (List.mem_cons_of_mem _ y)))
      rw [set_same g1] at n1
      have hafs : a ∉ fs' := fun z => by
        rcases n2 a z with y | y
        · exact h5 y.1
        · rcases m3 a y with y | y
          · exact h5 (g3 a y.1)
          · exact h5 (g3 a (k3 a (sub a y (by simp))))
      refine ⟨.dK ks (os.set n o2), a :: fs', by unfold O.put; rw [e0, Option.bind_some, e1, Option.bind_some, m1]; rfl, ?_, fun b hb => ?_⟩
      · rw [RO]
        exact ⟨a, vs, fs', rfl, by rw [ha.1]; exact h1, ha.2, by rw [List.length_set]; exact h2', by rw [List.length_set]; exact h3, n1, hafs, rfl⟩
      · rcases List.mem_cons.mp hb with z | z
        · subst z
          exact .inl ⟨by simp, fun y => h5 (g3 b (k3 b y))⟩
        · rcases n2 b z with y | y
          · exact .inl ⟨List.mem_cons_of_mem _ y.1, fun w => y.2 (k3 b w)⟩
          · rcases m3 b y with y | y
            · exact .inl ⟨List.mem_cons_of_mem _ (g3 b y.1), y.2⟩
            · exact .inr y
    | _ => simp [O.at] at e
  | .fd f :: p, o, o1, v, fp, q, e => by
    cases o with
    | ins c nms os =>
      unfold O.at at e
      simp only [Option.bind_eq_some_iff] at e
      obtain ⟨n, e0, on, e1, e2⟩ := e
      simp only [RO] at q
      obtain ⟨a, dx, C, vs, fs, rfl, gc, h1, h1', h2, h2', h3, hc, h4, h5, h5', h5'', h6⟩ := q
      subst h6
      obtain ⟨u, fn, g1, g2, g3, g4⟩ := h4.nth e1
      obtain ⟨v1, f1, k1, k2, k3, k4⟩ := RO.lens p g2 e2
      have hl := h4.length
      refine ⟨v1, f1, ⟨a, C, dx, _, u, rfl, h1, hc.cl, hc.na f (fix_mem e0), by rw [fix_lookup (h3.trans hl.symm) e0]; exact g1, k1⟩, k2, fun b hb => List.mem_cons_of_mem _ (List.mem_cons_of_mem _ (g3 b (k3 b hb))), fun F' H' o1' f1' s k ro sub => ?_⟩
      have ha : H' a = H a ∧ F' a = none := k a (by simp) fun z => h5 (g3 a (k3 a z))
      have hd : H' dx = H dx ∧ F' dx = none := k dx (by simp) fun z => h5' (g3 dx (k3 dx z))
      obtain ⟨o2, f2, m1, m2, m3⟩ := k4 F' H' o1' f1' s (fun b hb hn => k b (List.mem_cons_of_mem _ (List.mem_cons_of_mem _ (g3 b hb))) hn) ro (fun b hb y => sub b hb (List.mem_cons_of_mem _ (List.mem_cons_of_mem _ (g3 b y))))
      obtain ⟨fs', n1, n2⟩ := g4 F' H' o2 u f2 s (fun b hb hn => k b (List.mem_cons_of_mem _ (List.mem_cons_of_mem _ hb)) fun z => hn (k3 b z)) m2 (fun b hb y => by
        rcases m3 b hb with z | z
        · exact z.1
        · exact k3 b (sub b z (List.mem_cons_of_mem _ (List.mem_cons_of_mem _ y))))
      rw [set_same g1] at n1
      have out : ∀ b, b ∉ fs → b ∈ a :: dx :: fs → b ∉ fs' := fun b hb hm z => by
        rcases n2 b z with y | y
        · exact hb y.1
        · rcases m3 b y with y | y
          · exact hb (g3 b y.1)
          · exact hb (g3 b (k3 b (sub b y hm)))
      refine ⟨.ins c nms (os.set n o2), a :: dx :: fs', by unfold O.put; rw [e0, Option.bind_some, e1, Option.bind_some, m1]; rfl, ?_, fun b hb => ?_⟩
      · rw [RO]
        exact ⟨a, dx, C, vs, fs', rfl, gc, by rw [ha.1]; exact h1, by rw [hd.1]; exact h1', ha.2, hd.2, by rw [List.length_set]; exact h3, hc, n1, out a h5 (by simp), out dx h5' (by simp), h5'', rfl⟩
      · rcases List.mem_cons.mp hb with z | z
        · subst z
          exact .inl ⟨by simp, fun y => h5 (g3 b (k3 b y))⟩
        · rcases List.mem_cons.mp z with z | z
          · subst z
            exact .inl ⟨by simp, fun y => h5' (g3 b (k3 b y))⟩
          · rcases n2 b z with y | y
            · exact .inl ⟨List.mem_cons_of_mem _ (List.mem_cons_of_mem _ y.1), fun w => y.2 (k3 b w)⟩
            · rcases m3 b y with y | y
              · exact .inl ⟨List.mem_cons_of_mem _ (List.mem_cons_of_mem _ (g3 b y.1)), y.2⟩
              · exact .inr y
    | _ => simp [O.at] at e
end

section
variable {X : Cx} {W : WX} {T T1 T2 T3 : List Nat} {F H F' H' : Hp} {env env' : Env} {σ : St} {fp fp' : Nat → List Addr}
theorem PathV.inj : ∀ {p : Pth} {v w w' : V}, PathV X.K H p v w → PathV X.K H p v w' → w = w'
  | [], v, w, w', h, h' => (show v = w from h).symm.trans (show v = w' from h')
  | .ix n :: p, v, w, w', h, h' => by
    obtain ⟨a, vs, u, rfl, h1, h2, h3⟩ := h
    obtain ⟨a', vs', u', e, h1', h2', h3'⟩ := h'
    cases e
    rw [h1] at h1'
    cases h1'
    rw [h2] at h2'
    cases h2'
    exact PathV.inj h3 h3'
  | .ke k :: p, v, w, w', h, h' => by
    obtain ⟨a, vs, u, rfl, h1, h2, h3⟩ := h
    obtain ⟨a', vs', u', e, h1', h2', h3'⟩ := h'
    cases e
    rw [h1] at h1'
    cases h1'
    rw [h2] at h2'
    cases h2'
    exact PathV.inj h3 h3'
  | .fd f :: p, v, w, w', h, h' => by
    obtain ⟨a, C, dx, fs, u, rfl, h1, _, _, h2, h3⟩ := h
    obtain ⟨a', C', dx', fs', u', e, h1', _, _, h2', h3'⟩ := h'
    cases e
    rw [h1] at h1'
    cases h1'
    rw [h2] at h2'
    cases h2'
    exact PathV.inj h3 h3'
theorem RO.path : ∀ (p : Pth) {o o1 : O} {v w : V} {fp : List Addr}, RO X.K X.mg F H o v fp → o.at p = some o1 → (∀ a ∈ fp, H' a = H a) → PathV X.K H p v w → PathV X.K H' p v w
  | [], o, o1, v, w, fp, q, e, k, h => h
  | .ix n :: p, o, o1, v, w, fp, q, e, k, h => by
    cases o with
    | lst os =>
      unfold O.at at e
      simp only [Option.bind_eq_some_iff] at e
      obtain ⟨on, e1, e2⟩ := e
      simp only [RO] at q
      obtain ⟨a, vs, fs, rfl, h1, h2, h3, h4, h5, rfl⟩ := q
      obtain ⟨u, fn, g1, g2, g3, _⟩ := h4.nth e1
      obtain ⟨a', vs', u', e3, k1, k2, k3⟩ := h
      cases e3
      rw [h1] at k1
      cases k1
      rw [g1] at k2
      cases k2
      exact ⟨a, vs, u, rfl, by rw [k a (by simp)]; exact h1, g1, RO.path p g2 e2 (fun b hb => k b (List.mem_cons_of_mem _ (g3 b hb))) k3⟩
    | _ => simp [O.at] at e
  | .ke kk :: p, o, o1, v, w, fp, q, e, k, h => by
    cases o with
    | dK ks os =>
      unfold O.at at e
      simp only [Option.bind_eq_some_iff] at e
      obtain ⟨n, e0, on, e1, e2⟩ := e
      simp only [RO] at q
      obtain ⟨a, vs, fs, rfl, h1, h2, h2', h3, h4, h5, rfl⟩ := q
      obtain ⟨u, fn, g1, g2, g3, _⟩ := h4.nth e1
      obtain ⟨a', vs', u', e3, k1, k2, k3⟩ := h
      cases e3
      rw [h1] at k1
      cases k1
      rw [kix_val e0 g1] at k2
      cases k2
      exact ⟨a, _, u, rfl, by rw [k a (by simp)]; exact h1, kix_val e0 g1, RO.path p g2 e2 (fun b hb => k b (List.mem_cons_of_mem _ (g3 b hb))) k3⟩
    | _ => simp [O.at] at e
  | .fd f :: p, o, o1, v, w, fp, q, e, k, h => by
    cases o with
    | ins c nms os =>
      unfold O.at at e
      simp only [Option.bind_eq_some_iff] at e
      obtain ⟨n, e0, on, e1, e2⟩ := e
      simp only [RO] at q
      obtain ⟨a, dx, C, vs, fs, rfl, gc, h1, h1', h2, h2', h3, hc, h4, h5, h5', h5'', rfl⟩ := q
      obtain ⟨u, fn, g1, g2, g3, _⟩ := h4.nth e1
      have hl := h4.length
      obtain ⟨a', C', dx', fs', u', e3, k1, c1, c2, k2, k3⟩ := h
      cases e3
      rw [h1] at k1
      cases k1
      rw [fix_lookup (h3.trans hl.symm) e0, g1] at k2
      cases k2
      exact ⟨a, C, dx, _, u, rfl, by rw [k a (by simp)]; exact h1, c1, c2, by rw [fix_lookup (h3.trans hl.symm) e0]; exact g1, RO.path p g2 e2 (fun b hb => k b (List.mem_cons_of_mem _ (List.mem_cons_of_mem _ (g3 b hb)))) k3⟩
    | _ => simp [O.at] at e
/-- a way stays while the place is not touched -/
theorem Pst.path {F1 H1 : Hp} {env1 : Env} {fp1 : Nat → List Addr} (p1 : Pst X.K X.mg T F H env fp F1 H1 env1 σ fp1) (k2 : RE X.K X.mg F H env σ fp) {i : Nat} (hT : i ∉ T) {p : Pth} {o o1 : O} {v w : V} (hi : env[i]? = some (some o)) (hv : σ[i]? = some (some v))
    (hp : o.at p = some o1) (h : PathV X.K H p v w) : PathV X.K H1 p v w := by
  obtain ⟨v', e1, e2⟩ := k2.slot i o hi
  rw [hv] at e1
  cases e1
  exact e2.path p hp (fun a ha => p1.pinned k2 hT ha) h
/-- a place of the def, and a way into it -/
structure PPl (X : Cx) (i : Nat) (p : Pth) (e : Expr) : Prop where
  ex : ∃ t, PE X e t ∧ ∀ (σ : St) (H : Hp) (v w : V) (Q : VK), σ[i]? = some (some v) → PathV X.K H p v w → Q w H → t σ H Q
theorem pl_var {e : Expr} (i : Nat) (h : PE X e (tVar i)) : PPl X i [] e := ⟨_, h, fun σ H v w Q h1 h2 h3 => by
  have : v = w := h2
  subst this
  exact ⟨v, h1, h3⟩⟩
theorem PathV.app {K : PySem.W.Frag} {H : Hp} : ∀ {p q : Pth} {v w : V}, PathV K H (p ++ q) v w → ∃ u, PathV K H p v u ∧ PathV K H q u w
  | [], q, v, w, h => ⟨v, rfl, h⟩
  | .ix n :: p, q, v, w, h => by
    obtain ⟨a, vs, u, e, h1, h2, h3⟩ := h
    obtain ⟨u', g1, g2⟩ := PathV.app h3
    exact ⟨u', ⟨a, vs, u, e, h1, h2, g1⟩, g2⟩
  | .ke k :: p, q, v, w, h => by
    obtain ⟨a, vs, u, e, h1, h2, h3⟩ := h
    obtain ⟨u', g1, g2⟩ := PathV.app h3
    exact ⟨u', ⟨a, vs, u, e, h1, h2, g1⟩, g2⟩
  | .fd f :: p, q, v, w, h => by
    obtain ⟨a, C, dx, fs, u, e, h1, h1', h1'', h2, h3⟩ := h
    obtain ⟨u', g1, g2⟩ := PathV.app h3
    exact ⟨u', ⟨a, C, dx, fs, u, e, h1, h1', h1'', h2, g1⟩, g2⟩
/-- o[n], n written -/
theorem pl_ix {i : Nat} {p : Pth} {e : Expr} {n : Nat} {j : Nat} {pos pos' : Pos} (h : PPl X i p e) : PPl X i (p ++ [.ix n]) (.Subscript e (.Constant (.int (n : Int)) j pos') pos) := by
  obtain ⟨t, ht, hs⟩ := h.ex
  refine ⟨_, pe_ix ix_list ht pe_int (fun _ _ => rfl), fun σ H v w Q h1 h2 h3 => ?_⟩
  obtain ⟨u, g1, g2⟩ := h2.app
  obtain ⟨a, vs, u', rfl, k1, k2, k3⟩ := g2
  have : u' = w := k3
  subst this
  exact hs σ H v _ _ h1 g1 ⟨a, vs, n, u', rfl, rfl, .of k1, atI_nat k2, h3⟩
/-- o.f -/
theorem pl_fd {i : Nat} {p : Pth} {e : Expr} {f : Str} {pos : Pos} (h : PPl X i p e) (hb : attributeBase e f X.env (eval e X.env) = eval e X.env := by rfl) : PPl X i (p ++ [.fd f]) (.Attribute e f pos) := by
  obtain ⟨t, ht, hs⟩ := h.ex
  refine ⟨_, pe_fld ht hb, fun σ H v w Q h1 h2 h3 => ?_⟩
  obtain ⟨u, g1, g2⟩ := h2.app
  obtain ⟨a, C, dx, fs, u', rfl, k1, k1', k1'', k2, k3⟩ := g2
  have : u' = w := k3
  subst this
  exact hs σ H v _ _ h1 g1 ⟨a, C, dx, fs, u', rfl, k1, k1', k1'', k2, h3⟩
def Env.at (env : Env) (i : Nat) (p : Pth) : Option O := match env[i]? with
  | some (some o) => o.at p
  | _ => none
theorem Env.at_some {i : Nat} {p : Pth} {o1 : O} (h : Env.at env i p = some o1) : ∃ o, env[i]? = some (some o) ∧ o.at p = some o1 := by
  unfold Env.at at h
  split at h
  · rename_i o q; exact ⟨o, q, h⟩
  · cases h
/-- what is held there, for good -/
def vPl (i : Nat) (p : Pth) : M D := fun env => match Env.at env i p with
  | some (.val d) => some (.ok d, env)
  | _ => none
theorem pv_pl {i : Nat} {p : Pth} {e : Expr} (h : PPl X i p e) : PV X W [] e (vPl i p) := by
  obtain ⟨t, ht, hs⟩ := h.ex
  refine ⟨t, ht, fun F H env σ fp Q r env' k1 k2 k3 k ke => ?_⟩
  unfold vPl at k3
  split at k3
  · rename_i d q
    cases k3
    obtain ⟨o, q1, q2⟩ := Env.at_some q
    obtain ⟨v, e1, e2⟩ := k2.slot i o q1
    obtain ⟨v1, f1, g1, g2, g3, g4⟩ := e2.lens p q2
    exact hs σ H v v1 Q e1 g1 (k d v1 F H fp rfl (.refl k1 k2) g2.val_inv.2)
  · cases k3
/-- looked at there -/
def rPl (i : Nat) (p : Pth) : Rdr := fun env => (Env.at env i p).bind O.peek
def qPl (i : Nat) (p : Pth) : M Rdr := fun env => match Env.at env i p with
  | some _ => some (.ok (rPl i p), env)
  | none => none
theorem pq_pl {i : Nat} {p : Pth} {e : Expr} (h : PPl X i p e) : PQ X W [] [i] e (qPl i p) := by
  obtain ⟨t, ht, hs⟩ := h.ex
  refine ⟨t, ht, fun F H env σ fp Q r env' k1 k2 k3 k ke => ?_⟩
  unfold qPl at k3
  split at k3
  · rename_i o1 q
    cases k3
    obtain ⟨o, q1, q2⟩ := Env.at_some q
    obtain ⟨v, e1, e2⟩ := k2.slot i o q1
    obtain ⟨v1, f1, g1, g2, g3, g4⟩ := e2.lens p q2
    refine hs σ H v v1 Q e1 g1 (k _ v1 F H fp rfl (.refl k1 k2) fun T2 F2 H2 env2 fp2 d p2 hS hr => ?_)
    have hi : i ∉ T2 := hS i (by simp)
    unfold rPl at hr
    have e3 : Env.at env2 i p = some o1 := by
      unfold Env.at; rw [(p2.same i hi).1, q1]; exact q2
    rw [e3, Option.bind_some] at hr
    have fr : ∀ a ∈ f1, H2 a = H a ∧ F2 a = none := fun a ha => by
      have hm := g3 a ha
      refine ⟨p2.pinned k2 hi hm, ?_⟩
      have hm' : a ∈ fp2 i := by rw [(p2.same i hi).2]; exact hm
      exact (p2.re.fpin hm').1
    exact RO.peek p2.ext.fh (g2.frame p2.ext.ff fr) hr
  · cases k3

/-! ### lists changed in a place -/
theorem mut_lst {i : Nat} {p : Pth} {o : O} {os : List O} (k1 : Same F H) (k2 : RE X.K X.mg F H env σ fp) (hi : env[i]? = some (some o)) (hp : o.at p = some (.lst os)) :
    ∃ v l vs fs, σ[i]? = some (some v) ∧ PathV X.K H p v (.ref l) ∧ H l = some (.lst vs) ∧ os.length ≤ sizeLine ∧ ROs X.K X.mg F H os vs fs ∧ l ∉ fs ∧ l ∈ fp i ∧ (∀ a ∈ fs, a ∈ fp i) ∧
      ∀ (vs' : List V) (os' : List O) (fs' fr : List Addr), ROs X.K X.mg F (upd H l (.lst vs')) os' vs' fs' → os'.length ≤ sizeLine → l ∉ fs' → (∀ a ∈ fs', a ∈ fs ∨ a ∈ fr) → (∀ j a, a ∈ fr → a ∉ fp j) →
        ∃ o' fp', o.put p (.lst os') = some o' ∧ Ext F H (fun a => a ∈ fp i) F (upd H l (.lst vs')) ∧ RE X.K X.mg F (upd H l (.lst vs')) (env.set i (some o')) σ fp' ∧ (∀ j, j ≠ i → fp' j = fp j) ∧ (∀ a ∈ fp' i, a ∈ fp i ∨ a ∈ fr) ∧ (∀ a ∈ fp' i, a ∉ fs ∨ a ∈ fs') := by
  obtain ⟨v, e1, e2⟩ := k2.slot i o hi
  obtain ⟨v1, f1, g1, g2, g3, g4⟩ := e2.lens p hp
  simp only [RO] at g2
  obtain ⟨l, vs, fs, rfl, h1, h2, h3, h4, h5, rfl⟩ := g2
  refine ⟨v, l, vs, fs, e1, g1, h1, h3, h4, h5, g3 l (by simp), fun a ha => g3 a (List.mem_cons_of_mem _ ha), fun vs' os' fs' fr ro hl hn sub hd => ?_⟩
  have ex : Ext F H (fun a => a ∈ fp i) F (upd H l (.lst vs')) := by
    refine ⟨Same.refl, fun a u e => ?_, fun a u e hna => ?_, fun a e => .inl e, fun a e => ?_⟩
    · rw [upd_ne (fun z => by subst z; rw [h2] at e; cases e)]
      exact k1 a u e
    · rw [upd_ne (fun z => hna (by rw [z]; exact g3 l (by simp)))]
      exact e
    · by_cases z : a = l
      · subst z; rw [upd_same]; simp
      · rw [upd_ne z]; exact e
  have ro1 : RO X.K X.mg F (upd H l (.lst vs')) (.lst os') (.ref l) (l :: fs') := by
    rw [RO]; exact ⟨l, vs', fs', rfl, upd_same, h2, hl, ro, hn, rfl⟩
  obtain ⟨o', fpn, m1, m2, m3⟩ := g4 F (upd H l (.lst vs')) (.lst os') (l :: fs') Same.refl (fun a ha hna => ⟨upd_ne (fun z => hna (by rw [z]; simp)), (e2.fp a ha).1⟩) ro1 (fun a ha hm => by
    rcases List.mem_cons.mp ha with z | z
    · subst z; simp
    · rcases sub a z with y | y
      · exact List.mem_cons_of_mem _ y
      · exact absurd hm (hd i a y))
  have inn : ∀ a ∈ fpn, a ∈ fp i ∨ a ∈ fr := fun a ha => by
    rcases m3 a ha with z | z
    · exact .inl z.1
    · rcases List.mem_cons.mp z with y | y
      · subst y; exact .inl (g3 a (by simp))
      · exact (sub a y).imp_left fun w => g3 a (List.mem_cons_of_mem _ w)
  have k2' : RE X.K X.mg F (upd H l (.lst vs')) (env.set i none) σ (fun j => if j = i then [] else fp j) := by
    have d := k2.drop i
    refine ⟨d.len, fun j o2 hj => ?_, d.emp, d.dis⟩
    obtain ⟨w, y1, y2⟩ := d.slot j o2 hj
    refine ⟨w, y1, y2.frame Same.refl fun a ha => ⟨?_, (y2.fp a ha).1⟩⟩
    have z : j ≠ i := fun z => by rw [if_pos z] at ha; simp at ha
    rw [if_neg z] at ha
    exact upd_ne (fun y => k2.dis i j (Ne.symm z) l (g3 l (by simp)) (y ▸ ha))
  have re := k2'.put (i := i) (o := o') (v := v) (fr := fpn) (σ' := σ) rfl (by rw [List.length_set]; exact lt_of_get hi) e1 (fun _ _ => rfl) m2 (fun j hj a ha => by
    rw [if_neg hj]
    rcases inn a ha with z | z
    · exact k2.dis i j (Ne.symm hj) a z
    · exact hd j a z)
  rw [List.set_set] at re
  refine ⟨o', _, m1, ex, re, fun j hj => ?_, fun a ha => ?_, fun a ha => ?_⟩
  · rw [if_neg hj, if_neg hj]
  · rw [if_pos rfl] at ha
    exact inn a ha
  · rw [if_pos rfl] at ha
    rcases m3 a ha with z | z
    · exact .inl fun y => z.2 (List.mem_cons_of_mem _ y)
    · rcases List.mem_cons.mp z with y | y
      · subst y; exact .inl h5
      · exact .inr y
def atL {α : Type} (i : Nat) (p : Pth) (h : List O → Option (α × List O)) : M α := fun env => match env[i]? with
  | some (some o) => match o.at p with
    | some (.lst os) => match h os with
      | some (a, os') => match o.put p (.lst os') with
        | some o' => some (.ok a, env.set i (some o'))
        | none => none
      | none => none
    | _ => none
  | _ => none
theorem atL_some {α : Type} {i : Nat} {p : Pth} {h : List O → Option (α × List O)} {r : Except Ex α} (q : atL i p h env = some (r, env')) :
    ∃ o os a os' o', env[i]? = some (some o) ∧ o.at p = some (.lst os) ∧ h os = some (a, os') ∧ o.put p (.lst os') = some o' ∧ r = .ok a ∧ env' = env.set i (some o') := by
  unfold atL at q
  split at q
  · rename_i o q1
    split at q
    · rename_i os q2
      split at q
      · rename_i a os' q3
        split at q
        · rename_i o' q4
          cases q
          exact ⟨o, os, a, os', o', q1, q2, q3, q4, rfl, rfl⟩
        · cases q
      · cases q
    · cases q
  · cases q
/-- a step from the places as they stand, at i alone; with fr come from outside -/
theorem pst_mut {i : Nat} {F1 H1 H2 : Hp} {env1 : Env} {fp1 fp2 : Nat → List Addr} {o' : O} {fr : List Addr} (p : Pst X.K X.mg T F H env fp F1 H1 env1 σ fp1) (ex : Ext F1 H1 (fun a => a ∈ fp1 i) F1 H2) (re : RE X.K X.mg F1 H2 (env1.set i (some o')) σ fp2)
    (sm : ∀ j, j ≠ i → fp2 j = fp1 j) (inn : ∀ a ∈ fp2 i, a ∈ fp1 i ∨ a ∈ fr) (hw : ∀ a ∈ fr, Wf T fp a ∨ H a = none) : Pst X.K X.mg (T ++ [i]) F H env fp F1 H2 (env1.set i (some o')) σ fp2 := by
  refine ⟨(p.ext.mono fun a w => w.mono mem_l).trans (fun a ha => p.wf (T2 := [i]) ⟨i, by simp, ha⟩) ex, re, fun j hj => ?_, fun j a ha hj => ?_, by rw [List.length_set]; exact p.ln⟩
  · have hji : j ≠ i := fun z => hj (mem_r j (by simp [z]))
    obtain ⟨e1, e2⟩ := p.same j fun z => hj (mem_l j z)
    exact ⟨by rw [List.getElem?_set_ne (Ne.symm hji)]; exact e1, by rw [sm j hji]; exact e2⟩
  · by_cases z : j = i
    · subst z
      rcases inn a ha with y | y
      · exact p.wf (T2 := [j]) ⟨j, by simp, y⟩
      · exact (hw a y).imp_left fun w => w.mono mem_l
    · rw [sm j z] at ha
      rcases p.come' ha with y | y | y
      · exact .inl ⟨j, hj, y⟩
      · exact .inl (y.mono mem_l)
      · exact .inr y
/-- xs.append(e) -/
def oAppend (i : Nat) (p : Pth) (f : M O) : M O := fun env => match Env.at env i p with
  | some (.lst _) => M.bd f (fun o => atL i p fun os => if os.length < sizeLine then some (.val .non, os ++ [o]) else none) env
  | _ => none
theorem ROs.snoc {K : PySem.W.Frag} {G : Str → Option Value} : ∀ {os : List O} {vs : List V} {fs fr : List Addr} {o : O} {v : V}, ROs K G F H os vs fs → RO K G F H o v fr → (∀ a ∈ fr, a ∉ fs) → ROs K G F H (os ++ [o]) (vs ++ [v]) (fs ++ fr)
  | [], vs, fs, fr, o, v, q, ro, hd => by
    simp only [ROs] at q
    obtain ⟨rfl, rfl⟩ := q
    rw [List.nil_append, List.nil_append, List.nil_append, ROs]
    exact ⟨v, [], fr, [], rfl, ro, by rw [ROs]; exact ⟨rfl, rfl⟩, by simp, by simp⟩
  | b :: os, vs, fs, fr, o, v, q, ro, hd => by
    simp only [ROs] at q
    obtain ⟨w, r, f1, f2, rfl, q1, q2, q3, q4⟩ := q
    subst q4
    rw [List.cons_append, List.cons_append, ROs]
    refine ⟨w, r ++ [v], f1, f2 ++ fr, rfl, q1, ROs.snoc q2 ro (fun a h z => hd a h (List.mem_append_right _ z)), fun a h z => ?_, by rw [List.append_assoc]⟩
    rcases List.mem_append.mp z with y | y
    · exact q3 a h y
    · exact hd a y (List.mem_append_left _ h)
theorem po_append {i : Nat} {p : Pth} {o e : Expr} {f : M O} {apos cpos : Pos} (hP : PPl X i p o) (he : PO X W T e f) (hT : i ∉ T := by decide)
    (hbase : attributeBase o "append" X.env (eval o X.env) = eval o X.env := by rfl)
    (hfew : ((backTo cpos (starEach [e] X.env)).all (fun x => !x.1) && (backToKw cpos (keywordEach [] X.env)).all (fun x => x.1.isSome)
      && decide ([e].length + ([] : List Keyword).length + (if ([] : List Keyword).isEmpty then 0 else 1) < 30)) = true := by rfl)
    (hline : (apos.endLine == cpos.line) = true := by rfl) (hs : starEach [e] X.env = (false, eval e X.env) :: starEach [] X.env := by rfl) (hplain : (backTo cpos (starEach [] X.env)).any (·.1) = false := by rfl) :
    PO X W (T ++ [i]) (.Call (.Attribute o "append" apos) [e] [] cpos) (oAppend i p f) := by
  obtain ⟨t, ht, hsp⟩ := hP.ex
  obtain ⟨te, e1, e2⟩ := he.ex
  refine ⟨_, pe_bm PySem.F.plainAttrs_list PySem.F.slot_list_append PySem.F.type_list_append mt_append ht (pa_cons e1 pa_nil hs) hbase hfew hline hs hplain, fun F H env σ fp Q r env' k1 k2 k3 k ke => ?_⟩
  unfold oAppend at k3
  split at k3
  · rename_i os0 q0
    obtain ⟨o0, q1, q2⟩ := Env.at_some q0
    obtain ⟨v, l, vs, fs, m1, m2, m3, m4, _⟩ := mut_lst k1 k2 q1 q2
    refine hsp σ H v (.ref l) _ m1 m2 ⟨.inl ⟨rfl, vs, .of m3⟩, ?_⟩
    refine SndO.then e2 k1 k2 k3 (fun o1 w F1 H1 env1 fp1 fr q p1 ro hd hw => ?_) (ke.left k2)
    obtain ⟨o2, os, a, os', o', q3, q4, q5, q6, rfl, rfl⟩ := atL_some q
    split at q5
    · rename_i hlt
      cases q5
      obtain ⟨v2, l2, vs2, fs2, n1, n2, n3, n4, n5, n6, n7, n8, n9⟩ := mut_lst p1.ext.fh p1.re q3 q4
      rw [m1] at n1
      cases n1
      have e3 := PathV.inj (p1.path k2 hT q1 m1 q2 m2) n2
      cases e3
      have hfs : ∀ b ∈ fs2, (upd H1 l (.lst (vs2 ++ [w]))) b = H1 b ∧ F1 b = none := fun b hb => ⟨upd_ne (fun z => n6 (by rw [← z]; exact hb)), (p1.re.fpin (n8 b hb)).1⟩
      have hfr : ∀ b ∈ fr, (upd H1 l (.lst (vs2 ++ [w]))) b = H1 b ∧ F1 b = none := fun b hb => ⟨upd_ne (fun z => hd i b hb (by rw [z]; exact n7)), (ro.fp b hb).1⟩
      obtain ⟨o3, fp2, x1, x2, x3, x4, x5, _⟩ := n9 (vs2 ++ [w]) (os ++ [o1]) (fs2 ++ fr) fr (ROs.snoc (n5.frame Same.refl hfs) (ro.frame Same.refl hfr) fun b hb z => hd i b hb (n8 b z)) (by rw [List.length_append]; exact hlt)
        (fun z => (List.mem_append.mp z).elim n6 fun y => hd i l y n7) (fun b hb => List.mem_append.mp hb) (fun j b hb => hd j b hb)
      rw [q6] at x1
      cases x1
      refine ⟨l, vs2, w, rfl, rfl, n3, by rw [n5.length]; exact hlt, ?_⟩
      exact k _ _ F1 _ fp2 [] rfl (pst_mut p1 x2 x3 x4 x5 hw) (.val rep_non) (fun _ _ z => by simp at z) (fun _ z => by simp at z)
    · cases q5
  · cases k3
/-- xs.pop() -/
def oPop (i : Nat) (p : Pth) : M O := atL i p fun os => (os.getLast?).map fun o => (o, os.dropLast)
theorem ROs.last {K : PySem.W.Frag} {G : Str → Option Value} : ∀ {os : List O} {vs : List V} {fs : List Addr} {o : O}, ROs K G F H os vs fs → os.getLast? = some o →
    ∃ v f1 f2, vs[vs.length - 1]? = some v ∧ ROs K G F H os.dropLast vs.dropLast f1 ∧ RO K G F H o v f2 ∧ (∀ a ∈ f2, a ∉ f1) ∧ (∀ a ∈ f1, a ∈ fs) ∧ (∀ a ∈ f2, a ∈ fs)
  | [], vs, fs, o, q, e => by simp at e
  | [b], vs, fs, o, q, e => by
    simp only [ROs] at q
    obtain ⟨w, r, f1, f2, rfl, q1, ⟨rfl, rfl⟩, q3, q4⟩ := q
    subst q4
    simp at e
    subst e
    exact ⟨w, [], f1, rfl, by simp [ROs], q1, by simp, by simp, by simp⟩
  | b :: c :: os, vs, fs, o, q, e => by
    rw [ROs] at q
    obtain ⟨w, r, f1, f2, rfl, q1, q2, q3, q4⟩ := q
    subst q4
    obtain ⟨v, g1, g2, h1, h2, h3, h4, h5, h6⟩ := ROs.last (os := c :: os) q2 (by simpa using e)
    have hr := q2.length
    cases r with
    | nil => simp at hr
    | cons x r =>
      refine ⟨v, f1 ++ g1, g2, by simpa using h1, ?_, h3, fun a ha z => ?_, fun a ha => ?_, fun a ha => List.mem_append_right _ (h6 a ha)⟩
      · rw [List.dropLast_cons_cons, List.dropLast_cons_cons, ROs]
        exact ⟨w, _, f1, g1, rfl, q1, h2, fun a y z => q3 a y (h5 a z), rfl⟩
      · rcases List.mem_append.mp z with y | y
        · exact q3 a y (h6 a ha)
        · exact h4 a ha y
      · rcases List.mem_append.mp ha with y | y
        · exact List.mem_append_left _ y
        · exact List.mem_append_right _ (h5 a y)
theorem po_pop {i : Nat} {p : Pth} {o : Expr} {apos cpos : Pos} (hP : PPl X i p o) (hbase : attributeBase o "pop" X.env (eval o X.env) = eval o X.env := by rfl) (hline : (apos.endLine == cpos.line) = true := by rfl) :
    PO X W [i] (.Call (.Attribute o "pop" apos) [] [] cpos) (oPop i p) := by
  obtain ⟨t, ht, hsp⟩ := hP.ex
  refine ⟨_, pe_bm0 PySem.F.plainAttrs_list PySem.F.slot_list_pop PySem.F.type_list_pop mt_pop ht hbase hline, fun F H env σ fp Q r env' k1 k2 k3 k ke => ?_⟩
  obtain ⟨o2, os, a, os', o', q3, q4, q5, q6, rfl, rfl⟩ := atL_some k3
  simp only [Option.map_eq_some_iff] at q5
  obtain ⟨o1, q5, e⟩ := q5
  cases e
  obtain ⟨v, l, vs, fs, m1, m2, m3, m4, m5, m6, m7, m8, m9⟩ := mut_lst k1 k2 q3 q4
  obtain ⟨w, g1, g2, x1, x2, x3, x4, x5, x6⟩ := m5.last q5
  have hfs : ∀ b, b ∈ fs → (upd H l (.lst vs.dropLast)) b = H b ∧ F b = none := fun b hb => ⟨upd_ne (fun z => m6 (by rw [← z]; exact hb)), (k2.fpin (m8 b hb)).1⟩
  obtain ⟨o3, fp2, y1, y2, y3, y4, y5, y6⟩ := m9 vs.dropLast os.dropLast g1 [] (x2.frame Same.refl fun b hb => hfs b (x5 b hb)) (by rw [List.length_dropLast]; omega) (fun z => m6 (x5 l z)) (fun b hb => .inl (x5 b hb)) (fun _ _ z => by simp at z)
  rw [q6] at y1
  cases y1
  refine hsp σ H v (.ref l) _ m1 m2 ⟨.inl ⟨rfl, vs, .of m3⟩, l, vs, w, rfl, rfl, m3, x1, ?_⟩
  have p := pst_mut (.refl k1 k2) y2 y3 y4 y5 (fun _ z => by simp at z)
  rw [List.nil_append] at p
  refine k _ w F _ fp2 g2 rfl p (x3.frame Same.refl fun b hb => hfs b (x6 b hb)) (fun j b hb z => ?_) (fun b hb => .inl ⟨i, by simp, m8 b (x6 b hb)⟩)
  by_cases hj : j = i
  · subst hj
    rcases y6 b z with y | y
    · exact y (x6 b hb)
    · exact x4 b hb y
  · rw [y4 j hj] at z
    exact k2.dis i j (Ne.symm hj) b (m8 b (x6 b hb)) z
/-- xs[n] = e, of a list in a place -/
def sPut (i : Nat) (p : Pth) (f : M O) (g : M D) : M Fl := M.bd f fun o env => match Env.at env i p with
  | some (.lst _) => M.bd g (fun d => M.bd (atL i p fun os => match d with
    | .int n => (ixN os.length n).map fun j => ((), os.set j o)
    | _ => none) fun _ => sNx) env
  | _ => none
theorem ROs.set {K : PySem.W.Frag} {G : Str → Option Value} {os : List O} {vs : List V} {fs fr : List Addr} {n : Nat} {o : O} {v : V} (q : ROs K G F H os vs fs) (hn : n < os.length) (ro : RO K G F H o v fr) (hd : ∀ a ∈ fr, a ∉ fs) :
    ∃ fs', ROs K G F H (os.set n o) (vs.set n v) fs' ∧ (∀ a ∈ fs', a ∈ fs ∨ a ∈ fr) := by
  obtain ⟨u, fn, h1, h2, h3, h4⟩ := q.nth (List.getElem?_eq_getElem hn)
  obtain ⟨fs', g1, g2⟩ := h4 F H o v fr Same.refl (fun a ha _ => ⟨rfl, (q.fp a ha).1⟩) ro (fun a ha z => absurd z (hd a ha))
  exact ⟨fs', g1, fun a ha => (g2 a ha).imp_left And.left⟩
theorem z_put {i : Nat} {p : Pth} {o e b : Expr} {f : M O} {g : M D} {pos pos' : Pos} (hP : PPl X i p o) (he : PO X W T1 e f) (hb : PV X W T2 b g) (hT : i ∉ T2 := by decide)
    (hs : swapsWithSole [.Subscript o b pos'] e pos.line X.env = pure false := by rfl) (hw : swappedStores [.Subscript o b pos'] e X.env = pure none := by rfl)
    (h1 : (assignEach [.Subscript o b pos'] X.env).map (·.2) = [assign (.Subscript o b pos') X.env] := by rfl)
    (ha : ∀ v, assign (.Subscript o b pos') X.env v = (do
      let ov ← holding [v] (eval o X.env)
      let iv ← holding [v, ov] (eval b X.env)
      standAt pos'
      holding [v, ov, iv] (setItem ov iv v)
      release [v, ov, iv] []) := by intro _; rfl) : PZ X W ((T1 ++ T2) ++ [i]) [] (.Assign [.Subscript o b pos'] e pos) (sPut i p f g) := by
  obtain ⟨t, ht, hsp⟩ := hP.ex
  obtain ⟨te, e1, e2⟩ := he.ex
  obtain ⟨tb, b1, b2⟩ := hb.ex
  refine ⟨_, ps_asg e1 (pg_sub ht b1 set_list ha) hs hw h1, fun F H env σ fp D r env' k1 k2 k3 n bk c rt e => ?_⟩
  refine SndO.then e2 k1 k2 k3 (fun o1 w F1 H1 env1 fp1 fr q p1 ro hd hw => ?_) (e.expr k2 fun t h => mem_l t (mem_l t h))
  split at q
  · rename_i os0 q0
    obtain ⟨o0, q1, q2⟩ := Env.at_some q0
    obtain ⟨v0, l0, vs0, fs0, a1, a2, a3, _⟩ := mut_lst p1.ext.fh p1.re q1 q2
    refine hsp σ H1 v0 (.ref l0) _ a1 a2 ?_
    have e' : ErrS X W (T1 ++ T2) [] F H env σ fp r env' := e.mono k2 mem_l fun _ h => h
    refine SndV.then b2 p1.ext.fh p1.re q (fun d u F2 H2 env2 fp2 q p2 rep => ?_) (fun x F' H' fp' cls d ex p er => e' x F' H' σ fp' cls d ex ⟨p1.trans p, fun _ _ => rfl⟩ er)
    have p12 := p1.trans p2
    rcases M.bd_cases q with ⟨_, env3, q3, q4⟩ | ⟨x, q3, _⟩
    · obtain ⟨rfl, rfl⟩ := M.ret_some q4
      obtain ⟨o2, os, a, os', o', q5, q6, q7, q8, _, rfl⟩ := atL_some q3
      split at q7
      · rename_i m
        simp only [Option.map_eq_some_iff] at q7
        obtain ⟨j, q7, e3⟩ := q7
        cases e3
        simp only [Rep] at rep
        subst rep
        obtain ⟨v, l, vs, fs, m1, m2, m3, m4, m5, m6, m7, m8, m9⟩ := mut_lst p2.ext.fh p2.re q5 q6
        rw [a1] at m1
        cases m1
        have e3 := PathV.inj (p2.path p1.re hT q1 a1 q2 a2) m2
        cases e3
        have ro2 := p2.keeps ro hd
        have hd2 := p2.apart hd fun a ha => (ro.fp a ha).2
        have hj : j < os.length := (ixN_seq q7).2.1
        have hfs : ∀ b ∈ fs, (upd H2 l0 (.lst (vs.set j w))) b = H2 b ∧ F2 b = none := fun b hb => ⟨upd_ne (fun z => m6 (by rw [← z]; exact hb)), (p2.re.fpin (m8 b hb)).1⟩
        have hfr : ∀ b ∈ fr, (upd H2 l0 (.lst (vs.set j w))) b = H2 b ∧ F2 b = none := fun b hb => ⟨upd_ne (fun z => hd2 i b hb (by rw [z]; exact m7)), (ro2.fp b hb).1⟩
        obtain ⟨fs', s1, s2⟩ := ROs.set (m5.frame Same.refl hfs) hj (ro2.frame Same.refl hfr) (fun b hb z => hd2 i b hb (m8 b z))
        obtain ⟨o3, fp3, x1, x2, x3, x4, x5, _⟩ := m9 (vs.set j w) (os.set j o1) fs' fr s1 (by rw [List.length_set]; exact m4) (fun z => (s2 _ z).elim m6 fun y => hd2 i _ y m7) s2 hd2
        rw [q8] at x1
        cases x1
        refine ⟨l0, vs, m, j, rfl, rfl, m3, by rw [m5.length]; exact q7, ?_⟩
        exact n _ _ σ fp3 rfl ⟨pst_mut p12 x2 x3 x4 x5 (fr := fr) (fun b hb => (hw b hb).imp_left fun w => w.mono mem_l), fun _ _ => rfl⟩
      · cases q7
    · refine absurd q3 fun z => ?_
      obtain ⟨_, _, _, _, _, _, _, _, _, z, _⟩ := atL_some z
      cases z
  · cases q
end
end PL
/-! PL10: built-in calls, unpacking, comprehensions, zip. -/
namespace PL
open PySem L2
section
variable {X : Cx} {W : WX} {T T1 T2 T3 A : List Nat} {F H F' H' : Hp} {env env' : Env} {σ : St} {fp fp' : Nat → List Addr}

/-! ### built-in functions of one thing that is looked at -/
def CaD (X : Cx) (f : Value) (g : D → Option D) : Prop :=
  ∃ r : List V → Hp → VK → Prop, CallR X f r ∧ ∀ (F H : Hp) (x : V) (d z : D) (Q : VK), Same F H → RepC X.K X.mg F H d x → g d = some z →
    (∀ v F' H', Ext F H (fun _ => False) F' H' → Rep X.K X.mg F' z v → Q v H') → r [x] H Q
theorem snd_ca {r : List V → Hp → VK → Prop} {g : D → Option D} {t : TE} {f : M Rdr} {S : List Nat}
    (h2 : ∀ (F H : Hp) (x : V) (d z : D) (Q : VK), Same F H → RepC X.K X.mg F H d x → g d = some z → (∀ v F' H', Ext F H (fun _ => False) F' H' → Rep X.K X.mg F' z v → Q v H') → r [x] H Q)
    (hs : SndQ X W T S t f) : SndV X W T (tCB r (tCons t tNil)) (un g f) := fun F H env σ fp Q r env' k1 k2 k3 k ke => by
  refine SndQ.then hs k1 k2 k3 (fun rd v F1 H1 env1 fp1 q p1 hrd => ?_) ke
  obtain ⟨z, e1, rfl, rfl⟩ := M.lift_some q
  simp only [Option.bind_eq_some_iff] at e1
  obtain ⟨d, e2, e3⟩ := e1
  have c := hrd [] F1 H1 env' fp1 d (.refl p1.ext.fh p1.re) (fun _ _ z => by simp at z) e2
  refine h2 F1 H1 v d z Q p1.ext.fh c e3 fun w F3 H3 ex rep => ?_
  have p := p1.trans (Pst.of_ext p1.re ex)
  rw [List.append_nil] at p
  exact k z w F3 H3 fp1 rfl p rep
theorem pv_callB {id : String} {g : D → Option D} {x : Str} {e : Expr} {f : M Rdr} {S : List Nat} {p pos : Pos} (hc : CaD X (.builtin id) g) (hg : Gl X x) (hm : X.mg x = none) (hv : bootBuiltins x = some (.builtin id)) (h : PQ X W T S e f)
    (hn : x ≠ "__name__" := by decide) (hdb : (x == ("__debug__" : Str)) = false := by decide) (he : starEach [e] X.env = (false, eval e X.env) :: starEach [] X.env := by rfl) (hpl : (backTo pos (starEach [] X.env)).any (·.1) = false := by rfl) :
    PV X W T (.Call (.Name x p) [e] [] pos) (un g f) := by
  obtain ⟨r, h1, h2⟩ := hc
  obtain ⟨t, ht, hs⟩ := h.ex
  exact ⟨_, pe_callB h1 hg hm hv (pa_cons ht pa_nil he) hn hdb he hpl, snd_ca h2 hs⟩
theorem pv_callT {T0 : String} {g : D → Option D} {x : Str} {e : Expr} {f : M Rdr} {S : List Nat} {p pos : Pos} (hc : CaD X (.type T0) g) (hg : Gl X x) (hm : X.mg x = none) (hv : bootBuiltins x = some (.type T0)) (h : PQ X W T S e f)
    (hn : x ≠ "__name__" := by decide) (hdb : (x == ("__debug__" : Str)) = false := by decide) (he : starEach [e] X.env = (false, eval e X.env) :: starEach [] X.env := by rfl) (hpl : (backTo pos (starEach [] X.env)).any (·.1) = false := by rfl) :
    PV X W T (.Call (.Name x p) [e] [] pos) (un g f) := by
  obtain ⟨r, h1, h2⟩ := hc
  obtain ⟨t, ht, hs⟩ := h.ex
  exact ⟨_, pe_callTy h1 hg hm hv (pa_cons ht pa_nil he) hn hdb he hpl, snd_ca h2 hs⟩
def dLen : D → Option D
  | .str z => if z.length ≤ sizeLine then some (.int z.length) else none
  | .lst ds => some (.int ds.length)
  | .tup ds => some (.int ds.length)
  | .dK ks _ => some (.int ks.length)
  | _ => none
theorem ca_len : CaD X (.builtin "len") dLen := by
  refine ⟨_, CallR.or call_len_seq (CallR.or call_len_str call_lenD), fun F H x d z Q hs rx hg k => ?_⟩
  unfold dLen at hg
  split at hg
  · rename_i y
    split at hg
    · rename_i hl
      cases hg
      exact .inr (.inl ⟨y, by rw [repC_str rx], hl, k _ F H (.refl hs) rep_int⟩)
    · cases hg
  · rename_i ds
    cases hg
    obtain ⟨a, vs, rfl, h1, h2, h3⟩ := rx
    exact .inl ⟨a, vs, rfl, .inl (.of h1), by rw [h3.length]; exact k _ F H (.refl hs) rep_int⟩
  · rename_i ds
    cases hg
    simp only [RepC, Rep] at rx
    obtain ⟨a, vs, rfl, h1, h2, h3⟩ := rx
    exact .inl ⟨a, vs, rfl, .inr (sqT hs h1), by rw [h3.length]; exact k _ F H (.refl hs) rep_int⟩
  · rename_i ks ds
    cases hg
    obtain ⟨a, vs, rfl, h1, h2, h3, h4⟩ := rx
    refine .inr (.inr ⟨a, _, rfl, h1, ?_⟩)
    have : (ks.zip vs).length = ks.length := by rw [List.length_zip, h4.length]; omega
    rw [this]
    exact k _ F H (.refl hs) rep_int
  · cases hg
def dInt : D → Option D
  | .int i => some (.int i)
  | .bl b => some (.int (if b then 1 else 0))
  | .str a => if a.length ≤ 640 then (PySem.intText? a).map .int else none
  | _ => none
theorem ca_int : CaD X (.type "int") dInt := by
  refine ⟨_, CallR.or call_int1 call_int_str, fun F H x d z Q hs rx hg k => ?_⟩
  unfold dInt at hg
  split at hg
  · rename_i i
    cases hg
    exact .inl (.inl ⟨i, by rw [repC_int rx], k _ F H (.refl hs) rep_int⟩)
  · rename_i b
    cases hg
    exact .inl (.inr ⟨b, by rw [repC_bl rx], k _ F H (.refl hs) rep_int⟩)
  · rename_i a
    split at hg
    · rename_i hl
      simp only [Option.map_eq_some_iff] at hg
      obtain ⟨n, h1, rfl⟩ := hg
      exact .inr ⟨a, n, by rw [repC_str rx], h1, hl, k _ F H (.refl hs) rep_int⟩
    · cases hg
  · cases hg
def dAbs : D → Option D
  | .int i => some (.int (if i < 0 then -i else i))
  | _ => none
theorem ca_abs : CaD X (.builtin "abs") dAbs := by
  refine ⟨_, call_abs, fun F H x d z Q hs rx hg k => ?_⟩
  unfold dAbs at hg
  split at hg
  · rename_i i
    cases hg
    exact ⟨i, by rw [repC_int rx], k _ F H (.refl hs) rep_int⟩
  · cases hg
def dTuple : D → Option D
  | .lst ds => some (.tup ds)
  | .tup ds => some (.tup ds)
  | _ => none
theorem ca_tuple : CaD X (.type "tuple") dTuple := by
  refine ⟨_, call_tuple_of, fun F H x d z Q hs rx hg k => ?_⟩
  unfold dTuple at hg
  split at hg
  · rename_i ds
    cases hg
    obtain ⟨a, vs, rfl, h1, h2, h3⟩ := rx
    refine ⟨a, vs, rfl, .inl ⟨.of h1, fun c nc => ?_⟩⟩
    have ex := Ext.alloc (o := .tup vs) hs nc
    exact k _ _ _ ex (rep_tup upd_same h2 (Reps.mono ex.ff _ _ h3))
  · rename_i ds
    cases hg
    have rx' := rx
    simp only [RepC, Rep] at rx
    obtain ⟨a, vs, rfl, h1, h2, h3⟩ := rx
    exact ⟨a, vs, rfl, .inr ⟨sqT hs h1, k _ F H (.refl hs) (rep_tup h1 h2 h3)⟩⟩
  · cases hg
/-- list(x), a new list of the reader's own -/
def oList (f : M Rdr) : M O := M.bd f fun rd env => M.lift ((rd env).bind fun d => match d with
  | .lst ds => some (O.lst (ds.map .val))
  | .tup ds => some (O.lst (ds.map .val))
  | _ => none) env
theorem snd_new {r : List V → Hp → VK → Prop} {g : D → Option O} {t : TE} {f : M Rdr} {S : List Nat}
    (h2 : ∀ (F H : Hp) (x : V) (d : D) (z : O) (Q : VK), Same F H → RepC X.K X.mg F H d x → g d = some z → (∀ v F' H' fr, Ext F H (fun _ => False) F' H' → RO X.K X.mg F' H' z v fr → (∀ a ∈ fr, H a = none) → Q v H') → r [x] H Q)
    (hs : SndQ X W T S t f) : SndO X W T (tCB r (tCons t tNil)) (M.bd f fun rd env => M.lift ((rd env).bind g) env) := fun F H env σ fp Q r env' k1 k2 k3 k ke => by
  refine SndQ.then hs k1 k2 k3 (fun rd v F1 H1 env1 fp1 q p1 hrd => ?_) ke
  obtain ⟨z, e1, rfl, rfl⟩ := M.lift_some q
  simp only [Option.bind_eq_some_iff] at e1
  obtain ⟨d, e2, e3⟩ := e1
  have c := hrd [] F1 H1 env' fp1 d (.refl p1.ext.fh p1.re) (fun _ _ z => by simp at z) e2
  refine h2 F1 H1 v d z Q p1.ext.fh c e3 fun w F3 H3 fr ex ro hn => ?_
  have p := p1.trans (Pst.of_ext p1.re ex)
  rw [List.append_nil] at p
  exact k z w F3 H3 fp1 fr rfl p ro (fun j b hb z => (p1.re.fpin z).2 (hn b hb)) (fun b hb => .inr (dom_none p1 (hn b hb)))
theorem boot_list' : bootBuiltins "list" = some (.type "list") := by decide +kernel
theorem boot_tuple' : bootBuiltins "tuple" = some (.type "tuple") := by decide +kernel
theorem boot_int' : bootBuiltins "int" = some (.type "int") := by decide +kernel
theorem boot_abs' : bootBuiltins "abs" = some (.builtin "abs") := by decide +kernel
theorem boot_len' : bootBuiltins "len" = some (.builtin "len") := by decide +kernel
theorem boot_isi' : bootBuiltins "isinstance" = some (.builtin "isinstance") := by decide +kernel
theorem po_list {e : Expr} {f : M Rdr} {S : List Nat} {p pos : Pos} (hg : Gl X "list") (hm : X.mg "list" = none) (h : PQ X W T S e f)
    (he : starEach [e] X.env = (false, eval e X.env) :: starEach [] X.env := by rfl) (hpl : (backTo pos (starEach [] X.env)).any (·.1) = false := by rfl) : PO X W T (.Call (.Name "list" p) [e] [] pos) (oList f) := by
  obtain ⟨t, ht, hs⟩ := h.ex
  refine ⟨_, pe_callTy call_list_of hg hm boot_list' (pa_cons ht pa_nil he) (by decide) (by decide) he hpl, snd_new (fun F H x d z Q hs rx hg k => ?_) hs⟩
  split at hg
  · rename_i ds
    cases hg
    obtain ⟨a, vs, rfl, h1, h2, h3⟩ := rx
    exact ⟨a, vs, rfl, .inl (.of h1), fun c nc => k _ _ _ [c] (Ext.allocO hs nc) (ro_new hs nc h2 h3) (fun b hb => by
      have e : b = c := by simpa using hb
      subst e; exact nc)⟩
  · rename_i ds
    cases hg
    simp only [RepC, Rep] at rx
    obtain ⟨a, vs, rfl, h1, h2, h3⟩ := rx
    exact ⟨a, vs, rfl, .inr (sqT hs h1), fun c nc => k _ _ _ [c] (Ext.allocO hs nc) (ro_new hs nc h2 h3) (fun b hb => by
      have e : b = c := by simpa using hb
      subst e; exact nc)⟩
  · cases hg
/-- a built-in class, as a value -/
theorem pv_ty {x : Str} {n : String} {pos : Pos} (hg : Gl X x) (hm : X.mg x = none) (hv : bootBuiltins x = some (.type n)) (hn : x ≠ "__name__" := by decide) (hd : (x == ("__debug__" : Str)) = false := by decide) : PV X W [] (.Name x pos) (M.ret (.ty n)) :=
  ⟨_, pe_bltn (v := .ty n) hg hm hv rfl hn hd, snd_const fun _ => by simp only [Rep]⟩

/-! ### isinstance, of built-in classes -/
def D.tyn : D → Option String
  | .non => some "NoneType"
  | .bl _ => some "bool"
  | .int _ => some "int"
  | .str _ => some "str"
  | .tup _ => some "tuple"
  | .lst _ => some "list"
  | .frl _ => some "list"
  | .dK _ _ => some "dict"
  | .dT _ _ => some "dict"
  | _ => none
def tynB (a b : String) : Option Bool :=
  if b = "int" then some (a == "int" || a == "bool") else
  if b = "bool" then some (a == "bool") else
  if b = "str" then some (a == "str") else
  if b = "tuple" then some (a == "tuple") else
  if b = "list" then some (a == "list") else
  if b = "dict" then some (a == "dict") else none
theorem kit_tyn {K : PySem.W.Frag} {d : D} {a b : String} {r : Bool} (ha : d.tyn = some a) (h : tynB a b = some r) : PySem.W.kitOne K (.type a) (.type b) = some r := by
  have ha' : a = "NoneType" ∨ a = "bool" ∨ a = "int" ∨ a = "str" ∨ a = "tuple" ∨ a = "list" ∨ a = "dict" := by
    cases d <;> simp [D.tyn] at ha <;> subst ha <;> simp
  unfold tynB at h
  refine kit_ty ?_
  have key : ∀ (c : String) (v : Bool), kitB a c = some v → v = r → kitB a c = some r := fun c v h e => e ▸ h
  split at h
  · rename_i e; subst e
    rcases ha' with e | e | e | e | e | e | e <;> subst e <;> cases h <;> decide +kernel
  · split at h
    · rename_i e; subst e
      rcases ha' with e | e | e | e | e | e | e <;> subst e <;> cases h <;> decide +kernel
    · split at h
      · rename_i e; subst e
        rcases ha' with e | e | e | e | e | e | e <;> subst e <;> cases h <;> decide +kernel
      · split at h
        · rename_i e; subst e
          rcases ha' with e | e | e | e | e | e | e <;> subst e <;> cases h <;> decide +kernel
        · split at h
          · rename_i e; subst e
            rcases ha' with e | e | e | e | e | e | e <;> subst e <;> cases h <;> decide +kernel
          · split at h
            · rename_i e; subst e
              rcases ha' with e | e | e | e | e | e | e <;> subst e <;> cases h <;> decide +kernel
            · cases h
theorem rep_tyx {d : D} {v : V} {a : String} (hs : Same F H) (h : Rep X.K X.mg F d v) (e : d.tyn = some a) : TyX X.K H v (.type a) := by
  cases d with
  | non => cases e; simp only [Rep] at h; subst h; exact .base .non
  | bl b => cases e; simp only [Rep] at h; subst h; exact .base (.bl b)
  | int i => cases e; simp only [Rep] at h; subst h; exact .base (.int i)
  | str x => cases e; simp only [Rep] at h; subst h; exact .base (.str x)
  | tup ds =>
    cases e
    simp only [Rep] at h
    obtain ⟨a, vs, rfl, h1, h2, h3⟩ := h
    exact .base (.tup (hs _ _ h1))
  | lst ds =>
    cases e
    simp only [Rep] at h
    obtain ⟨a, vs, rfl, h1, h2, h3⟩ := h
    exact .base (.lst (hs _ _ h1))
  | frl ds =>
    cases e
    simp only [Rep] at h
    obtain ⟨a, vs, rfl, h1, h2, h3⟩ := h
    rcases h1 with (h1 | ⟨o, h1⟩) | ⟨o, its, n, h1, h2, _⟩
    · exact .base (.lst (hs _ _ h1))
    · exact .base (.frz (hs _ _ h1))
    · exact .kList h1 h2
  | dK ks ds =>
    cases e
    simp only [Rep] at h
    obtain ⟨a, vs, rfl, h1, _⟩ := h
    exact .base (.dK (hs _ _ h1))
  | dT ks ds =>
    cases e
    simp only [Rep] at h
    obtain ⟨a, vs, rfl, h1, _⟩ := h
    exact .base (.dT (hs _ _ h1))
  | _ => cases e
/-- isinstance(x, (c, ..)): x's own class by name, the classes by name -/
def isAny (a : String) : List D → Option Bool
  | [] => some false
  | .ty b :: cs => (tynB a b).bind fun r => (isAny a cs).map fun q => r || q
  | _ => none
def dIsi : D → D → Option D
  | d, .ty b => (d.tyn.bind fun a => tynB a b).map .bl
  | d, .tup cs => (d.tyn.bind fun a => isAny a cs).map .bl
  | _, _ => none
def vCall2 (g : D → D → Option D) (f : M (List D)) : M D := M.bd f fun ds => M.lift (match ds with
  | [a, b] => g a b
  | _ => none)
theorem isAny_kit {d : D} {a : String} (ha : d.tyn = some a) : ∀ {cs : List D} {vs : List V} {r : Bool}, Reps X.K X.mg F cs vs → isAny a cs = some r → ∃ us, Paired ClsV vs us ∧ PySem.W.kitAny X.K (.type a) us = some r
  | [], vs, r, h, e => by
    simp only [Reps] at h
    subst h
    refine ⟨[], .nil, ?_⟩
    unfold isAny at e
    rw [← e]; rfl
  | c :: cs, vs, r, h, e => by
    simp only [Reps] at h
    obtain ⟨v, t, rfl, h1, h2⟩ := h
    cases c with
    | ty b =>
      simp only [Rep] at h1
      subst h1
      unfold isAny at e
      simp only [Option.bind_eq_some_iff, Option.map_eq_some_iff] at e
      obtain ⟨r1, q, r2, e, rfl⟩ := e
      obtain ⟨us, g1, g2⟩ := isAny_kit ha h2 e
      refine ⟨.type b :: us, .cons (.ty b) g1, ?_⟩
      unfold PySem.W.kitAny
      rw [kit_tyn ha q]
      cases r1 with
      | true => rfl
      | false => exact g2
    | _ => unfold isAny at e; cases e
theorem reps2 {a b : D} {vs : List V} (h : Reps X.K X.mg F [a, b] vs) : ∃ v w, vs = [v, w] ∧ Rep X.K X.mg F a v ∧ Rep X.K X.mg F b w := by
  simp only [Reps] at h
  obtain ⟨v, r, rfl, h1, w, r2, rfl, h2, rfl⟩ := h
  exact ⟨v, w, rfl, h1, h2⟩
theorem pv_isi {e c : Expr} {f : M (List D)} {p pos : Pos} (hg : Gl X "isinstance") (hm : X.mg "isinstance" = none) (h : PAs X W T [e, c] f)
    (he : starEach [e, c] X.env = (false, eval e X.env) :: starEach [c] X.env := by rfl) (hpl : (backTo pos (starEach [c] X.env)).any (·.1) = false := by rfl) : PV X W T (.Call (.Name "isinstance" p) [e, c] [] pos) (vCall2 dIsi f) := by
  obtain ⟨t, ht, hs⟩ := h.ex
  refine ⟨_, pe_callB (CallR.or call_isi (CallR.or call_isiT call_isiK)) hg hm boot_isi' ht (by decide) (by decide) he hpl, fun F H env σ fp Q r env' k1 k2 k3 k ke => ?_⟩
  refine SndA.then hs k1 k2 k3 (fun ds vs F1 H1 env1 fp1 q p1 reps => ?_) ke
  obtain ⟨z, e1, rfl, rfl⟩ := M.lift_some q
  split at e1
  · rename_i d c
    obtain ⟨v, w, rfl, h1, h2⟩ := reps2 reps
    unfold dIsi at e1
    split at e1
    · rename_i b
      simp only [Option.map_eq_some_iff, Option.bind_eq_some_iff] at e1
      obtain ⟨r, ⟨a, e1, e2⟩, rfl⟩ := e1
      simp only [Rep] at h2
      subst h2
      exact .inl ⟨v, .ty b, .type a, .type b, r, rfl, .ty b, rep_tyx p1.ext.fh h1 e1, kit_tyn e1 e2, k _ _ F1 H1 fp1 rfl p1 rep_bl⟩
    · rename_i cs
      simp only [Option.map_eq_some_iff, Option.bind_eq_some_iff] at e1
      obtain ⟨r, ⟨a, e1, e2⟩, rfl⟩ := e1
      simp only [Rep] at h2
      obtain ⟨t, us, rfl, g1, g2, g3⟩ := h2
      obtain ⟨ws, x1, x2⟩ := isAny_kit e1 g3 e2
      have ty := rep_tyx p1.ext.fh h1 e1
      exact .inr (.inl ⟨v, t, us, .type a, ws, r, rfl, p1.ext.fh _ _ g1, x1, ty, x2, k _ _ F1 H1 fp1 rfl p1 rep_bl⟩)
    · cases e1
  · cases e1
end
end PL
/-! PL11: unpacking, comprehensions, zip and enumerate. -/
namespace PL
open PySem L2
section
variable {X : Cx} {W : WX} {T T1 T2 T3 A S : List Nat} {F H F' H' F1 H1 F2 H2 : Hp} {env env' : Env} {σ : St} {fp fp' : Nat → List Addr}

/-! ### a, b = .. -/
def SndGs (X : Cx) (T : List Nat) (g : TGs) (f : List D → M Unit) : Prop :=
  ∀ (F H : Hp) (env : Env) (σ : St) (fp : Nat → List Addr) (ds : List D) (vs : List V) (Q : St → Hp → Prop) (env' : Env), Same F H → RE X.K X.mg F H env σ fp → Reps X.K X.mg F ds vs → f ds env = some (.ok (), env') →
    (∀ F' H' σ' fp', Arr X T T F H env σ fp F' H' env' σ' fp' → Q σ' H') → g vs σ H Q
structure PGts (X : Cx) (T : List Nat) (es : List Expr) (f : List D → M Unit) : Prop where
  ex : ∃ g, PGs X es g ∧ SndGs X T g f
  noerr : ∀ ds env x env', f ds env ≠ some (.error x, env')
def gtNil : List D → M Unit := fun ds => match ds with
  | [] => M.ret ()
  | _ => fun _ => none
def gtCons (f : O → M Unit) (g : List D → M Unit) : List D → M Unit := fun ds => match ds with
  | d :: ds => M.bd (f (.val d)) fun _ => g ds
  | [] => fun _ => none
theorem gts_nil : PGts X [] [] gtNil := ⟨⟨_, pgs_nil, fun F H env σ fp ds vs Q env' k1 k2 r k3 k => by
  cases ds with
  | nil =>
    obtain ⟨_, rfl⟩ := M.ret_some k3
    simp only [Reps] at r
    exact ⟨r, k F H σ fp (.refl k1 k2)⟩
  | cons d ds => cases k3⟩, fun ds env x env' h => by cases ds <;> cases h⟩
theorem gts_cons {e : Expr} {es : List Expr} {f : O → M Unit} {g : List D → M Unit} (h : PGt X T1 e f) (h' : PGts X T2 es g) (hs : (assignEach (e :: es) X.env).map (·.2) = assign e X.env :: (assignEach es X.env).map (·.2) := by rfl) : PGts X (T1 ++ T2) (e :: es) (gtCons f g) := by
  obtain ⟨t, ht, hsn⟩ := h.ex
  obtain ⟨u, hu, hsn'⟩ := h'.ex
  refine ⟨⟨_, pgs_cons ht hu hs, fun F H env σ fp ds vs Q env' k1 k2 r k3 k => ?_⟩, fun ds env x env' q => ?_⟩
  · cases ds with
    | nil => cases k3
    | cons d ds =>
      simp only [Reps] at r
      obtain ⟨v, vr, rfl, r1, r2⟩ := r
      rcases M.bd_cases k3 with ⟨_, env1, q1, q2⟩ | ⟨x, q1, _⟩
      · refine ⟨v, vr, rfl, SndG.val hsn k1 k2 r1 q1 fun F1 H1 σ1 fp1 a1 => ?_⟩
        exact hsn' F1 H1 env1 σ1 fp1 ds vr Q env' a1.p.ext.fh a1.p.re (Reps.mono a1.p.ext.ff _ _ r2) q2 fun F2 H2 σ2 fp2 a2 => k F2 H2 σ2 fp2 (a1.trans a2)
      · exact absurd q1 (h.noerr _ _ _ _)
  · cases ds with
    | nil => cases q
    | cons d ds =>
      rcases M.bd_cases q with ⟨_, env1, q1, q2⟩ | ⟨x', q1, _⟩
      · exact h'.noerr _ _ _ _ q2
      · exact h.noerr _ _ _ _ q1
def gTup (n : Nat) (f : List D → M Unit) : O → M Unit := fun o => match o with
  | .val (.tup ds) => if ds.length = n then f ds else fun _ => none
  | _ => fun _ => none
theorem gt_tup {es : List Expr} {k n : Nat} {f : List D → M Unit} {pos : Pos} (hc : X.calm = true) (h : PGts X T es f) (hn : (assignEach es X.env).length = n := by rfl) (hst : (assignEach es X.env).findIdx? (·.1) = none := by rfl) : PGt X T (.Tuple es k pos) (gTup n f) := by
  obtain ⟨t, ht, hs⟩ := h.ex
  refine ⟨⟨_, pg_tup hc ht hn hst, fun F H env σ fp o v fr Q env' k1 k2 ro hd k3 k => ?_⟩, fun o env x env' q => ?_⟩
  · unfold gTup at k3
    split at k3
    · rename_i ds
      split at k3
      · rename_i hl
        obtain ⟨rfl, rep⟩ := ro.val_inv
        simp only [Rep] at rep
        obtain ⟨a, vs, rfl, h1, h2, h3⟩ := rep
        refine ⟨a, vs, rfl, sqT k1 h1, by rw [h3.length]; exact hl, ?_⟩
        refine hs F H env σ fp ds vs Q env' k1 k2 h3 k3 fun F' H' σ' fp' ar => ?_
        exact k F' H' σ' fp' (ar.p.ext.mono fun a w => .inl w) ar.p.re (fun j hj => ⟨(ar.p.same j hj).1, (ar.p.same j hj).2, ar.a j hj⟩) (fun j a ha hj => (ar.p.come j a ha hj).imp_right .inr) ar.p.ln
      · cases k3
    · cases k3
  · unfold gTup at q
    split at q
    · split at q
      · exact h.noerr _ _ _ _ q
      · cases q
    · cases q
/-- a, b = x, y, with plain local names -/
def sPar (i j : Nat) (f : M (List D)) : M Fl := M.bd f fun ds env => match ds with
  | [a, b] => if i < env.length ∧ j < env.length then some (.ok .nx, (env.set i (some (.val a))).set j (some (.val b))) else none
  | _ => none
theorem z_par {i j : Nat} {x y : Str} {a b : Expr} {f : M (List D)} {px py pt : Pos} {kt k2 : Nat} {pt2 pos : Pos} (hc : X.calm = true) (hN : X.N.Nodup) (hi : X.N[i]? = some x) (hj : X.N[j]? = some y) (hij : i ≠ j)
    (hx : X.env.scope.names.lookup x = some .local) (hy : X.env.scope.names.lookup y = some .local) (ha : PAs X W T [a, b] f)
    (hw : swappedStores [.Tuple [.Name x px, .Name y py] kt pt] (.Tuple [a, b] k2 pt2) X.env = pure (some [x, y]))
    (hs : swapsWithSole [.Tuple [.Name x px, .Name y py] kt pt] (.Tuple [a, b] k2 pt2) pos.line X.env = pure false := by rfl) :
    PZ X W (T ++ [i, j]) [i, j] (.Assign [.Tuple [.Name x px, .Name y py] kt pt] (.Tuple [a, b] k2 pt2) pos) (sPar i j f) := by
  obtain ⟨t, ht, h2⟩ := ha.ex
  refine ⟨_, ps_par hc hN hi hj hij hx hy ht hw hs, fun F H env σ fp D r env' k1 k2 k3 n bk c rt e => ?_⟩
  refine SndA.then h2 k1 k2 k3 (fun ds vs F1 H1 env1 fp1 q p1 reps => ?_) (e.expr k2 mem_l)
  split at q
  · rename_i da db
    split at q
    · rename_i hl
      cases q
      obtain ⟨v, w, rfl, r1, r2⟩ := reps2 reps
      refine ⟨v, w, rfl, ?_⟩
      show gName i v σ H1 (fun σ' H' => gName j w σ' H' D.nx)
      refine SndG.val (snd_gName i) p1.ext.fh p1.re r1 (show gSet i (.val da) env1 = some (.ok (), env1.set i (some (.val da))) from if_pos hl.1) fun F2 H2 σ2 fp2 a2 => ?_
      refine SndG.val (snd_gName j) a2.p.ext.fh a2.p.re (Rep.mono a2.p.ext.ff _ _ r2) (show gSet j (.val db) _ = some (.ok (), (env1.set i (some (.val da))).set j (some (.val db))) from if_pos (by rw [List.length_set]; exact hl.2)) fun F3 H3 σ3 fp3 a3 => ?_
      exact n F3 H3 σ3 fp3 rfl ((p1.arr.trans (a2.trans a3)).mono k2 (fun _ h => h) (fun _ h => by simpa using h))
    · cases q
  · cases q
def sPar3 (i j l : Nat) (f : M (List D)) : M Fl := M.bd f fun ds env => match ds with
  | [a, b, c] => if i < env.length ∧ j < env.length ∧ l < env.length then some (.ok .nx, ((env.set i (some (.val a))).set j (some (.val b))).set l (some (.val c))) else none
  | _ => none
theorem reps3 {a b c : D} {vs : List V} (h : Reps X.K X.mg F [a, b, c] vs) : ∃ v w u, vs = [v, w, u] ∧ Rep X.K X.mg F a v ∧ Rep X.K X.mg F b w ∧ Rep X.K X.mg F c u := by
  simp only [Reps] at h
  obtain ⟨v, r, rfl, h1, w, r2, rfl, h2, u, r3, rfl, h3, rfl⟩ := h
  exact ⟨v, w, u, rfl, h1, h2, h3⟩
theorem z_par3 {i j l : Nat} {x y z : Str} {a b c : Expr} {f : M (List D)} {px py pz pt pos : Pos} {kt k2 : Nat} {pt2 : Pos} (hc : X.calm = true) (hN : X.N.Nodup) (hi : X.N[i]? = some x) (hj : X.N[j]? = some y) (hl : X.N[l]? = some z) (hij : i ≠ j) (hil : i ≠ l) (hjl : j ≠ l)
    (hx : X.env.scope.names.lookup x = some .local) (hy : X.env.scope.names.lookup y = some .local) (hz : X.env.scope.names.lookup z = some .local) (ha : PAs X W T [a, b, c] f)
    (hw : swappedStores [.Tuple [.Name x px, .Name y py, .Name z pz] kt pt] (.Tuple [a, b, c] k2 pt2) X.env = pure (some [x, y, z]))
    (hs : swapsWithSole [.Tuple [.Name x px, .Name y py, .Name z pz] kt pt] (.Tuple [a, b, c] k2 pt2) pos.line X.env = pure false := by rfl) :
    PZ X W (T ++ [i, j, l]) [i, j, l] (.Assign [.Tuple [.Name x px, .Name y py, .Name z pz] kt pt] (.Tuple [a, b, c] k2 pt2) pos) (sPar3 i j l f) := by
  obtain ⟨t, ht, h2⟩ := ha.ex
  refine ⟨_, ps_par3 hc hN hi hj hl hij hil hjl hx hy hz ht hw hs, fun F H env σ fp D r env' k1 k2 k3 n bk c rt e => ?_⟩
  refine SndA.then h2 k1 k2 k3 (fun ds vs F1 H1 env1 fp1 q p1 reps => ?_) (e.expr k2 mem_l)
  split at q
  · rename_i da db dc
    split at q
    · rename_i hl
      cases q
      obtain ⟨v, w, u, rfl, r1, r2, r3⟩ := reps3 reps
      refine ⟨v, w, u, rfl, ?_⟩
      show gName i v σ H1 (fun σ' H' => gName j w σ' H' fun σ' H' => gName l u σ' H' D.nx)
      refine SndG.val (snd_gName i) p1.ext.fh p1.re r1 (show gSet i (.val da) env1 = some (.ok (), env1.set i (some (.val da))) from if_pos hl.1) fun F2 H2 σ2 fp2 a2 => ?_
      refine SndG.val (snd_gName j) a2.p.ext.fh a2.p.re (Rep.mono a2.p.ext.ff _ _ r2) (show gSet j (.val db) _ = some (.ok (), (env1.set i (some (.val da))).set j (some (.val db))) from if_pos (by rw [List.length_set]; exact hl.2.1)) fun F3 H3 σ3 fp3 a3 => ?_
      refine SndG.val (snd_gName l) a3.p.ext.fh a3.p.re (Rep.mono a3.p.ext.ff _ _ (Rep.mono a2.p.ext.ff _ _ r3)) (show gSet l (.val dc) _ = some (.ok (), ((env1.set i (some (.val da))).set j (some (.val db))).set l (some (.val dc))) from if_pos (by rw [List.length_set, List.length_set]; exact hl.2.2)) fun F4 H4 σ4 fp4 a4 => ?_
      exact n F4 H4 σ4 fp4 rfl ((p1.arr.trans (a2.trans (a3.trans a4))).mono k2 (fun _ h => h) (fun _ h => by simpa using h))
    · cases q
  · cases q

/-! ### list comprehensions -/
def wipeE (own : List Nat) (env : Env) : Env := env.mapIdx fun j o => if j ∈ own then none else o
def backE (own : List Nat) (env envB : Env) : Env := env.mapIdx fun j o => if j ∈ own then o else (envB[j]?).join
theorem wipeE_get {own : List Nat} {j : Nat} : (wipeE own env)[j]? = (env[j]?).map fun o => if j ∈ own then none else o := by
  unfold wipeE; rw [List.getElem?_mapIdx]
theorem backE_get {own : List Nat} {envB : Env} {j : Nat} : (backE own env envB)[j]? = (env[j]?).map fun o => if j ∈ own then o else (envB[j]?).join := by
  unfold backE; rw [List.getElem?_mapIdx]
theorem wipe_at (σ : St) : ∀ (vs : List Nat) (j : Nat), (wipe σ vs)[j]? = if j ∈ vs then (σ[j]?).map fun _ => none else σ[j]?
  | [], j => by simp [wipe]
  | v :: vs, j => by
    unfold wipe
    rw [List.getElem?_set]
    have ih := wipe_at σ vs j
    have hl := wipe_length σ vs
    by_cases e : v = j
    · subst e
      simp only [if_true, List.mem_cons, true_or]
      by_cases hv : v < (wipe σ vs).length
      · rw [if_pos hv]
        rw [hl] at hv
        rw [List.getElem?_eq_getElem hv]
        rfl
      · rw [if_neg hv]
        rw [hl] at hv
        rw [List.getElem?_eq_none (by omega)]
        rfl
    · rw [if_neg e, ih]
      have : (j ∈ v :: vs) ↔ j ∈ vs := by
        constructor
        · intro h
          rcases List.mem_cons.mp h with z | z
          · exact absurd z.symm e
          · exact z
        · exact List.mem_cons_of_mem _
      simp only [this]
def wipeP (own : List Nat) (fp : Nat → List Addr) : Nat → List Addr := fun j => if j ∈ own then [] else fp j
theorem RE.wipe {K : PySem.W.Frag} {G : Str → Option Value} (r : RE K G F H env σ fp) (own : List Nat) : RE K G F H (wipeE own env) (L2.wipe σ own) (wipeP own fp) := by
  refine ⟨by unfold wipeE; rw [List.length_mapIdx, wipe_length]; exact r.len, fun j o e => ?_, fun j e => ?_, fun i j n a h1 h2 => ?_⟩
  · rw [wipeE_get] at e
    cases q : env[j]? with
    | none => rw [q] at e; cases e
    | some o' =>
      rw [q] at e
      simp only [Option.map_some, Option.some.injEq] at e
      split at e
      · cases e
      · rename_i hj
        subst e
        obtain ⟨v, h1, h2⟩ := r.slot j o q
        refine ⟨v, by rw [wipe_at, if_neg hj]; exact h1, ?_⟩
        unfold wipeP; rw [if_neg hj]; exact h2
  · unfold wipeP
    split
    · rfl
    · rename_i hj
      refine r.emp j fun o z => e o ?_
      rw [wipeE_get, z, Option.map_some, if_neg hj]
  · unfold wipeP at h1 h2
    split at h1
    · simp at h1
    · split at h2
      · simp at h2
      · exact r.dis i j n a h1 h2
/-- back from a comprehension's block: its own names as they were -/
theorem Pst.unwipe {own : List Nat} {env2 : Env} {σ2 : St} {fp2 : Nat → List Addr} (r : RE X.K X.mg F H env σ fp) (p : Pst X.K X.mg T F H (wipeE own env) (wipeP own fp) F2 H2 env2 σ2 fp2) (hσ : ∀ j, j ∉ own → σ2[j]? = σ[j]?) :
    Pst X.K X.mg (T.filter fun t => !own.contains t) F H env fp F2 H2 (backE own env env2) σ (fun j => if j ∈ own then fp j else fp2 j) := by
  have wf : ∀ a, Wf T (wipeP own fp) a → Wf (T.filter fun t => !own.contains t) fp a := fun a ⟨t, h1, h2⟩ => by
    unfold wipeP at h2
    split at h2
    · simp at h2
    · rename_i ht
      exact ⟨t, by simp [List.mem_filter, h1, ht], h2⟩
  have wfn : ∀ j, j ∈ own → ∀ a ∈ fp j, ¬ Wf T (wipeP own fp) a := fun j hj a ha ⟨t, h1, h2⟩ => by
    unfold wipeP at h2
    split at h2
    · simp at h2
    · rename_i ht
      exact r.dis t j (fun z => ht (z ▸ hj)) a h2 ha
  have stay : ∀ j, j ∈ own → ∀ a ∈ fp j, H2 a = H a ∧ F2 a = none := fun j hj a ha => by
    have hn := wfn j hj a ha
    obtain ⟨h1, h2⟩ := r.fpin ha
    constructor
    · cases q : H a with
      | none => exact absurd q h2
      | some o => exact p.ext.keep a o q hn
    · cases q : F2 a with
      | none => rfl
      | some o =>
        rcases p.ext.new a (by rw [q]; simp) with z | z | z
        · exact absurd h1 z
        · exact absurd z hn
        · exact absurd z h2
  have apart : ∀ i j, i ∈ own → j ∉ own → ∀ a, a ∈ fp i → a ∉ fp2 j := fun i j hi hj a h1 h2 => by
    rcases p.come' h2 with z | z | z
    · unfold wipeP at z
      rw [if_neg hj] at z
      exact r.dis i j (fun y => hj (y ▸ hi)) a h1 z
    · exact wfn i hi a h1 z
    · exact (r.fpin h1).2 z
  refine ⟨p.ext.mono wf, ⟨by unfold backE; rw [List.length_mapIdx]; exact r.len, fun j o e => ?_, fun j e => ?_, fun i j n a h1 h2 => ?_⟩, fun j hj => ?_, fun j a ha hj => ?_, by unfold backE; rw [List.length_mapIdx]⟩
  · rw [backE_get] at e
    cases q : env[j]? with
    | none => rw [q] at e; cases e
    | some o' =>
      rw [q] at e
      simp only [Option.map_some, Option.some.injEq] at e
      split at e
      · rename_i hj
        subst e
        obtain ⟨v, h1, h2⟩ := r.slot j o q
        exact ⟨v, h1, by rw [if_pos hj]; exact h2.frame p.ext.ff (stay j hj)⟩
      · rename_i hj
        have e2 : env2[j]? = some (some o) := by
          cases y : env2[j]? with
          | none => rw [y] at e; cases e
          | some z => rw [y] at e; simp at e; rw [e]
        obtain ⟨v, h1, h2⟩ := p.re.slot j o e2
        exact ⟨v, by rw [← hσ j hj]; exact h1, by rw [if_neg hj]; exact h2⟩
  · split
    · rename_i hj
      refine r.emp j fun o z => e o ?_
      rw [backE_get, z, Option.map_some, if_pos hj]
    · rename_i hj
      refine p.re.emp j fun o z => e o ?_
      have : j < env.length := by
        have := p.ln
        unfold wipeE at this
        rw [List.length_mapIdx] at this
        rw [← this]; exact lt_of_get z
      rw [backE_get, List.getElem?_eq_getElem this, Option.map_some, if_neg hj, z]
      rfl
  · split at h1
    · rename_i hi
      split at h2
      · exact r.dis i j n a h1 h2
      · rename_i hj
        exact apart i j hi hj a h1 h2
    · rename_i hi
      split at h2
      · rename_i hj
        exact apart j i hj hi a h2 h1
      · exact p.re.dis i j n a h1 h2
  · constructor
    · rw [backE_get]
      cases q : env[j]? with
      | none => rfl
      | some o' =>
        simp only [Option.map_some]
        split
        · rfl
        · rename_i ho
          have hT : j ∉ T := fun z => hj (by simp [List.mem_filter, z, ho])
          have := (p.same j hT).1
          rw [wipeE_get, q, Option.map_some, if_neg ho] at this
          rw [this]; rfl
    · split
      · rfl
      · rename_i ho
        have hT : j ∉ T := fun z => hj (by simp [List.mem_filter, z, ho])
        rw [(p.same j hT).2]
        unfold wipeP; rw [if_neg ho]
  · split at ha
    · exact .inl ⟨j, hj, ha⟩
    · rcases p.come j a ha (List.mem_filter.mp hj).1 with z | z
      · exact .inl (wf a z)
      · exact .inr z
/-- the turns of a comprehension -/
def lcF (own : List Nat) (g : O → M Unit) (c : M Bool) (e : M O) : List D → Env → Option (List O × Env)
  | [], env => some ([], env)
  | d :: ds, env => match g (.val d) env with
    | some (.ok _, e1) => match c e1 with
      | some (.ok true, e2) => match e e2 with
        | some (.ok o, e3) => (lcF own g c e ds (wipeE own e3)).map fun r => (o :: r.1, r.2)
        | _ => none
      | some (.ok false, e2) => lcF own g c e ds (wipeE own e2)
      | _ => none
    | _ => none
def oLc (own : List Nat) (f : M (List D)) (g : O → M Unit) (c : M Bool) (e : M O) : M O := M.bd f fun items env => if items.length ≤ sizeLine then match lcF own g c e items (wipeE own env) with
    | some (os, envB) => some (.ok (.lst os), backE own env envB)
    | none => none
  else none

/-! ### readings that hang on the plain part alone -/
section
variable (K : PySem.W.Frag) (G : Str → Option Value) (W : WX) (T : List Nat)
abbrev ErrC (F H : Hp) (env : Env) (σ : St) (fp : Nat → List Addr) (α : Type) (r : Except Ex α) (env' : Env) : Prop :=
  ∀ x F' H' fp' cls d, r = .error x → Pst K G T F H env fp F' H' env' σ fp' → ExR K G F' H' x cls d → W cls d σ H'
def canO (f : M O) : TE := fun σ H Q => ∃ (F : Hp) (env : Env) (fp : Nat → List Addr) (r : Except Ex O) (env' : Env), Same F H ∧ RE K G F H env σ fp ∧ f env = some (r, env') ∧
  (∀ o v F' H' fp' fr, r = .ok o → Pst K G T F H env fp F' H' env' σ fp' → RO K G F' H' o v fr → (∀ j a, a ∈ fr → a ∉ fp' j) → (∀ a ∈ fr, Wf T fp a ∨ H a = none) → Q v H') ∧ ErrC K G W T F H env σ fp O r env'
def canV (f : M D) : TE := fun σ H Q => ∃ (F : Hp) (env : Env) (fp : Nat → List Addr) (r : Except Ex D) (env' : Env), Same F H ∧ RE K G F H env σ fp ∧ f env = some (r, env') ∧
  (∀ d v F' H' fp', r = .ok d → Pst K G T F H env fp F' H' env' σ fp' → Rep K G F' d v → Q v H') ∧ ErrC K G W T F H env σ fp D r env'
def canB (f : M Bool) : TT := fun σ H Q => ∃ (F : Hp) (env : Env) (fp : Nat → List Addr) (r : Except Ex Bool) (env' : Env), Same F H ∧ RE K G F H env σ fp ∧ f env = some (r, env') ∧
  (∀ b F' H' fp', r = .ok b → Pst K G T F H env fp F' H' env' σ fp' → Q b H') ∧ ErrC K G W T F H env σ fp Bool r env'
def canG (f : O → M Unit) : TG := fun v σ H Q => ∃ (F : Hp) (env : Env) (fp : Nat → List Addr) (o : O) (fr : List Addr) (env' : Env), Same F H ∧ RE K G F H env σ fp ∧ RO K G F H o v fr ∧ (∀ j a, a ∈ fr → a ∉ fp j) ∧ f o env = some (.ok (), env') ∧
  (∀ F' H' σ' fp', Ext F H (fun a => Wf T fp a ∨ a ∈ fr) F' H' → RE K G F' H' env' σ' fp' → (∀ j, j ∉ T → env'[j]? = env[j]? ∧ fp' j = fp j ∧ σ'[j]? = σ[j]?) → (∀ j a, a ∈ fp' j → j ∈ T → Wf T fp a ∨ a ∈ fr ∨ H a = none) → env'.length = env.length → Q σ' H')
end
theorem PO.can {e : Expr} {f : M O} (h : PO X W T e f) : PE X e (canO X.K X.mg W T f) := by
  obtain ⟨t, ht, hs⟩ := h.ex
  exact ⟨fun pins s σ H Q I ⟨F, env, fp, r, env', h1, h2, h3, h4, h5⟩ => ht.run pins s σ H Q I (hs F H env σ fp Q r env' h1 h2 h3 h4 h5)⟩
theorem PV.can {e : Expr} {f : M D} (h : PV X W T e f) : PE X e (canV X.K X.mg W T f) := by
  obtain ⟨t, ht, hs⟩ := h.ex
  exact ⟨fun pins s σ H Q I ⟨F, env, fp, r, env', h1, h2, h3, h4, h5⟩ => ht.run pins s σ H Q I (hs F H env σ fp Q r env' h1 h2 h3 h4 h5)⟩
theorem PGt.can {e : Expr} {f : O → M Unit} (h : PGt X T e f) : PG X e (canG X.K X.mg T f) := by
  obtain ⟨t, ht, hs⟩ := h.ex
  exact ⟨fun pins s σ H v u Q I rv ⟨F, env, fp, o, fr, env', h1, h2, h3, h4, h5, h6⟩ => ht.run pins s σ H v u Q I rv (hs F H env σ fp o v fr Q env' h1 h2 h3 h4 h5 h6)⟩
/-- a clause's tests -/
structure PBs (X : Cx) (W : WX) (T : List Nat) (ifs : List Expr) (f : M Bool) : Prop where
  ex : ∃ t, PTs X ifs t ∧ SndB X W T t f
theorem PBs.can {es : List Expr} {f : M Bool} (h : PBs X W T es f) : PTs X es (canB X.K X.mg W T f) := by
  obtain ⟨t, ht, hs⟩ := h.ex
  exact ⟨fun pins s σ H Q I ⟨F, env, fp, r, env', h1, h2, h3, h4, h5⟩ => ht.run pins s σ H Q I (hs F H env σ fp Q r env' h1 h2 h3 h4 h5)⟩
theorem pbs_nil : PBs X W [] [] (M.ret true) := ⟨_, pts_nil, fun F H env σ fp Q r env' k1 k2 k3 k ke => by
  obtain ⟨rfl, rfl⟩ := M.ret_some k3
  exact k true F H fp rfl (.refl k1 k2)⟩
theorem pbs_one {c : Expr} {f : M Bool} (h : PB X W T c f) : PBs X W T [c] f := let ⟨t, ht, hs⟩ := h.ex; ⟨t, pts_one ht, hs⟩
/-- nothing is let out of a comprehension -/
abbrev W0 : WX := fun _ _ _ _ => False
theorem snd_lc {wi : TI} {fi : M (List D)} {g : O → M Unit} {c : M Bool} {e : M O} {own : List Nat} (hi : SndI X W T1 S wi fi) (hgl : ∀ o env x env', g o env ≠ some (.error x, env')) (hown : ∀ t ∈ T, t ∈ own) (hS : ∀ i ∈ S, i ∉ own ∧ i ∉ T2 ++ T3) :
    SndO X W (T1 ++ ((T ++ (T2 ++ T3)).filter fun t => !own.contains t)) (tLc wi (canG X.K X.mg T g) (canB X.K X.mg W0 T2 c) (canO X.K X.mg W0 T3 e) own) (oLc own fi g c e) := by
  intro F0 H0 env0 σ fp0 Q r env' k1 k2 k3 k ke
  refine SndI.then hi k1 k2 k3 (fun items J F H env fp pin q p0 wk pn => ?_) (ke.left k2)
  split at q
  · rename_i hlen
    split at q
    · rename_i os envB hlc
      cases q
      intro D nD
      have ke1 := p0.ext.fh
      have re0 := p0.re
      -- the block's own beginning
      have exD := Ext.allocO (o := .lst []) ke1 nD
      have reW := re0.wipe own
      have nF : F D = none := by
        cases z : F D with
        | none => rfl
        | some u => rw [ke1 D u z] at nD; cases nD
      refine ⟨fun i m H2 => m = items.length - i ∧ i ≤ items.length ∧ ∃ F2 env2 fp2 vs as fA, Pst X.K X.mg (T ++ (T2 ++ T3)) F H (wipeE own env) (wipeP own fp) F2 H2 env2 (L2.wipe σ own) fp2 ∧
        H2 D = some (.lst vs) ∧ F2 D = none ∧ ROs X.K X.mg F2 H2 as vs fA ∧ D ∉ fA ∧ (∀ j a, a ∈ fA → a ∉ fp2 j) ∧ (∀ a ∈ fA, Wf (T ++ (T2 ++ T3)) (wipeP own fp) a ∨ H a = none) ∧ (∀ j, D ∉ fp2 j) ∧ as.length ≤ i ∧
        ∃ rest, lcF own g c e (items.drop i) env2 = some (rest, envB) ∧ as ++ rest = os, ⟨items.length, rfl, Nat.zero_le _, F, wipeE own env, wipeP own fp, [], [], [], (Pst.of_ext reW exD).mono mem_nil reW, upd_same, nF, by simp [ROs], by simp, by simp, by simp, fun j z => ?_, Nat.zero_le _, os, hlc, rfl⟩, ?_⟩
      · unfold wipeP at z
        split at z
        · simp at z
        · exact (re0.fpin z).2 nD
      rintro i m H2 ⟨rfl, hil, F2, env2, fp2, vs, as, fA, pp, hD, hFD, ros, hDA, hdA, hcA, hDp, hal, rest, hrest, hos⟩
      have hpin : ∀ a ∈ pin, H2 a = H a := fun a ha => by
        obtain ⟨s, hs1, hs2⟩ := pn a ha
        obtain ⟨g1, g2⟩ := hS s hs1
        have hsT : s ∉ T ++ (T2 ++ T3) := fun z => by
          rcases List.mem_append.mp z with z | z
          · exact g1 (hown s z)
          · exact g2 z
        have hin : a ∈ wipeP own fp s := by unfold wipeP; rw [if_neg g1]; exact hs2
        exact pp.pinned reW hsT hin
      obtain ⟨w1, w2⟩ := wk i F2 H2 pp.ext.ff pp.ext.fh hpin
      by_cases hlt : i < items.length
      · obtain ⟨go, yld⟩ := w1 hlt
        refine .inr ⟨go, fun H3 => ∃ F3 env3 fp3 vs as fA, Pst X.K X.mg (T ++ (T2 ++ T3)) F H (wipeE own env) (wipeP own fp) F3 H3 env3 (L2.wipe σ own) fp3 ∧
          H3 D = some (.lst vs) ∧ F3 D = none ∧ ROs X.K X.mg F3 H3 as vs fA ∧ D ∉ fA ∧ (∀ j a, a ∈ fA → a ∉ fp3 j) ∧ (∀ a ∈ fA, Wf (T ++ (T2 ++ T3)) (wipeP own fp) a ∨ H a = none) ∧ (∀ j, D ∉ fp3 j) ∧ as.length ≤ i + 1 ∧
          ∃ rest, lcF own g c e (items.drop (i + 1)) env3 = some (rest, envB) ∧ as ++ rest = os, fun H3 n3 => ⟨items.length - (i + 1), by omega, rfl, hlt, n3⟩, fun x H3 hy => ?_⟩
        obtain ⟨d, F3, hd, ex3, rep⟩ := yld x H3 hy
        have hdrop : items.drop i = d :: items.drop (i + 1) := by
          rw [List.drop_eq_getElem_cons hlt]
          rw [List.getElem?_eq_getElem hlt] at hd
          cases hd
          rfl
        rw [hdrop] at hrest
        unfold lcF at hrest
        have p3 : Pst X.K X.mg (T ++ (T2 ++ T3)) F H (wipeE own env) (wipeP own fp) F3 H3 env2 (L2.wipe σ own) fp2 := by
          have := pp.trans (Pst.of_ext pp.re ex3)
          rw [List.append_nil] at this
          exact this
        -- what was gathered so far stays
        have keepA : ∀ {F4 H4 env4 σ4 fp4 T4}, Pst X.K X.mg T4 F2 H2 env2 fp2 F4 H4 env4 σ4 fp4 → H4 D = some (.lst vs) ∧ F4 D = none ∧ ROs X.K X.mg F4 H4 as vs fA ∧ (∀ j a, a ∈ fA → a ∉ fp4 j) ∧ ∀ j, D ∉ fp4 j := fun {F4 H4 env4 σ4 fp4 T4} q => by
          have hD' : RO X.K X.mg F2 H2 (.lst as) (.ref D) (D :: fA) ∨ True := .inr trivial
          have fr : ∀ a ∈ fA, H4 a = H2 a ∧ F4 a = none := fun a ha => by
            obtain ⟨g1, g2⟩ := ros.fp a ha
            have hn : ¬ Wf T4 fp2 a := fun ⟨t, _, z⟩ => hdA t a ha z
            constructor
            · cases z : H2 a with
              | none => exact absurd z g2
              | some o => exact q.ext.keep a o z hn
            · cases z : F4 a with
              | none => rfl
              | some o =>
                rcases q.ext.new a (by rw [z]; simp) with y | y | y
                · exact absurd g1 y
                · exact absurd y hn
                · exact absurd y g2
          have hnD : ¬ Wf T4 fp2 D := fun ⟨t, _, z⟩ => hDp t z
          refine ⟨q.ext.keep D _ hD hnD, ?_, ros.frame q.ext.ff fr, q.apart hdA fun a ha => (ros.fp a ha).2, fun j => q.apart (fr := [D]) (fun j a ha => by
            have e : a = D := by simpa using ha
            subst e; exact hDp j) (fun a ha => by
            have e : a = D := by simpa using ha
            subst e; rw [hD]; simp) j D (by simp)⟩
          cases z : F4 D with
          | none => rfl
          | some o =>
            rcases q.ext.new D (by rw [z]; simp) with y | y | y
            · exact absurd hFD y
            · exact absurd y hnD
            · rw [hD] at y; cases y
        have q3 : Pst X.K X.mg [] F2 H2 env2 fp2 F3 H3 env2 (L2.wipe σ own) fp2 := Pst.of_ext pp.re ex3
        split at hrest
        · rename_i e1 hg1
          -- the target
          refine ⟨F3, env2, fp2, .val d, [], e1, p3.ext.fh, p3.re, .val rep, fun _ _ z => by simp at z, hg1, fun F4 H4 σ4 fp4 ex4 re4 sm4 cm4 ln4 => ?_⟩
          have q4 : Pst X.K X.mg T F3 H3 env2 fp2 F4 H4 e1 σ4 fp4 := ⟨ex4.mono fun a w => w.elim id fun z => by simp at z, re4, fun j hj => ⟨(sm4 j hj).1, (sm4 j hj).2.1⟩, fun j a ha hj => (cm4 j a ha hj).imp_right fun z => z.elim (fun z => by simp at z) id, ln4⟩
          have hσ4 : ∀ j, j ∉ own → σ4[j]? = (L2.wipe σ own)[j]? := fun j hj => (sm4 j fun z => hj (hown j z)).2.2
          have hwσ : L2.wipe σ4 own = L2.wipe σ own := by
            apply List.ext_getElem?
            intro j
            rw [wipe_at, wipe_at]
            by_cases hj : j ∈ own
            · rw [if_pos hj, if_pos hj]
              have l1 : σ4.length = σ.length := by
                rw [← re4.len, ln4, pp.re.len, wipe_length]
              cases a4 : σ4[j]? with
              | none =>
                cases a : σ[j]? with
                | none => rfl
                | some v => exact absurd (lt_of_get a) (by rw [List.getElem?_eq_none_iff] at a4; omega)
              | some v =>
                cases a : σ[j]? with
                | none => exact absurd (lt_of_get a4) (by rw [List.getElem?_eq_none_iff] at a; omega)
                | some v => rfl
            · rw [if_neg hj, if_neg hj, hσ4 j hj, wipe_at, if_neg hj]
          refine ⟨hwσ, ?_⟩
          -- from the turn's end to the next turn's beginning
          have next : ∀ {F5 H5 e5 fp5} {T5 : List Nat}, (∀ t, t ∈ T5 → t ∈ T ++ (T2 ++ T3)) → Pst X.K X.mg T5 F2 H2 env2 fp2 F5 H5 e5 σ4 fp5 →
              Pst X.K X.mg (T ++ (T2 ++ T3)) F H (wipeE own env) (wipeP own fp) F5 H5 (wipeE own e5) (L2.wipe σ own) (wipeP own fp5) := fun {F5 H5 e5 fp5 T5} hT5 q => by
            have b := (pp.trans (q.mono hT5 pp.re)).mono app_idem reW
            have rw1 := b.re.wipe own
            rw [hwσ] at rw1
            refine ⟨b.ext, rw1, fun j hj => ?_, fun j a ha hj => ?_, ?_⟩
            · obtain ⟨e1, e2⟩ := b.same j hj
              constructor
              · rw [wipeE_get, e1, wipeE_get]
                cases env[j]? with
                | none => rfl
                | some o => by_cases z : j ∈ own <;> simp [z]
              · unfold wipeP
                split
                · rfl
                · rename_i z
                  rw [e2]; unfold wipeP; rw [if_neg z]
            · unfold wipeP at ha
              split at ha
              · simp at ha
              · exact b.come j a ha hj
            · unfold wipeE; rw [List.length_mapIdx, b.ln]; unfold wipeE; rw [List.length_mapIdx]
          have q24 : Pst X.K X.mg ([] ++ T) F2 H2 env2 fp2 F4 H4 e1 σ4 fp4 := q3.trans q4
          split at hrest
          · -- the test holds
            rename_i e2 hc1
            refine ⟨F4, e1, fp4, .ok true, e2, q4.ext.fh, q4.re, hc1, fun b F5 H5 fp5 eb q5 => ?_, fun x _ _ _ _ _ ex => by cases ex⟩
            cases eb
            simp only [if_true]
            have q25 := q24.trans q5
            split at hrest
            · rename_i o e3 he1
              refine ⟨F5, e2, fp5, .ok o, e3, q5.ext.fh, q5.re, he1, fun o' v F6 H6 fp6 fr eo q6 ro hdr hwr => ?_, fun x _ _ _ _ _ ex => by cases ex⟩
              cases eo
              have q26 := q25.trans q6
              obtain ⟨g1, g2, g3, g4, g5⟩ := keepA q26
              cases hr : lcF own g c e (items.drop (i + 1)) (wipeE own e3) with
              | none => rw [hr] at hrest; cases hrest
              | some rr =>
                obtain ⟨rest', eB⟩ := rr
                rw [hr] at hrest
                simp only [Option.map_some, Option.some.injEq, Prod.mk.injEq] at hrest
                obtain ⟨rfl, rfl⟩ := hrest
                have hT6 : ∀ t, t ∈ (([] ++ T) ++ T2) ++ T3 → t ∈ T ++ (T2 ++ T3) := fun t h => by simpa [or_assoc] using h
                have n6 := next hT6 q26
                have hfrD : D ∉ fr := fun z => by
                  rcases hwr D z with ⟨t, _, y⟩ | y
                  · exact q5.apart (fr := [D]) (fun j a ha => by
                      have e : a = D := by simpa using ha
                      subst e; exact (keepA q24).2.2.2.2 j) (fun a ha => by
                      have e : a = D := by simpa using ha
                      subst e; rw [(keepA q24).1]; simp) t D (by simp) y
                  · rw [(keepA q25).1] at y; cases y
                have hfA : ∀ a ∈ fr, a ∉ fA := fun a ha z => by
                  rcases hwr a ha with ⟨t, _, y⟩ | y
                  · exact (keepA q25).2.2.2.1 t a z y
                  · exact ((keepA q25).2.2.1.fp a z).2 y
                have frA : ∀ a ∈ fA, (upd H6 D (.lst (vs ++ [v]))) a = H6 a ∧ F6 a = none := fun a ha => ⟨upd_ne (fun z => hDA (by rw [← z]; exact ha)), (g3.fp a ha).1⟩
                have frR : ∀ a ∈ fr, (upd H6 D (.lst (vs ++ [v]))) a = H6 a ∧ F6 a = none := fun a ha => ⟨upd_ne (fun z => hfrD (by rw [← z]; exact ha)), (ro.fp a ha).1⟩
                refine ⟨vs, g1, by rw [g3.length]; omega, F6, wipeE own e3, wipeP own fp6, vs ++ [v], as ++ [o], fA ++ fr, ?_, upd_same, g2, ROs.snoc (g3.frame Same.refl frA) (ro.frame Same.refl frR) hfA, fun z => (List.mem_append.mp z).elim hDA hfrD, fun j a ha => ?_, fun a ha => ?_, fun j z => ?_, ?_, rest', hr, by rw [List.append_assoc]; exact hos⟩
                · -- only D is written
                  have exw : Ext F6 H6 (fun a => a = D) F6 (upd H6 D (.lst (vs ++ [v]))) := by
                    refine ⟨Same.refl, fun a u ea => ?_, fun a u ea hn => ?_, fun a ea => .inl ea, fun a ea => ?_⟩
                    · rw [upd_ne (fun z => by subst z; rw [g2] at ea; cases ea)]
                      exact q26.ext.fh a u ea
                    · rw [upd_ne hn]; exact ea
                    · by_cases z : a = D
                      · subst z; rw [upd_same]; simp
                      · rw [upd_ne z]; exact ea
                  refine ⟨⟨n6.ext.ff, exw.fh, fun a u ea hn => ?_, n6.ext.new, fun a ea => exw.dom a (n6.ext.dom a ea)⟩, ⟨n6.re.len, fun j o2 ej => ?_, n6.re.emp, n6.re.dis⟩, n6.same, n6.come, n6.ln⟩
                  · rw [upd_ne (fun z => by subst z; rw [nD] at ea; cases ea)]
                    exact n6.ext.keep a u ea hn
                  · obtain ⟨w, y1, y2⟩ := n6.re.slot j o2 ej
                    refine ⟨w, y1, y2.frame Same.refl fun a ha => ⟨upd_ne (fun z => ?_), (y2.fp a ha).1⟩⟩
                    unfold wipeP at ha
                    split at ha
                    · simp at ha
                    · exact g5 j (by rw [← z]; exact ha)
                · unfold wipeP
                  split
                  · simp
                  · rcases List.mem_append.mp ha with z | z
                    · exact g4 j a z
                    · exact hdr j a z
                · rcases List.mem_append.mp ha with z | z
                  · exact hcA a z
                  · have z2 := Wf.none (T2 := T3) (pp.trans q25) (hwr a z)
                    exact z2.imp_left fun w => w.mono fun t h => by
                      simp only [List.nil_append, List.mem_append] at h ⊢
                      rcases h with (h | h | h) | h
                      · exact h
                      · exact .inl h
                      · exact .inr (.inl h)
                      · exact .inr (.inr h)
                · unfold wipeP at z
                  split at z
                  · simp at z
                  · exact g5 j z
                · rw [List.length_append]; simp; exact hal
            · cases hrest
          · -- the test fails
            rename_i e2 hc1
            refine ⟨F4, e1, fp4, .ok false, e2, q4.ext.fh, q4.re, hc1, fun b F5 H5 fp5 eb q5 => ?_, fun x _ _ _ _ _ ex => by cases ex⟩
            cases eb
            simp only [Bool.false_eq_true, if_false]
            have q25 := q24.trans q5
            obtain ⟨g1, g2, g3, g4, g5⟩ := keepA q25
            have n5 := next (T5 := ([] ++ T) ++ T2) (fun t h => by
              simp only [List.nil_append, List.mem_append] at h ⊢
              rcases h with h | h <;> simp [h]) q25
            refine ⟨F5, wipeE own e2, wipeP own fp5, vs, as, fA, n5, g1, g2, g3, hDA, fun j a ha => ?_, hcA, fun j z => ?_, by omega, rest, hrest, hos⟩
            · unfold wipeP
              split
              · simp
              · exact g4 j a ha
            · unfold wipeP at z
              split at z
              · simp at z
              · exact g5 j z
          · cases hrest
        · cases hrest
      · have e1 : i = items.length := by omega
        subst e1
        rw [List.drop_length] at hrest
        cases hrest
        rw [List.append_nil] at hos
        subst hos
        refine .inl ⟨w2 (Nat.le_refl _), ?_⟩
        have u := Pst.unwipe re0 pp (fun j hj => by rw [wipe_at, if_neg hj])
        have pf := p0.trans u
        refine k (.lst as) _ F2 H2 _ (D :: fA) rfl pf ?_ (fun j a ha => ?_) (fun a ha => ?_)
        · rw [RO]
          exact ⟨D, vs, fA, rfl, hD, hFD, by omega, ros, hDA, rfl⟩
        · have hD0 : ∀ j, D ∉ fp j := fun j z => (re0.fpin z).2 nD
          split
          · rename_i hj
            rcases List.mem_cons.mp ha with z | z
            · subst z; exact hD0 j
            · intro y
              rcases hcA a z with ⟨t, _, w⟩ | w
              · unfold wipeP at w
                split at w
                · simp at w
                · rename_i ht
                  exact re0.dis t j (fun x => ht (x ▸ hj)) a w y
              · exact (re0.fpin y).2 w
          · rcases List.mem_cons.mp ha with z | z
            · subst z; exact hDp j
            · exact hdA j a z
        · rcases List.mem_cons.mp ha with z | z
          · subst z; exact .inr (dom_none p0 nD)
          · rcases hcA a z with ⟨t, ht, w⟩ | w
            · unfold wipeP at w
              split at w
              · simp at w
              · rename_i hto
                exact p0.wf (T2 := (T ++ (T2 ++ T3)).filter fun t => !own.contains t) ⟨t, List.mem_filter.mpr ⟨ht, by simp [hto]⟩, w⟩
            · exact .inr (dom_none p0 w)
    · cases q
  · cases q
theorem po_lc {elt tg iter : Expr} {ifs : List Expr} {scope : Scope} {own : List (Str × Nat)} {pos : Pos} {fi : M (List D)} {g : O → M Unit} {c : M Bool} {e : M O} (hc : X.calm = true) (hN : X.N.Nodup) (hi : PIt X W T1 S tg iter fi) (ok : BlkOk X.N X.env.scope scope own)
    (hg : ∀ (s : Shared) (H : Hp) (C : Addr) (cl : List (Str × Addr)) (fp : List Addr), PGt (X.blk s H scope (compEnvC scope cl C X.env) fp) T tg g)
    (ht : ∀ (s : Shared) (H : Hp) (C : Addr) (cl : List (Str × Addr)) (fp : List Addr), PBs (X.blk s H scope (compEnvC scope cl C X.env) fp) W0 T2 ifs c)
    (he : ∀ (s : Shared) (H : Hp) (C : Addr) (cl : List (Str × Addr)) (fp : List Addr), PO (X.blk s H scope (compEnvC scope cl C X.env) fp) W0 T3 elt e)
    (hgl : ∀ o env x env', g o env ≠ some (.error x, env')) (hs : ∀ x, foldedSetIterable iter X.env x = pure x := by intro _; rfl)
    (hown : ∀ t ∈ T, t ∈ own.map (·.2) := by decide) (hS : ∀ i ∈ S, i ∉ own.map (·.2) ∧ i ∉ T2 ++ T3 := by decide) :
    PO X W (T1 ++ ((T ++ (T2 ++ T3)).filter fun t => !(own.map (·.2)).contains t)) (.ListComp elt [⟨tg, iter, ifs, 0⟩] scope pos) (oLc (own.map (·.2)) fi g c e) := by
  obtain ⟨wi, hi1, hi2⟩ := hi.ex
  exact ⟨_, pe_lc hc hN hi1 ok (fun s H C cl fp => (hg s H C cl fp).can) (fun s H C cl fp => (ht s H C cl fp).can) (fun s H C cl fp => (he s H C cl fp).can) hs, snd_lc hi2 hgl hown hS⟩
/-- name = [..] on one line, the name a local -/
theorem z_setLc {i : Nat} {y : Str} {py : Pos} {elt tg iter : Expr} {ifs : List Expr} {scope : Scope} {own : List (Str × Nat)} {pos spos : Pos} {fi : M (List D)} {g : O → M Unit} {c : M Bool} {e : M O} (hc : X.calm = true) (hN : X.N.Nodup) (hy : X.N[i]? = some y) (hyl : X.env.scope.names.lookup y = some .local)
    (hsw : swapsWith (.ListComp elt [⟨tg, iter, ifs, 0⟩] scope pos) (some (.Name y py)) spos.line X.env = pure true) (hi : PIt X W T1 S tg iter fi) (ok : BlkOk X.N X.env.scope scope own)
    (hg : ∀ (s : Shared) (H : Hp) (C : Addr) (cl : List (Str × Addr)) (fp : List Addr), PGt (X.blk s H scope (compEnvC scope cl C X.env) fp) T tg g)
    (ht : ∀ (s : Shared) (H : Hp) (C : Addr) (cl : List (Str × Addr)) (fp : List Addr), PBs (X.blk s H scope (compEnvC scope cl C X.env) fp) W0 T2 ifs c)
    (he : ∀ (s : Shared) (H : Hp) (C : Addr) (cl : List (Str × Addr)) (fp : List Addr), PO (X.blk s H scope (compEnvC scope cl C X.env) fp) W0 T3 elt e)
    (hgl : ∀ o env x env', g o env ≠ some (.error x, env')) (hs : ∀ x, foldedSetIterable iter X.env x = pure x := by intro _; rfl)
    (hown : ∀ t ∈ T, t ∈ own.map (·.2) := by decide) (hS : ∀ i ∈ S, i ∉ own.map (·.2) ∧ i ∉ T2 ++ T3 := by decide) :
    PZ X W ((T1 ++ ((T ++ (T2 ++ T3)).filter fun t => !(own.map (·.2)).contains t)) ++ [i]) [i] (.Assign [.Name y py] (.ListComp elt [⟨tg, iter, ifs, 0⟩] scope pos) spos) (sSet (oLc (own.map (·.2)) fi g c e) (gSet i)) := by
  obtain ⟨wi, hi1, hi2⟩ := hi.ex
  exact ⟨_, ps_setLc hc hN hy hyl hsw hi1 ok (fun s H C cl fp => (hg s H C cl fp).can) (fun s H C cl fp => (ht s H C cl fp).can) (fun s H C cl fp => (he s H C cl fp).can) hs,
    snd_asg (snd_lc hi2 hgl hown hS) (snd_gName i) (fun o env x env' h => by unfold gSet at h; split at h <;> cases h)⟩

/-! ### zip, enumerate -/
def iZip (f : M (List D)) : M (List D) := M.bd f fun ds => M.lift (match ds with
  | [.lst a, .lst b] => some ((a.zip b).map fun p => .tup [p.1, p.2])
  | [.tup a, .tup b] => some ((a.zip b).map fun p => .tup [p.1, p.2])
  | _ => none)
theorem it_zip {elts : List Expr} {kk : Nat} {tpos p pos : Pos} {a b : Expr} {f : M (List D)} (hg : Gl X "zip") (hm : X.mg "zip" = none) (h : PAs X W T [a, b] f)
    (hs : starEach [a, b] X.env = (false, eval a X.env) :: starEach [b] X.env := by rfl) (hpl : (backTo pos (starEach [b] X.env)).any (·.1) = false := by rfl) :
    PIt X W T [] (.Tuple elts kk tpos) (.Call (.Name "zip" p) [a, b] [] pos) (iZip f) := by
  obtain ⟨t, ht, h2⟩ := h.ex
  refine ⟨_, RZ.pi_zipA hg hm ht hs hpl, fun F H env σ fp R r env' k1 k2 k3 k ke => ?_⟩
  refine SndA.then h2 k1 k2 k3 (fun ds vs F1 H1 env1 fp1 q p reps => ?_) ke
  obtain ⟨items, e, rfl, rfl⟩ := M.lift_some q
  have z2 : ∀ {xs ys : List D} {us ws : List V} {i : Nat}, Reps X.K X.mg F1 xs us → Reps X.K X.mg F1 ys ws → i < ((xs.zip ys).map fun p => D.tup [p.1, p.2]).length → ∃ d e v w, xs[i]? = some d ∧ ys[i]? = some e ∧ us[i]? = some v ∧ ws[i]? = some w ∧ Rep X.K X.mg F1 d v ∧ Rep X.K X.mg F1 e w ∧ ((xs.zip ys).map fun p => D.tup [p.1, p.2])[i]? = some (.tup [d, e]) := fun {xs ys us ws i} r1 r2 hi => by
    rw [List.length_map, List.length_zip] at hi
    have h1 : i < xs.length := by omega
    have h2 : i < ys.length := by omega
    obtain ⟨v, e1, e2⟩ := r1.get (List.getElem?_eq_getElem h1)
    obtain ⟨w, e3, e4⟩ := r2.get (List.getElem?_eq_getElem h2)
    refine ⟨_, _, v, w, List.getElem?_eq_getElem h1, List.getElem?_eq_getElem h2, e1, e3, e2, e4, ?_⟩
    rw [List.getElem?_map, List.getElem?_eq_getElem (by rw [List.length_zip]; omega), List.getElem_zip]
    rfl
  split at e
  · rename_i xs ys
    cases e
    obtain ⟨v, w, rfl, r1, r2⟩ := reps2 reps
    simp only [Rep] at r1 r2
    obtain ⟨a, us, rfl, a1, a2, a3⟩ := r1
    obtain ⟨b, ws, rfl, b1, b2, b3⟩ := r2
    refine ⟨a, b, us, ws, rfl, .inl ⟨.of (p.ext.fh _ _ a1), .of (p.ext.fh _ _ b1), k _ _ F1 H1 fp1 [] rfl p (fun i F2 H2 s1 s2 _ => ?_) (fun a z => by simp at z)⟩⟩
    have h1 : SqL X.K H2 a us := .of (s2 _ _ (s1 _ _ a1))
    have h2 : SqL X.K H2 b ws := .of (s2 _ _ (s1 _ _ b1))
    refine ⟨fun hi => ?_, fun hi => ⟨us, ws, h1, h2, ?_⟩⟩
    · obtain ⟨d, e, v, w, g1, g2, g3, g4, g5, g6, g7⟩ := z2 a3 b3 hi
      refine ⟨⟨us, ws, v, w, h1, h2, g3, g4⟩, fun x H3 hy => ?_⟩
      obtain ⟨t, x1, y1, rfl, nt, rfl, f1, f2⟩ := hy
      have ex1 : x1 = v := Option.some.inj ((f1 us h1).symm.trans g3)
      have ey1 : y1 = w := Option.some.inj ((f2 ws h2).symm.trans g4)
      subst ex1 ey1
      have ex := Ext.alloc (o := .tup [x1, y1]) s2 nt
      exact ⟨_, _, g7, ex, rep_tup upd_same (by show 2 ≤ sizeLine; decide) (Reps.mono ex.ff _ _ (Reps.mono s1 _ _ (.cons g5 (.single g6))))⟩
    · rw [List.length_map, List.length_zip] at hi
      rw [a3.length, b3.length]
      omega
  · rename_i xs ys
    cases e
    obtain ⟨v, w, rfl, r1, r2⟩ := reps2 reps
    simp only [Rep] at r1 r2
    obtain ⟨a, us, rfl, a1, a2, a3⟩ := r1
    obtain ⟨b, ws, rfl, b1, b2, b3⟩ := r2
    refine ⟨a, b, us, ws, rfl, .inr ⟨sqT p.ext.fh a1, sqT p.ext.fh b1, k _ _ F1 H1 fp1 [] rfl p (fun i F2 H2 s1 s2 _ => ?_) (fun a z => by simp at z)⟩⟩
    have h1 : SqT X.K H2 a us := sqT s2 (sameT s1 a1)
    have h2 : SqT X.K H2 b ws := sqT s2 (sameT s1 b1)
    refine ⟨fun hi => ?_, fun hi => ⟨us, ws, h1, h2, ?_⟩⟩
    · obtain ⟨d, e, v, w, g1, g2, g3, g4, g5, g6, g7⟩ := z2 a3 b3 hi
      refine ⟨⟨us, ws, v, w, h1, h2, g3, g4⟩, fun x H3 hy => ?_⟩
      obtain ⟨t, x1, y1, rfl, nt, rfl, f1, f2⟩ := hy
      have ex1 : x1 = v := Option.some.inj ((f1 us h1).symm.trans g3)
      have ey1 : y1 = w := Option.some.inj ((f2 ws h2).symm.trans g4)
      subst ex1 ey1
      have ex := Ext.alloc (o := .tup [x1, y1]) s2 nt
      exact ⟨_, _, g7, ex, rep_tup upd_same (by show 2 ≤ sizeLine; decide) (Reps.mono ex.ff _ _ (Reps.mono s1 _ _ (.cons g5 (.single g6))))⟩
    · rw [List.length_map, List.length_zip] at hi
      rw [a3.length, b3.length]
      omega
  · cases e
end
end PL
/-! PL12: lists of what is held alone; + and slices of any kind; defs by name; the law's end. -/
namespace PL
open PySem L2
section
variable {X : Cx} {W : WX} {T T1 T2 T3 A S : List Nat} {F H F' H' F1 H1 F2 H2 : Hp} {env env' : Env} {σ : St} {fp fp' : Nat → List Addr}

/-! ### [a, b, ..] of what is held alone -/
def SndAo (X : Cx) (W : WX) (T : List Nat) (t : TA) (f : M (List O)) : Prop :=
  ∀ (F H : Hp) (env : Env) (σ : St) (fp : Nat → List Addr) (Q : List V → Hp → Prop) (r : Except Ex (List O)) (env' : Env), Same F H → RE X.K X.mg F H env σ fp → f env = some (r, env') →
    (∀ os vs F' H' fp' fr, r = .ok os → Pst X.K X.mg T F H env fp F' H' env' σ fp' → ROs X.K X.mg F' H' os vs fr → (∀ j a, a ∈ fr → a ∉ fp' j) → (∀ a ∈ fr, Wf T fp a ∨ H a = none) → Q vs H') →
    ErrK X W T F H env σ fp (List O) r env' → t σ H Q
structure PAo (X : Cx) (W : WX) (T : List Nat) (es : List Expr) (f : M (List O)) : Prop where
  ex : ∃ t, PA X es t ∧ SndAo X W T t f
theorem SndAo.then {β : Type} {t : TA} {f : M (List O)} (hs : SndAo X W T1 t f) {g : List O → M β} {r : Except Ex β} {R : List V → Hp → Prop} (k1 : Same F H) (k2 : RE X.K X.mg F H env σ fp) (k3 : M.bd f g env = some (r, env'))
    (k : ∀ os vs F1 H1 env1 fp1 fr, g os env1 = some (r, env') → Pst X.K X.mg T1 F H env fp F1 H1 env1 σ fp1 → ROs X.K X.mg F1 H1 os vs fr → (∀ j a, a ∈ fr → a ∉ fp1 j) → (∀ a ∈ fr, Wf T1 fp a ∨ H a = none) → R vs H1)
    (ke : ErrK X W T1 F H env σ fp β r env') : t σ H R := by
  rcases M.bd_cases k3 with ⟨a, env1, q1, q2⟩ | ⟨x, q, rfl⟩
  · exact hs F H env σ fp _ _ env1 k1 k2 q1 (fun d v F1 H1 fp1 fr e p rep hd hw => by cases e; exact k a v F1 H1 env1 fp1 fr q2 p rep hd hw) (fun x _ _ _ _ _ e => by cases e)
  · exact hs F H env σ fp _ _ env' k1 k2 q (fun d v F1 H1 fp1 fr e => by cases e) (fun x' F' H' fp' cls d e p ex => by cases e; exact ke x F' H' fp' cls d rfl p ex)
def oNil : M (List O) := M.ret []
def oCons (f : M O) (g : M (List O)) : M (List O) := M.bd f fun o => M.bd g fun os => M.ret (o :: os)
theorem pao_nil : PAo X W [] [] oNil := ⟨_, pa_nil, fun F H env σ fp Q r env' k1 k2 k3 k ke => by
  obtain ⟨rfl, rfl⟩ := M.ret_some k3
  exact k [] [] F H fp [] rfl (.refl k1 k2) (by simp only [ROs]; exact ⟨trivial, trivial⟩) (fun _ _ z => by simp at z) (fun _ z => by simp at z)⟩
theorem pao_cons {e : Expr} {es : List Expr} {f : M O} {g : M (List O)} (h : PO X W T1 e f) (h' : PAo X W T2 es g) (hs : starEach (e :: es) X.env = (false, eval e X.env) :: starEach es X.env := by rfl) : PAo X W (T1 ++ T2) (e :: es) (oCons f g) := by
  obtain ⟨t, ht, hs1⟩ := h.ex
  obtain ⟨u, hu, hs2⟩ := h'.ex
  refine ⟨_, pa_cons ht hu hs, fun F H env σ fp Q r env' k1 k2 k3 k ke => ?_⟩
  refine SndO.then hs1 k1 k2 k3 (fun o v F1 H1 env1 fp1 fr q p ro hd hw => ?_) (ke.left k2)
  refine SndAo.then hs2 p.ext.fh p.re q (fun os vs F2 H2 env2 fp2 fs q2 p2 ros hd2 hw2 => ?_) (ke.right p)
  obtain ⟨rfl, rfl⟩ := M.ret_some q2
  have ro2 := p2.keeps ro hd
  have hdd := p2.apart hd fun a ha => (ro.fp a ha).2
  refine k _ _ F2 H2 fp2 (fr ++ fs) rfl (p.trans p2) ?_ (fun j a ha => (List.mem_append.mp ha).elim (hdd j a) (hd2 j a)) (fun a ha => ?_)
  · rw [ROs]
    refine ⟨v, vs, fr, fs, rfl, ro2, ros, fun a h1 h2 => ?_, rfl⟩
    rcases hw2 a h2 with ⟨t, _, z⟩ | z
    · exact hd t a h1 z
    · exact (ro.fp a h1).2 z
  · rcases List.mem_append.mp ha with z | z
    · exact (hw a z).imp_left fun w => w.mono mem_l
    · exact Wf.none p (hw2 a z)
def oLstO (f : M (List O)) : M O := M.bd f fun os => M.lift (if os.length ≤ sizeLine then some (.lst os) else none)
theorem po_lstO {es : List Expr} {f : M (List O)} {pos : Pos} (h : PAo X W T es f) : PO X W T (.List es pos) (oLstO f) := by
  obtain ⟨t, ht, hs⟩ := h.ex
  refine ⟨_, pe_lst ht, fun F H env σ fp Q r env' k1 k2 k3 k ke => ?_⟩
  refine SndAo.then hs k1 k2 k3 (fun os vs F1 H1 env1 fp1 fr q p ros hd hw => ?_) ke
  obtain ⟨d, e, rfl, rfl⟩ := M.lift_some q
  split at e
  · rename_i hl
    cases e
    refine ⟨by rw [ros.length]; exact hl, fun a na => ?_⟩
    have ex := Ext.allocO (o := .lst vs) p.ext.fh na
    have p2 := p.trans (Pst.of_ext p.re ex)
    rw [List.append_nil] at p2
    have naF : a ∉ fr := fun z => (ros.fp a z).2 na
    have ros2 : ROs X.K X.mg F1 (upd H1 a (.lst vs)) os vs fr := ros.frame Same.refl fun b hb => ⟨upd_ne (fun z => naF (by rw [← z]; exact hb)), (ros.fp b hb).1⟩
    have nF : F1 a = none := by
      cases z : F1 a with
      | none => rfl
      | some u => rw [p.ext.fh a u z] at na; cases na
    refine k _ _ _ _ fp1 (a :: fr) rfl p2 (by rw [RO]; exact ⟨a, vs, fr, rfl, upd_same, nF, hl, ros2, naF, rfl⟩) (fun j b hb z => ?_) (fun b hb => ?_)
    · rcases List.mem_cons.mp hb with e | e
      · subst e; exact (p.re.fpin z).2 na
      · exact hd j b e z
    · rcases List.mem_cons.mp hb with e | e
      · subst e; exact .inr (dom_none p na)
      · exact hw b e
  · cases e

/-! ### +, slices of any kind -/
def dAddO : D → D → Option O
  | .lst a, .lst b => if a.length + b.length ≤ sizeLine then some (.lst ((a ++ b).map .val)) else none
  | d, e => (dAdd d e).map .val
def oAdd (fa fb : M Rdr) : M O := M.bd fa fun ra => M.bd fb fun rb => fun env => M.lift ((ra env).bind fun x => (rb env).bind fun y => dAddO x y) env
theorem po_add {a b : Expr} {fa fb : M Rdr} {S1 S2 : List Nat} {pos : Pos} (ha : PQ X W T1 S1 a fa) (hb : PQ X W T2 S2 b fb) (hS : ∀ i ∈ S1, i ∉ T2 := by decide) : PO X W (T1 ++ T2) (.BinOp a .Add b pos) (oAdd fa fb) := by
  obtain ⟨ta, a1, a2⟩ := ha.ex
  obtain ⟨tb, b1, b2⟩ := hb.ex
  obtain ⟨ra, ho, hsp⟩ := od_add (X := X)
  refine ⟨_, pe_op (OpR.or ho op_cat) a1 b1, snd_two (fun F H x y d e z Q hs rx ry hg k => ?_) a2 b2 hS⟩
  unfold dAddO at hg
  split at hg
  · rename_i a b
    split at hg
    · rename_i hl
      cases hg
      obtain ⟨p, vs, rfl, h1, h2, h3⟩ := rx
      obtain ⟨q, ws, rfl, g1, g2, g3⟩ := ry
      have l1 := h3.length
      have l2 := g3.length
      refine .inr ⟨p, q, vs, ws, rfl, rfl, h1, g1, by omega, fun c nc => ?_⟩
      exact k _ _ _ [c] (Ext.allocO hs nc) (ro_new hs nc (by rw [List.length_append]; exact hl) (h3.append g3)) (fun b hb => by
        have e : b = c := by simpa using hb
        subst e; exact nc)
    · cases hg
  · simp only [Option.map_eq_some_iff] at hg
    obtain ⟨z, hg, rfl⟩ := hg
    exact .inl (hsp F H x y _ _ z Q hs rx ry hg fun v F' H' ex rep => k v F' H' [] ex (.val rep) (fun _ z => by simp at z))
def dCutO (d : D) (lo hi : Option Int) : Option O := match d with
  | .lst ds => some (O.lst ((cutL ds lo hi).map .val))
  | .frl ds => some (O.lst ((cutL ds lo hi).map .val))
  | d => (dCut d lo hi).map .val
def oCutA (f : M Rdr) (l h : M (Option Int)) : M O := M.bd f fun rd => M.bd l fun lo => M.bd h fun hi env => M.lift ((rd env).bind fun d => dCutO d lo hi) env
theorem po_cutA {e : Expr} {lo hi : Option Expr} {f : M Rdr} {l h : M (Option Int)} {S : List Nat} {p2 pos : Pos} (he : PQ X W T1 S e f) (hl : PSl X W T2 lo l) (hh : PSl X W T3 hi h) (hS : ∀ i ∈ S, i ∉ T2 ++ T3 := by decide) :
    PO X W (T1 ++ (T2 ++ T3)) (.Subscript e (.Slice lo hi none p2) pos) (oCutA f l h) := by
  refine slr_of (g := dCutO) (SlR.or sl_list (SlR.or sl_tupA sl_str)) (fun F H x d lo hi z Q hs rx hg k => ?_) he hl hh hS
  have new : ∀ {c : Addr} {vs : List V} {ds : List D}, H c = none → ds.length ≤ sizeLine → Reps X.K X.mg F ds vs → z = .lst ((cutL ds lo hi).map .val) → Q (.ref c) (upd H c (.lst (cutV vs lo hi))) := fun {c vs ds} nc h2 h3 e => by
    subst e
    exact k _ _ _ [c] (Ext.allocO hs nc) (ro_new hs nc (Nat.le_trans (cutL_le _ _ _) h2) h3.cut) (fun b hb => by
      have e : b = c := by simpa using hb
      subst e; exact nc)
  unfold dCutO at hg
  split at hg
  · rename_i ds
    cases hg
    obtain ⟨a, vs, rfl, h1, h2, h3⟩ := rx
    exact .inl ⟨a, vs, rfl, .of h1, fun c nc => new nc h2 h3 rfl⟩
  · rename_i ds
    cases hg
    simp only [RepC, Rep] at rx
    obtain ⟨a, vs, rfl, h1, h2, h3⟩ := rx
    exact .inl ⟨a, vs, rfl, sameL hs h1, fun c nc => new nc h2 h3 rfl⟩
  · simp only [Option.map_eq_some_iff] at hg
    obtain ⟨y, hg, rfl⟩ := hg
    unfold dCut at hg
    split at hg
    · rename_i ds _ _
      cases hg
      simp only [RepC, Rep] at rx
      obtain ⟨a, vs, rfl, h1, h2, h3⟩ := rx
      have hl := h3.length
      refine .inr (.inl ⟨a, vs, rfl, sqT hs h1, fun e => ?_, fun _ c nc => ?_⟩)
      · refine k _ F H [] (.refl hs) (.val ?_) (fun _ z => by simp at z)
        have : cutL ds lo hi = ds := by
          unfold cutL
          rw [← hl, e.1, e.2, List.drop_zero, Nat.sub_zero, hl]
          exact List.take_length
        rw [this]
        exact rep_tup h1 h2 h3
      · have ex := Ext.alloc (o := .tup (cutV vs lo hi)) hs nc
        exact k _ _ _ [] ex (.val (rep_tup upd_same (Nat.le_trans (cutL_le _ _ _) h2) (Reps.mono ex.ff _ _ h3.cut))) (fun _ z => by simp at z)
    · rename_i z _ _
      split at hg
      · rename_i hl
        cases hg
        exact .inr (.inr ⟨z, repC_str rx, hl, k _ F H [] (.refl hs) (.val rep_str) (fun _ z => by simp at z)⟩)
      · cases hg
    · cases hg

/-! ### defs by name -/
/-- a def of the text, where the top left it -/
def DefAt (K : PySem.W.Frag) (mg : Str → Option Value) (x : Str) (st : Stmt) : Prop := ∃ q f fd, mg x = some (.ref f) ∧ Fun K q q st f fd
/-- a def that keeps its promise -/
def DefOk (P : Program) (w : World) (K : PySem.W.Frag) (mg : Str → Option Value) (base : Heap) (k : Nat) (x : Str) (st : Stmt) (ps : List Str) (n : Nat) (io ro : List Nat) (m : Fn) : Prop :=
  ∃ q f fd, mg x = some (.ref f) ∧ Fun K q q st f fd ∧ Binds K fd ps [] ∧ FnOk P w K mg base (L2.CX P w) k f fd ps (spD K mg n io ro m)
section
variable {P : Program} {w : World} {K : PySem.W.Frag} {mg : Str → Option Value} {base : Heap}
theorem def_pl {x : Str} {st : Stmt} {N ps : List Str} {k n : Nat} {io ro T A : List Nat} {body : M Fl} (Da : DefAt K mg x st) (S : FnScope N ps (defScope st)) (hn : ps.length = n)
    (hbi : ∀ (q : Str) (kV doc pm : Value) (an : Option Addr) (cdv ct : Value) (us : List Value), us.length = ps.length → bindArgs (PySem.W.fnOf q q (defArgs st) (defBody st) (defScope st) .none kV doc pm an cdv ct) ⟨us, []⟩ = pure (ps.zip us))
    (hio : ∀ j ∈ io, j ∉ A) (hro : ∀ j ∈ ro, j ∉ T)
    (hb : ∀ (q : Str) (f : Addr) (cdv : Value) (Ar : Around) (outer : List PySem.Env) (s : Shared) (H : Hp) (E : XK), Room k (Ar.deeper (PyProof.Rows.envOfC q (defScope st) s.heap.objs.size f cdv)) →
      PZs (cxOf (L2.CX P w) P w K mg base N q (defScope st) f cdv Ar outer s H E) (fun cls d _ H => E cls d H) T A (defBody st) body) :
    DefOk P w K mg base (k + 1) x st ps n io ro (dfn n N.length io body) := by
  obtain ⟨q, f, fd, h1, Fu⟩ := Da
  exact ⟨q, f, fd, h1, Fu, Fu.binds (hbi q), fn_pl Fu S hn hio hro fun cdv Ar outer s H E hr => hb q f cdv Ar outer s H E hr⟩
end
theorem po_callD {n k : Nat} {io ro : List Nat} {m : Fn} {ps : List Str} {x : Str} {st : Stmt} {p pos : Pos} {e : Expr} {es : List Expr} {g : M (List Ag)} {sh : List (Option Nat)}
    (Do : DefOk X.prog X.w X.K X.mg X.base k x st ps n io ro m) (hr : Room k X.A) (hg : Gl X x) (tk : Takes X W) (ha : PAg X W T sh (e :: es) g) (hn : sh.length = n := by rfl) (nd : (places sh).Nodup := by decide)
    (hio : ∀ k, k < sh.length → (sh[k]?).join.isSome → k ∈ io ∨ k ∈ ro := by decide) (hdb : (x == ("__debug__" : Str)) = false := by decide)
    (he : starEach (e :: es) X.env = (false, eval e X.env) :: starEach es X.env := by rfl) (hpl : (backTo pos (starEach es X.env)).any (·.1) = false := by rfl) :
    PO X W (T ++ places (msk io sh)) (.Call (.Name x p) (e :: es) [] pos) (oCall m (msk io sh) g) := by
  obtain ⟨_, f, fd, h1, h2, h3, h4⟩ := Do
  exact po_call h4 hr hg h1 h2.kp h3 tk ha hn nd hio hdb he hpl
end
end PL
/-! PL13: calls by keywords; the law's end. -/
namespace PL
open PySem L2
section
variable {X : Cx} {W : WX} {T T1 T2 T3 A S : List Nat} {F H F' H' F1 H1 F2 H2 : Hp} {env env' : Env} {σ : St} {fp fp' : Nat → List Addr} {sh sh1 sh2 : List (Option Nat)}
/-- the keywords' values, as arguments -/
structure PKg (X : Cx) (W : WX) (T : List Nat) (sh : List (Option Nat)) (kws : List Keyword) (f : M (List Ag)) : Prop where
  ex : ∃ t, PK X kws t ∧ SndAg X W T sh t f
theorem pkg_nil : PKg X W [] [] [] gNl := ⟨_, pk_nil, fun F H env σ fp Q r env' k1 k2 k3 k ke => by
  obtain ⟨rfl, rfl⟩ := M.ret_some k3
  exact k [] [] F H fp rfl rfl (.refl k1 k2) rfl⟩
theorem pkg_v {e : Expr} {kws : List Keyword} {nm : Option Str} {kpos : Pos} {f : M D} {g : M (List Ag)} (h : PV X W T1 e f) (h' : PKg X W T2 sh kws g) : PKg X W (T1 ++ T2) (none :: sh) (⟨nm, e, kpos⟩ :: kws) (gV f g) := by
  obtain ⟨t, ht, hs1⟩ := h.ex
  obtain ⟨u, hu, hs2⟩ := h'.ex
  refine ⟨_, pk_cons ht hu, fun F H env σ fp Q r env' k1 k2 k3 k ke => ?_⟩
  refine SndV.then hs1 k1 k2 k3 (fun d v F1 H1 env1 fp1 q p rep => ?_) (ke.left k2)
  refine SndAg.then hs2 p.ext.fh p.re q (fun as vs F2 H2 env2 fp2 q2 es2 p2 reps => ?_) (ke.right p)
  obtain ⟨rfl, rfl⟩ := M.ret_some q2
  exact k _ _ F2 H2 fp2 rfl (by simp [Ag.pl, es2]) (p.trans p2) ⟨v, vs, rfl, Rep.mono p2.ext.ff _ _ rep, reps⟩
theorem pkg_p {e : Expr} {kws : List Keyword} {nm : Option Str} {kpos : Pos} {g : M (List Ag)} (i : Nat) (h : PE X e (tVar i)) (h' : PKg X W T sh kws g) : PKg X W T (some i :: sh) (⟨nm, e, kpos⟩ :: kws) (gP i g) := by
  obtain ⟨u, hu, hs2⟩ := h'.ex
  refine ⟨_, pk_cons h hu, fun F H env σ fp Q r env' k1 k2 k3 k ke => ?_⟩
  unfold gP at k3
  split at k3
  · rename_i o q
    obtain ⟨v, h1, h2⟩ := k2.slot i _ q
    refine ⟨v, h1, ?_⟩
    refine SndAg.then hs2 k1 k2 k3 (fun as vs F2 H2 env2 fp2 q2 es2 p2 reps => ?_) ke
    obtain ⟨rfl, rfl⟩ := M.ret_some q2
    exact k _ _ F2 H2 fp2 rfl (by simp [Ag.pl, es2]) p2 ⟨v, vs, rfl, h1, reps⟩
  · cases k3
/-- in the parameters' order -/
def ord {α : Type} (π : List Nat) (d : α) (xs : List α) : List α := π.map fun i => xs.getD i d
theorem vals_ord {xs : List V} {us : List Value} (h : Vals xs us) (π : List Nat) : Vals (ord π .non xs) (ord π .none us) := by
  induction π with
  | nil => exact .nil
  | cons i π ih =>
    refine .cons ?_ ih
    show RelV (xs.getD i .non) (us.getD i .none)
    rw [List.getD_eq_getElem?_getD, List.getD_eq_getElem?_getD]
    cases q : xs[i]? with
    | none => rw [h.none_of q]; rfl
    | some v =>
      obtain ⟨u, e, r⟩ := h.get q
      rw [e]; exact r
theorem agr_ord {as : List Ag} {vs : List V} (h : AgR X.K X.mg F σ as vs) : ∀ π : List Nat, AgR X.K X.mg F σ (ord π (.v .non) as) (ord π .non vs)
  | [] => rfl
  | i :: π => by
    have ih := agr_ord h π
    show AgR X.K X.mg F σ (as.getD i (.v .non) :: ord π (.v .non) as) (vs.getD i .non :: ord π .non vs)
    rw [List.getD_eq_getElem?_getD, List.getD_eq_getElem?_getD]
    cases q : as[i]? with
    | none =>
      have : vs[i]? = none := by
        rw [List.getElem?_eq_none_iff] at q ⊢
        rw [h.length]; exact q
      rw [this]
      exact ⟨.non, _, rfl, by simp only [Rep], ih⟩
    | some a =>
      obtain ⟨v, e, r⟩ := h.get q
      rw [e]
      cases a with
      | v d => exact ⟨v, _, rfl, r, ih⟩
      | p j => exact ⟨v, _, rfl, r, ih⟩
theorem map_ord {π : List Nat} {as : List Ag} (h : as.map Ag.pl = sh) : (ord π (.v .non) as).map Ag.pl = ord π none sh := by
  subst h
  unfold ord
  rw [List.map_map]
  refine List.map_congr_left fun i _ => ?_
  simp only [Function.comp, List.getD_eq_getElem?_getD, List.getElem?_map]
  cases as[i]? <;> rfl
/-- how keywords bind -/
def KwB (K : PySem.W.Frag) (fd : FuncData) (ps ks : List Str) (n : Nat) (π : List Nat) : Prop :=
  ∀ (s : Shared) (us ws : List Value), K.In s.heap → us.length = n → ws.length = ks.length → BindsTo s fd ⟨us, ks.zip ws⟩ (ps.zip (ord π .none (us ++ ws)))
theorem Fun.kwb {K : PySem.W.Frag} {x qual : Str} {st : Stmt} {f : Addr} {fd : FuncData} {ps ks : List Str} {n : Nat} {π : List Nat} (Fu : Fun K x qual st f fd)
    (h : ∀ (kV doc pm : Value) (an : Option Addr) (cdv ct : Value) (us ws : List Value), us.length = n → ws.length = ks.length → bindArgs (PySem.W.fnOf x qual (defArgs st) (defBody st) (defScope st) .none kV doc pm an cdv ct) ⟨us, ks.zip ws⟩ = pure (ps.zip (ord π .none (us ++ ws)))) : KwB K fd ps ks n π := by
  obtain ⟨oc, od, kV, doc, pm, an, cdv, ct, osl, rfl, lk, hcd⟩ := Fu.ex
  exact fun s us ws _ h1 h2 => .of_eq (h kV doc pm an cdv ct us ws h1 h2)
def aBoth (f g : M (List Ag)) : M (List Ag) := M.bd f fun as => M.bd g fun bs => M.ret (as ++ bs)
theorem run_fnK {k : Nat} {f : Addr} {fd : FuncData} {ps ks : List Str} {sp : Sp} {E : St → XK} {π : List Nat} {n : Nat} {pins : List (Addr × Obj)} {s : Shared} {Q : VK} {us ws : List Value} {vs zs : List V} (Fo : FnOk X.prog X.w X.K X.mg X.base (L2.CX X.prog X.w) k f fd ps sp) (hr : Room k X.A) (hb : KwB X.K fd ps ks n π)
    (hx : ∀ σ, PassesAt (L2.CX X.prog X.w) X σ (E σ)) (I : Inv X pins σ H s) (r : Vals vs us) (rz : Vals zs ws) (l1 : us.length = n) (l2 : ws.length = ks.length) (h : sp (ord π .non (vs ++ zs)) H Q (E σ)) : wpAny (model X.prog X.w) X.A (call (.ref f) us (ks.zip ws)) (EP X pins σ Q) X.xe s := by
  refine wpAny_call (codeAny_mono (Fo.run X.A X.stack s H ⟨us, ks.zip ws⟩ (ord π .none (us ++ ws)) (ord π .non (vs ++ zs)) Q (E σ) hr I.env0 (hb s us ws I.kIn l1 l2) (vals_ord (r.append rz) π) h) fun r s' hq => ?_)
  cases r with
  | error e => exact hx σ pins H s e s' I hq
  | ok fl =>
    cases fl with
    | ret u => exact I.after hq
    | next => exact False.elim hq
    | brk => exact False.elim hq
    | cont => exact False.elim hq
theorem AgR.app {bs : List Ag} : ∀ {as : List Ag} {vs ws : List V}, AgR X.K X.mg F σ as vs → AgR X.K X.mg F σ bs ws → AgR X.K X.mg F σ (as ++ bs) (vs ++ ws)
  | [], vs, ws, h, h' => by cases h; exact h'
  | .v d :: as, vs, ws, h, h' => by
    obtain ⟨v, r, rfl, h1, h2⟩ := h
    exact ⟨v, r ++ ws, rfl, h1, AgR.app h2 h'⟩
  | .p i :: as, vs, ws, h, h' => by
    obtain ⟨v, r, rfl, h1, h2⟩ := h
    exact ⟨v, r ++ ws, rfl, h1, AgR.app h2 h'⟩
/-- the keyword call's plain end -/
theorem snd_callK {n : Nat} {io ro : List Nat} {m : Fn} {π : List Nat} {t tk : TA} {f g : M (List Ag)} (nd : (places (ord π none (sh1 ++ sh2))).Nodup) (hn : π.length = n)
    (hio : ∀ k, k < (ord π none (sh1 ++ sh2)).length → ((ord π none (sh1 ++ sh2))[k]?).join.isSome → k ∈ io ∨ k ∈ ro) (h1 : SndAg X W T1 sh1 t f) (h2 : SndAg X W T2 sh2 tk g) :
    SndO X W ((T1 ++ T2) ++ places (msk io (ord π none (sh1 ++ sh2)))) (fun σ H Q => t σ H fun vs H1 => tk σ H1 fun zs H2 => vs.length = sh1.length ∧ zs.length = sh2.length ∧ spD X.K X.mg n io ro m (ord π .non (vs ++ zs)) H2 Q (WE W σ)) (oCall m (msk io (ord π none (sh1 ++ sh2))) (M.map (ord π (.v .non)) (aBoth f g))) := by
  intro F H env σ fp Q r env' k1 k2 k3 kk ke
  -- the parts, one by one
  have e3 : M.bd f (fun as => M.bd g fun bs => fun env => match (agos env (ord π (.v .non) (as ++ bs))).bind m with
      | some (r, out) => some (r, putBack (msk io (ord π none (sh1 ++ sh2))) out env)
      | none => none) env = some (r, env') := by
    rw [← k3]
    unfold oCall M.map aBoth M.bd M.ret
    cases f env with
    | none => rfl
    | some x =>
      obtain ⟨x, e1⟩ := x
      cases x with
      | error _ => rfl
      | ok as =>
        dsimp only
        cases g e1 with
        | none => rfl
        | some y =>
          obtain ⟨y, e2⟩ := y
          cases y with
          | error _ => rfl
          | ok bs => rfl
  refine SndAg.then h1 k1 k2 e3 (fun as vs F1 H1 env1 fp1 q es1 p rep => ?_) ((ke.left k2).left k2)
  refine SndAg.then h2 p.ext.fh p.re q (fun bs zs F2 H2 env2 fp2 q es2 p2 rep2 => ?_) ((ke.left k2).right p)
  have lv : vs.length = sh1.length := by rw [rep.length, ← es1, List.length_map]
  have lz : zs.length = sh2.length := by rw [rep2.length, ← es2, List.length_map]
  refine ⟨lv, lz, ?_⟩
  cases q1 : (agos env2 (ord π (.v .non) (as ++ bs))).bind m with
  | none => rw [q1] at q; cases q
  | some ro1 =>
    obtain ⟨r1, out⟩ := ro1
    rw [q1] at q
    cases q
    simp only [Option.bind_eq_some_iff] at q1
    obtain ⟨os, ho, hm1⟩ := q1
    have hsh : (as ++ bs).map Ag.pl = sh1 ++ sh2 := by rw [List.map_append, es1, es2]
    have ar := agr_ord ((rep.mono p2.ext.ff).app rep2) π
    refine spD_call p2.ext.fh p2.re (map_ord hsh) nd (by unfold ord; rw [List.length_map]; exact hn) ar ho hm1 (fun k i hki => hio k (lt_of_get hki) (by rw [hki]; rfl)) (fun o v F' H' fp' fr e p3 ro hd hw => ?_) (fun x F' H' fp' cls d e p3 er => ?_)
    · exact kk o v F' H' fp' fr e ((p.trans p2).trans p3) ro hd fun a ha => Wf.none (p.trans p2) (hw a ha)
    · exact ke x F' H' fp' cls d e ((p.trans p2).trans p3) er
/-- f(k = v, ..) -/
theorem po_callK0 {n k : Nat} {io ro : List Nat} {m : Fn} {ps ks : List Str} {x : Str} {st : Stmt} {π : List Nat} {p pos : Pos} {kws : List Keyword} {g : M (List Ag)}
    (Do : DefOk X.prog X.w X.K X.mg X.base k x st ps n io ro m) (hr : Room k X.A) (hg : Gl X x) (tk : Takes X W) (ha : PKg X W T sh kws g) (hπ : π.length = n)
    (hbi : ∀ (q : Str) (kV doc pm : Value) (an : Option Addr) (cdv ct : Value) (us ws : List Value), us.length = 0 → ws.length = ks.length → bindArgs (PySem.W.fnOf q q (defArgs st) (defBody st) (defScope st) .none kV doc pm an cdv ct) ⟨us, ks.zip ws⟩ = pure (ps.zip (ord π .none (us ++ ws))))
    (hsl : sh.length = ks.length := by rfl) (nd : (places (ord π none ([] ++ sh))).Nodup := by decide)
    (hio : ∀ k, k < (ord π none ([] ++ sh)).length → ((ord π none ([] ++ sh))[k]?).join.isSome → k ∈ io ∨ k ∈ ro := by decide) (hdb : (x == ("__debug__" : Str)) = false := by decide)
    (hall : (backToKw pos (keywordEach kws X.env)).all (·.1.isSome) = true := by rfl) (hks : (backToKw pos (keywordEach kws X.env)).filterMap (·.1) = ks := by rfl)
    (hpl : ((backTo pos (starEach [] X.env)).any (·.1) || (backToKw pos (keywordEach kws X.env)).any (·.1.isNone)) = false := by rfl) :
    PO X W (([] ++ T) ++ places (msk io (ord π none ([] ++ sh)))) (.Call (.Name x p) [] kws pos) (oCall m (msk io (ord π none ([] ++ sh))) (M.map (ord π (.v .non)) (aBoth gNl g))) := by
  obtain ⟨_, f, fd, h1, h2, h3, h4⟩ := Do
  obtain ⟨t, ht, hs⟩ := ha.ex
  have hnl : SndAg X W [] [] tNil gNl := fun F H env σ fp Q r env' k1 k2 k3 k ke => by
    obtain ⟨rfl, rfl⟩ := M.ret_some k3
    exact k [] [] F H fp rfl rfl (.refl k1 k2) rfl
  refine ⟨_, ⟨fun pins s σ H Q I h => ?_⟩, snd_callK (ro := ro) (n := n) (m := m) (π := π) nd hπ hio hnl hs⟩
  refine wpAny_Call_Name_kw (ld_glob I hg h1 ?_ hdb)
  refine PySem.W.callWith_KW0 (h₀ := X.base) I.ok.mod.kin h2.kp hall ?_ hpl
  have h : t σ H (fun zs H2 => ([] : List V).length = ([] : List (Option Nat)).length ∧ zs.length = sh.length ∧ spD X.K X.mg n io ro m (ord π .non ([] ++ zs)) H2 Q (WE W σ)) := h
  refine thn (ht.run pos pins s σ H _ I h) fun ws s2 ⟨zs, H2, I2, rz, _, lz, q2⟩ => ⟨I2.kIn, ?_⟩
  rw [hks]
  exact run_fnK (E := WE W) h4 hr (Fun.kwb h2 (hbi _)) (fun σ => passAt tk σ) I2 .nil rz rfl (by rw [← rz.length, lz, hsl]) q2
/-- f(a, .., k = v, ..) -/
theorem po_callK {n nu k : Nat} {io ro : List Nat} {m : Fn} {ps ks : List Str} {x : Str} {st : Stmt} {π : List Nat} {p pos : Pos} {e : Expr} {es : List Expr} {kws : List Keyword} {f g : M (List Ag)}
    (Do : DefOk X.prog X.w X.K X.mg X.base k x st ps n io ro m) (hr : Room k X.A) (hg : Gl X x) (tk : Takes X W) (hf : PAg X W T1 sh1 (e :: es) f) (ha : PKg X W T2 sh2 kws g) (hπ : π.length = n)
    (hbi : ∀ (q : Str) (kV doc pm : Value) (an : Option Addr) (cdv ct : Value) (us ws : List Value), us.length = nu → ws.length = ks.length → bindArgs (PySem.W.fnOf q q (defArgs st) (defBody st) (defScope st) .none kV doc pm an cdv ct) ⟨us, ks.zip ws⟩ = pure (ps.zip (ord π .none (us ++ ws))))
    (hs1 : sh1.length = nu := by rfl) (hsl : sh2.length = ks.length := by rfl) (nd : (places (ord π none (sh1 ++ sh2))).Nodup := by decide)
    (hio : ∀ k, k < (ord π none (sh1 ++ sh2)).length → ((ord π none (sh1 ++ sh2))[k]?).join.isSome → k ∈ io ∨ k ∈ ro := by decide) (hdb : (x == ("__debug__" : Str)) = false := by decide)
    (hall : (backToKw pos (keywordEach kws X.env)).all (·.1.isSome) = true := by rfl) (hks : (backToKw pos (keywordEach kws X.env)).filterMap (·.1) = ks := by rfl)
    (he : starEach (e :: es) X.env = (false, eval e X.env) :: starEach es X.env := by rfl)
    (hpl : ((backTo pos (starEach (e :: es) X.env)).any (·.1) || (backToKw pos (keywordEach kws X.env)).any (·.1.isNone)) = false := by rfl) :
    PO X W ((T1 ++ T2) ++ places (msk io (ord π none (sh1 ++ sh2)))) (.Call (.Name x p) (e :: es) kws pos) (oCall m (msk io (ord π none (sh1 ++ sh2))) (M.map (ord π (.v .non)) (aBoth f g))) := by
  obtain ⟨_, fa, fd, h1, h2, h3, h4⟩ := Do
  obtain ⟨t, ht, hs⟩ := hf.ex
  obtain ⟨u, hu, hsu⟩ := ha.ex
  refine ⟨_, ⟨fun pins s σ H Q I h => ?_⟩, snd_callK (ro := ro) (n := n) (m := m) (π := π) nd hπ hio hs hsu⟩
  refine wpAny_Call_Name_kw (ld_glob I hg h1 ?_ hdb)
  have h : t σ H (fun vs H1 => u σ H1 fun zs H2 => vs.length = sh1.length ∧ zs.length = sh2.length ∧ spD X.K X.mg n io ro m (ord π .non (vs ++ zs)) H2 Q (WE W σ)) := h
  refine PySem.W.callWith_KW (h₀ := X.base) I.ok.mod.kin h2.kp hall (thn (ht.run pos pins s σ H _ I h) fun us s1 ⟨vs, H1, I1, r, q⟩ => ?_) hpl he
  refine thn (hu.run pos pins s1 σ H1 _ I1 q) fun ws s2 ⟨zs, H2, I2, rz, lv, lz, q2⟩ => ⟨I2.kIn, ?_⟩
  rw [hks, List.nil_append]
  exact run_fnK (E := WE W) h4 hr (Fun.kwb h2 (hbi _)) (fun σ => passAt tk σ) I2 r rz (by rw [← r.length, lv, hs1]) (by rw [← rz.length, lz, hsl]) q2
end

/-! ### the law's end -/
/-- the law's own promise: True of any script -/
def spTrue (K : PySem.W.Frag) (n : Nat) : Sp := fun vs H Q _ => ∃ (a : Addr) (ns : List Int), vs = [.ref a] ∧ ns.length ≤ n ∧ SqL K H a (ns.map V.int) ∧ ∀ H', Q (.bl true) H'
theorem reps_ints {K : PySem.W.Frag} {G : Str → Option Value} {F : Hp} : ∀ ns : List Int, Reps K G F (ns.map D.int) (ns.map V.int)
  | [] => .nil
  | n :: ns => .cons (by simp only [Rep]) (reps_ints ns)
theorem law_true {P : Program} {w : World} {K : PySem.W.Frag} {mg : Str → Option Value} {base : Heap} {k n : Nat} {x p : Str} {st : Stmt} {m : Fn} (h : DefOk P w K mg base k x st [p] 1 [] [] m) (hn : n ≤ sizeLine)
    (hm : ∀ ns : List Int, ns.length ≤ n → ∃ out, m [.val (.frl (ns.map D.int))] = some (.ok (.val (.bl true)), out)) :
    ∃ q f fd, mg x = some (.ref f) ∧ Fun K q q st f fd ∧ FnOk P w K mg base (L2.CX P w) k f fd [p] (spTrue K n) := by
  obtain ⟨q0, f, fd, h1, h2, h3, h4⟩ := h
  refine ⟨q0, f, fd, h1, h2, h4.imp fun vs H Q E q => ?_⟩
  obtain ⟨a, ns, rfl, hl, hs, q⟩ := q
  obtain ⟨out, ho⟩ := hm ns hl
  have rep : Rep K mg H (.frl (ns.map D.int)) (.ref a) := by
    simp only [Rep]
    exact ⟨a, _, rfl, hs, by rw [List.length_map]; omega, reps_ints ns⟩
  refine ⟨H, [.val (.frl (ns.map D.int))], fun _ => [], _, out, Same.refl, rfl, ⟨rfl, fun i o e => ?_, fun _ _ => rfl, fun _ _ _ _ z => by simp at z⟩, fun i o _ _ e => ?_, ho, fun o v F' H' fps' fr e _ _ _ ro _ _ => ?_, fun x _ _ _ _ _ e => by cases e⟩
  · cases i with
    | zero => simp at e; subst e; exact ⟨_, rfl, .val rep⟩
    | succ i => simp at e
  · cases i with
    | zero => simp at e; exact ⟨_, e.symm⟩
    | succ i => simp at e
  · cases e
    obtain ⟨_, r⟩ := ro.val_inv
    simp only [Rep] at r
    subst r
    exact q H'
end PL
/-! PL14: what the printed derivations lean on. -/
namespace PL
open PySem L2
theorem ne_set (i : Nat) : ∀ o env x env', gSet i o env ≠ some (.error x, env') := fun o env x env' h => by unfold gSet at h; split at h <;> cases h
theorem nes_nil : ∀ ds env x env', gtNil ds env ≠ some (.error x, env') := fun ds env x env' h => by cases ds <;> cases h
theorem nes_cons {f : O → M Unit} {g : List D → M Unit} (h : ∀ o env x env', f o env ≠ some (.error x, env')) (h' : ∀ ds env x env', g ds env ≠ some (.error x, env')) : ∀ ds env x env', gtCons f g ds env ≠ some (.error x, env') := fun ds env x env' q => by
  cases ds with
  | nil => cases q
  | cons d ds =>
    rcases M.bd_cases q with ⟨_, env1, q1, q2⟩ | ⟨x', q1, _⟩
    · exact h' _ _ _ _ q2
    · exact h _ _ _ _ q1
theorem ne_tup {n : Nat} {g : List D → M Unit} (h' : ∀ ds env x env', g ds env ≠ some (.error x, env')) : ∀ o env x env', gTup n g o env ≠ some (.error x, env') := fun o env x env' q => by
  unfold gTup at q
  split at q
  · split at q
    · exact h' _ _ _ _ q
    · cases q
  · cases q
section
variable {X : Cx} {W : WX} {T T1 T2 T3 A S : List Nat}
theorem snd_frz {t : TE} {f : M O} (hs : SndO X W T t f) : SndO X W T t (om (vm f)) := fun F H env σ fp Q r env' h1 h2 h3 k ke => by
  rcases M.map_cases h3 with ⟨d, q1, rfl⟩ | ⟨x, q1, rfl⟩
  · rcases M.map_cases q1 with ⟨o, q, e1⟩ | ⟨x, q, e1⟩
    · cases e1
      refine hs F H env σ fp Q _ env' h1 h2 q (fun o' v F' H' fp' fr e p ro hd hw => ?_) (fun x _ _ _ _ _ e => by cases e)
      cases e
      have hf : ∀ a ∈ fr, F' a = none := fun a ha => (ro.fp a ha).1
      exact k _ v _ H' fp' [] rfl (p.freeze hf hd hw) (.val (ro.freeze (frz_same hf) frz_in)) (fun _ _ z => by simp at z) (fun _ z => by simp at z)
    · cases e1
  · rcases M.map_cases q1 with ⟨o, q, e1⟩ | ⟨x', q, e1⟩
    · cases e1
    · cases e1
      refine hs F H env σ fp Q _ env' h1 h2 q (fun o' v F' H' fp' fr e => by cases e) (fun x' F' H' fp' cls d e p ex => ?_)
      cases e
      exact ke x F' H' fp' cls d rfl p ex
/-- name = [..] on one line, what comes is given away -/
theorem z_setLcF {i : Nat} {y : Str} {py : Pos} {elt tg iter : Expr} {ifs : List Expr} {scope : Scope} {own : List (Str × Nat)} {pos spos : Pos} {fi : M (List D)} {g : O → M Unit} {c : M Bool} {e : M O} (hc : X.calm = true) (hN : X.N.Nodup) (hy : X.N[i]? = some y) (hyl : X.env.scope.names.lookup y = some .local)
    (hsw : swapsWith (.ListComp elt [⟨tg, iter, ifs, 0⟩] scope pos) (some (.Name y py)) spos.line X.env = pure true) (hi : PIt X W T1 S tg iter fi) (ok : BlkOk X.N X.env.scope scope own)
    (hg : ∀ (s : Shared) (H : Hp) (C : Addr) (cl : List (Str × Addr)) (fp : List Addr), PGt (X.blk s H scope (compEnvC scope cl C X.env) fp) T tg g)
    (ht : ∀ (s : Shared) (H : Hp) (C : Addr) (cl : List (Str × Addr)) (fp : List Addr), PBs (X.blk s H scope (compEnvC scope cl C X.env) fp) W0 T2 ifs c)
    (he : ∀ (s : Shared) (H : Hp) (C : Addr) (cl : List (Str × Addr)) (fp : List Addr), PO (X.blk s H scope (compEnvC scope cl C X.env) fp) W0 T3 elt e)
    (hgl : ∀ o env x env', g o env ≠ some (.error x, env')) (hs : ∀ x, foldedSetIterable iter X.env x = pure x := by intro _; rfl)
    (hown : ∀ t ∈ T, t ∈ own.map (·.2) := by decide) (hS : ∀ i ∈ S, i ∉ own.map (·.2) ∧ i ∉ T2 ++ T3 := by decide) :
    PZ X W ((T1 ++ ((T ++ (T2 ++ T3)).filter fun t => !(own.map (·.2)).contains t)) ++ [i]) [i] (.Assign [.Name y py] (.ListComp elt [⟨tg, iter, ifs, 0⟩] scope pos) spos) (sSet (om (vm (oLc (own.map (·.2)) fi g c e))) (gSet i)) := by
  obtain ⟨wi, hi1, hi2⟩ := hi.ex
  exact ⟨_, ps_setLc hc hN hy hyl hsw hi1 ok (fun s H C cl fp => (hg s H C cl fp).can) (fun s H C cl fp => (ht s H C cl fp).can) (fun s H C cl fp => (he s H C cl fp).can) hs,
    snd_asg (snd_frz (snd_lc hi2 hgl hown hS)) (snd_gName i) (fun o env x env' h => by unfold gSet at h; split at h <;> cases h)⟩
end
theorem boot_str' : bootBuiltins "str" = some (.type "str") := by decide +kernel
theorem boot_bool' : bootBuiltins "bool" = some (.type "bool") := by decide +kernel
theorem boot_dict' : bootBuiltins "dict" = some (.type "dict") := by decide +kernel
/-! ### the end -/
theorem defAt_mk {K : PySem.W.Frag} {h : Heap} {mg : Str → Option Value} {x : Str} (q : Str) {st : Stmt} {f : Addr} {oc : Value} {od an : Option Addr} {osl : Array (Option Value)} {kV doc pm cdv ct : Value} (X : K.In h) (G : h.Ns mainGlobals mg)
    (a : PySem.W.nsIn K mainGlobals x = some (some (.ref f))) (l : K.lookup f = some ⟨oc, od, .func (PySem.W.fnOf q q (defArgs st) (defBody st) (defScope st) .none kV doc pm an cdv ct), osl⟩)
    (c : PySem.W.codeIn K cdv q = true) (k : PySem.W.keepIn K (.ref f) = true) : DefAt K mg x st := ⟨q, f, _, PySem.W.mg_of X G a, fun_mk l c k⟩
theorem law_end {l : PySem.W.OpenLaw} {w : World} {K : PySem.W.Frag} {h : Heap} {mg : Str → Option Value} {fa : Addr} {k n : Nat} {x p : Str} {st : Stmt} {m : Fn} (hn : n ≤ sizeLine) (KX : K.In h) (G : h.Ns mainGlobals mg) (hfa : mg x = some (.ref fa))
    (hbi : ∀ (q : Str) (kV doc pm : Value) (an : Option Addr) (cdv ct v : Value), bindArgs (PySem.W.fnOf q q (defArgs st) (defBody st) (defScope st) .none kV doc pm an cdv ct) ⟨[v], []⟩ = pure [(p, v)])
    (hm : ∀ ns : List Int, ns.length ≤ n → ∃ out, m [.val (.frl (ns.map D.int))] = some (.ok (.val (.bl true)), out))
    (D : ∀ base : Heap, DefOk l.prog w K mg base k x st [p] 1 [] [] m) :
    ∃ fd : FuncData, (∀ (s : Shared) (u : Value), BindsTo s fd ⟨[u], []⟩ [(p, u)]) ∧ ∀ base : Heap, K.In base → base.Ns mainGlobals mg → FnOk l.prog w K mg base (L2.CX l.prog w) k fa fd [p] (spTrue K n) := by
  obtain ⟨q0, f0, fd0, h1, h2, _⟩ := law_true (D h) hn hm
  have e := hfa.symm.trans h1
  cases e
  refine ⟨fd0, fun s u => ?_, fun base _ _ => ?_⟩
  · obtain ⟨oc, od, kV, doc, pm, an, cdv, ct, osl, rfl, lk, hcd⟩ := h2.ex
    exact .of_eq (hbi q0 kV doc pm an cdv ct u)
  · obtain ⟨q1, f1, fd1, g1, g2, g3⟩ := law_true (D base) hn hm
    have e := hfa.symm.trans g1
    cases e
    obtain ⟨oc, od, kV, doc, pm, an, cdv, ct, osl, rfl, lk, hcd⟩ := h2.ex
    obtain ⟨oc', od', kV', doc', pm', an', cdv', ct', osl', e2, lk', hcd'⟩ := g2.ex
    rw [lk] at lk'
    cases lk'
    exact g3
theorem no_end {P : Program} {w : World} {H : Hp} {s : Shared} {e : Value} {s' : Shared} (h : L2.CX P w [] H s (fun _ _ _ => False) e s') : False := by
  obtain ⟨_, _, _, _, _, _, _, _, _, _, _, _, z⟩ := h
  exact z
theorem sp_true_of {K : PySem.W.Frag} {n : Nat} {H : Hp} {a : Addr} {ns : List Int} (hl : ns.length ≤ n) (hS : SqL K H a (ns.map V.int)) : spTrue K n [.ref a] H (fun v _ => v = .bl true) fun _ _ _ => False := ⟨a, ns, rfl, hl, hS, fun _ => rfl⟩
end PL
/-! PL15: fields of what stands for good; in, not in; the module's constants; `sorted` and its like by one rule. -/
namespace PL
open PySem L2
section
variable {X : Cx} {W : WX} {T T1 T2 T3 A S : List Nat} {F H F' H' F1 H1 F2 H2 : Hp} {env env' : Env} {σ : St} {fp fp' : Nat → List Addr}
/-! ### o.f -/
def dFld (f : Str) : D → Option D
  | .ins _ nms ds => (fix nms f).bind fun k => ds[k]?
  | _ => none
theorem pv_fld {e : Expr} {f : Str} {pos : Pos} {g : M Rdr} {S : List Nat} (h : PQ X W T S e g) (hb : attributeBase e f X.env (eval e X.env) = eval e X.env := by rfl) : PV X W T (.Attribute e f pos) (un (dFld f) g) := by
  obtain ⟨ta, a1, a2⟩ := h.ex
  refine ⟨_, pe_fld a1 hb, fun F H env σ fp Q r env' k1 k2 k3 k ke => ?_⟩
  refine SndQ.then a2 k1 k2 k3 (fun rd v F1 H1 env1 fp1 q p1 hrd => ?_) ke
  obtain ⟨z, e1, rfl, rfl⟩ := M.lift_some q
  simp only [Option.bind_eq_some_iff] at e1
  obtain ⟨d, e2, e3⟩ := e1
  have c := hrd [] F1 H1 env' fp1 d (.refl p1.ext.fh p1.re) (fun _ _ z => by simp at z) e2
  unfold dFld at e3
  split at e3
  · rename_i c0 nms ds
    simp only [Option.bind_eq_some_iff] at e3
    obtain ⟨j, hj, hd⟩ := e3
    simp only [RepC] at c
    obtain ⟨a, dx, C, vs, rfl, g1, g2, g3, g4, g5⟩ := c
    obtain ⟨v, hv, rv⟩ := g5.get hd
    exact ⟨a, C, dx, _, v, rfl, g2, g4.cl, g4.na f (fix_mem hj), by rw [fix_lookup (g3.trans g5.length.symm) hj]; exact hv, k z v F1 H1 fp1 rfl p1 rv⟩
  · cases e3

/-! ### in, not in -/
def rInS2 (K : PySem.W.Frag) (n : Bool) : R2 := fun x y H Q => ∃ d ds, Dp K H x d ∧ (Dp K H y (.list ds) ∨ Dp K H y (.tuple ds)) ∧ SeqAt.shaped d = true ∧ SeqAt.shaped (.list ds) = true ∧ Q (.bl (n ^^ (ds.any fun z => PyData.eqv z d))) H
theorem shaped_lt {ds : List PyData} : SeqAt.shaped (.tuple ds) = SeqAt.shaped (.list ds) := by
  unfold SeqAt.shaped
  simp only [PyData.canLay0, PyData.depth]
  rfl
theorem op_inS2 (hu : X.A.units + 65 < cLine) : OpR X (compareOp .In) (rInS2 X.K false) := by
  intro pins s σ H x y v u Q I rx ry h
  obtain ⟨d, ds, hd, he, sd, se, q⟩ := h
  obtain ⟨as, r1⟩ := Dp.reads I d x v hd rx
  rw [Bool.false_xor] at q
  rcases he with he | he
  · obtain ⟨bs, r2⟩ := Dp.reads I (.list ds) y u he ry
    exact SeqAt.in_list_reads r2 r1 (SeqAt.canLay_of_shaped se) (SeqAt.canLay_of_shaped sd) (PyProof.Rows.room_in_shaped sd hu) ⟨.bl _, H, I, rfl, q⟩
  · obtain ⟨bs, r2⟩ := Dp.reads I (.tuple ds) y u he ry
    exact SeqAt.in_tuple_reads r2 r1 (SeqAt.canLay_of_shaped se) (SeqAt.canLay_of_shaped sd) (PyProof.Rows.room_in_shaped sd hu) ⟨.bl _, H, I, rfl, q⟩
theorem op_ninS2 (hu : X.A.units + 65 < cLine) : OpR X (compareOp .NotIn) (rInS2 X.K true) := by
  intro pins s σ H x y v u Q I rx ry h
  obtain ⟨d, ds, hd, he, sd, se, q⟩ := h
  obtain ⟨as, r1⟩ := Dp.reads I d x v hd rx
  rw [Bool.true_xor] at q
  rcases he with he | he
  · obtain ⟨bs, r2⟩ := Dp.reads I (.list ds) y u he ry
    exact SeqAt.notIn_list_reads r2 r1 (SeqAt.canLay_of_shaped se) (SeqAt.canLay_of_shaped sd) (PyProof.Rows.room_in_shaped sd hu) ⟨.bl _, H, I, rfl, q⟩
  · obtain ⟨bs, r2⟩ := Dp.reads I (.tuple ds) y u he ry
    exact SeqAt.notIn_tuple_reads r2 r1 (SeqAt.canLay_of_shaped se) (SeqAt.canLay_of_shaped sd) (PyProof.Rows.room_in_shaped sd hu) ⟨.bl _, H, I, rfl, q⟩
def rInDc (n : Bool) : R2 := fun x y H Q => ∃ a o, y = .ref a ∧ DGet H a x o ∧ Q (.bl (n ^^ o.isSome)) H
theorem op_inDc (hu : X.A.units + 1 < cLine) : OpR X (compareOp .In) (rInDc false) := by
  intro pins s σ H x y v u Q I rx ry h
  obtain ⟨a, o, rfl, g, q⟩ := h
  cases ry
  rw [Bool.false_xor] at q
  exact d_in hu I g rx fun s' I' => ⟨.bl _, H, I', rfl, q⟩
theorem op_ninDc (hu : X.A.units + 1 < cLine) : OpR X (compareOp .NotIn) (rInDc true) := by
  intro pins s σ H x y v u Q I rx ry h
  obtain ⟨a, o, rfl, g, q⟩ := h
  cases ry
  rw [Bool.true_xor] at q
  exact d_notIn hu I g rx fun s' I' => ⟨.bl _, H, I', rfl, q⟩
/-- keys of dicts -/
def D.key : D → Option Key
  | .int i => some (.inl i)
  | .str x => some (.inr x)
  | _ => none
def D.keys : List D → Option (List Key)
  | [] => some []
  | d :: ds => d.key.bind fun k => (D.keys ds).map fun ks => k :: ks
theorem D.key_rep {d : D} {k : Key} {v : V} (h : D.key d = some k) (r : RepC X.K X.mg F H d v) : v = kV k := by
  cases d <;> simp only [D.key, Option.some.injEq, reduceCtorEq] at h
  · subst h; simp only [RepC, Rep] at r; exact r
  · subst h; simp only [RepC, Rep] at r; exact r
theorem D.key_rep' {d : D} {k : Key} {v : V} (h : D.key d = some k) (r : Rep X.K X.mg F d v) : v = kV k := by
  cases d <;> simp only [D.key, Option.some.injEq, reduceCtorEq] at h
  · subst h; simp only [Rep] at r; exact r
  · subst h; simp only [Rep] at r; exact r
theorem D.keys_rep : ∀ {ds : List D} {ks : List Key} {vs : List V}, D.keys ds = some ks → Reps X.K X.mg F ds vs → vs = ks.map kV
  | [], ks, vs, h, r => by
    simp only [D.keys, Option.some.injEq] at h
    simp only [Reps] at r
    subst h r; rfl
  | d :: ds, ks, vs, h, r => by
    simp only [D.keys, Option.bind_eq_some_iff, Option.map_eq_some_iff] at h
    obtain ⟨k, h1, ks', h2, rfl⟩ := h
    simp only [Reps] at r
    obtain ⟨v, t, rfl, r1, r2⟩ := r
    rw [D.key_rep' h1 r1, D.keys_rep h2 r2]; rfl
def hasK {κ : Type} [DecidableEq κ] (ks : List κ) (k : κ) : Bool := ks.any fun j => decide (j = k)
theorem valV_zip {κ : Type} [DecidableEq κ] {k : κ} : ∀ {ks : List κ} {vs : List V}, vs.length = ks.length → (valV (ks.zip vs) k).isSome = hasK ks k
  | [], vs, h => by simp [valV, hasK]
  | j :: ks, [], h => by simp at h
  | j :: ks, v :: vs, h => by
    have ih := valV_zip (k := k) (ks := ks) (vs := vs) (by simpa using h)
    unfold valV hasK at ih ⊢
    rw [List.zip_cons_cons, List.find?_cons, List.any_cons]
    by_cases e : j = k
    · subst e; simp
    · rw [decide_eq_false e]
      simp only
      rw [ih]
      rfl
/-- x in y -/
def dInB (d e : D) : Option Bool := match e with
  | .lst es => match D.py d, D.pys es with
    | some p, some qs => if (SeqAt.shaped p && SeqAt.shaped (.list qs)) = true then some (qs.any fun z => PyData.eqv z p) else none
    | _, _ => none
  | .tup es => match D.py d, D.pys es with
    | some p, some qs => if (SeqAt.shaped p && SeqAt.shaped (.list qs)) = true then some (qs.any fun z => PyData.eqv z p) else none
    | _, _ => none
  | .dK ks _ => (D.key d).map fun k => hasK ks k
  | .str z => match d with
    | .str ⟨⟨[c]⟩⟩ => some (decide (c ∈ z.cps.toList))
    | _ => none
  | _ => none
def dIn (d e : D) : Option D := (dInB d e).map .bl
def dNotIn (d e : D) : Option D := (dInB d e).map fun b => .bl (!b)
theorem py_seq (hs : Same F H) {d : D} {x : V} {p : PyData} (rx : RepC X.K X.mg F H d x) (h : D.py d = some p) : Dp X.K H x p := RepC.dp hs d x p rx h
theorem in_core {n : Bool} {d e : D} {x y : V} {b : Bool} {Q : VK} (hs : Same F H) (rx : RepC X.K X.mg F H d x) (ry : RepC X.K X.mg F H e y) (h : dInB d e = some b) (q : Q (.bl (n ^^ b)) H) :
    rInS2 X.K n x y H Q ∨ rInDc n x y H Q ∨ (∃ (c : Nat) (z : Str), x = .str ⟨#[c]⟩ ∧ y = .str z ∧ Q (.bl (n ^^ decide (c ∈ z.cps.toList))) H) := by
  unfold dInB at h
  split at h
  · rename_i es
    split at h
    · rename_i p qs hp hq
      split at h
      · rename_i hc
        cases h
        rw [Bool.and_eq_true] at hc
        refine .inl ⟨p, qs, py_seq hs rx hp, .inl (py_seq hs ry (by simp only [D.py, hq]; rfl)), hc.1, hc.2, q⟩
      · cases h
    · cases h
  · rename_i es
    split at h
    · rename_i p qs hp hq
      split at h
      · rename_i hc
        cases h
        rw [Bool.and_eq_true] at hc
        refine .inl ⟨p, qs, py_seq hs rx hp, .inr (py_seq hs ry (by simp only [D.py, hq]; rfl)), hc.1, hc.2, q⟩
      · cases h
    · cases h
  · rename_i ks ds
    simp only [Option.map_eq_some_iff] at h
    obtain ⟨k, hk, rfl⟩ := h
    simp only [RepC] at ry
    obtain ⟨a, vs, rfl, h1, h2, h3, h4⟩ := ry
    have ex := D.key_rep hk rx
    subst ex
    refine .inr (.inl ⟨a, _, rfl, DGet.k h1, ?_⟩)
    rw [valV_zip (by rw [h4.length, h2])]
    exact q
  · rename_i z
    split at h
    · rename_i c
      cases h
      simp only [RepC, Rep] at rx ry
      exact .inr (.inr ⟨c, z, rx, ry, q⟩)
    · cases h
  · cases h
theorem od_in (hu : X.A.units + 65 < cLine) : OpD X (compareOp .In) dIn := by
  refine ⟨_, OpR.or (op_inS2 hu) (OpR.or (op_inDc (by omega)) op_in_sign), fun F H x y d e z Q hs rx ry hg k => ?_⟩
  simp only [dIn, Option.map_eq_some_iff] at hg
  obtain ⟨b, hb, rfl⟩ := hg
  rcases in_core (n := false) (Q := Q) hs rx ry hb (by rw [Bool.false_xor]; exact k _ F H (.refl hs) rep_bl) with h | h | ⟨c, z, e1, e2, q⟩
  · exact .inl h
  · exact .inr (.inl h)
  · exact .inr (.inr ⟨c, z, e1, e2, by rwa [Bool.false_xor] at q⟩)
theorem od_nin (hu : X.A.units + 65 < cLine) : OpD X (compareOp .NotIn) dNotIn := by
  refine ⟨_, OpR.or (op_ninS2 hu) (OpR.or (op_ninDc (by omega)) op_notIn_sign), fun F H x y d e z Q hs rx ry hg k => ?_⟩
  simp only [dNotIn, Option.map_eq_some_iff] at hg
  obtain ⟨b, hb, rfl⟩ := hg
  rcases in_core (n := true) (Q := Q) hs rx ry hb (by rw [Bool.true_xor]; exact k _ F H (.refl hs) rep_bl) with h | h | ⟨c, z, e1, e2, q⟩
  · exact .inl h
  · exact .inr (.inl h)
  · exact .inr (.inr ⟨c, z, e1, e2, by rwa [Bool.true_xor] at q⟩)
theorem Room.u65 {k : Nat} {A : Around} (r : Room k A) : A.units + 65 < cLine := by have := r.un; omega
theorem Room.u1 {k : Nat} {A : Around} (r : Room k A) : A.units + 1 < cLine := by have := r.un; omega
end
end PL
/-! PL16: a, b = .. of what is held alone; the module's constants. -/
namespace PL
open PySem L2
section
variable {X : Cx} {W : WX} {T T1 T2 T3 A S : List Nat} {F H F' H' F1 H1 F2 H2 : Hp} {env env' : Env} {σ : St} {fp fp' : Nat → List Addr}
/-- a place given a value, and what is then so -/
theorem put_name {i : Nat} {o : O} {v : V} {fr : List Addr} {Q : St → Hp → Prop} (k1 : Same F H) (k2 : RE X.K X.mg F H env σ fp) (ro : RO X.K X.mg F H o v fr) (hd : ∀ j a, a ∈ fr → a ∉ fp j) (hi : i < env.length)
    (k : ∀ σ', RE X.K X.mg F H (env.set i (some o)) σ' (fun j => if j = i then fr else fp j) → (∀ j, j ≠ i → σ'[j]? = σ[j]?) → Q σ' H) : gName i v σ H Q := by
  have hs : i < σ.length := by rw [← k2.len]; exact hi
  exact k (σ.set i (some v)) (k2.put (by simp) hi (List.getElem?_set_self hs) (fun j hj => List.getElem?_set_ne (Ne.symm hj)) ro (fun j _ a ha => hd j a ha)) fun j hj => List.getElem?_set_ne (Ne.symm hj)
def sParO (i j : Nat) (f : M (List O)) : M Fl := M.bd f fun os env => match os with
  | [a, b] => if i < env.length ∧ j < env.length then some (.ok .nx, (env.set i (some a)).set j (some b)) else none
  | _ => none
theorem ros2 {a b : O} {vs : List V} {fr : List Addr} (h : ROs X.K X.mg F H [a, b] vs fr) : ∃ v w f1 f2, vs = [v, w] ∧ RO X.K X.mg F H a v f1 ∧ RO X.K X.mg F H b w f2 ∧ (∀ x ∈ f1, x ∉ f2) ∧ (∀ x ∈ f1, x ∈ fr) ∧ (∀ x ∈ f2, x ∈ fr) := by
  simp only [ROs] at h
  obtain ⟨v, r, f1, f2, rfl, h1, ⟨w, r2, f3, f4, rfl, h2, ⟨rfl, rfl⟩, _, rfl⟩, h3, rfl⟩ := h
  refine ⟨v, w, f1, f3, rfl, h1, h2, fun x hx hy => h3 x hx (by simp [hy]), fun x hx => by simp [hx], fun x hx => by simp [hx]⟩
/-- a, b = x, y with plain local names, what is held alone too -/
theorem z_parO {i j : Nat} {x y : Str} {a b : Expr} {f : M (List O)} {px py pt : Pos} {kt k2 : Nat} {pt2 pos : Pos} (hc : X.calm = true) (hN : X.N.Nodup) (hi : X.N[i]? = some x) (hj : X.N[j]? = some y) (hij : i ≠ j)
    (hx : X.env.scope.names.lookup x = some .local) (hy : X.env.scope.names.lookup y = some .local) (ha : PAo X W T [a, b] f)
    (hw : swappedStores [.Tuple [.Name x px, .Name y py] kt pt] (.Tuple [a, b] k2 pt2) X.env = pure (some [x, y]))
    (hs : swapsWithSole [.Tuple [.Name x px, .Name y py] kt pt] (.Tuple [a, b] k2 pt2) pos.line X.env = pure false := by rfl) :
    PZ X W (T ++ [i, j]) [i, j] (.Assign [.Tuple [.Name x px, .Name y py] kt pt] (.Tuple [a, b] k2 pt2) pos) (sParO i j f) := by
  obtain ⟨t, ht, h2⟩ := ha.ex
  refine ⟨_, ps_par hc hN hi hj hij hx hy ht hw hs, fun F H env σ fp D r env' k1 k2 k3 n bk c rt e => ?_⟩
  refine SndAo.then h2 k1 k2 k3 (fun os vs F1 H1 env1 fp1 fr q p1 ros hd hwf => ?_) (e.expr k2 mem_l)
  split at q
  · rename_i oa ob
    split at q
    · rename_i hl
      cases q
      obtain ⟨v, w, f1, f2, rfl, r1, r2, ap, s1, s2⟩ := ros2 ros
      refine ⟨v, w, rfl, ?_⟩
      show gName i v σ H1 (fun σ' H' => gName j w σ' H' D.nx)
      refine put_name p1.ext.fh p1.re r1 (fun l a ha => hd l a (s1 a ha)) hl.1 fun σ1 re1 so1 => ?_
      refine put_name p1.ext.fh re1 r2 (fun l a ha => ?_) (by rw [List.length_set]; exact hl.2) fun σ2 re2 so2 => ?_
      · by_cases z : l = i
        · rw [if_pos z]; exact fun y => ap a y ha
        · rw [if_neg z]; exact hd l a (s2 a ha)
      · have ni : ∀ {l}, l ∉ T ++ [i, j] → l ∉ T ∧ l ≠ i ∧ l ≠ j := fun {l} hl => by
          simp only [List.mem_append, List.mem_cons, List.not_mem_nil, or_false, not_or] at hl
          exact ⟨hl.1, hl.2.1, hl.2.2⟩
        refine n F1 H1 σ2 _ rfl ⟨⟨p1.ext.mono fun a w => w.mono mem_l, re2, fun l hl => ?_, fun l a ha hl => ?_, by rw [List.length_set, List.length_set]; exact p1.ln⟩, fun l hl => ?_⟩
        · obtain ⟨n1, n2, n3⟩ := ni hl
          obtain ⟨e1, e2⟩ := p1.same l n1
          exact ⟨by rw [List.getElem?_set_ne (Ne.symm n3), List.getElem?_set_ne (Ne.symm n2)]; exact e1, by rw [if_neg n3, if_neg n2]; exact e2⟩
        · by_cases z : l = j
          · rw [if_pos z] at ha
            exact (hwf a (s2 a ha)).imp_left fun w => w.mono mem_l
          · rw [if_neg z] at ha
            by_cases y : l = i
            · rw [if_pos y] at ha
              exact (hwf a (s1 a ha)).imp_left fun w => w.mono mem_l
            · rw [if_neg y] at ha
              rcases p1.come' ha with u | u | u
              · exact .inl ⟨l, hl, u⟩
              · exact .inl (u.mono mem_l)
              · exact .inr u
        · have n2 : l ≠ i ∧ l ≠ j := by simpa using hl
          rw [so2 l n2.2, so1 l n2.1]
    · cases q
  · cases q
end
end PL
/-! PL17: dicts. -/
namespace PL
open PySem L2
section
variable {X : Cx} {W : WX} {T T1 T2 T3 A S : List Nat} {F H F' H' F1 H1 F2 H2 : Hp} {env env' : Env} {σ : St} {fp fp' : Nat → List Addr}
/-! ### d[k] as a value -/
def getK {κ α : Type} [DecidableEq κ] (ks : List κ) (vs : List α) (k : κ) : Option α := ((ks.zip vs).find? fun kv => decide (kv.1 = k)).map (·.2)
theorem getK_reps {κ : Type} [DecidableEq κ] {k : κ} : ∀ {ks : List κ} {ds : List D} {vs : List V} {d : D}, Reps X.K X.mg F ds vs → getK ks ds k = some d → ∃ v, valV (ks.zip vs) k = some v ∧ Rep X.K X.mg F d v
  | [], ds, vs, d, r, h => by simp [getK] at h
  | j :: ks, [], vs, d, r, h => by simp [getK] at h
  | j :: ks, e :: ds, vs, d, r, h => by
    simp only [Reps] at r
    obtain ⟨v, t, rfl, r1, r2⟩ := r
    unfold getK at h
    unfold valV
    rw [List.zip_cons_cons, List.find?_cons] at h ⊢
    by_cases z : j = k
    · subst z
      simp only [decide_true, Option.map_some, Option.some.injEq] at h ⊢
      subst h
      exact ⟨v, rfl, r1⟩
    · rw [decide_eq_false z] at h ⊢
      exact getK_reps (ks := ks) r2 h
def dDGet : D → D → Option D
  | .dK ks ds, k => (D.key k).bind fun k => getK ks ds k
  | _, _ => none
theorem pv_dget {a b : Expr} {fa fb : M Rdr} {S1 S2 : List Nat} {pos : Pos} (hu : X.A.units + 1 < cLine) (ha : PQ X W T1 S1 a fa) (hb : PQ X W T2 S2 b fb) (hp : NoSl b := by exact fun _ _ => rfl) (hS : ∀ i ∈ S1, i ∉ T2 := by decide) :
    PV X W (T1 ++ T2) (.Subscript a b pos) (bin dDGet fa fb) := by
  obtain ⟨ta, a1, a2⟩ := ha.ex
  obtain ⟨tb, b1, b2⟩ := hb.ex
  refine ⟨_, pe_dget hu a1 b1 hp, snd_op (r := fun x y H Q => ∃ a v, x = .ref a ∧ DGet H a y (some v) ∧ Q v H) (fun F H x y d e z Q hs rx ry hg k => ?_) a2 b2 hS⟩
  unfold dDGet at hg
  split at hg
  · rename_i ks ds k0
    simp only [Option.bind_eq_some_iff] at hg
    obtain ⟨kk, hk, hg⟩ := hg
    have ey := D.key_rep hk ry
    subst ey
    simp only [RepC] at rx
    obtain ⟨a, vs, rfl, h1, h2, h3, h4⟩ := rx
    obtain ⟨v, hv, rv⟩ := getK_reps h4 hg
    exact ⟨a, v, rfl, by rw [← hv]; exact DGet.k h1, k v F H (.refl hs) rv⟩
  · cases hg
end
end PL
/-! PL18: sorted of anything that is alike: lists, tuples, dicts, sets. -/
namespace PL
open PySem L2
section
open PySem.W PyProof.Rows PySem.SeqAt PySem.Calls
variable {prog : Program} {w : World} {A : Around} {E : Value → Shared → Prop} {s : Shared}
theorem call_tuple_lt {Q : Value → Shared → Prop} {l b : Addr} {items items2 : Array Value} {e r : Nat → Bool} (hl : s.heap.IsTuple l items) (hb : s.heap.IsTuple b items2)
    (he : ∀ j (h1 : j < items.size) (h2 : j < items2.size), EqAt A.in1 s items[j] items2[j] (e j)) (hr : ∀ j (h1 : j < items.size) (h2 : j < items2.size), e j = false → RcLt A.in1 s items[j] items2[j] (r j))
    (h : Q (.bool (firstLt e r (decide (items.size < items2.size)) (List.range (min items.size items2.size)))) s) : wpAny (model prog w) A (call (.builtin "tuple.__lt__") [.ref l, .ref b]) Q E s := by
  obtain ⟨⟨cls, dd, data, sl⟩, ho, hc, n, hd⟩ := id hl
  obtain ⟨⟨cls2, dd2, data2, sl2⟩, ho2, hc2, n2, hd2⟩ := id hb
  simp only at hc hd hc2 hd2
  subst hc hd hc2 hd2
  exact call_meets F.slot_tuple_lt ⟨_, ho, rfl⟩ F.entry_tuple_lt (F.args_tuple_lt_2 _ _) (tuple_ltAt l b items items2 n n2 dd dd2 sl sl2 e r) ⟨ho, ho2, he, hr, h⟩
theorem oneLt_tups {xs ys : List PyData} {a b : Value} {as bs : List Addr} {Q : Bool → Shared → Prop} (ra : Reads s.heap a (.tuple xs) as) (rb : Reads s.heap b (.tuple ys) bs) (h : alike (.tuple xs) (.tuple ys) = true)
    (hu : A.units + min (PyData.tuple xs).depth (PyData.tuple ys).depth < cLine) (hq : Q (dataLt (.tuple xs) (.tuple ys)) s) : wpAny (model prog w) A (oneLt' true a b) Q E s := by
  have hal : alikeAll xs ys = true := by simpa [alike] using h
  cases ra with
  | @tuple l o vs n _ as₁ h1 h2 h3 h4 =>
    cases rb with
    | @tuple l' o' vs' n' _ bs₁ k1 k2 k3 k4 =>
      have n1 : vs.size = xs.length := by simpa using ReadsAll.length _ _ _ h4
      have n2 : vs'.size = ys.length := by simpa using ReadsAll.length _ _ _ k4
      rw [dataLt_tuple, ← firstLt_toks xs ys hal, ← n1, ← n2] at hq
      rw [oneLt'_eq]
      simp only [if_true]
      refine wpAny_bind (wpAny_cRoomFor (room_here hu) ?_)
      refine wpAny_bind (wpAny_callSpecialIfBound?_slot (T := "tuple") ⟨_, h1, h2⟩ F.slot_tuple_lt (call_tuple_lt (e := pairEq xs ys) (r := fun j => dataLt (xs.getD j .none) (ys.getD j .none)) ⟨_, h1, h2, _, h3⟩ ⟨_, k1, k2, _, k3⟩ (fun j j1 j2 => ?_) (fun j j1 j2 hj => ?_) ?_))
      · have := eqAt_alikeAll xs ys A.in1 s vs.toList vs'.toList _ _ h4 k4 hal (room_in hu) j (by simpa using j1) (by simpa using j2)
        simpa using this
      · have := rcLt_alikeAll xs ys A.in1 s vs.toList vs'.toList _ _ h4 k4 hal (room_in hu) j (by simpa using j1) (by simpa using j2) hj
        simpa using this
      · exact wpAny_truthy_bool hq
def isT1 : PyData → Bool
  | .tuple (_ :: _) => true
  | _ => false
def isT : PyData → Bool
  | .tuple _ => true
  | _ => false
theorem firsts_any : ∀ {vs : List Value} {ds : List PyData}, EachIs (fun v d => ∃ as, Reads s.heap v d as) vs ds → (∀ d, d ∈ ds → isT d = true) →
    ∀ {Q : List (Option Value) → Shared → Prop}, (∀ fs, fs.map (·.isSome) = ds.map isT1 → Q fs s) → wpAny (model prog w) A (vs.mapM firstOfTuple') Q E s
  | _, _, .nil, _, Q, h => by rw [List.mapM_nil]; exact wpAny_pure (h [] rfl)
  | _, _, .cons (a := v) (b := d) ⟨as, r⟩ t, hk, Q, h => by
    rw [List.mapM_cons]
    refine wpAny_bind ?_
    have hd := hk d (List.mem_cons_self ..)
    cases r with
    | @tuple l o xs n ds as h1 h2 h3 h4 =>
      rw [kas_first_eq]
      refine wpAny_bind (Looks.here (show Looks (model prog w) s.heap (typeOf (.ref l)) o.cls from (Looks.ld h1).andThen .now) ?_)
      rw [h2, if_neg (by first | decide | simp)]
      refine wpAny_bind (listItems_at h1 h3 (wpAny_pure ?_))
      refine wpAny_bind (firsts_any t (fun d hd => hk d (List.mem_cons_of_mem _ hd)) fun fs e => wpAny_pure (h _ ?_))
      rw [List.map_cons, List.map_cons, e]
      congr 1
      have n1 := ReadsAll.length _ _ _ h4
      cases ds with
      | nil =>
        have z : xs.size = 0 := by simpa using n1
        simp [isT1, z]
      | cons x r =>
        have z : 0 < xs.size := by simp at n1; omega
        simp [isT1, z]
    | _ => simp [isT] at hd

theorem sortsAt_tups {vs : List Value} {ds : List PyData} (e : EachIs (fun v d => ∃ as, Reads s.heap v d as) vs ds) (hal : AllAlike ds) (hk : ∀ d, d ∈ ds → isT d = true) (hu : ∀ d, d ∈ ds → A.units + d.depth < cLine) : SortsAt prog w A s (dataKind s.heap ds) vs := by
  by_cases hall : ∀ d, d ∈ ds → isT1 d = true
  · refine SortsAt.data e hal (.inl fun d hd => ?_) hu
    have := hall d hd
    unfold isT1 at this
    split at this
    · exact ⟨_, _, rfl⟩
    · cases this
  have room : ∀ {d d' : PyData}, d ∈ ds → A.units + min d.depth d'.depth < cLine := fun {d d'} hd => Nat.lt_of_le_of_lt (Nat.add_le_add_left (Nat.min_le_left _ _) _) (hu d hd)
  refine ⟨fun v hv => ?_, ?_⟩
  · obtain ⟨d, hd, as, r⟩ := e.left v hv
    exact ⟨_, dataKind_some hal hd r⟩
  have lt_of : ∀ kd : SortKind, (∀ x y, keyLt' kd x y = oneLt' false x y) ∨ (∀ x y, keyLt' kd x y = oneLt' true x y) → H.LtAt prog w A s (dataKind s.heap ds) kd := by
    intro kd hkd E x y a b Q ha hb hq
    obtain ⟨d, as, hd, ra, rfl⟩ := dataKind_inv ha
    obtain ⟨d', as', hd', rb, rfl⟩ := dataKind_inv hb
    have t1 := hk d hd
    have t2 := hk d' hd'
    have hr := room (d' := d') hd
    have hal' := hal d hd d' hd'
    cases d with
    | tuple xs =>
      cases d' with
      | tuple ys =>
        rcases hkd with hkd | hkd
        · rw [hkd]
          exact oneLt_alike (fun z => by cases z) ra rb hal' (by simp) hr hq
        · rw [hkd]
          exact oneLt_tups ra rb hal' hr hq
      | _ => simp [isT] at t2
    | _ => simp [isT] at t1
  have kinds : ∀ (E : Value → Shared → Prop) {Q : SortKind → Shared → Prop}, 2 ≤ vs.length → (isT1 (ds.headD .none) = true → Q general' s) → (¬ isT1 (ds.headD .none) = true → Q oneType' s) → wpAny (model prog w) A (keyKind' vs.toArray) Q E s := by
    intro E Q h2 hq hq2
    rw [kat_kind_eq, List.mapM_toArray, map_eq_pure_bind]
    refine wpAny_bind (wpAny_bind (firsts_any e hk fun fs hfs => wpAny_pure ?_))
    have hna : (fs.toArray.all fun x => x.isSome) = false := by
      rw [List.all_toArray]
      cases q : fs.all (fun x => x.isSome) with
      | false => rfl
      | true =>
        refine absurd (fun d hd => ?_) hall
        rw [List.all_eq_true] at q
        have : isT1 d ∈ fs.map (·.isSome) := by rw [hfs]; exact List.mem_map.mpr ⟨d, hd, rfl⟩
        obtain ⟨f, hf, e2⟩ := List.mem_map.mp this
        rw [← e2]
        exact q f hf
    rw [if_neg (by rw [hna]; simp)]
    cases ds with
    | nil => cases e; simp at h2
    | cons d0 ds0 =>
      cases fs with
      | nil => simp at hfs
      | cons f0 fs0 =>
        simp only [List.map_cons, List.cons.injEq] at hfs
        have h0 : (((f0 :: fs0).toArray[0]?).bind id).isSome = f0.isSome := by simp
        by_cases z : isT1 d0 = true
        · rw [if_pos (by rw [h0, hfs.1]; exact z)]
          exact wpAny_pure (hq z)
        · rw [if_neg (by rw [h0, hfs.1]; exact z)]
          rw [oneTypeOnly'_eq, List.mapM_toArray, map_eq_pure_bind]
          refine wpAny_bind (wpAny_bind (wpAny_bind (kas_mapM (r := Value.type "tuple") _ (fun v hv Q' hq' => ?_) (wpAny_pure ?_))))
          · obtain ⟨d, hd, as, r⟩ := e.left v hv
            have t1 := hk d hd
            cases d with
            | tuple xs => exact (looks_reads r).here hq'
            | _ => simp [isT] at t1
          · have hv : ∃ v0 vr, vs = v0 :: vr := by
              cases vs with
              | nil => simp at h2
              | cons v0 vr => exact ⟨v0, vr, rfl⟩
            obtain ⟨v0, vr, rfl⟩ := hv
            have hall : ((List.map (fun _ => Value.type "tuple") (v0 :: vr)).toArray.all fun x => x == Value.type "tuple") = true := by
              simp only [List.all_toArray, List.all_map, List.all_eq_true]
              intro _ _
              exact beq_self_eq_true _
            have h0 : (List.map (fun _ => Value.type "tuple") (v0 :: vr)).toArray[0]? = some (Value.type "tuple") := by simp
            rw [h0]
            simp only [hall, if_true]
            exact wpAny_pure (wpAny_pure (hq2 z))
  by_cases z : isT1 (ds.headD .none) = true
  · refine ⟨general', lt_of _ (.inl fun _ _ => rfl), fun h2 E Q hq => kinds E h2 (fun _ => hq) fun y => absurd z y⟩
  · refine ⟨oneType', lt_of _ (.inr fun _ _ => rfl), fun h2 E Q hq => kinds E h2 (fun y => absurd y z) fun _ => hq⟩
/-- what may be sorted -/
def sortOk (ds : List PyData) : Bool := (ds.all fun p => ds.all fun q => alike p q) && (ds.all isT || ds.all fun p => !isT p && (match p with | .none => false | _ => true)) && ds.all fun p => decide (p.depth ≤ 60)
theorem sortOk_alike {ds : List PyData} (h : sortOk ds = true) : AllAlike ds := by
  unfold sortOk at h
  simp only [Bool.and_eq_true, List.all_eq_true] at h
  exact fun d hd d' hd' => h.1.1 d hd d' hd'
theorem sortsAt_ok {vs : List Value} {ds : List PyData} (e : EachIs (fun v d => ∃ as, Reads s.heap v d as) vs ds) (h : sortOk ds = true) (hu : A.units + 60 < cLine) : SortsAt prog w A s (dataKind s.heap ds) vs := by
  have hal := sortOk_alike h
  unfold sortOk at h
  simp only [Bool.and_eq_true, Bool.or_eq_true, List.all_eq_true, decide_eq_true_eq] at h
  have hd : ∀ d, d ∈ ds → A.units + d.depth < cLine := fun d hd => by have := h.2 d hd; omega
  rcases h.1.2 with hk | hk
  · exact sortsAt_tups e hal hk hd
  · refine SortsAt.data e hal (.inr fun d hd => ?_) hd
    have := hk d hd
    cases d <;> simp [isT] at this ⊢
theorem each_keeps {h h' : Heap} (k : ∀ b o, h.get? b = some o → h'.get? b = some o) : ∀ {vs : List Value} {ds : List PyData}, EachIs (fun v d => ∃ as, Reads h v d as) vs ds → EachIs (fun v d => ∃ as, Reads h' v d as) vs ds
  | _, _, .nil => .nil
  | _, _, .cons ⟨as, r⟩ t => .cons ⟨as, PyProof.Rows.Reads.keeps k r⟩ (each_keeps k t)
/-- sorted of anything that is walked to its end first -/
theorem sorted_gen {l : Addr} {G : Shared → Prop} {P : List Value → List PyData → Prop} {Q : Value → Shared → Prop}
    (hcol : ∀ Q' : List Value → Shared → Prop, (∀ s1 vs ds, (∀ b o, s.heap.get? b = some o → s1.heap.get? b = some o) → G s1 → P vs ds → EachIs (fun v d => ∃ as, Reads s.heap v d as) vs ds → Q' vs s1) → wpAny (model prog w) A.in1 (collect (.ref l)) Q' E s)
    (hok : ∀ vs ds, P vs ds → sortOk ds = true ∧ vs.length ≤ sizeLine) (hu : A.units + 62 < cLine)
    (hQ : ∀ s1 h' out c vs ds, G s1 → (∀ b o, s1.heap.get? b = some o → h'.get? b = some o) → h'.get? s1.heap.objs.size = some (seqObj "list" out c) → P vs ds → KeyedOut false ds vs out.toList → Q (.ref s1.heap.objs.size) { s1 with heap := h' }) :
    wpAny (model prog w) A (call (.builtin "sorted") [.ref l]) Q E s := by
  refine Calls.call_function_entry kind_sorted plain_sorted entry_sorted (args_sorted1 _) ?_
  unfold Builtin.«sorted»
  refine wpAny_bind (m := checkCount "sorted" 1 1 _) (wpAny_pure ?_)
  refine wpAny_bind (hcol _ fun s1 vs ds k hg hp he => ?_)
  obtain ⟨h1, h2⟩ := hok vs ds hp
  refine wpAny_bind (wpAny_newList ?_ h2)
  have hoL : (s1.heap.push (seqObj "list" vs.toArray 0)).get? s1.heap.objs.size = some (seqObj "list" vs.toArray 0) := Heap.get?_push_size _ rfl
  have kp : ∀ b o, s.heap.get? b = some o → (sortingHeap (s1.heap.push (seqObj "list" vs.toArray 0)) s1.heap.objs.size vs).get? b = some o := fun b o e => by
    have e1 := k b o e
    exact sortingHeap_old (Nat.ne_of_lt (Heap.lt_size e1)) (Heap.get?_push_of_some _ e1)
  have ex := each_keeps kp he
  refine wpAny_bind (wpAny_holding (wpAny_call_entry slot_list_sort ⟨_, hoL, rfl⟩ entry_list_sort (list_sort_vals (κ := dataKind (sortingHeap (s1.heap.push (seqObj "list" vs.toArray 0)) s1.heap.objs.size vs) ds) (s := { s1 with heap := s1.heap.push (seqObj "list" vs.toArray 0) }) hoL (sortsAt_ok ex h1 (by show A.units + 1 + 1 + 60 < cLine; omega)) h2 ⟨_, rfl, ?_⟩) (args_list_sort _)))
  obtain ⟨c, hc⟩ := sortedHeap_at (vs := vs) (out := (sortVals (dataKind (sortingHeap (s1.heap.push (seqObj "list" vs.toArray 0)) s1.heap.objs.size vs) ds) false vs vs).toArray) hoL
  refine wpAny_pure ⟨_, rfl, hQ s1 _ _ c vs ds hg (fun b u e1 => ?_) hc hp ⟨_, vs, sortOk_alike h1, rfl, ex⟩⟩
  have hlt := Heap.lt_size e1
  rw [sortedHeap_old (Nat.ne_of_lt hlt) (by rw [size_push']; exact Nat.lt_succ_of_lt hlt)]
  exact Heap.get?_push_of_some _ e1
end
/-! ### over the layer -/
def kP : Key → PyData
  | .inl i => .int i
  | .inr x => .str x
def kDt : Key → D
  | .inl i => .int i
  | .inr x => .str x
section
open PySem.W
variable {X : Cx}
abbrev leD : V × PyData → V × PyData → Bool := dataLe false Prod.snd
theorem vals_each {bs : List (V × PyData)} {us : List Value} : EachIs (fun u b => RelV b.1 u) us bs → Vals (bs.map Prod.fst) us := by
  intro h
  induction h with
  | nil => exact .nil
  | cons r t ih => exact .cons r ih
theorem each_vals : ∀ {bs : List (V × PyData)} {us : List Value}, Vals (bs.map Prod.fst) us → EachIs (fun u b => RelV b.1 u) us bs
  | [], _, .nil => .nil
  | b :: bs, _, .cons r t => .cons r (each_vals t)
theorem each_reads {pins : List (Addr × Obj)} {σ : St} {H : Hp} {s : Shared} (I : Inv X pins σ H s) : ∀ {bs : List (V × PyData)} {us : List Value}, (∀ b ∈ bs, Dp X.K H b.1 b.2) → EachIs (fun u b => RelV b.1 u) us bs → EachIs (fun v d => ∃ as, PySem.Reads s.heap v d as) us (bs.map Prod.snd)
  | _, _, _, .nil => .nil
  | _, _, h, .cons r t => .cons (Dp.reads I _ _ _ (h _ (List.mem_cons_self ..)) r) (each_reads I (fun b hb => h b (List.mem_cons_of_mem _ hb)) t)
theorem each_at {α β : Type} {R : α → β → Prop} : ∀ {as : List α} {bs : List β}, as.length = bs.length → (∀ (j : Nat) a b, as[j]? = some a → bs[j]? = some b → R a b) → EachIs R as bs
  | [], [], _, _ => .nil
  | a :: as, b :: bs, hl, h => .cons (h 0 a b rfl rfl) (each_at (by simpa using hl) fun j x y hx hy => h (j + 1) x y (by simpa using hx) (by simpa using hy))
  | [], _ :: _, hl, _ => by simp at hl
  | _ :: _, [], hl, _ => by simp at hl
def rSrt (K : PySem.W.Frag) : List V → Hp → VK → Prop := fun vs H Q => ∃ (a : Addr) (bs : List (V × PyData)), vs = [V.ref a] ∧
  (SqL K H a (bs.map Prod.fst) ∨ SqT K H a (bs.map Prod.fst) ∨ ∃ kvs : List (Key × V), Rd H a (.dK kvs) ∧ bs = kvs.map fun kv => (kV kv.1, kP kv.1)) ∧ (∀ b ∈ bs, Dp K H b.1 b.2) ∧ sortOk (bs.map Prod.snd) = true ∧
  ∀ p, H p = none → Q (.ref p) (upd H p (.lst ((bs.mergeSort leD).map Prod.fst)))
theorem cr_srt (hc : X.calm = true) (hu : X.A.units + 62 < cLine) : CallR X (.builtin "sorted") (rSrt X.K) := by
  intro pins s σ H vs us Q I r h
  obtain ⟨a, bs, rfl, hs, hd, ho, q⟩ := h
  rw [Vals.ref1 r]
  refine sorted_gen (G := fun s1 => Inv X pins σ H s1) (P := fun us ds => EachIs (fun u b => RelV b.1 u) us bs ∧ ds = bs.map Prod.snd ∧ us.length ≤ sizeLine) (fun Q' hq => ?_) (fun us ds h => ⟨by rw [h.2.1]; exact ho, h.2.2⟩) hu fun s1 h' out c us ds I1 k hg hP ko => ?_
  · rcases hs with hs | hs | ⟨kvs, hs, rfl⟩
    · obtain ⟨its, rv, hl, hz⟩ := I.list hs
      obtain ⟨o, ho, hcl, n, hdt⟩ := hl.isList
      have lz : its.length ≤ sizeLine := by rw [← rv.length]; exact hz
      have e := each_vals rv
      exact wpAny_collect_seq a (.inl rfl) ho hcl hdt (fun h' k => by
        have := hq { s with heap := h' } its (bs.map Prod.snd) k (I.kept (t' := s.toks) k) ⟨e, rfl, lz⟩ (each_reads I hd e)
        simpa using this) (by simpa using lz)
    · obtain ⟨its, rv, hl, hz⟩ := I.tuple hs
      obtain ⟨o, ho, hcl, n, hdt⟩ := hl
      have lz : its.length ≤ sizeLine := by rw [← rv.length]; exact hz
      have e := each_vals rv
      exact wpAny_collect_seq a (.inr rfl) ho hcl hdt (fun h' k => by
        have := hq { s with heap := h' } its (bs.map Prod.snd) k (I.kept (t' := s.toks) k) ⟨e, rfl, lz⟩ (each_reads I hd e)
        simpa using this) (by simpa using lz)
    · obtain ⟨z, lo, vs, rel, dd⟩ := dk_rd I.hok hs
      obtain ⟨ep, hat⟩ := dd.dictAt
      have hl : vs.length = kvs.length := by
        have e := congrArg List.length rel.keys
        simpa using e.symm
      refine PySem.W.kdu_collect (A := X.A.in1) (PySem.W.kdl_dict (knd := mixKind X.prog X.w) (kvs := vs) (ep := ep) lo) (I.ok.hd hc) hat (by rw [hl]; exact z) fun h' tk acc hk hacc => ?_
      have e : EachIs (fun (u : Value) (b : V × PyData) => RelV b.1 u) acc.toList (kvs.map fun kv => (kV kv.1, kP kv.1)) := by
        refine each_at (by rw [Array.length_toList, hacc.1, hl, List.length_map]) fun j u b hu hb => ?_
        obtain ⟨k, x, e1, e2⟩ := hacc.2 j u (by rw [← Array.getElem?_toList]; exact hu)
        have e3 : (vs.map (·.1))[j]? = some k := by rw [List.getElem?_map, e1]; rfl
        rw [← rel.keys, List.getElem?_map] at e3
        rw [List.getElem?_map] at hb
        cases e4 : kvs[j]? with
        | none => rw [e4] at e3; cases e3
        | some y =>
          rw [e4] at e3 hb
          have e5 : y.1 = k := Option.some.inj e3
          have e6 : (kV y.1, kP y.1) = b := Option.some.inj hb
          subst e5 e6
          rcases keyIs_shape (show keyIs y.1 u = true from e2) with ⟨i, t, ek, ev⟩ | ⟨z, t, ek, ev⟩
          · rw [ek]; exact ⟨t, ev⟩
          · rw [ek]; exact ⟨t, ev⟩
      exact hq _ _ _ hk (I.kept hk) ⟨e, rfl, by rw [Array.length_toList, hacc.1, hl]; exact z⟩ (each_reads I hd e)
  · obtain ⟨e, rfl, lz⟩ := hP
    have eo := keyedOut_each (bs := bs) Prod.snd ko e
    have hv := vals_each eo
    have hlen : ((bs.mergeSort leD).map Prod.fst).length ≤ sizeLine := by
      have := (vals_each e).length
      rw [List.length_map] at this
      rw [List.length_map, List.length_mergeSort, this]; exact lz
    exact ⟨.ref _, upd H s1.heap.objs.size (.lst ((bs.mergeSort leD).map Prod.fst)), I1.laid (t' := s1.toks) k (Nat.le_refl _) ⟨hlen, out.toList, c, hv, hg⟩, rfl, q _ (I1.hok.fresh (Nat.le_refl _))⟩
end

/-! ### by plain data -/
def D.pyd (d : D) : PyData := (D.py d).getD .none
def dSle : D → D → Bool := PySem.W.dataLe false D.pyd
def dSrt (ds : List D) : Option (List D) := match D.pys ds with
  | some ps => if sortOk ps = true then some (ds.mergeSort dSle) else none
  | none => none
def dSorted : D → Option O
  | .lst ds => (dSrt ds).map fun es => .lst (es.map .val)
  | .tup ds => (dSrt ds).map fun es => .lst (es.map .val)
  | .dK ks _ => (dSrt (ks.map kDt)).map fun es => .lst (es.map .val)
  | _ => none
def oNew (g : D → Option O) (f : M Rdr) : M O := M.bd f fun rd env => M.lift ((rd env).bind g) env
section
variable {X : Cx} {W : WX} {T T1 T2 T3 A S : List Nat} {F H F' H' F1 H1 F2 H2 : Hp} {env env' : Env} {σ : St} {fp fp' : Nat → List Addr}
theorem pys_pyd : ∀ {ds : List D} {ps : List PyData}, D.pys ds = some ps → ps = ds.map D.pyd
  | [], ps, h => by simp only [D.pys, Option.some.injEq] at h; subst h; rfl
  | d :: ds, ps, h => by
    simp only [D.pys, Option.bind_eq_some_iff, Option.map_eq_some_iff] at h
    obtain ⟨p, h1, qs, h2, rfl⟩ := h
    rw [pys_pyd h2, List.map_cons]
    unfold D.pyd
    rw [h1]; rfl
theorem reps_zip : ∀ {ds : List D} {vs : List V}, Reps X.K X.mg F ds vs → ∀ b ∈ vs.zip ds, Rep X.K X.mg F b.2 b.1
  | [], vs, h, b, hb => by simp at hb
  | d :: ds, vs, h, b, hb => by
    simp only [Reps] at h
    obtain ⟨v, r, rfl, h1, h2⟩ := h
    rw [List.zip_cons_cons] at hb
    rcases List.mem_cons.mp hb with rfl | hb
    · exact h1
    · exact reps_zip h2 b hb
theorem reps_of_zip : ∀ {bs : List (V × D)}, (∀ b ∈ bs, Rep X.K X.mg F b.2 b.1) → Reps X.K X.mg F (bs.map Prod.snd) (bs.map Prod.fst)
  | [], _ => .nil
  | b :: bs, h => .cons (h b (List.mem_cons_self ..)) (reps_of_zip fun c hc => h c (List.mem_cons_of_mem _ hc))
theorem py_some : ∀ {ds : List D} {ps : List PyData}, D.pys ds = some ps → ∀ d ∈ ds, D.py d = some (D.pyd d)
  | [], ps, h, d, hd => by simp at hd
  | e :: ds, ps, h, d, hd => by
    simp only [D.pys, Option.bind_eq_some_iff, Option.map_eq_some_iff] at h
    obtain ⟨p, h1, qs, h2, rfl⟩ := h
    rcases List.mem_cons.mp hd with rfl | hd
    · unfold D.pyd; rw [h1]; rfl
    · exact py_some h2 d hd
/-- the same order, on the values and on the data -/
theorem srt_two {bs : List (V × D)} : ((bs.map fun b => (b.1, D.pyd b.2)).mergeSort leD).map Prod.fst = (bs.mergeSort fun a b => dSle a.2 b.2).map Prod.fst ∧ (bs.mergeSort fun a b => dSle a.2 b.2).map Prod.snd = (bs.map Prod.snd).mergeSort dSle := by
  constructor
  · have := List.map_mergeSort (r := fun a b : V × D => dSle a.2 b.2) (s := leD) (f := fun b : V × D => (b.1, D.pyd b.2)) (l := bs) (fun a _ b _ => rfl)
    rw [← this, List.map_map]
    rfl
  · exact List.map_mergeSort (r := fun a b : V × D => dSle a.2 b.2) (s := dSle) (f := Prod.snd) (l := bs) (fun a _ b _ => rfl)
theorem zip_same {α : Type} (f : Key → V) (g : Key → D) : ∀ kvs : List (Key × α), (kvs.map fun kv => f kv.1).zip (kvs.map fun kv => g kv.1) |>.map (fun b => (b.1, D.pyd b.2)) |> (· = kvs.map fun kv => (f kv.1, D.pyd (g kv.1)))
  | [] => rfl
  | kv :: kvs => by
    show (_ :: _) = _
    rw [List.map_cons]
    congr 1
    exact zip_same f g kvs
theorem pyd_k (k : Key) : D.pyd (kDt k) = kP k := by cases k <;> rfl
theorem reps_keys : ∀ ks : List Key, Reps X.K X.mg F (ks.map kDt) (ks.map kV)
  | [] => .nil
  | .inl i :: ks => .cons rep_int (reps_keys ks)
  | .inr x :: ks => .cons rep_str (reps_keys ks)
theorem srt_core {a : Addr} {vs : List V} {ds es : List D} {Q : VK} (hs : Same F H) (hq : dSrt ds = some es) (hl : ds.length ≤ sizeLine) (hr : Reps X.K X.mg F ds vs)
    (ha : SqL X.K H a vs ∨ SqT X.K H a vs ∨ ∃ kvs : List (Key × V), Rd H a (.dK kvs) ∧ vs = kvs.map (fun kv => kV kv.1) ∧ ds = kvs.map fun kv => kDt kv.1)
    (k : ∀ v F' H' fr, Ext F H (fun _ => False) F' H' → RO X.K X.mg F' H' (.lst (es.map .val)) v fr → (∀ a ∈ fr, H a = none) → Q v H') : rSrt X.K [.ref a] H Q := by
  unfold dSrt at hq
  split at hq
  · rename_i ps hp
    split at hq
    · rename_i hok
      cases hq
      have hlen := hr.length
      have z1 : (vs.zip ds).map Prod.fst = vs := List.map_fst_zip (by omega)
      have z2 : (vs.zip ds).map Prod.snd = ds := List.map_snd_zip (by omega)
      have zz := reps_zip hr
      obtain ⟨s1, s2⟩ := srt_two (bs := vs.zip ds)
      have m1 : ((vs.zip ds).map fun b => (b.1, D.pyd b.2)).map Prod.fst = vs := by rw [List.map_map]; exact z1
      have m2 : ((vs.zip ds).map fun b => (b.1, D.pyd b.2)).map Prod.snd = ds.map D.pyd := by
        rw [List.map_map, show (Prod.snd ∘ fun b : V × D => (b.1, D.pyd b.2)) = D.pyd ∘ Prod.snd from rfl, ← List.map_map, z2]
      refine ⟨a, (vs.zip ds).map fun b => (b.1, D.pyd b.2), rfl, ?_, fun b hb => ?_, by rw [m2, ← pys_pyd hp]; exact hok, fun p hn => ?_⟩
      · rw [m1]
        rcases ha with ha | ha | ⟨kvs, ha, rfl, rfl⟩
        · exact .inl ha
        · exact .inr (.inl ha)
        · refine .inr (.inr ⟨kvs, ha, ?_⟩)
          have := zip_same kV kDt kvs
          simp only [pyd_k] at this
          exact this
      · obtain ⟨c, hc, rfl⟩ := List.mem_map.mp hb
        have hm : c.2 ∈ ds := by
          have := (List.of_mem_zip (show (c.1, c.2) ∈ vs.zip ds from hc)).2
          exact this
        exact Rep.dp hs c.2 c.1 _ (zz c hc) (py_some hp _ hm)
      · rw [s1]
        have rr : Reps X.K X.mg F (ds.mergeSort dSle) (((vs.zip ds).mergeSort fun a b => dSle a.2 b.2).map Prod.fst) := by
          have := reps_of_zip (X := X) (F := F) (bs := (vs.zip ds).mergeSort fun a b => dSle a.2 b.2) fun b hb => zz b (List.mem_mergeSort.mp hb)
          rw [s2, z2] at this
          exact this
        exact k _ _ _ [p] (Ext.allocO hs hn) (ro_new hs hn (by rw [List.length_mergeSort]; exact hl) rr) (fun b hb => by
          have e : b = p := by simpa using hb
          subst e; exact hn)
    · cases hq
  · cases hq
theorem boot_sorted' : bootBuiltins "sorted" = some (.builtin "sorted") := by decide +kernel
theorem po_sorted {e : Expr} {f : M Rdr} {S : List Nat} {p pos : Pos} (hc : X.calm = true) (hu : X.A.units + 65 < cLine) (hg : Gl X "sorted") (hm : X.mg "sorted" = none) (h : PQ X W T S e f)
    (he : starEach [e] X.env = (false, eval e X.env) :: starEach [] X.env := by rfl) (hpl : (backTo pos (starEach [] X.env)).any (·.1) = false := by rfl) : PO X W T (.Call (.Name "sorted" p) [e] [] pos) (oNew dSorted f) := by
  obtain ⟨t, ht, hs⟩ := h.ex
  refine ⟨_, pe_callB (cr_srt hc (by omega)) hg hm boot_sorted' (pa_cons ht pa_nil he) (by decide) (by decide) he hpl, snd_new (fun F H x d z Q hs rx hg k => ?_) hs⟩
  unfold dSorted at hg
  split at hg
  · rename_i ds
    simp only [Option.map_eq_some_iff] at hg
    obtain ⟨es, hq, rfl⟩ := hg
    obtain ⟨a, vs, rfl, h1, h2, h3⟩ := rx
    exact srt_core hs hq h2 h3 (.inl (.of h1)) k
  · rename_i ds
    simp only [Option.map_eq_some_iff] at hg
    obtain ⟨es, hq, rfl⟩ := hg
    simp only [RepC, Rep] at rx
    obtain ⟨a, vs, rfl, h1, h2, h3⟩ := rx
    exact srt_core hs hq h2 h3 (.inr (.inl (sqT hs h1))) k
  · rename_i ks ds
    simp only [Option.map_eq_some_iff] at hg
    obtain ⟨es, hq, rfl⟩ := hg
    simp only [RepC] at rx
    obtain ⟨a, vs, rfl, h1, h2, h3, h4⟩ := rx
    have hl : vs.length = ks.length := by rw [h4.length, h2]
    have e1 : (ks.zip vs).map (fun kv => kV kv.1) = ks.map kV := by
      rw [show (fun kv : Key × V => kV kv.1) = kV ∘ Prod.fst from rfl, ← List.map_map, List.map_fst_zip (by omega)]
    have e2 : (ks.zip vs).map (fun kv => kDt kv.1) = ks.map kDt := by
      rw [show (fun kv : Key × V => kDt kv.1) = kDt ∘ Prod.fst from rfl, ← List.map_map, List.map_fst_zip (by omega)]
    exact srt_core hs hq (by rw [List.length_map, h2]; exact h3) (reps_keys ks) (.inr (.inr ⟨ks.zip vs, .inl h1, e1.symm, e2.symm⟩)) k
  · cases hg
end
end PL
/-! PL19a: set(xs) of a list of ints: its __init__ first, then the making. -/
namespace PL
open PySem L2
section
open PySem.Spec PyProof.Rows
variable {P : Program} {w : World} {A : Around} {E : Value → Shared → Prop} {s : Shared}
abbrev noSet (w : World) : Obj := { cls := .type "set", dict := none, data := .set #[] 0 (.fresh 0 0 (!w.params.followText "set-order")) }
/-- what is so behind set.__init__ -/
def Filled (w : World) (S : Addr) (ns : List Int) (s s' : Shared) : Prop :=
  ∃ h' tk c, s' = { s with heap := h', toks := tk } ∧ SetR w h' S (fun j => decide (j ∈ ns)) c ∧ c ≤ ns.length ∧ ∀ b o, b ≠ S → s.heap.get? b = some o → h'.get? b = some o
set_option maxHeartbeats 4000000 in
theorem init_lst {S l : Addr} {items : Array Value} {ns : List Int} {Q : PySem.Fin → Shared → Prop} (hh : A.in1.handled = none) (hS : s.heap.get? S = some (noSet w)) (hl : s.heap.IsList l items) (hit : IntsAre items.toList ns) (hb : ns.length + 1 < scanBound)
    (h : ∀ s', Filled w S ns s s' → Q (.done (.ret .none)) s') : wpAny (model P w) A (Builtin.«set.__init__» ⟨[.ref S, .ref l], []⟩) Q E s := by
  have hn : items.size = ns.length := by have := IntsAre.length hit; rwa [Array.length_toList] at this
  have lS : l ≠ S := fun e => by
    obtain ⟨o, ho, hc, _⟩ := hl
    rw [e, hS] at ho
    cases ho
    injection hc with hc
    exact absurd hc (by decide)
  have hT : Shared.TypeIs s (.ref S) "set" := ⟨_, hS, rfl⟩
  obtain ⟨⟨oc, od, odat, osl⟩, ho, hc, n, hd⟩ := id hl
  simp only at hc hd
  subst hc hd
  have n1 := F.sub_list_set
  have n2 := F.sub_list_frozenset
  have n3 : (Value.type "list" == Value.type "dict") = false := by decide
  obtain ⟨hp, g, dr, tk, os⟩ := s
  unfold Builtin.«set.__init__» noKeywords Builtin.Frozenset.updateFrom
  generalize hPI : pyIter = PI
  wp_walk
  subst hPI
  have sl : S < hp.objs.size := Heap.lt_size hS
  have ll : l < hp.objs.size := Heap.lt_size ho
  have at_ : ∀ (i : Nat) (v : Value), items[i]? = some v → ∃ k t, ns[i]? = some k ∧ v = .int k t := fun i v hv => by
    have hi : i < ns.length := by rw [← hn]; exact (Array.getElem?_eq_some_iff.mp hv).1
    obtain ⟨t, e⟩ := PyProof.Rows.IntsAre.int_at hit i v (by rw [Array.getElem?_toList]; exact hv)
    exact ⟨ns[i], t, List.getElem?_eq_getElem hi, by rw [e, List.getD_eq_getElem?_getD, List.getElem?_eq_getElem hi]; rfl⟩
  refine wpAny_pyIter_list hl (wpAny_bind (wpAny_runValue ?_))
  have stand : ∀ b o, hp.get? b = some o → (hp.push { cls := .type "list_iterator", data := .fields #[.ref l, .int 0 0] }).get? b = some o := fun b o e => Heap.get?_push_of_some _ e
  have R0 : SetR w (hp.push { cls := .type "list_iterator", data := .fields #[.ref l, .int 0 0] }) S (fun j => decide (j ∈ ns.take 0)) 0 := setR_new_at (stand _ _ hS)
  have W := (Walks.list (prog := P) (w := w) (A := A.in1) hh hp.objs.size l (Nat.ne_of_lt ll) items).toS
  refine set_update_ints W S (by simp only [List.mem_cons, List.not_mem_nil, or_false, not_or]; exact ⟨Nat.ne_of_lt sl, Ne.symm lS⟩) ns hn hb at_ items.size 0 { heap := hp.push { cls := .type "list_iterator", data := .fields #[.ref l, .int 0 0] }, gens := g, drawn := dr, toks := tk, os := os } (by omega) (Nat.zero_le _)
    ⟨⟨_, Heap.get?_push_size _ rfl, rfl, rfl⟩, hl.push _⟩ ⟨0, Nat.le_refl _, R0⟩ fun s' c mv hc R1 => ?_
  obtain ⟨h1, g1, d1, t1, o1⟩ := s'
  have e1 : g1 = g := mv.gens
  have e2 : d1 = dr := mv.drawn
  have e3 : o1 = os := mv.os
  subst e1 e2 e3
  refine wpAny_pure (wpAny_pure (h _ ⟨h1, t1, c, rfl, R1, by omega, fun b o hb e => mv.heap b o ?_ (stand b o e)⟩))
  simp only [List.mem_cons, List.not_mem_nil, or_false, not_or]
  exact ⟨hb, Nat.ne_of_lt (Heap.lt_size e)⟩
theorem call_set_lstI {l : Addr} {items : Array Value} (ns : List Int) {Q : Value → Shared → Prop} (hh : A.handled = none) (hl : s.heap.IsList l items) (hit : IntsAre items.toList ns) (hb : ns.length + 1 < scanBound)
    (h : ∀ (h' : Heap) (tk c : Nat), SetR w h' s.heap.objs.size (fun j => decide (j ∈ ns)) c → c ≤ ns.length → (∀ b o, s.heap.get? b = some o → h'.get? b = some o) → Q (.ref s.heap.objs.size) { s with heap := h', toks := tk }) :
    wpAny (model P w) A (call (.type "set") [.ref l]) Q E s := by
  have ⟨c0, rest, m1⟩ := F.called_set.mro
  have m2 := F.called_set.made
  have m3 := F.called_set.sub
  have m4 := F.called_set.notType
  have m5 := F.called_set.canCreate
  have m6 := F.typeCall_set_1 (.ref l)
  have keep : ∀ b o, s.heap.get? b = some o → (s.heap.push (noSet w)).get? b = some o := fun b o e => Heap.get?_push_of_some _ e
  have hS : (s.heap.push (noSet w)).get? s.heap.objs.size = some (noSet w) := Heap.get?_push_size _ rfl
  refine wpAny_call (codeAny_of_tree (show wpAny _ _ (callAny (.type "set") _) _ _ _ from wpAny_pure ⟨Code.quiet_builtin _ (by decide +kernel), codeAny_builtin F.entry_type_call ?_⟩))
  rw [Around.under_plain (weight_type_call_type "set" [.ref l] []) rfl]
  repeat (any_goals (first | assumption | wp_step))
  refine codeAny_mono (code_set_led1 (.ref l) (E := E) (Q₁ := fun obj s₁ => obj = .ref s.heap.objs.size ∧ s₁ = { s with heap := s.heap.push (noSet w) }) ⟨rfl, rfl⟩) fun r s₁ hr => ?_
  rcases r with e | fl
  · exact hr
  cases fl with
  | ret obj =>
    obtain ⟨rfl, rfl⟩ := hr
    have hT : Shared.TypeIs { s with heap := s.heap.push (noSet w) } (.ref s.heap.objs.size) "set" := ⟨_, hS, rfl⟩
    have i1 := F.called_set.init.lookup
    have i2 := F.called_set.init.bind (.ref s.heap.objs.size)
    clear m1 m2 m4 m5 m6
    repeat (any_goals (first | assumption | wp_step))
    refine codeAny_mono (codeAny_call_builtin (R := wants (fun v s₂ => v = .none ∧ Filled w s.heap.objs.size ns { s with heap := s.heap.push (noSet w) } s₂) E) F.called_set.init.plain F.entry_set_init
      (check_set_init_1 hT (init_lst (by exact hh) hS (hl.push _) hit hb fun s' f => ⟨rfl, f⟩))) fun r2 s2 h2 => ?_
    rcases r2 with e | f2
    · exact h2
    cases f2 with
    | ret v =>
      obtain ⟨rfl, h', tk, c, rfl, R, hc, k⟩ := h2
      have fin := h h' tk c R hc fun b o e => k b o (Nat.ne_of_lt (Heap.lt_size e)) (keep b o e)
      clear R hc k h hl hit hb i1 i2 hT hS keep
      repeat (any_goals (first | assumption | wp_step))
    | _ => exact h2.elim
  | _ => exact hr.elim
end
end PL
/-! PL19: sorted(set(..)). -/
namespace PL
open PySem L2
/-! ### plain: what is sorted, without doubles -/
def ddp {α : Type} [DecidableEq α] : List α → List α
  | [] => []
  | x :: r => if x ∈ ddp r then ddp r else x :: ddp r
theorem mem_ddp {α : Type} [DecidableEq α] {x : α} : ∀ {l : List α}, x ∈ ddp l ↔ x ∈ l
  | [] => Iff.rfl
  | y :: r => by
    unfold ddp
    have ih := mem_ddp (x := x) (l := r)
    split
    · rename_i h
      rw [ih, List.mem_cons]
      refine ⟨.inr, fun z => z.elim (fun e => ?_) id⟩
      rw [e]; exact mem_ddp.mp h
    · rw [List.mem_cons, List.mem_cons, ih]
theorem nodup_ddp {α : Type} [DecidableEq α] : ∀ l : List α, (ddp l).Nodup
  | [] => List.nodup_nil
  | y :: r => by
    unfold ddp
    split
    · exact nodup_ddp r
    · rename_i h
      exact List.nodup_cons.mpr ⟨h, nodup_ddp r⟩
theorem ddp_len {α : Type} [DecidableEq α] : ∀ l : List α, (ddp l).length ≤ l.length
  | [] => Nat.le_refl _
  | y :: r => by
    unfold ddp
    have := ddp_len r
    split
    · rw [List.length_cons]; omega
    · rw [List.length_cons, List.length_cons]; omega
/-- one list alone is ascending and has just these -/
theorem asc_uniq {α : Type} {lt : α → α → Prop} (as : ∀ a b, lt a b → lt b a → False) : ∀ {l m : List α}, l.Pairwise lt → m.Pairwise lt → (∀ x, x ∈ l ↔ x ∈ m) → l = m
  | [], [], _, _, _ => rfl
  | [], y :: m, _, _, h => absurd ((h y).mpr (List.mem_cons_self ..)) (by simp)
  | x :: l, [], _, _, h => absurd ((h x).mp (List.mem_cons_self ..)) (by simp)
  | x :: l, y :: m, hl, hm, h => by
    obtain ⟨a1, a2⟩ := List.pairwise_cons.mp hl
    obtain ⟨b1, b2⟩ := List.pairwise_cons.mp hm
    have e : x = y := by
      rcases List.mem_cons.mp ((h x).mp (List.mem_cons_self ..)) with e | hx
      · exact e
      · rcases List.mem_cons.mp ((h y).mpr (List.mem_cons_self ..)) with e | hy
        · exact e.symm
        · exact absurd (b1 x hx) fun z => as _ _ z (a1 y hy)
    subst e
    congr 1
    refine asc_uniq as a2 b2 fun z => ⟨fun hz => ?_, fun hz => ?_⟩
    · rcases List.mem_cons.mp ((h z).mp (List.mem_cons_of_mem _ hz)) with e | q
      · subst e; exact absurd (a1 z hz) fun q => as _ _ q q
      · exact q
    · rcases List.mem_cons.mp ((h z).mpr (List.mem_cons_of_mem _ hz)) with e | q
      · subst e; exact absurd (b1 z hz) fun q => as _ _ q q
      · exact q
def srtI (ns : List Int) : List Int := ns.mergeSort fun a b => decide (a ≤ b)
theorem srtI_le (ns : List Int) : (srtI ns).Pairwise (· ≤ ·) := by
  have := List.pairwise_mergeSort (le := fun a b : Int => decide (a ≤ b)) (fun a b c h1 h2 => by simp at *; omega) (fun a b => by simp; omega) ns
  exact this.imp fun h => by simpa using h
theorem srtI_perm (ns : List Int) : (srtI ns).Perm ns := List.mergeSort_perm _ _
theorem lt_of_le_nd {l : List Int} (h : l.Pairwise (· ≤ ·)) (nd : l.Nodup) : l.Pairwise (· < ·) := by
  have := h.and nd
  exact this.imp fun h => by omega
/-- the ints in order, each once -/
def srtUI (ns : List Int) : List Int := srtI (ddp ns)
theorem srtUI_lt (ns : List Int) : (srtUI ns).Pairwise (· < ·) := lt_of_le_nd (srtI_le _) ((srtI_perm _).nodup_iff.mpr (nodup_ddp _))
theorem mem_srtUI {ns : List Int} {k : Int} : k ∈ srtUI ns ↔ k ∈ ns := by unfold srtUI; rw [(srtI_perm _).mem_iff, mem_ddp]
theorem srtUI_uniq {ns l : List Int} (h : l.Pairwise (· < ·)) (hm : ∀ k, k ∈ l ↔ k ∈ ns) : l = srtUI ns := asc_uniq (lt := (· < ·)) (fun a b h1 h2 => by omega) h (srtUI_lt ns) fun x => by rw [hm, mem_srtUI]
/-- tuples of ints in order -/
abbrev dTI (ns : List Int) : PyData := .tuple (ns.map .int)
def leT (a b : List Int) : Bool := PySem.W.dataLe false id (dTI a) (dTI b)
theorem leT_total : PySem.W.TotalLe leT where
  trans a b c h1 h2 := (PySem.W.sortLe_total (PyProof.Rows.listOrd PyProof.Rows.itemOrd) false (fun p : PyData => PySem.W.keyToks p)).trans (dTI a) (dTI b) (dTI c) h1 h2
  total a b := (PySem.W.sortLe_total (PyProof.Rows.listOrd PyProof.Rows.itemOrd) false (fun p : PyData => PySem.W.keyToks p)).total (dTI a) (dTI b)

theorem toks_inj : ∀ a b : List Int, PySem.W.keyToksAll (a.map .int) = PySem.W.keyToksAll (b.map .int) → a = b
  | [], [], _ => rfl
  | [], y :: b, h => by simp [PySem.W.keyToksAll, PySem.W.keyToks] at h
  | x :: a, [], h => by simp [PySem.W.keyToksAll, PySem.W.keyToks] at h
  | x :: a, y :: b, h => by
    simp only [List.map_cons, PySem.W.keyToksAll, PySem.W.keyToks, List.cons_append, List.nil_append, List.cons.injEq, Sum.inl.injEq, true_and] at h
    rw [h.1, toks_inj a b h.2]
theorem leT_anti {a b : List Int} (h1 : leT a b = true) (h2 : leT b a = true) : a = b := by
  refine toks_inj a b ?_
  have e1 : PyProof.Rows.lexLt PyProof.Rows.itemOrd (PySem.W.keyToks (dTI b)) (PySem.W.keyToks (dTI a)) = false := by
    have : (!PyProof.Rows.lexLt PyProof.Rows.itemOrd (PySem.W.keyToks (dTI b)) (PySem.W.keyToks (dTI a))) = true := h1
    simpa using this
  have e2 : PyProof.Rows.lexLt PyProof.Rows.itemOrd (PySem.W.keyToks (dTI a)) (PySem.W.keyToks (dTI b)) = false := by
    have : (!PyProof.Rows.lexLt PyProof.Rows.itemOrd (PySem.W.keyToks (dTI a)) (PySem.W.keyToks (dTI b))) = true := h2
    simpa using this
  have := PyProof.Rows.lex_total _ _ e2 e1
  simpa only [dTI, PySem.W.keyToks] using this
def srtT (ts : List (List Int)) : List (List Int) := ts.mergeSort leT
theorem srtT_perm (ts : List (List Int)) : (srtT ts).Perm ts := List.mergeSort_perm _ _
theorem srtT_le (ts : List (List Int)) : (srtT ts).Pairwise fun a b => leT a b = true :=
  List.pairwise_mergeSort (le := leT) leT_total.trans (fun a b => by have := leT_total.total a b; simpa using this) ts
def ltT (a b : List Int) : Prop := leT a b = true ∧ a ≠ b
theorem ltT_asym (a b : List Int) (h1 : ltT a b) (h2 : ltT b a) : False := h1.2 (leT_anti h1.1 h2.1)
def srtUT (ts : List (List Int)) : List (List Int) := srtT (ddp ts)
theorem srtUT_lt (ts : List (List Int)) : (srtUT ts).Pairwise ltT := (srtT_le _).and ((srtT_perm _).nodup_iff.mpr (nodup_ddp _))
theorem mem_srtUT {ts : List (List Int)} {k : List Int} : k ∈ srtUT ts ↔ k ∈ ts := by unfold srtUT; rw [(srtT_perm _).mem_iff, mem_ddp]
theorem srtUT_uniq {ts l : List (List Int)} (h : l.Pairwise ltT) (hm : ∀ k, k ∈ l ↔ k ∈ ts) : l = srtUT ts := asc_uniq ltT_asym h (srtUT_lt ts) fun x => by rw [hm, mem_srtUT]

/-! ### the calls -/
section
open PySem.W
theorem dpAll_ints {K : PySem.W.Frag} {H : Hp} : ∀ ns : List Int, DpAll K H (ns.map V.int) (ns.map PyData.int)
  | [] => .nil
  | n :: ns => .cons (.int n) (dpAll_ints ns)
theorem alike_all_ints : ∀ a b : List Int, alikeAll (a.map PyData.int) (b.map PyData.int) = true
  | [], _ => by rw [List.map_nil, alikeAll]
  | x :: a, [] => by rw [List.map_nil, List.map_cons, alikeAll]
  | x :: a, y :: b => by rw [List.map_cons, List.map_cons, alikeAll, alike_all_ints a b]; rfl
theorem alike_dti (a b : List Int) : alike (dTI a) (dTI b) = true := by unfold dTI; rw [alike]; exact alike_all_ints a b
theorem depth_ints : ∀ a : List Int, PyData.depthAll (a.map PyData.int) ≤ 1
  | [] => by simp [PyData.depthAll]
  | x :: a => by have := depth_ints a; simp only [List.map_cons, PyData.depthAll, PyData.depth]; omega
theorem dti_depth (a : List Int) : (dTI a).depth ≤ 60 := by have := depth_ints a; unfold dTI; simp only [PyData.depth]; omega
theorem each_eq {α β : Type} {f : β → α} : ∀ {as : List α} {bs : List β}, EachIs (fun a b => a = f b) as bs → as = bs.map f
  | _, _, .nil => rfl
  | _, _, .cons h t => by rw [List.map_cons, h, each_eq t]
end
section
open PySem.W PyProof.Rows PySem.Spec
variable {X : Cx}
theorem ints_reads {h : Heap} : ∀ {vs : List Value} {ns : List Int}, IntsAre vs ns → EachIs (fun v d => ∃ as, Reads h v d as) vs (ns.map .int)
  | _, _, .nil => .nil
  | _, _, .cons k t r => .cons ⟨[], .int k t⟩ (ints_reads r)
theorem alike_ints {ns : List Int} : sortOk (ns.map PyData.int) = true := by
  unfold sortOk
  simp only [Bool.and_eq_true, Bool.or_eq_true, List.all_eq_true, List.mem_map, decide_eq_true_eq]
  refine ⟨⟨?_, .inr ?_⟩, ?_⟩
  · rintro _ ⟨i, _, rfl⟩ _ ⟨j, _, rfl⟩; rfl
  · rintro _ ⟨i, _, rfl⟩; simp [isT]
  · rintro _ ⟨i, _, rfl⟩; simp [PyData.depth]
theorem le_ints (a b : Int) : dataLe false id (.int a) (.int b) = decide (a ≤ b) := by
  show (!dataLt (.int b) (.int a)) = _
  rw [dataLt_int]
  by_cases h : a ≤ b
  · rw [decide_eq_true h, decide_eq_false (by omega)]; rfl
  · rw [decide_eq_false h, decide_eq_true (by omega)]; rfl
theorem each_ints {vs : List Value} {ns : List Int} (h : EachIs (fun v (k : Int) => ∃ t, v = Value.int k t) vs ns) : IntsAre vs ns := by
  induction h with
  | nil => exact .nil
  | cons r t ih => obtain ⟨k, rfl⟩ := r; exact .cons _ _ ih
theorem ints_each {vs : List Value} {ns : List Int} (h : IntsAre vs ns) : EachIs (fun v (k : Int) => ∃ t, v = Value.int k t) vs ns := by
  induction h with
  | nil => exact .nil
  | cons k t r ih => exact .cons ⟨t, rfl⟩ ih
theorem keyed_ints {vs out : List Value} {ns : List Int} (ko : KeyedOut false (ns.map .int) vs out) (hi : IntsAre vs ns) : IntsAre out (srtI ns) := by
  have := keyedOut_each (R := fun v (k : Int) => ∃ t, v = Value.int k t) (bs := ns) PyData.int ko (ints_each hi)
  have e : (dataLe false PyData.int : Int → Int → Bool) = fun a b => decide (a ≤ b) := by
    funext a b
    exact le_ints a b
  rw [e] at this
  exact each_ints this
def rSetI (K : PySem.W.Frag) (w : World) : List V → Hp → VK → Prop := fun xs H Q => ∃ (l : Addr) (ns : List Int), xs = [V.ref l] ∧ (SqL K H l (ns.map V.int) ∨ SqT K H l (ns.map V.int)) ∧ ns.length < 4000 ∧
  ∀ a n, H a = none → n ≤ ns.length → Q (.ref a) (upd H a (SetO w a (fun j => decide (j ∈ ns)) n))
theorem cr_setI (hc : X.calm = true) : CallR X (.type "set") (rSetI X.K X.w) := by
  intro pins s σ H xs us Q I r h
  obtain ⟨l, ns, rfl, hs, hb, q⟩ := h
  rw [Vals.ref1 r]
  have hn : H s.heap.objs.size = none := I.hok.fresh (Nat.le_refl _)
  rcases hs with hs | hs
  · obtain ⟨its, rv, pl, hz⟩ := I.list hs
    refine call_set_lstI (P := X.prog) (w := X.w) ns (I.ok.hd hc) pl.isList (by simpa using rv.ints) (by unfold scanBound; omega) fun h' tk c R hcl k => ?_
    exact ⟨.ref s.heap.objs.size, upd H s.heap.objs.size (SetO X.w s.heap.objs.size (fun j => decide (j ∈ ns)) c), I.laid (t' := tk) k (Nat.le_refl _) (setO_new R), rfl, q _ c hn hcl⟩
  · obtain ⟨its, rv, pl, hz⟩ := I.tuple hs
    refine call_set_tupI (P := X.prog) (w := X.w) ns (I.ok.hd hc) pl (by simpa using rv.ints) (by unfold scanBound; omega) fun h' tk c R hcl k => ?_
    exact ⟨.ref s.heap.objs.size, upd H s.heap.objs.size (SetO X.w s.heap.objs.size (fun j => decide (j ∈ ns)) c), I.laid (t' := tk) k (Nat.le_refl _) (setO_new R), rfl, q _ c hn hcl⟩
theorem inv_like {pins : List (Addr × Obj)} {σ : L2.St} {H : Hp} {s s' : Shared} (I : Inv X pins σ H s) (k : ∀ b o, s.heap.get? b = some o → s'.heap.get? b = some o) (g : s'.gens = s.gens) (o : s'.os = s.os) : Inv X pins σ H s' := by
  have J : Inv X pins σ H { s with heap := s'.heap, gens := s'.gens, drawn := s'.drawn, toks := s'.toks } :=
    I.call (ch := []) (Un.kept k) (I.hok.kept k) (by rw [g]; exact I.bare) (fun _ z => nomatch z)
  have e : s' = { s with heap := s'.heap, gens := s'.gens, drawn := s'.drawn, toks := s'.toks } := by
    cases s'
    cases s
    cases o
    rfl
  rw [e]
  exact J
def rSrtSetI (w : World) : List V → Hp → VK → Prop := fun vs H Q => ∃ (a : Addr) (ns : List Int) (n : Nat), vs = [V.ref a] ∧ H a = some (SetO w a (fun j => decide (j ∈ ns)) n) ∧ ∀ p, H p = none → Q (.ref p) (upd H p (.lst ((srtUI ns).map V.int)))
theorem cr_srtSetI (hc : X.calm = true) (hu : X.A.units + 62 < cLine) : CallR X (.builtin "sorted") (rSrtSetI X.w) := by
  intro pins s σ H vs us Q I r h
  obtain ⟨a, ns, n, rfl, ha, q⟩ := h
  obtain ⟨o, es, ep, t, ho, hex, hd, g, nd, hm, hb, hf, hn, hr, hl⟩ := setO_get I ha
  rw [Vals.ref1 r]
  refine sorted_gen (G := fun s1 => Inv X pins σ H s1) (P := fun us ds => ∃ ks : List Int, IntsAre us ks ∧ ds = ks.map .int ∧ us.length ≤ sizeLine ∧ ks.Nodup ∧ ∀ k, k ∈ ks ↔ k ∈ ns) (fun Q' hq => ?_) (fun us ds h => ?_) hu fun s1 h' out c us ds I1 k hg hP ko => ?_
  · refine collect_set (A := X.A.in1) (I.ok.hd hc) ⟨o, ho, hex.1, hd⟩ hf hb hr hl fun s1 vs k1 hz g1 o1 pm => ?_
    have hI : IntsAre vs (vs.map Builtin.Re.reRawOf) := ints_of vs fun v hv => by
      obtain ⟨e, he, q⟩ := List.mem_map.mp (pm.mem_iff.mp hv)
      obtain ⟨k, tk, h1, _⟩ := g e he
      exact ⟨k, tk, by rw [← q]; exact h1⟩
    have pk : (vs.map Builtin.Re.reRawOf).Perm (es.toList.map keyOf) := by
      have q := pm.map Builtin.Re.reRawOf
      rw [List.map_map] at q
      exact q
    refine hq s1 vs _ k1 (inv_like I k1 g1 o1) ⟨_, hI, rfl, ?_, pk.nodup_iff.mpr nd, fun k => ?_⟩ (ints_reads hI)
    · rw [pm.length_eq, List.length_map, Array.length_toList, sizeLine_eq]
      unfold scanBound at hb
      omega
    · rw [pk.mem_iff, ← hm k]; simp
  · obtain ⟨ks, h1, rfl, h3, _⟩ := h
    exact ⟨alike_ints, h3⟩
  · obtain ⟨ks, h1, rfl, h3, h4, h5⟩ := hP
    have ho := keyed_ints ko h1
    have e : srtI ks = srtUI ns := srtUI_uniq (lt_of_le_nd (srtI_le _) ((srtI_perm _).nodup_iff.mpr h4)) fun k => by rw [(srtI_perm _).mem_iff, h5]
    rw [e] at ho
    have hlen : ((srtUI ns).map V.int).length ≤ sizeLine := by
      have l1 := IntsAre.length ho
      have l2 := ko.length (by rw [List.length_map, IntsAre.length h1])
      rw [List.length_map]; omega
    exact ⟨.ref _, upd H s1.heap.objs.size (.lst ((srtUI ns).map V.int)), I1.laid (t' := s1.toks) k (Nat.le_refl _) ⟨hlen, out.toList, c, vals_of_ints ho, hg⟩, rfl, q _ (I1.hok.fresh (Nat.le_refl _))⟩
def rSrtSetT (K : PySem.W.Frag) (P : Program) (w : World) : List V → Hp → VK → Prop := fun vs H Q => ∃ (a : Addr) (L : List (Addr × List Int)), vs = [V.ref a] ∧ H a = some (SetTO P w a L) ∧ (∀ p ∈ L, SqT K H p.1 (p.2.map V.int)) ∧
  ∀ (L' : List (Addr × List Int)) (p : Addr), (∀ q ∈ L', q ∈ L) → L'.map (·.2) = srtUT (L.map (·.2)) → H p = none → Q (.ref p) (upd H p (.lst (L'.map fun q => V.ref q.1)))
theorem cr_srtSetT (hc : X.calm = true) (hu : X.A.units + 62 < cLine) : CallR X (.builtin "sorted") (rSrtSetT X.K X.prog X.w) := by
  intro pins s σ H vs us Q I r h
  obtain ⟨a, L, rfl, ha, hk, q⟩ := h
  have R0 : SetT0 X.prog X.w s.heap a L := (I.hok a _ ha).1
  obtain ⟨es, ep, t, R⟩ := R0.full fun p hp => I.isT (hk p hp)
  obtain ⟨o, ho, hex, hd⟩ := R.ob
  have hfew := R.few
  rw [Vals.ref1 r]
  have hes : es.toList.map (·.2) = L.map fun q => Value.ref q.1 := by
    rw [R.rows]
    unfold L2.rowsOf
    rw [List.map_map] <;> rfl
  have rd : ∀ q ∈ L, ∃ as, Reads s.heap (.ref q.1) (dTI q.2) as := fun q hq => by
    have hdp : Dp X.K H (.ref q.1) (dTI q.2) := .tup (hk q hq) (dpAll_ints q.2)
    exact Dp.reads I _ _ _ hdp rfl
  refine sorted_gen (G := fun s1 => Inv X pins σ H s1) (P := fun us ds => ∃ L1 : List (Addr × List Int), us = L1.map (fun q => Value.ref q.1) ∧ ds = L1.map (fun q => dTI q.2) ∧ us.length < 64 ∧ (∀ q ∈ L1, q ∈ L) ∧ L1.Perm L) (fun Q' hq => ?_) (fun us ds h => ?_) hu fun s1 h' out c us ds I1 k hg hP ko => ?_
  · refine collect_set (A := X.A.in1) (I.ok.hd hc) ⟨o, ho, hex.1, hd⟩ R.fits (by have := R.size; unfold scanBound; omega) R.tab.ris R.led fun s1 vs k1 hz g1 o1 pm => ?_
    rw [hes] at pm
    obtain ⟨L1, p1, e1⟩ := perm_lift (fun q : Addr × List Int => Value.ref q.1) pm L rfl
    have hs : ∀ q ∈ L1, q ∈ L := fun q hq => p1.mem_iff.mp hq
    refine hq s1 vs (L1.map fun q => dTI q.2) k1 (inv_like I k1 g1 o1) ⟨L1, e1.symm, rfl, by rw [pm.length_eq, List.length_map]; exact hfew, hs, p1⟩ ?_
    rw [← e1]
    refine each_at (by simp) fun j v d hv hdd => ?_
    rw [List.getElem?_map] at hv hdd
    cases e : L1[j]? with
    | none => rw [e] at hv; cases hv
    | some q =>
      rw [e] at hv hdd
      cases hv; cases hdd
      exact rd q (hs q (List.mem_of_getElem? e))
  · obtain ⟨L1, h1, rfl, h3, h4, h5⟩ := h
    refine ⟨?_, by rw [sizeLine_eq]; omega⟩
    unfold sortOk
    simp only [Bool.and_eq_true, Bool.or_eq_true, List.all_eq_true, List.mem_map, decide_eq_true_eq]
    refine ⟨⟨?_, .inl ?_⟩, ?_⟩
    · rintro _ ⟨i, _, rfl⟩ _ ⟨j, _, rfl⟩
      exact alike_dti i.2 j.2
    · rintro _ ⟨i, _, rfl⟩; rfl
    · rintro _ ⟨i, _, rfl⟩; exact dti_depth i.2
  · obtain ⟨L1, rfl, rfl, h3, h4, h5⟩ := hP
    have eo := keyedOut_each (R := fun v (q : Addr × List Int) => v = Value.ref q.1) (bs := L1) (fun q => dTI q.2) (vs := L1.map fun q => Value.ref q.1) ko (each_at (by simp) fun j v q hv hq => by
      rw [List.getElem?_map, hq] at hv
      exact (Option.some.inj hv).symm)
    have eo' : out.toList = (L1.mergeSort (dataLe false fun q => dTI q.2)).map fun q => Value.ref q.1 := each_eq eo
    have pm := List.mergeSort_perm L1 (dataLe false fun q : Addr × List Int => dTI q.2)
    have pw := List.pairwise_mergeSort (le := dataLe false fun q : Addr × List Int => dTI q.2) (fun a b c h1 h2 => leT_total.trans a.2 b.2 c.2 h1 h2) (fun a b => by have := leT_total.total a.2 b.2; simpa [leT, dataLe, sortLe] using this) L1
    have em : (L1.mergeSort (dataLe false fun q => dTI q.2)).map (·.2) = srtUT (L.map (·.2)) := by
      refine srtUT_uniq ?_ fun z => ((pm.trans h5).map _).mem_iff
      refine List.Pairwise.and ?_ (((pm.trans h5).map _).nodup_iff.mpr R.nd)
      rw [List.pairwise_map]
      exact pw.imp fun h => h
    have hlen : ((L1.mergeSort (dataLe false fun q => dTI q.2)).map fun q => V.ref q.1).length ≤ sizeLine := by
      rw [List.length_map, List.length_mergeSort]
      rw [List.length_map] at h3
      rw [sizeLine_eq]; omega
    exact ⟨.ref _, upd H s1.heap.objs.size (.lst ((L1.mergeSort (dataLe false fun q => dTI q.2)).map fun q => V.ref q.1)), I1.laid (t' := s1.toks) k (Nat.le_refl _) ⟨hlen, out.toList, c, by rw [eo']; exact vals_of_refs _, hg⟩, rfl, q _ _ (fun z hz => h4 z (pm.mem_iff.mp hz)) em (I1.hok.fresh (Nat.le_refl _))⟩
end
end PL
/-! PL20: sorted(set(..)) by plain data; sum, max, min, join, str. -/
namespace PL
open PySem L2
def intsD : List D → Option (List Int)
  | [] => some []
  | .int i :: ds => (intsD ds).map fun is => i :: is
  | _ :: _ => none
def tintsD : List D → Option (List (List Int))
  | [] => some []
  | .tup ds :: es => (intsD ds).bind fun is => (tintsD es).map fun ts => is :: ts
  | _ :: _ => none
theorem intsD_eq : ∀ {ds : List D} {ns : List Int}, intsD ds = some ns → ds = ns.map .int
  | [], ns, h => by cases h; rfl
  | d :: ds, ns, h => by
    cases d <;> simp only [intsD, Option.map_eq_some_iff, reduceCtorEq] at h
    obtain ⟨is, h, rfl⟩ := h
    rw [intsD_eq h]; rfl
theorem intsD_map : ∀ ns : List Int, intsD (ns.map .int) = some ns
  | [] => rfl
  | n :: ns => by rw [List.map_cons, intsD, intsD_map ns]; rfl
theorem tintsD_eq : ∀ {ds : List D} {ts : List (List Int)}, tintsD ds = some ts → ds = ts.map fun t => .tup (t.map .int)
  | [], ts, h => by cases h; rfl
  | d :: ds, ts, h => by
    cases d <;> simp only [tintsD, Option.map_eq_some_iff, Option.bind_eq_some_iff, reduceCtorEq] at h
    obtain ⟨is, h1, ts, h2, rfl⟩ := h
    rw [intsD_eq h1, tintsD_eq h2]; rfl
theorem tintsD_map : ∀ ts : List (List Int), tintsD (ts.map fun t => .tup (t.map .int)) = some ts
  | [] => rfl
  | t :: ts => by rw [List.map_cons, tintsD, intsD_map, tintsD_map ts]; rfl
def dSrtSetL (ds : List D) : Option O := match intsD ds with
  | some ns => if ns.length < 4000 then some (.lst ((srtUI ns).map fun i => .val (.int i))) else none
  | none => match tintsD ds with
    | some ts => if ts.length < 64 then some (.lst ((srtUT ts).map fun t => .val (.tup (t.map .int)))) else none
    | none => none
def dSrtSet : D → Option O
  | .lst ds => dSrtSetL ds
  | .tup ds => match intsD ds with
    | some ns => if ns.length < 4000 then some (.lst ((srtUI ns).map fun i => .val (.int i))) else none
    | none => none
  | _ => none
section
variable {X : Cx} {W : WX} {T T1 T2 T3 A S : List Nat} {F H F' H' F1 H1 F2 H2 : Hp} {env env' : Env} {σ : St} {fp fp' : Nat → List Addr}
theorem reps_vints : ∀ {ns : List Int} {vs : List V}, Reps X.K X.mg F (ns.map .int) vs → vs = ns.map V.int
  | [], vs, h => by simpa only [List.map_nil, Reps] using h
  | n :: ns, vs, h => by
    simp only [List.map_cons, Reps] at h
    obtain ⟨v, r, rfl, h1, h2⟩ := h
    simp only [Rep] at h1
    rw [h1, reps_vints h2]; rfl
theorem reps_vtups : ∀ {ts : List (List Int)} {vs : List V}, Reps X.K X.mg F (ts.map fun t => .tup (t.map .int)) vs → ∃ ks : List (Addr × List Int), vs = ks.map (fun p => V.ref p.1) ∧ ks.map (·.2) = ts ∧ ∀ p ∈ ks, TupR X.K F p.1 (p.2.map V.int) ∧ p.2.length ≤ sizeLine
  | [], vs, h => ⟨[], by simpa only [List.map_nil, Reps] using h, rfl, fun p hp => by simp at hp⟩
  | t :: ts, vs, h => by
    simp only [List.map_cons, Reps] at h
    obtain ⟨v, r, rfl, h1, h2⟩ := h
    simp only [Rep] at h1
    obtain ⟨a, us, rfl, g1, g2, g3⟩ := h1
    obtain ⟨ks, e1, e2, h3⟩ := reps_vtups h2
    rw [reps_vints g3] at g1
    refine ⟨(a, t) :: ks, by rw [e1]; rfl, by rw [← e2]; rfl, fun p hp => ?_⟩
    rcases List.mem_cons.mp hp with rfl | hp
    · exact ⟨g1, by simpa using g2⟩
    · exact h3 p hp
theorem upd_none {H : Hp} {a p : Addr} {o : HO} (h : upd H a o p = none) : p ≠ a ∧ H p = none := by
  have hp : p ≠ a := fun e => by subst e; rw [upd_same] at h; cases h
  exact ⟨hp, by rwa [upd_ne hp] at h⟩
theorem Ext.two {a p : Addr} {o o' : HO} (h : Same F H) (n1 : H a = none) (n2 : upd H a o p = none) : Ext F H (fun _ => False) F (upd (upd H a o) p o') := by
  have e1 := Ext.allocO (o := o) h n1
  have e2 := Ext.allocO (o := o') e1.fh n2
  exact e1.trans (fun _ z => z.elim) e2
def rSS (X : Cx) : List V → Hp → VK → Prop := fun vs H Q => rSetI X.K X.w vs H (fun y H2 => rSrtSetI X.w [y] H2 Q ∨ rSrtSetT X.K X.prog X.w [y] H2 Q) ∨ rSetOfT X.K X.prog X.w vs H (fun y H2 => rSrtSetI X.w [y] H2 Q ∨ rSrtSetT X.K X.prog X.w [y] H2 Q)
theorem boot_set' : bootBuiltins "set" = some (.type "set") := by decide +kernel
theorem pe_srtset {e : Expr} {t : TE} {p p2 pos pos2 : Pos} (hc : X.calm = true) (hu : X.A.units + 65 < cLine) (hg : Gl X "sorted") (hm : X.mg "sorted" = none) (hg2 : Gl X "set") (hm2 : X.mg "set" = none) (ht : PE X e t)
    (he : starEach [e] X.env = (false, eval e X.env) :: starEach [] X.env := by rfl) (he2 : starEach [.Call (.Name "set" p2) [e] [] pos2] X.env = (false, eval (.Call (.Name "set" p2) [e] [] pos2) X.env) :: starEach [] X.env := by rfl) (hpl : (backTo pos (starEach [] X.env)).any (·.1) = false := by rfl) (hpl2 : (backTo pos2 (starEach [] X.env)).any (·.1) = false := by rfl) :
    PE X (.Call (.Name "sorted" p) [.Call (.Name "set" p2) [e] [] pos2] [] pos) (tCB (rSS X) (tCons t tNil)) := by
  have h1 := pe_callTy (p := p2) (CallR.or (cr_setI hc) (cr_setOfT hc (by omega))) hg2 hm2 boot_set' (pa_cons ht pa_nil he) (by decide) (by decide) he hpl2
  have h2 := pe_callB (p := p) (CallR.or (cr_srtSetI hc (by omega)) (cr_srtSetT hc (by omega))) hg hm boot_sorted' (pa_cons h1 pa_nil he2) (by decide) (by decide) he2 hpl
  exact h2
theorem ss_ints {a : Addr} {vs : List V} {ns : List Int} {Q : VK} (hs : Same F H) (hl : ns.length < 4000) (ha : SqL X.K H a vs ∨ SqT X.K H a vs) (hr : Reps X.K X.mg F (ns.map .int) vs)
    (k : ∀ v F' H' fr, Ext F H (fun _ => False) F' H' → RO X.K X.mg F' H' (.lst ((srtUI ns).map fun i => .val (.int i))) v fr → (∀ a ∈ fr, H a = none) → Q v H') : rSS X [.ref a] H Q := by
  rw [reps_vints hr] at ha
  refine .inl ⟨a, ns, rfl, ha, hl, fun b n hb hn => .inl ⟨b, ns, n, rfl, upd_same, fun p hp => ?_⟩⟩
  obtain ⟨hpb, hp'⟩ := upd_none hp
  have e2 : Same F (upd H b (SetO X.w b (fun j => decide (j ∈ ns)) n)) := (Ext.allocO hs hb).fh
  have hz : (srtUI ns).length ≤ sizeLine := by
    have h1 := (srtI_perm (ddp ns)).length_eq
    have h2 := ddp_len ns
    unfold srtUI
    rw [h1, sizeLine_eq]; omega
  have e3 : (srtUI ns).map (fun i => O.val (D.int i)) = ((srtUI ns).map D.int).map .val := by simp only [List.map_map]; rfl
  refine k _ F _ [p] (Ext.two hs hb hp) ?_ (fun c hc => ?_)
  · rw [e3]
    exact ro_new e2 hp (by simpa using hz) (reps_ints _)
  · have e : c = p := by simpa using hc
    subst e; exact hp'
theorem ss_tups {a : Addr} {vs : List V} {ts : List (List Int)} {Q : VK} (hs : Same F H) (hl : ts.length < 64) (ha : SqL X.K H a vs) (hr : Reps X.K X.mg F (ts.map fun t => .tup (t.map .int)) vs)
    (k : ∀ v F' H' fr, Ext F H (fun _ => False) F' H' → RO X.K X.mg F' H' (.lst ((srtUT ts).map fun t => .val (.tup (t.map .int)))) v fr → (∀ a ∈ fr, H a = none) → Q v H') : rSS X [.ref a] H Q := by
  obtain ⟨ks, rfl, e2, h3⟩ := reps_vtups hr
  refine .inr ⟨a, ks, rfl, ha, fun p hp => sqT hs (h3 p hp).1, by rw [← e2, List.length_map] at hl; exact hl, fun b L hb h4 h5 => .inr ⟨b, L, rfl, upd_same, fun p hp => ?_, fun L' p h6 h7 hp => ?_⟩⟩
  · exact sqT (Ext.allocO hs hb).fh (h3 p (h4 p hp)).1
  obtain ⟨hpb, hp'⟩ := upd_none hp
  have e3 : Same F (upd H b (SetTO X.prog X.w b L)) := (Ext.allocO hs hb).fh
  have e4 : L'.map (·.2) = srtUT ts := by
    rw [h7]
    refine srtUT_uniq (srtUT_lt _) fun z => ?_
    rw [mem_srtUT, ← e2]
    exact ⟨fun hz => by obtain ⟨q, hq, rfl⟩ := List.mem_map.mp hz; exact List.mem_map.mpr ⟨q, h4 q hq, rfl⟩, fun hz => by obtain ⟨q, hq, rfl⟩ := List.mem_map.mp hz; exact h5 q hq⟩
  have hz : L'.length ≤ sizeLine := by
    have h1 := (srtT_perm (ddp ts)).length_eq
    have h2 := ddp_len ts
    have h3 := congrArg List.length e4
    rw [List.length_map] at h3
    unfold srtUT at h3
    rw [h3, h1, sizeLine_eq]; omega
  have rr : ∀ l : List (Addr × List Int), (∀ q ∈ l, q ∈ ks) → Reps X.K X.mg F ((l.map (·.2)).map fun t => .tup (t.map .int)) (l.map fun q => V.ref q.1) := by
    intro l
    induction l with
    | nil => exact fun _ => .nil
    | cons q l ih =>
      intro h
      obtain ⟨t1, t2⟩ := h3 q (h q (List.mem_cons_self ..))
      exact .cons (rep_tup t1 (by simpa using t2) (reps_ints _)) (ih fun z hz => h z (List.mem_cons_of_mem _ hz))
  refine k _ F _ [p] (Ext.two hs hb hp) ?_ (fun c hc => ?_)
  · rw [← e4]
    have e5 : (L'.map (·.2)).map (fun t => O.val (D.tup (t.map .int))) = ((L'.map (·.2)).map fun t => D.tup (t.map .int)).map .val := by simp only [List.map_map]; rfl
    rw [e5]
    exact ro_new e3 hp (by simpa using hz) (rr L' fun q hq => h4 q (h6 q hq))
  · have e : c = p := by simpa using hc
    subst e; exact hp'
theorem po_srtset {e : Expr} {f : M Rdr} {S : List Nat} {p p2 pos pos2 : Pos} (hc : X.calm = true) (hu : X.A.units + 65 < cLine) (hg : Gl X "sorted") (hm : X.mg "sorted" = none) (hg2 : Gl X "set") (hm2 : X.mg "set" = none) (h : PQ X W T S e f)
    (he : starEach [e] X.env = (false, eval e X.env) :: starEach [] X.env := by rfl) (he2 : starEach [.Call (.Name "set" p2) [e] [] pos2] X.env = (false, eval (.Call (.Name "set" p2) [e] [] pos2) X.env) :: starEach [] X.env := by rfl) (hpl : (backTo pos (starEach [] X.env)).any (·.1) = false := by rfl) (hpl2 : (backTo pos2 (starEach [] X.env)).any (·.1) = false := by rfl) :
    PO X W T (.Call (.Name "sorted" p) [.Call (.Name "set" p2) [e] [] pos2] [] pos) (oNew dSrtSet f) := by
  obtain ⟨t, ht, hs⟩ := h.ex
  refine ⟨_, pe_srtset hc hu hg hm hg2 hm2 ht he he2 hpl hpl2, snd_new (fun F H x d z Q hs rx hg k => ?_) hs⟩
  unfold dSrtSet at hg
  split at hg
  · rename_i ds
    simp only [RepC] at rx
    obtain ⟨a, vs, rfl, h1, h2, h3⟩ := rx
    unfold dSrtSetL at hg
    split at hg
    · rename_i ns hns
      split at hg
      · rename_i hl
        cases hg
        rw [intsD_eq hns] at h3
        exact ss_ints hs hl (.inl (.of h1)) h3 k
      · cases hg
    · split at hg
      · rename_i ts hts
        split at hg
        · rename_i hl
          cases hg
          rw [tintsD_eq hts] at h3
          exact ss_tups hs hl (.of h1) h3 k
        · cases hg
      · cases hg
  · rename_i ds
    simp only [RepC, Rep] at rx
    obtain ⟨a, vs, rfl, h1, h2, h3⟩ := rx
    split at hg
    · rename_i ns hns
      split at hg
      · rename_i hl
        cases hg
        rw [intsD_eq hns] at h3
        exact ss_ints hs hl (.inr (sqT hs h1)) h3 k
      · cases hg
    · cases hg
  · cases hg
end
end PL
/-! PL21: sum, max, min, str, methods of texts. -/
namespace PL
open PySem L2
section
open PySem.W
variable {X : Cx} {W : WX} {T T1 T2 T3 A S : List Nat} {F H F' H' F1 H1 F2 H2 : Hp} {env env' : Env} {σ : L2.St} {fp fp' : Nat → List Addr}
theorem Room.cm {k : Nat} {A : Around} (r : Room k A) : True := trivial
/-! ### sum -/
def dSum : D → Option D
  | .lst ds => (intsD ds).map fun ns => .int ns.sum
  | _ => none
theorem boot_sum' : bootBuiltins "sum" = some (.builtin "sum") := by decide +kernel
theorem boot_max' : bootBuiltins "max" = some (.builtin "max") := by decide +kernel
theorem boot_min' : bootBuiltins "min" = some (.builtin "min") := by decide +kernel
theorem boot_ord' : bootBuiltins "ord" = some (.builtin "ord") := by decide +kernel
theorem ca_sum (hc : X.calm = true) : CaD X (.builtin "sum") dSum := by
  refine ⟨_, cr_sum hc, fun F H x d z Q hs rx hg k => ?_⟩
  unfold dSum at hg
  split at hg
  · rename_i ds
    simp only [Option.map_eq_some_iff] at hg
    obtain ⟨ns, hns, rfl⟩ := hg
    obtain ⟨a, vs, rfl, h1, h2, h3⟩ := rx
    rw [intsD_eq hns] at h3
    rw [reps_vints h3] at h1
    exact ⟨a, ns, rfl, .of h1, k _ F H (.refl hs) rep_int⟩
  · cases hg
/-! ### the greatest, the least -/
mutual
def plD : D → Bool
  | .non => true
  | .bl _ => true
  | .int _ => true
  | .str _ => true
  | .tup ds => plDs ds
  | _ => false
def plDs : List D → Bool
  | [] => true
  | d :: ds => plD d && plDs ds
end
mutual
theorem py_inj : ∀ (d e : D), plD d = true → plD e = true → D.py d = D.py e → d = e
  | .non, e, h1, h2, h => by
    cases e with
    | tup es => cases q : D.pys es <;> simp [D.py, q] at h
    | _ => first | rfl | (simp [D.py, plD] at h h2 <;> first | (subst h; rfl) | (rw [h]))
  | .bl b, e, h1, h2, h => by
    cases e with
    | tup es => cases q : D.pys es <;> simp [D.py, q] at h
    | _ => first | rfl | (simp [D.py, plD] at h h2 <;> first | (subst h; rfl) | (rw [h]))
  | .int b, e, h1, h2, h => by
    cases e with
    | tup es => cases q : D.pys es <;> simp [D.py, q] at h
    | _ => first | rfl | (simp [D.py, plD] at h h2 <;> first | (subst h; rfl) | (rw [h]))
  | .str b, e, h1, h2, h => by
    cases e with
    | tup es => cases q : D.pys es <;> simp [D.py, q] at h
    | _ => first | rfl | (simp [D.py, plD] at h h2 <;> first | (subst h; rfl) | (rw [h]))
  | .tup ds, e, h1, h2, h => by
    cases e with
    | tup es =>
      simp only [plD] at h1 h2
      simp only [D.py] at h
      rw [pys_inj ds es h1 h2]
      cases q : D.pys ds with
      | none => exact absurd q (pys_ne ds h1)
      | some p =>
        cases q2 : D.pys es with
        | none => exact absurd q2 (pys_ne es h2)
        | some p2 =>
          rw [q, q2] at h
          simpa using h
    | _ => cases q : D.pys ds <;> simp [D.py, plD, q] at h h2
  | .gl _, _, h1, _, _ => by simp [plD] at h1
  | .ty _, _, h1, _, _ => by simp [plD] at h1
  | .lst _, _, h1, _, _ => by simp [plD] at h1
  | .frl _, _, h1, _, _ => by simp [plD] at h1
  | .dK _ _, _, h1, _, _ => by simp [plD] at h1
  | .dT _ _, _, h1, _, _ => by simp [plD] at h1
  | .ins _ _ _, _, h1, _, _ => by simp [plD] at h1
theorem pys_inj : ∀ (ds es : List D), plDs ds = true → plDs es = true → D.pys ds = D.pys es → ds = es
  | [], [], _, _, _ => rfl
  | [], e :: es, _, h2, h => by
    simp only [plDs, Bool.and_eq_true] at h2
    simp only [D.pys] at h
    have n1 := py_ne e h2.1
    have n2 := pys_ne es h2.2
    cases q : D.py e with
    | none => exact absurd q n1
    | some p =>
      cases q2 : D.pys es with
      | none => exact absurd q2 n2
      | some ps => rw [q, q2] at h; simp at h
  | d :: ds, [], h1, _, h => by
    simp only [plDs, Bool.and_eq_true] at h1
    simp only [D.pys] at h
    have n1 := py_ne d h1.1
    have n2 := pys_ne ds h1.2
    cases q : D.py d with
    | none => exact absurd q n1
    | some p =>
      cases q2 : D.pys ds with
      | none => exact absurd q2 n2
      | some ps => rw [q, q2] at h; simp at h
  | d :: ds, e :: es, h1, h2, h => by
    simp only [plDs, Bool.and_eq_true] at h1 h2
    simp only [D.pys] at h
    have n1 := py_ne d h1.1
    have n2 := pys_ne ds h1.2
    have m1 := py_ne e h2.1
    have m2 := pys_ne es h2.2
    cases q : D.py d with
    | none => exact absurd q n1
    | some p =>
      cases q2 : D.pys ds with
      | none => exact absurd q2 n2
      | some ps =>
        cases q3 : D.py e with
        | none => exact absurd q3 m1
        | some p3 =>
          cases q4 : D.pys es with
          | none => exact absurd q4 m2
          | some ps4 =>
            rw [q, q2, q3, q4] at h
            simp at h
            rw [py_inj d e h1.1 h2.1 (by rw [q, q3, h.1]), pys_inj ds es h1.2 h2.2 (by rw [q2, q4, h.2])]
theorem py_ne : ∀ (d : D), plD d = true → D.py d ≠ none
  | .non, _ => by simp [D.py]
  | .bl _, _ => by simp [D.py]
  | .int _, _ => by simp [D.py]
  | .str _, _ => by simp [D.py]
  | .tup ds, h => by
    simp only [plD] at h
    have := pys_ne ds h
    cases q : D.pys ds with
    | none => exact absurd q this
    | some p => simp [D.py, q]
  | .gl _, h1 => by simp [plD] at h1
  | .ty _, h1 => by simp [plD] at h1
  | .lst _, h1 => by simp [plD] at h1
  | .frl _, h1 => by simp [plD] at h1
  | .dK _ _, h1 => by simp [plD] at h1
  | .dT _ _, h1 => by simp [plD] at h1
  | .ins _ _ _, h1 => by simp [plD] at h1
theorem pys_ne : ∀ (ds : List D), plDs ds = true → D.pys ds ≠ none
  | [], _ => by simp [D.pys]
  | d :: ds, h => by
    simp only [plDs, Bool.and_eq_true] at h
    have n1 := py_ne d h.1
    have n2 := pys_ne ds h.2
    cases q : D.py d with
    | none => exact absurd q n1
    | some p =>
      cases q2 : D.pys ds with
      | none => exact absurd q2 n2
      | some ps => simp [D.pys, q, q2]
end
def bestP (lt : PyData → PyData → Bool) (x : PyData) (xs : List PyData) : PyData := xs.foldl (fun a y => if lt a y = true then y else a) x
def bestD (lt : PyData → PyData → Bool) (x : D) (xs : List D) : D := xs.foldl (fun a y => if lt a.pyd y.pyd = true then y else a) x
theorem best_map (lt : PyData → PyData → Bool) : ∀ (x : D) (xs : List D), (bestD lt x xs).pyd = bestP lt x.pyd (xs.map D.pyd)
  | x, [] => rfl
  | x, y :: xs => by
    show (bestD lt (if lt x.pyd y.pyd = true then y else x) xs).pyd = bestP lt (if lt x.pyd y.pyd = true then y.pyd else x.pyd) (xs.map D.pyd)
    rw [best_map]
    split <;> rfl
theorem best_mem {α : Type} (f : α → α → Bool) : ∀ (x : α) (xs : List α), xs.foldl (fun a y => if f a y = true then y else a) x ∈ x :: xs
  | x, [] => by simp
  | x, y :: xs => by
    have := best_mem f (if f x y = true then y else x) xs
    rw [List.foldl_cons]
    rcases List.mem_cons.mp this with h | h
    · rw [h]; split <;> simp
    · exact List.mem_cons_of_mem _ (List.mem_cons_of_mem _ h)
def okBest (ds : List PyData) : Bool := (ds.all fun p => ds.all fun q => alike p q) && (ds.all fun p => match p with | .none => false | _ => true) && decide (PyData.depthAll ds ≤ 60)
theorem okBest_alike {ds : List PyData} (h : okBest ds = true) : AlikeAll ds ∧ PyData.depthAll ds ≤ 60 := by
  unfold okBest at h
  simp only [Bool.and_eq_true, List.all_eq_true, decide_eq_true_eq] at h
  refine ⟨⟨fun x hx y hy => h.1.1 x hx y hy, fun x hx e => ?_⟩, h.2⟩
  have := h.1.2 x hx
  rw [e] at this
  cases this
def rBest (K : PySem.W.Frag) (lt : PyData → PyData → Bool) : List V → Hp → VK → Prop := fun vs H Q => ∃ (a : Addr) (b : V × PyData) (bs : List (V × PyData)), vs = [V.ref a] ∧ (SqL K H a ((b :: bs).map Prod.fst) ∨ SqT K H a ((b :: bs).map Prod.fst)) ∧
  (∀ c ∈ b :: bs, Dp K H c.1 c.2) ∧ okBest ((b :: bs).map Prod.snd) = true ∧ ∀ c ∈ b :: bs, c.2 = bestP lt b.2 (bs.map Prod.snd) → Q c.1 H
theorem dp_all {K : PySem.W.Frag} {H : Hp} : ∀ {bs : List (V × PyData)}, (∀ c ∈ bs, Dp K H c.1 c.2) → DpAll K H (bs.map Prod.fst) (bs.map Prod.snd)
  | [], _ => .nil
  | b :: bs, h => .cons (h b (List.mem_cons_self ..)) (dp_all fun c hc => h c (List.mem_cons_of_mem _ hc))
theorem best_end {pins : List (Addr × Obj)} {H : Hp} {s : Shared} {Q : VK} {lt : PyData → PyData → Bool} {b : V × PyData} {bs : List (V × PyData)} {its : List Value} (I : Inv X pins σ H s) (rv : Vals ((b :: bs).map Prod.fst) its)
    (hd : ∀ c ∈ b :: bs, Dp X.K H c.1 c.2) (hok : AlikeAll ((b :: bs).map Prod.snd)) (q : ∀ c ∈ b :: bs, c.2 = bestP lt b.2 (bs.map Prod.snd) → Q c.1 H)
    (i : Nat) (v : Value) (h' : Heap) (tk : Nat) (as : List Addr) (hv : its.toArray[i]? = some v) (r : Reads h' v (bestP lt b.2 (bs.map Prod.snd)) as) (k : ∀ b o, s.heap.get? b = some o → h'.get? b = some o) : EP X pins σ Q v { s with heap := h', toks := tk } := by
  have hv' : its[i]? = some v := by simpa using hv
  have el := each_vals rv
  have lz : its.length = (b :: bs).length := by have := rv.length; rw [List.length_map] at this; exact this.symm
  have hi : i < (b :: bs).length := by rw [← lz]; exact lt_of_get hv'
  have hc := List.getElem?_eq_getElem hi
  have rr : RelV ((b :: bs)[i]).1 v := by
    obtain ⟨u, hu, hr⟩ := rv.get (by rw [List.getElem?_map, hc]; rfl)
    rw [hv'] at hu
    cases hu
    exact hr
  have hm := List.getElem_mem hi
  obtain ⟨as2, r2⟩ := Dp.reads I _ _ _ (hd _ hm) rr
  have r3 := PyProof.Rows.Reads.keeps k r2
  have hb : bestP lt b.2 (bs.map Prod.snd) ∈ (b :: bs).map Prod.snd := best_mem lt b.2 (bs.map Prod.snd)
  have e := alike_unique _ _ v as2 as (hok.1 _ (List.mem_map.mpr ⟨_, hm, rfl⟩) _ hb) r3 r
  exact ⟨_, H, I.kept k, rr, q _ hm e⟩
theorem cr_max' (hc : X.calm = true) (hu : X.A.units + 62 < cLine) : CallR X (.builtin "max") (rBest X.K dataLt) := by
  intro pins s σ H vs us Q I r h
  obtain ⟨a, b, bs, rfl, hs, hd, ho, q⟩ := h
  obtain ⟨hok, hdp⟩ := okBest_alike ho
  rw [Vals.ref1 r]
  rcases hs with hs | hs
  · obtain ⟨its, rv, hl, hz⟩ := I.list hs
    obtain ⟨as, rd⟩ := Dp.readsAll I _ _ _ (dp_all hd) rv
    exact max_list_data (I.ok.hd hc) hl.isList (by simpa using rd) hok (by rw [List.map_cons] at hdp; omega) fun i v h' tk bs' hv r k => best_end I rv hd hok q i v h' tk bs' hv r k
  · obtain ⟨its, rv, hl, hz⟩ := I.tuple hs
    obtain ⟨as, rd⟩ := Dp.readsAll I _ _ _ (dp_all hd) rv
    exact max_tuple_data (I.ok.hd hc) hl (by simpa using rd) hok (by rw [List.map_cons] at hdp; omega) fun i v h' tk bs' hv r k => best_end I rv hd hok q i v h' tk bs' hv r k
abbrev ltR (a b : PyData) : Bool := dataLt b a
theorem cr_min' (hc : X.calm = true) (hu : X.A.units + 62 < cLine) : CallR X (.builtin "min") (rBest X.K ltR) := by
  intro pins s σ H vs us Q I r h
  obtain ⟨a, b, bs, rfl, hs, hd, ho, q⟩ := h
  obtain ⟨hok, hdp⟩ := okBest_alike ho
  rw [Vals.ref1 r]
  rcases hs with hs | hs
  · obtain ⟨its, rv, hl, hz⟩ := I.list hs
    obtain ⟨as, rd⟩ := Dp.readsAll I _ _ _ (dp_all hd) rv
    exact min_list_data (I.ok.hd hc) hl.isList (by simpa using rd) hok (by rw [List.map_cons] at hdp; omega) fun i v h' tk bs' hv r k => best_end I rv hd hok q i v h' tk bs' hv r k
  · obtain ⟨its, rv, hl, hz⟩ := I.tuple hs
    obtain ⟨as, rd⟩ := Dp.readsAll I _ _ _ (dp_all hd) rv
    exact min_tuple_data (I.ok.hd hc) hl (by simpa using rd) hok (by rw [List.map_cons] at hdp; omega) fun i v h' tk bs' hv r k => best_end I rv hd hok q i v h' tk bs' hv r k
def dBestL (lt : PyData → PyData → Bool) : List D → Option D
  | [] => none
  | d :: ds => if plDs (d :: ds) = true ∧ okBest ((d :: ds).map D.pyd) = true then some (bestD lt d ds) else none
def dBest (lt : PyData → PyData → Bool) : D → Option D
  | .lst ds => dBestL lt ds
  | .tup ds => dBestL lt ds
  | _ => none
theorem plDs_mem : ∀ {ds : List D}, plDs ds = true → ∀ d ∈ ds, plD d = true
  | [], _, d, h => by simp at h
  | e :: ds, h, d, hd => by
    simp only [plDs, Bool.and_eq_true] at h
    rcases List.mem_cons.mp hd with rfl | hd
    · exact h.1
    · exact plDs_mem h.2 d hd
theorem py_pyd {d : D} (h : plD d = true) : D.py d = some d.pyd := by
  unfold D.pyd
  cases q : D.py d with
  | none => exact absurd q (py_ne d h)
  | some p => rfl
theorem best_core {lt : PyData → PyData → Bool} {a : Addr} {vs : List V} {ds : List D} {z : D} {Q : VK} (hs : Same F H) (hg : dBestL lt ds = some z) (ha : SqL X.K H a vs ∨ SqT X.K H a vs) (hr : Reps X.K X.mg F ds vs)
    (k : ∀ v F' H', Ext F H (fun _ => False) F' H' → Rep X.K X.mg F' z v → Q v H') : rBest X.K lt [.ref a] H Q := by
  cases ds with
  | nil => cases hg
  | cons d ds =>
    simp only [dBestL] at hg
    split at hg
    · rename_i hc
      cases hg
      have hl := hr.length
      cases vs with
      | nil => simp at hl
      | cons v vs =>
        have zz := reps_zip hr
        rw [List.zip_cons_cons] at zz
        have l2 : vs.length = ds.length := by simpa using hl
        have z1 : (vs.zip ds).map Prod.fst = vs := List.map_fst_zip (by omega)
        have z2 : (vs.zip ds).map Prod.snd = ds := List.map_snd_zip (by omega)
        have m1 : (((v, d) :: vs.zip ds).map fun b => (b.1, D.pyd b.2)).map Prod.fst = v :: vs := by rw [List.map_map]; show v :: (vs.zip ds).map Prod.fst = _; rw [z1]
        have m2 : (((v, d) :: vs.zip ds).map fun b => (b.1, D.pyd b.2)).map Prod.snd = (d :: ds).map D.pyd := by
          rw [List.map_map, show (Prod.snd ∘ fun b : V × D => (b.1, D.pyd b.2)) = D.pyd ∘ Prod.snd from rfl, ← List.map_map]
          show (d :: (vs.zip ds).map Prod.snd).map D.pyd = _
          rw [z2]
        have m3 : ((vs.zip ds).map fun b => (b.1, D.pyd b.2)).map Prod.snd = ds.map D.pyd := by
          rw [List.map_map, show (Prod.snd ∘ fun b : V × D => (b.1, D.pyd b.2)) = D.pyd ∘ Prod.snd from rfl, ← List.map_map, z2]
        have hp := plDs_mem hc.1
        have memd : ∀ c ∈ (v, d) :: vs.zip ds, c.2 ∈ d :: ds := fun c hc => by
          rcases List.mem_cons.mp hc with rfl | hc
          · simp
          · exact List.mem_cons_of_mem _ (List.of_mem_zip (show (c.1, c.2) ∈ vs.zip ds from hc)).2
        refine ⟨a, (v, d.pyd), (vs.zip ds).map fun b => (b.1, D.pyd b.2), rfl, ?_, fun c hc => ?_, ?_, fun c hc e => ?_⟩
        · show SqL X.K H a ((((v, d) :: vs.zip ds).map fun b => (b.1, D.pyd b.2)).map Prod.fst) ∨ SqT X.K H a ((((v, d) :: vs.zip ds).map fun b => (b.1, D.pyd b.2)).map Prod.fst)
          rw [m1]; exact ha
        · obtain ⟨c0, h0, rfl⟩ := List.mem_map.mp (show c ∈ ((v, d) :: vs.zip ds).map fun b => (b.1, D.pyd b.2) from hc)
          exact Rep.dp hs c0.2 c0.1 _ (zz c0 h0) (py_pyd (hp _ (memd c0 h0)))
        · show okBest ((((v, d) :: vs.zip ds).map fun b => (b.1, D.pyd b.2)).map Prod.snd) = true
          rw [m2]; exact hc.2
        · obtain ⟨c0, h0, rfl⟩ := List.mem_map.mp (show c ∈ ((v, d) :: vs.zip ds).map fun b => (b.1, D.pyd b.2) from hc)
          have e2 : c0.2.pyd = (bestD lt d ds).pyd := by rw [best_map, ← m3]; exact e
          have hb : bestD lt d ds ∈ d :: ds := best_mem (fun a y : D => lt a.pyd y.pyd) d ds
          have e3 : c0.2 = bestD lt d ds := py_inj _ _ (hp _ (memd c0 h0)) (hp _ hb) (by rw [py_pyd (hp _ (memd c0 h0)), py_pyd (hp _ hb), e2])
          rw [← e3] at k
          exact k _ F H (.refl hs) (zz c0 h0)
    · cases hg
theorem ca_best {id : String} {lt : PyData → PyData → Bool} (h : CallR X (.builtin id) (rBest X.K lt)) : CaD X (.builtin id) (dBest lt) := by
  refine ⟨_, h, fun F H x d z Q hs rx hg k => ?_⟩
  unfold dBest at hg
  split at hg
  · rename_i ds
    obtain ⟨a, vs, rfl, h1, h2, h3⟩ := rx
    exact best_core hs hg (.inl (.of h1)) h3 k
  · rename_i ds
    simp only [RepC, Rep] at rx
    obtain ⟨a, vs, rfl, h1, h2, h3⟩ := rx
    exact best_core hs hg (.inr (sqT hs h1)) h3 k
  · cases hg
theorem ca_max (hc : X.calm = true) (hu : X.A.units + 65 < cLine) : CaD X (.builtin "max") (dBest dataLt) := ca_best (cr_max' hc (by omega))
theorem ca_min (hc : X.calm = true) (hu : X.A.units + 65 < cLine) : CaD X (.builtin "min") (dBest ltR) := ca_best (cr_min' hc (by omega))
/-! ### of two ints -/
def dMax2 : D → D → Option D
  | .int i, .int j => some (.int (if j > i then j else i))
  | _, _ => none
def dMin2 : D → D → Option D
  | .int i, .int j => some (.int (if j < i then j else i))
  | _, _ => none
theorem pv_call2 {id : String} {x : Str} {g : D → D → Option D} {r : List V → Hp → VK → Prop} {e c : Expr} {f : M (List D)} {p pos : Pos} (hr : CallR X (.builtin id) r) (hv : bootBuiltins x = some (.builtin id)) (hg : Gl X x) (hm : X.mg x = none)
    (h2 : ∀ (F H : Hp) (v w : V) (a b z : D) (Q : VK), Same F H → Rep X.K X.mg F a v → Rep X.K X.mg F b w → g a b = some z → (∀ u, Rep X.K X.mg F z u → Q u H) → r [v, w] H Q) (h : PAs X W T [e, c] f)
    (hn : x ≠ "__name__" := by decide) (hdb : (x == ("__debug__" : Str)) = false := by decide)
    (he : starEach [e, c] X.env = (false, eval e X.env) :: starEach [c] X.env := by rfl) (hpl : (backTo pos (starEach [c] X.env)).any (·.1) = false := by rfl) : PV X W T (.Call (.Name x p) [e, c] [] pos) (vCall2 g f) := by
  obtain ⟨t, ht, hs⟩ := h.ex
  refine ⟨_, pe_callB hr hg hm hv ht hn hdb he hpl, fun F H env σ fp Q r env' k1 k2 k3 k ke => ?_⟩
  refine SndA.then hs k1 k2 k3 (fun ds vs F1 H1 env1 fp1 q p1 reps => ?_) ke
  obtain ⟨z, e1, rfl, rfl⟩ := M.lift_some q
  split at e1
  · rename_i d c
    obtain ⟨v, w, rfl, h1, h3⟩ := reps2 reps
    exact h2 F1 H1 v w d c z _ p1.ext.fh h1 h3 e1 fun u ru => k _ _ F1 H1 fp1 rfl p1 ru
  · cases e1
theorem pv_max2 {e c : Expr} {f : M (List D)} {p pos : Pos} (hc : X.calm = true) (hg : Gl X "max") (hm : X.mg "max" = none) (h : PAs X W T [e, c] f)
    (he : starEach [e, c] X.env = (false, eval e X.env) :: starEach [c] X.env := by rfl) (hpl : (backTo pos (starEach [c] X.env)).any (·.1) = false := by rfl) : PV X W T (.Call (.Name "max" p) [e, c] [] pos) (vCall2 dMax2 f) := by
  refine pv_call2 (call_max2 hc) boot_max' hg hm (fun F H v w a b z Q hs h1 h2 hg k => ?_) h (by decide) (by decide) he hpl
  unfold dMax2 at hg
  split at hg
  · cases hg
    simp only [Rep] at h1 h2
    exact ⟨_, _, by rw [h1, h2], k _ rep_int⟩
  · cases hg
theorem pv_min2 {e c : Expr} {f : M (List D)} {p pos : Pos} (hc : X.calm = true) (hg : Gl X "min") (hm : X.mg "min" = none) (h : PAs X W T [e, c] f)
    (he : starEach [e, c] X.env = (false, eval e X.env) :: starEach [c] X.env := by rfl) (hpl : (backTo pos (starEach [c] X.env)).any (·.1) = false := by rfl) : PV X W T (.Call (.Name "min" p) [e, c] [] pos) (vCall2 dMin2 f) := by
  refine pv_call2 (call_min2 hc) boot_min' hg hm (fun F H v w a b z Q hs h1 h2 hg k => ?_) h (by decide) (by decide) he hpl
  unfold dMin2 at hg
  split at hg
  · cases hg
    simp only [Rep] at h1 h2
    exact ⟨_, _, by rw [h1, h2], k _ rep_int⟩
  · cases hg
/-! ### str(int), ord -/
def dStr : D → Option D
  | .int i => if i.natAbs.log2 < 1920 then some (.str (toString i)) else none
  | .str x => some (.str x)
  | _ => none
theorem ca_str : CaD X (.type "str") dStr := by
  refine ⟨_, CallR.or call_str_int SkE.call_str_str, fun F H x d z Q hs rx hg k => ?_⟩
  unfold dStr at hg
  split at hg
  · split at hg
    · rename_i h
      cases hg
      exact .inl ⟨_, by rw [repC_int rx], h, k _ F H (.refl hs) rep_str⟩
    · cases hg
  · cases hg
    exact .inr ⟨_, by rw [repC_str rx], k _ F H (.refl hs) rep_str⟩
  · cases hg
def dOrd : D → Option D
  | .str x => if x.length = 1 then some (.int (x.cps.getD 0 0 : Nat)) else none
  | _ => none
theorem ca_ord : CaD X (.builtin "ord") dOrd := by
  refine ⟨_, call_ord, fun F H x d z Q hs rx hg k => ?_⟩
  unfold dOrd at hg
  split at hg
  · split at hg
    · rename_i h
      cases hg
      exact ⟨_, by rw [repC_str rx], h, k _ F H (.refl hs) rep_int⟩
    · cases hg
  · cases hg
/-! ### methods of texts -/
def strsD : List D → Option (List Str)
  | [] => some []
  | .str i :: ds => (strsD ds).map fun is => i :: is
  | _ :: _ => none
theorem strsD_eq : ∀ {ds : List D} {ns : List Str}, strsD ds = some ns → ds = ns.map .str
  | [], ns, h => by cases h; rfl
  | d :: ds, ns, h => by
    cases d <;> simp only [strsD, Option.map_eq_some_iff, reduceCtorEq] at h
    obtain ⟨is, h, rfl⟩ := h
    rw [strsD_eq h]; rfl
theorem strsD_map : ∀ ns : List Str, strsD (ns.map .str) = some ns
  | [] => rfl
  | n :: ns => by rw [List.map_cons, strsD, strsD_map ns]; rfl
theorem reps_vstrs : ∀ {ns : List Str} {vs : List V}, Reps X.K X.mg F (ns.map .str) vs → vs = ns.map V.str
  | [], vs, h => by simpa only [List.map_nil, Reps] using h
  | n :: ns, vs, h => by
    simp only [List.map_cons, Reps] at h
    obtain ⟨v, r, rfl, h1, h2⟩ := h
    simp only [Rep] at h1
    rw [h1, reps_vstrs h2]; rfl
theorem reps_strs : ∀ {ns : List Str}, Reps X.K X.mg F (ns.map .str) (ns.map V.str)
  | [] => .nil
  | n :: ns => .cons rep_str reps_strs
def asStr (f : M D) : M Str := M.bd f fun d => M.lift (match d with
  | .str x => some x
  | _ => none)
/-- o.m() that gives a value -/
def vS0 (g : Str → Option D) (f : M D) : M D := M.bd (asStr f) fun x => M.lift (g x)
theorem asStr_ok {f : M D} {r : Except Ex Str} (h : asStr f env = some (r, env')) : (∃ x, f env = some (.ok (.str x), env') ∧ r = .ok x) ∨ ∃ x, f env = some (.error x, env') ∧ r = .error x := by
  rcases M.bd_cases h with ⟨d, e1, h1, h2⟩ | ⟨x, h1, h2⟩
  · obtain ⟨z, e2, rfl, rfl⟩ := M.lift_some h2
    split at e2
    · cases e2
      exact .inl ⟨_, h1, rfl⟩
    · cases e2
  · exact .inr ⟨x, h1, h2⟩
theorem SndV.str {t : TE} {f : M D} (hs : SndV X W T t f) {β : Type} {g : Str → M β} {r : Except Ex β} {R : VK} (k1 : Same F H) (k2 : RE X.K X.mg F H env σ fp) (k3 : M.bd (asStr f) g env = some (r, env'))
    (k : ∀ x F1 H1 env1 fp1, g x env1 = some (r, env') → Pst X.K X.mg T F H env fp F1 H1 env1 σ fp1 → R (.str x) H1) (ke : ErrK X W T F H env σ fp β r env') : t σ H R := by
  rcases M.bd_cases k3 with ⟨x, e1, h1, h2⟩ | ⟨x, h1, rfl⟩
  · rcases asStr_ok h1 with ⟨y, h3, h4⟩ | ⟨y, h3, h4⟩
    · cases h4
      refine hs F H env σ fp _ _ e1 k1 k2 h3 (fun d v F1 H1 fp1 e p rep => ?_) (fun x _ _ _ _ _ e => by cases e)
      cases e
      simp only [Rep] at rep
      subst rep
      exact k x F1 H1 e1 fp1 h2 p
    · cases h4
  · rcases asStr_ok h1 with ⟨y, h3, h4⟩ | ⟨y, h3, h4⟩
    · cases h4
    · cases h4
      refine hs F H env σ fp _ _ env' k1 k2 h3 (fun d v F1 H1 fp1 e => by cases e) (fun x' F' H' fp' cls d e p ex => ?_)
      cases e
      exact ke x F' H' fp' cls d rfl p ex
theorem pv_s0 {id : String} {name : Str} {apos pos : Pos} {r : V → List V → Hp → VK → Prop} {o : Expr} {f : M D} {g : Str → Option D} (slot : Slot "str" name id) (ty : typeOf (.builtin id) = pure (.type "method_descriptor")) (rule : MtR X id r)
    (h2 : ∀ (F H : Hp) (x : Str) (z : D) (Q : VK), Same F H → g x = some z → (∀ u F' H', Ext F H (fun _ => False) F' H' → Rep X.K X.mg F' z u → Q u H') → r (.str x) [] H Q) (ho : PV X W T o f)
    (hbase : attributeBase o name X.env (eval o X.env) = eval o X.env := by rfl) (hline : (apos.endLine == pos.line) = true := by rfl) : PV X W T (.Call (.Attribute o name apos) [] [] pos) (vS0 g f) := by
  obtain ⟨t, ht, hs⟩ := ho.ex
  refine ⟨_, pe_m0 slot ty rule ht hbase hline, fun F H env σ fp Q r env' k1 k2 k3 k ke => ?_⟩
  refine hs.str k1 k2 k3 (fun x F1 H1 env1 fp1 q p => ⟨⟨x, rfl⟩, ?_⟩) ke
  obtain ⟨z, e1, rfl, rfl⟩ := M.lift_some q
  refine h2 F1 H1 x z Q p.ext.fh e1 fun u F2 H2 ex ru => ?_
  have p2 := p.trans (Pst.of_ext p.re ex)
  rw [List.append_nil] at p2
  exact k z u F2 H2 fp1 rfl p2 ru
/-- o.m(e) that gives a value -/
def vS1 (g : Str → D → Option D) (f : M D) (h : M Rdr) : M D := M.bd (asStr f) fun x => M.bd h fun rd env => M.lift ((rd env).bind (g x)) env
theorem pv_s1 {id : String} {name : Str} {apos pos : Pos} {r : V → List V → Hp → VK → Prop} {o e : Expr} {f : M D} {h : M Rdr} {S : List Nat} {g : Str → D → Option D} (slot : Slot "str" name id) (ty : typeOf (.builtin id) = pure (.type "method_descriptor")) (rule : MtR X id r)
    (h2 : ∀ (F H : Hp) (x : Str) (d z : D) (v : V) (Q : VK), Same F H → RepC X.K X.mg F H d v → g x d = some z → (∀ u F' H', Ext F H (fun _ => False) F' H' → Rep X.K X.mg F' z u → Q u H') → r (.str x) [v] H Q) (ho : PV X W T1 o f) (he : PQ X W T2 S e h)
    (hs : starEach [e] X.env = [(false, eval e X.env)] := by rfl) (hbase : attributeBase o name X.env (eval o X.env) = eval o X.env := by rfl) (hline : (apos.endLine == pos.line) = true := by rfl) : PV X W (T1 ++ T2) (.Call (.Attribute o name apos) [e] [] pos) (vS1 g f h) := by
  obtain ⟨t, ht, hs1⟩ := ho.ex
  obtain ⟨t2, ht2, hs2⟩ := he.ex
  refine ⟨_, pe_m1 slot ty rule ht ht2 hs hbase hline, fun F H env σ fp Q r env' k1 k2 k3 k ke => ?_⟩
  refine hs1.str k1 k2 k3 (fun x F1 H1 env1 fp1 q p => ⟨⟨x, rfl⟩, ?_⟩) (ke.left k2)
  refine SndQ.then hs2 p.ext.fh p.re q (fun rd v F2 H2 env2 fp2 q2 p2 hrd => ?_) (ke.right p)
  obtain ⟨z, e1, rfl, rfl⟩ := M.lift_some q2
  simp only [Option.bind_eq_some_iff] at e1
  obtain ⟨d, e2, e3⟩ := e1
  have c := hrd [] F2 H2 env' fp2 d (.refl p2.ext.fh p2.re) (fun _ _ z => by simp at z) e2
  refine h2 F2 H2 x d z v Q p2.ext.fh c e3 fun u F3 H3 ex ru => ?_
  have p3 := (p.trans p2).trans (Pst.of_ext p2.re ex)
  rw [List.append_nil] at p3
  exact k z u F3 H3 fp2 rfl p3 ru
def dJoin (a : Str) : D → Option D
  | .lst ds => (strsD ds).bind fun ys => if (ys.map (·.length)).sum + ys.length * a.length ≤ 16777216 then some (.str (Txt.join a ys)) else none
  | .tup ds => (strsD ds).bind fun ys => if (ys.map (·.length)).sum + ys.length * a.length ≤ 16777216 then some (.str (Txt.join a ys)) else none
  | _ => none
theorem pv_join {apos pos : Pos} {o e : Expr} {f : M D} {h : M Rdr} {S : List Nat} (ho : PV X W T1 o f) (he : PQ X W T2 S e h)
    (hs : starEach [e] X.env = [(false, eval e X.env)] := by rfl) (hbase : attributeBase o "join" X.env (eval o X.env) = eval o X.env := by rfl) (hline : (apos.endLine == pos.line) = true := by rfl) : PV X W (T1 ++ T2) (.Call (.Attribute o "join" apos) [e] [] pos) (vS1 dJoin f h) := by
  refine pv_s1 F.slot_str_join F.type_str_join mt_join (fun F H x d z v Q hs rx hg k => ?_) ho he hs hbase hline
  unfold dJoin at hg
  split at hg
  · rename_i ds
    simp only [Option.bind_eq_some_iff] at hg
    obtain ⟨ys, h1, h2⟩ := hg
    split at h2
    · rename_i hl
      cases h2
      obtain ⟨a, vs, rfl, g1, g2, g3⟩ := rx
      rw [strsD_eq h1] at g3
      rw [reps_vstrs g3] at g1
      exact ⟨x, a, ys, rfl, rfl, .inl (.of g1), hl, k _ F H (.refl hs) rep_str⟩
    · cases h2
  · rename_i ds
    simp only [Option.bind_eq_some_iff] at hg
    obtain ⟨ys, h1, h2⟩ := hg
    split at h2
    · rename_i hl
      cases h2
      simp only [RepC, Rep] at rx
      obtain ⟨a, vs, rfl, g1, g2, g3⟩ := rx
      rw [strsD_eq h1] at g3
      rw [reps_vstrs g3] at g1
      exact ⟨x, a, ys, rfl, rfl, .inr (sqT hs g1), hl, k _ F H (.refl hs) rep_str⟩
    · cases h2
  · cases hg
end
end PL
/-! PL22: dicts and instances changed in a place; displays of dicts. -/
namespace PL
open PySem L2
section
variable {X : Cx} {W : WX} {T T1 T2 T3 A S : List Nat} {F H F' H' F1 H1 F2 H2 : Hp} {env env' : Env} {σ : St} {fp fp' : Nat → List Addr}
/-- a change at the end of a path -/
theorem mut_core {i : Nat} {p : Pth} {o o1 : O} (k1 : Same F H) (k2 : RE X.K X.mg F H env σ fp) (hi : env[i]? = some (some o)) (hp : o.at p = some o1) :
    ∃ v v1 f1, σ[i]? = some (some v) ∧ PathV X.K H p v v1 ∧ RO X.K X.mg F H o1 v1 f1 ∧ (∀ a ∈ f1, a ∈ fp i) ∧
      ∀ (H' : Hp) (o1' : O) (f1' fr : List Addr), (∀ a, a ∉ f1 → H' a = H a) → (∀ a, H a ≠ none → H' a ≠ none) → RO X.K X.mg F H' o1' v1 f1' → (∀ a ∈ f1', a ∈ f1 ∨ a ∈ fr) → (∀ j a, a ∈ fr → a ∉ fp j) →
        ∃ o' fp', o.put p o1' = some o' ∧ Ext F H (fun a => a ∈ fp i) F H' ∧ RE X.K X.mg F H' (env.set i (some o')) σ fp' ∧ (∀ j, j ≠ i → fp' j = fp j) ∧ (∀ a ∈ fp' i, a ∈ fp i ∨ a ∈ fr) := by
  obtain ⟨v, e1, e2⟩ := k2.slot i o hi
  obtain ⟨v1, f1, g1, g2, g3, g4⟩ := e2.lens p hp
  have nF : ∀ a ∈ f1, F a = none := fun a ha => (g2.fp a ha).1
  refine ⟨v, v1, f1, e1, g1, g2, g3, fun H' o1' f1' fr hk hdom ro sub hd => ?_⟩
  have ex : Ext F H (fun a => a ∈ fp i) F H' := by
    refine ⟨Same.refl, fun a u e => ?_, fun a u e hna => ?_, fun a e => .inl e, hdom⟩
    · rw [hk a fun z => by rw [nF a z] at e; cases e]
      exact k1 a u e
    · rw [hk a fun z => hna (g3 a z)]
      exact e
  obtain ⟨o', fpn, m1, m2, m3⟩ := g4 F H' o1' f1' Same.refl (fun a ha hna => ⟨hk a hna, (e2.fp a ha).1⟩) ro (fun a ha hm => (sub a ha).elim id fun y => absurd hm (hd i a y))
  have inn : ∀ a ∈ fpn, a ∈ fp i ∨ a ∈ fr := fun a ha => by
    rcases m3 a ha with z | z
    · exact .inl z.1
    · exact (sub a z).imp_left fun y => g3 a y
  have k2' : RE X.K X.mg F H' (env.set i none) σ (fun j => if j = i then [] else fp j) := by
    have d := k2.drop i
    refine ⟨d.len, fun j o2 hj => ?_, d.emp, d.dis⟩
    obtain ⟨w, y1, y2⟩ := d.slot j o2 hj
    refine ⟨w, y1, y2.frame Same.refl fun a ha => ⟨?_, (y2.fp a ha).1⟩⟩
    have z : j ≠ i := fun z => by rw [if_pos z] at ha; simp at ha
    rw [if_neg z] at ha
    exact hk a fun y => k2.dis i j (Ne.symm z) a (g3 a y) ha
  have re := k2'.put (i := i) (o := o') (v := v) (fr := fpn) (σ' := σ) rfl (by rw [List.length_set]; exact lt_of_get hi) e1 (fun _ _ => rfl) m2 (fun j hj a ha => by
    rw [if_neg hj]
    rcases inn a ha with z | z
    · exact k2.dis i j (Ne.symm hj) a z
    · exact hd j a z)
  rw [List.set_set] at re
  refine ⟨o', _, m1, ex, re, fun j hj => ?_, fun a ha => ?_⟩
  · rw [if_neg hj, if_neg hj]
  · rw [if_pos rfl] at ha
    exact inn a ha
/-- what stands at a path, changed -/
def atP {α : Type} (i : Nat) (p : Pth) (h : O → Option (α × O)) : M α := fun env => match env[i]? with
  | some (some o) => match o.at p with
    | some o1 => match h o1 with
      | some (a, o1') => match o.put p o1' with
        | some o' => some (.ok a, env.set i (some o'))
        | none => none
      | none => none
    | _ => none
  | _ => none
theorem atP_some {α : Type} {i : Nat} {p : Pth} {h : O → Option (α × O)} {r : Except Ex α} (q : atP i p h env = some (r, env')) :
    ∃ o o1 a o1' o', env[i]? = some (some o) ∧ o.at p = some o1 ∧ h o1 = some (a, o1') ∧ o.put p o1' = some o' ∧ r = .ok a ∧ env' = env.set i (some o') := by
  unfold atP at q
  split at q
  · rename_i o q1
    split at q
    · rename_i os q2
      split at q
      · rename_i a os' q3
        split at q
        · rename_i o' q4
          cases q
          exact ⟨o, os, a, os', o', q1, q2, q3, q4, rfl, rfl⟩
        · cases q
      · cases q
    · cases q
  · cases q
/-! ### keys -/
theorem kix_lt {κ : Type} [DecidableEq κ] {k : κ} : ∀ {ks : List κ} {i : Nat}, kix ks k = some i → i < ks.length
  | [], i, h => by cases h
  | j :: ks, i, h => by
    unfold kix at h
    split at h
    · cases h; simp
    · simp only [Option.map_eq_some_iff] at h
      obtain ⟨i, h, rfl⟩ := h
      have := kix_lt h
      simp; omega
theorem kix_none {κ : Type} [DecidableEq κ] {k : κ} : ∀ {ks : List κ}, kix ks k = none → k ∉ ks
  | [], h => by simp
  | j :: ks, h => by
    unfold kix at h
    split at h
    · cases h
    · rename_i z
      simp only [Option.map_eq_none_iff] at h
      simp only [List.mem_cons, not_or]
      exact ⟨Ne.symm z, kix_none h⟩
theorem putK_at {κ : Type} [DecidableEq κ] {k : κ} {w : V} : ∀ {ks : List κ} {vs : List V} {i : Nat}, ks.Nodup → ks.length = vs.length → kix ks k = some i → putK (ks.zip vs) k w = ks.zip (vs.set i w)
  | [], vs, i, nd, hl, h => by cases h
  | j :: ks, [], i, nd, hl, h => by simp at hl
  | j :: ks, v :: vs, i, nd, hl, h => by
    obtain ⟨n1, n2⟩ := List.nodup_cons.mp nd
    unfold kix at h
    split at h
    · rename_i e
      cases h
      subst e
      unfold putK
      rw [if_pos (by simp)]
      rw [List.zip_cons_cons, List.map_cons, if_pos rfl, List.set_cons_zero, List.zip_cons_cons]
      congr 1
      refine (List.map_congr_left fun q hq => ?_).trans (List.map_id _)
      rw [if_neg]
      · rfl
      · intro e
        exact n1 (e ▸ (List.of_mem_zip (show (q.1, q.2) ∈ ks.zip vs from hq)).1)
    · rename_i e
      simp only [Option.map_eq_some_iff] at h
      obtain ⟨i', h, rfl⟩ := h
      have ih := putK_at (w := w) n2 (by simpa using hl) h
      have hm : k ∈ ks := by
        have := kix_lt h
        exact (kix_mem h)
      unfold putK at ih ⊢
      rw [if_pos (any_zip hm (by simpa using hl))] at ih
      rw [if_pos (any_zip (List.mem_cons_of_mem _ hm) hl), List.zip_cons_cons, List.map_cons, if_neg e, List.set_cons_succ, List.zip_cons_cons, ih]
where
  kix_mem : ∀ {ks : List κ} {i : Nat}, kix ks k = some i → k ∈ ks
    | [], i, h => by cases h
    | j :: ks, i, h => by
      unfold kix at h
      split at h
      · rename_i e; subst e; simp
      · simp only [Option.map_eq_some_iff] at h
        obtain ⟨i, h, rfl⟩ := h
        exact List.mem_cons_of_mem _ (kix_mem h)
  any_zip : ∀ {ks : List κ} {vs : List V}, k ∈ ks → ks.length = vs.length → ((ks.zip vs).any fun kv => decide (kv.1 = k)) = true
    | [], vs, h, _ => by simp at h
    | j :: ks, [], h, hl => by simp at hl
    | j :: ks, v :: vs, h, hl => by
      rw [List.zip_cons_cons, List.any_cons]
      rcases List.mem_cons.mp h with e | h
      · subst e; simp
      · rw [any_zip h (by simpa using hl), Bool.or_true]
theorem putK_end {κ : Type} [DecidableEq κ] {k : κ} {w : V} {ks : List κ} {vs : List V} (hl : ks.length = vs.length) (h : kix ks k = none) : putK (ks.zip vs) k w = (ks ++ [k]).zip (vs ++ [w]) := by
  have hn := kix_none h
  unfold putK
  rw [if_neg, List.zip_append hl]
  · rfl
  · intro z
    rw [List.any_eq_true] at z
    obtain ⟨q, hq, e⟩ := z
    have e : q.1 = k := by simpa using e
    exact hn (e ▸ (List.of_mem_zip (show (q.1, q.2) ∈ ks.zip vs from hq)).1)
/-- d[k] = o by plain data -/
def oPutK {κ : Type} [DecidableEq κ] (ks : List κ) (os : List O) (k : κ) (o : O) : List κ × List O := match kix ks k with
  | some i => (ks, os.set i o)
  | none => (ks ++ [k], os ++ [o])
/-- a key that is a tuple of ints and texts -/
def D.tkey : D → Option (List Key)
  | .tup ds => D.keys ds
  | _ => none
def dPutO (o1 : O) (k : D) (o : O) : Option O := match o1 with
  | .dK ks os => (D.key k).bind fun k => if ks.Nodup ∧ os.length < sizeLine then some (.dK (oPutK ks os k o).1 (oPutK ks os k o).2) else none
  | .dT ks os => (D.tkey k).bind fun k => if ks.Nodup ∧ os.length < sizeLine then some (.dT (oPutK ks os k o).1 (oPutK ks os k o).2) else none
  | _ => none
def sDPutP (i : Nat) (p : Pth) (f : M O) (g : M D) : M Fl := M.bd f fun o env => match Env.at env i p with
  | some _ => M.bd g (fun d => M.bd (atP i p fun o1 => (dPutO o1 d o).map fun o1' => ((), o1')) fun _ => sNx) env
  | _ => none
theorem ros_putK {κ : Type} [DecidableEq κ] {ks : List κ} {k : κ} {os : List O} {vs : List V} {fs fr : List Addr} {o : O} {v : V} (nd : ks.Nodup) (hl : ks.length = os.length) (q : ROs X.K X.mg F H os vs fs) (ro : RO X.K X.mg F H o v fr) (hd : ∀ a ∈ fr, a ∉ fs) :
    ∃ vs' fs', putK (ks.zip vs) k v = (oPutK ks os k o).1.zip vs' ∧ ROs X.K X.mg F H (oPutK ks os k o).2 vs' fs' ∧ (∀ a ∈ fs', a ∈ fs ∨ a ∈ fr) ∧ (oPutK ks os k o).1.length = (oPutK ks os k o).2.length ∧ (oPutK ks os k o).2.length ≤ os.length + 1 ∧ (oPutK ks os k o).1.Nodup := by
  have lv := q.length
  unfold oPutK
  cases e : kix ks k with
  | some i =>
    obtain ⟨fs', s1, s2⟩ := ROs.set q (show i < os.length by have := kix_lt e; omega) ro hd
    exact ⟨vs.set i v, fs', putK_at nd (by omega) e, s1, s2, by simp [hl], by simp, nd⟩
  | none =>
    refine ⟨vs ++ [v], fs ++ fr, putK_end (by omega) e, q.snoc ro hd, fun a ha => List.mem_append.mp ha, by simp [hl], by simp, ?_⟩
    rw [List.nodup_append]
    exact ⟨nd, by simp, fun a ha b hb => by simp at hb; subst hb; exact fun z => kix_none e (z ▸ ha)⟩
theorem z_dput {i : Nat} {p : Pth} {o e b : Expr} {f : M O} {g : M D} {pos pos' : Pos} (hu : X.A.units + 65 < cLine) (hP : PPl X i p o) (he : PO X W T1 e f) (hb : PV X W T2 b g) (hT : i ∉ T2 := by decide)
    (hs : swapsWith e (some (.Subscript o b pos')) pos.line X.env = pure false := by rfl) : PZ X W ((T1 ++ T2) ++ [i]) [] (.Assign [.Subscript o b pos'] e pos) (sDPutP i p f g) := by
  obtain ⟨t, ht, hsp⟩ := hP.ex
  obtain ⟨te, e1, e2⟩ := he.ex
  obtain ⟨tb, b1, b2⟩ := hb.ex
  refine ⟨_, ps_dput (by omega) ht b1 e1 hs, fun F H env σ fp D r env' k1 k2 k3 n bk c rt e => ?_⟩
  refine SndO.then e2 k1 k2 k3 (fun o1 w F1 H1 env1 fp1 fr q p1 ro hd hw => ?_) (e.expr k2 fun t h => mem_l t (mem_l t h))
  split at q
  · rename_i od0 q0
    obtain ⟨o0, q1, q2⟩ := Env.at_some q0
    obtain ⟨v0, v1, f1, a1, a2, a3, a4, _⟩ := mut_core p1.ext.fh p1.re q1 q2
    refine hsp σ H1 v0 v1 _ a1 a2 ?_
    have e' : ErrS X W (T1 ++ T2) [] F H env σ fp r env' := e.mono k2 mem_l fun _ h => h
    refine SndV.then b2 p1.ext.fh p1.re q (fun d u F2 H2 env2 fp2 q p2 rep => ?_) (fun x F' H' fp' cls d ex p er => e' x F' H' σ fp' cls d ex ⟨p1.trans p, fun _ _ => rfl⟩ er)
    have p12 := p1.trans p2
    rcases M.bd_cases q with ⟨_, env3, q3, q4⟩ | ⟨x, q3, _⟩
    · obtain ⟨rfl, rfl⟩ := M.ret_some q4
      obtain ⟨o2, od, a, od', o', q5, q6, q7, q8, _, rfl⟩ := atP_some q3
      simp only [Option.map_eq_some_iff] at q7
      obtain ⟨od2, q7, e3⟩ := q7
      cases e3
      obtain ⟨v, v2, f2, m1, m2, m3, m4, m9⟩ := mut_core p2.ext.fh p2.re q5 q6
      rw [a1] at m1
      cases m1
      have e3 := PathV.inj (p2.path p1.re hT q1 a1 q2 a2) m2
      subst e3
      have ro2 := p2.keeps ro hd
      have hd2 := p2.apart hd fun a ha => (ro.fp a ha).2
      unfold dPutO at q7
      split at q7
      · rename_i ks os
        simp only [Option.bind_eq_some_iff] at q7
        obtain ⟨k, hk, q7⟩ := q7
        split at q7
        · rename_i hz
          cases q7
          have ek := PL.D.key_rep' hk rep
          subst ek
          simp only [RO] at m3
          obtain ⟨l, vs, fs, rfl, x1, x2, x3, x4, x5, x6, rfl⟩ := m3
          have hfs : ∀ b ∈ fs, b ≠ l := fun b hb z => x6 (z ▸ hb)
          have hfr : ∀ b ∈ fr, b ≠ l := fun b hb z => hd2 i b hb (m4 b (by rw [z]; simp))
          obtain ⟨vs', fs', y1, y2, y3, y4, y5, y6⟩ := ros_putK (k := k) hz.1 x3 x5 ro2 (fun b hb z => hd2 i b hb (m4 b (List.mem_cons_of_mem _ z)))
          have hfs' : ∀ b ∈ fs', b ≠ l := fun b hb => (y3 b hb).elim (hfs b) (hfr b)
          have y2' := y2.frame (H' := upd H2 l (.dK (putK (ks.zip vs) k w))) Same.refl fun b hb => ⟨upd_ne (hfs' b hb), (y2.fp b hb).1⟩
          obtain ⟨o3, fp3, z1, z2, z3, z4, z5⟩ := m9 (upd H2 l (.dK (putK (ks.zip vs) k w))) (.dK (oPutK ks os k o1).1 (oPutK ks os k o1).2) (l :: fs') fr (fun a ha => upd_ne fun z => ha (by rw [z]; simp)) (fun a ha => by
            by_cases z : a = l
            · rw [z, upd_same]; simp
            · rw [upd_ne z]; exact ha) (by rw [RO]; exact ⟨l, vs', fs', rfl, by rw [upd_same, y1], x2, y4, by omega, y2', fun z => hfs' l z rfl, rfl⟩) (fun a ha => by
            rcases List.mem_cons.mp ha with z | z
            · subst z; exact .inl (by simp)
            · exact (y3 a z).imp_left fun y => List.mem_cons_of_mem _ y) hd2
          rw [q8] at z1
          cases z1
          refine ⟨l, _, rfl, DPut.k x1 (by rw [List.length_zip, x3, x5.length]; omega), ?_⟩
          exact n _ _ σ fp3 rfl ⟨pst_mut p12 z2 z3 z4 z5 (fr := fr) (fun b hb => (hw b hb).imp_left fun w => w.mono mem_l), fun _ _ => rfl⟩
        · cases q7
      · rename_i ks os
        simp only [Option.bind_eq_some_iff] at q7
        obtain ⟨k, hk, q7⟩ := q7
        split at q7
        · rename_i hz
          cases q7
          unfold PL.D.tkey at hk
          split at hk
          · rename_i dks
            simp only [Rep] at rep
            obtain ⟨b, us, rfl, g1, g2, g3⟩ := rep
            rw [PL.D.keys_rep hk g3] at g1
            simp only [RO] at m3
            obtain ⟨l, vs, fs, rfl, x1, x2, x3, x4, x5, x6, rfl⟩ := m3
            have hfs : ∀ b ∈ fs, b ≠ l := fun b hb z => x6 (z ▸ hb)
            have hfr : ∀ b ∈ fr, b ≠ l := fun b hb z => hd2 i b hb (m4 b (by rw [z]; simp))
            obtain ⟨vs', fs', y1, y2, y3, y4, y5, y6⟩ := ros_putK (k := k) hz.1 x3 x5 ro2 (fun b hb z => hd2 i b hb (m4 b (List.mem_cons_of_mem _ z)))
            have hfs' : ∀ b ∈ fs', b ≠ l := fun b hb => (y3 b hb).elim (hfs b) (hfr b)
            have y2' := y2.frame (H' := upd H2 l (.dT (putK (ks.zip vs) k w))) Same.refl fun b hb => ⟨upd_ne (hfs' b hb), (y2.fp b hb).1⟩
            obtain ⟨o3, fp3, z1, z2, z3, z4, z5⟩ := m9 (upd H2 l (.dT (putK (ks.zip vs) k w))) (.dT (oPutK ks os k o1).1 (oPutK ks os k o1).2) (l :: fs') fr (fun a ha => upd_ne fun z => ha (by rw [z]; simp)) (fun a ha => by
              by_cases z : a = l
              · rw [z, upd_same]; simp
              · rw [upd_ne z]; exact ha) (by rw [RO]; exact ⟨l, vs', fs', rfl, by rw [upd_same, y1], x2, y4, by omega, y2', fun z => hfs' l z rfl, rfl⟩) (fun a ha => by
              rcases List.mem_cons.mp ha with z | z
              · subst z; exact .inl (by simp)
              · exact (y3 a z).imp_left fun y => List.mem_cons_of_mem _ y) hd2
            rw [q8] at z1
            cases z1
            refine ⟨l, _, rfl, DPut.t x1 (p2.ext.fh _ _ g1) (by rw [List.length_zip, x3, x5.length]; omega), ?_⟩
            exact n _ _ σ fp3 rfl ⟨pst_mut p12 z2 z3 z4 z5 (fr := fr) (fun b hb => (hw b hb).imp_left fun w => w.mono mem_l), fun _ _ => rfl⟩
          · cases hk
        · cases q7
      · cases q7
    · refine absurd q3 fun z => ?_
      obtain ⟨_, _, _, _, _, _, _, _, _, z, _⟩ := atP_some z
      cases z
  · cases q
end
end PL
/-! PL23: list({x: True for x in ..}). -/
namespace PL
open PySem L2
/-- each once, in the order in which they come first -/
def ddF {κ : Type} [DecidableEq κ] (ks : List κ) : List κ := ks.foldl (fun acc k => if k ∈ acc then acc else acc ++ [k]) []
theorem ddF_snoc {κ : Type} [DecidableEq κ] (ks : List κ) (k : κ) : ddF (ks ++ [k]) = if k ∈ ddF ks then ddF ks else ddF ks ++ [k] := by unfold ddF; rw [List.foldl_append]; rfl
theorem ddF_len {κ : Type} [DecidableEq κ] (ks : List κ) : (ddF ks).length ≤ ks.length := by
  have key : ∀ (n : Nat) (ks : List κ), ks.length = n → (ddF ks).length ≤ n := by
    intro n
    induction n with
    | zero => intro ks h; have := List.eq_nil_of_length_eq_zero h; subst this; simp [ddF]
    | succ n ih =>
      intro ks h
      rcases List.eq_nil_or_concat ks with e | ⟨l, a, e⟩
      · subst e; simp at h
      · subst e
        rw [List.concat_eq_append] at h ⊢
        have := ih l (by simpa using h)
        rw [ddF_snoc]
        split
        · omega
        · simp; omega
  exact key _ ks rfl
theorem mem_ddF {κ : Type} [DecidableEq κ] {x : κ} (ks : List κ) : x ∈ ddF ks ↔ x ∈ ks := by
  have key : ∀ (n : Nat) (ks : List κ), ks.length = n → (x ∈ ddF ks ↔ x ∈ ks) := by
    intro n
    induction n with
    | zero => intro ks h; have := List.eq_nil_of_length_eq_zero h; subst this; simp [ddF]
    | succ n ih =>
      intro ks h
      rcases List.eq_nil_or_concat ks with e | ⟨l, a, e⟩
      · subst e; simp at h
      · subst e
        rw [List.concat_eq_append] at h ⊢
        have := ih l (by simpa using h)
        rw [ddF_snoc, List.mem_append, ← this]
        split
        · rename_i hm
          simp
          intro e; rw [e]; exact hm
        · simp
  exact key _ ks rfl
theorem nodup_ddF {κ : Type} [DecidableEq κ] (ks : List κ) : (ddF ks).Nodup := by
  have key : ∀ (n : Nat) (ks : List κ), ks.length = n → (ddF ks).Nodup := by
    intro n
    induction n with
    | zero => intro ks h; have := List.eq_nil_of_length_eq_zero h; subst this; simp [ddF]
    | succ n ih =>
      intro ks h
      rcases List.eq_nil_or_concat ks with e | ⟨l, a, e⟩
      · subst e; simp at h
      · subst e
        rw [List.concat_eq_append] at h ⊢
        have := ih l (by simpa using h)
        rw [ddF_snoc]
        split
        · exact this
        · rename_i hm
          rw [List.nodup_append]
          exact ⟨this, by simp, fun x hx y hy => by simp at hy; subst hy; exact fun e => hm (e ▸ hx)⟩
  exact key _ ks rfl
abbrev trues {κ : Type} (ks : List κ) : List (κ × V) := ks.map fun k => (k, V.bl true)
theorem put_true {κ : Type} [DecidableEq κ] (ks : List κ) (k : κ) : putK (trues ks) k (.bl true) = trues (if k ∈ ks then ks else ks ++ [k]) := by
  unfold putK
  by_cases h : k ∈ ks
  · rw [if_pos h, if_pos (by rw [List.any_map, List.any_eq_true]; exact ⟨k, h, by simp⟩)]
    rw [List.map_map]
    refine List.map_congr_left fun j hj => ?_
    simp only [Function.comp]
    split
    · rfl
    · rfl
  · rw [if_neg h, if_neg (by rw [List.any_map, List.any_eq_true]; rintro ⟨j, hj, e⟩; simp at e; exact h (e ▸ hj))]
    show _ = (ks ++ [k]).map fun k => (k, V.bl true)
    rw [List.map_append]; rfl
def oUnl (i : Nat) (f : M (List D)) : M O := M.bd f fun items env => M.lift (match D.keys items with
  | some ks => if i < env.length ∧ items.length < sizeLine then some (.lst (((ddF ks).map kDt).map .val)) else none
  | none => none) env
section
variable {X : Cx} {W : WX} {T T1 T2 T3 A S : List Nat} {F H F' H' F1 H1 F2 H2 : Hp} {env env' : Env} {σ : St} {fp fp' : Nat → List Addr}
theorem keys_len : ∀ {ds : List D} {ks : List Key}, D.keys ds = some ks → ks.length = ds.length
  | [], ks, h => by simp only [D.keys, Option.some.injEq] at h; subst h; rfl
  | d :: ds, ks, h => by
    simp only [D.keys, Option.bind_eq_some_iff, Option.map_eq_some_iff] at h
    obtain ⟨k, h1, ks', h2, rfl⟩ := h
    simp [keys_len h2]
theorem keys_get : ∀ {ds : List D} {ks : List Key} {i : Nat} {d : D}, D.keys ds = some ks → ds[i]? = some d → ∃ k, ks[i]? = some k ∧ D.key d = some k
  | [], ks, i, d, h, e => by simp at e
  | d0 :: ds, ks, i, d, h, e => by
    simp only [D.keys, Option.bind_eq_some_iff, Option.map_eq_some_iff] at h
    obtain ⟨k, h1, ks', h2, rfl⟩ := h
    cases i with
    | zero => simp at e; subst e; exact ⟨k, rfl, h1⟩
    | succ i =>
      obtain ⟨k', g1, g2⟩ := keys_get (i := i) h2 (by simpa using e)
      exact ⟨k', by simpa using g1, g2⟩
theorem wipe_set (σ : St) (i : Nat) (x : Option V) : L2.wipe ((L2.wipe σ [i]).set i x) [i] = L2.wipe σ [i] := by
  refine List.ext_getElem? fun j => ?_
  rw [wipe_at, wipe_at]
  by_cases h : j ∈ [i]
  · rw [if_pos h, if_pos h]
    have e : j = i := by simpa using h
    subst e
    rw [List.getElem?_set]
    by_cases z : j < (L2.wipe σ [j]).length
    · simp only [z, if_true]
      have z2 : j < σ.length := by rwa [wipe_length] at z
      rw [List.getElem?_eq_getElem z2]; rfl
    · simp only [z, if_false]
      have z2 : ¬ j < σ.length := by rwa [wipe_length] at z
      rw [show σ[j]? = none from List.getElem?_eq_none (by omega)]; simp
  · rw [if_neg h, if_neg h]
    have e : i ≠ j := fun e => h (by simp [e])
    rw [List.getElem?_set_ne e, wipe_at, if_neg h]
theorem po_unl {i : Nat} {x : Str} {px py kp p pos dpos : Pos} {iter : Expr} {jc} {scope : Scope} {fi : M (List D)} (hc : X.calm = true) (hN : X.N.Nodup) (hx : X.N[i]? = some x) (hg : Gl X "list") (hm : X.mg "list" = none) (hi : PIt X W T1 S (.Name x py) iter fi)
    (ok : BlkOk X.N X.env.scope scope [(x, i)])
    (hgt : ∀ (s : Shared) (H : Hp) (C : Addr) (cl : List (Str × Addr)) (fp : List Addr), PG (X.blk s H scope (compEnvC scope cl C X.env) fp) (.Name x py) (gName i))
    (hk : ∀ (s : Shared) (H : Hp) (C : Addr) (cl : List (Str × Addr)) (fp : List Addr), PE (X.blk s H scope (compEnvC scope cl C X.env) fp) (.Name x px) (tVar i))
    (hs : ∀ x, foldedSetIterable iter X.env x = pure x := by intro _; rfl)
    (he : starEach [.DictComp (.Name x px) (.Constant (.bool true) jc kp) [⟨.Name x py, iter, [], 0⟩] scope dpos] X.env = (false, eval (.DictComp (.Name x px) (.Constant (.bool true) jc kp) [⟨.Name x py, iter, [], 0⟩] scope dpos) X.env) :: starEach [] X.env := by rfl) (hpl : (backTo pos (starEach [] X.env)).any (·.1) = false := by rfl) :
    PO X W T1 (.Call (.Name "list" p) [.DictComp (.Name x px) (.Constant (.bool true) jc kp) [⟨.Name x py, iter, [], 0⟩] scope dpos] [] pos) (oUnl i fi) := by
  obtain ⟨wi, hi1, hi2⟩ := hi.ex
  have hd := pe_dc (own := [(x, i)]) (pos := dpos) hc hN hi1 ok hgt (fun _ _ _ _ _ => pts_nil) hk (fun _ _ _ _ _ => pe_bl (b := true) (j := jc) (pos := kp)) hs
  refine ⟨_, pe_callTy (p := p) (call_list_dK hc) hg hm boot_list' (pa_cons hd pa_nil he) (by decide) (by decide) he hpl, fun F H env σ fp Q r env' k1 k2 k3 k ke => ?_⟩
  refine SndI.then hi2 k1 k2 k3 (fun items J F1 H1 env1 fp1 pin q p1 hw hpin => ?_) ke
  obtain ⟨z, e1, rfl, rfl⟩ := M.lift_some q
  split at e1
  · rename_i ks hks
    split at e1
    · rename_i hz
      cases e1
      intro D hD
      have hlen := keys_len hks
      have hi_ : i < σ.length := by rw [← p1.re.len]; exact hz.1
      refine ⟨fun t m H' => m = items.length - t ∧ t ≤ items.length ∧ ∃ F', Ext F1 (upd H1 D (.dK [])) (fun a => a = D) F' H' ∧ H' D = some (.dK (trues (ddF (ks.take t)))) ∧ F' D = none, ⟨items.length, by simp, Nat.zero_le _, F1, Ext.refl (Ext.allocO p1.ext.fh hD).fh, by rw [upd_same]; rfl, ?_⟩, ?_⟩
      · cases y : F1 D with
        | none => rfl
        | some u => rw [p1.ext.fh D u y] at hD; cases hD
      rintro t m H' ⟨rfl, ht, F', ex, hdict, hFD⟩
      have pins : ∀ a ∈ pin, H' a = H1 a := fun a ha => by
        obtain ⟨j, _, hj⟩ := hpin a ha
        obtain ⟨n1, n2⟩ := p1.re.fpin hj
        have nd : a ≠ D := fun e => n2 (e ▸ hD)
        cases y : H1 a with
        | none => exact absurd y n2
        | some u => exact ex.keep a u (by rw [upd_ne nd]; exact y) nd
      obtain ⟨w1, w2⟩ := hw t F' H' ex.ff ex.fh pins
      rcases Nat.lt_or_ge t items.length with hlt | hge
      · obtain ⟨go, yl⟩ := w1 hlt
        refine .inr ⟨go, fun H' => ∃ F', Ext F1 (upd H1 D (.dK [])) (fun a => a = D) F' H' ∧ H' D = some (.dK (trues (ddF (ks.take (t + 1))))) ∧ F' D = none, fun H'' ⟨F'', a1, a2, a3⟩ => ⟨items.length - (t + 1), by omega, rfl, by omega, F'', a1, a2, a3⟩, fun y H3 hy => ?_⟩
        obtain ⟨d, F3, hd1, ex3, rep⟩ := yl y H3 hy
        clear w1 w2 yl go
        obtain ⟨kk, hk1, hk2⟩ := keys_get hks hd1
        have ey := PL.D.key_rep' hk2 rep
        subst ey
        show L2.wipe ((L2.wipe σ [i]).set i (some (kV kk))) [i] = L2.wipe σ [i] ∧ _
        refine ⟨wipe_set σ i _, ?_⟩
        have hget : ((L2.wipe σ [i]).set i (some (kV kk)))[i]? = some (some (kV kk)) := List.getElem?_set_self (by rw [wipe_length]; exact hi_)
        refine ⟨_, hget, ?_⟩
        have hd3 : H3 D = some (.dK (trues (ddF (ks.take t)))) := ex3.keep D _ hdict id
        have hle := ddF_len (ks.take t)
        have hF3 : F3 D = none := by
          cases y : F3 D with
          | none => rfl
          | some u =>
            rcases ex3.new D (by rw [y]; simp) with z | z | z
            · exact absurd hFD z
            · exact z.elim
            · rw [hdict] at z; cases z
        refine ⟨_, kk, rfl, hd3, by rw [List.length_map]; rw [List.length_take] at hle; omega, F3, ?_, ?_, hF3⟩
        · have e1 : Ext F1 (upd H1 D (.dK [])) (fun a => a = D) F3 H3 := ex.trans (fun _ z => z.elim) ex3
          refine ⟨e1.ff, fun a u e => ?_, fun a u e hn => ?_, e1.new, fun a e => ?_⟩
          · rw [upd_ne (fun z => by subst z; rw [hF3] at e; cases e)]
            exact e1.fh a u e
          · rw [upd_ne hn]; exact e1.keep a u e hn
          · by_cases z : a = D
            · subst z; rw [upd_same]; simp
            · rw [upd_ne z]; exact e1.dom a e
        · rw [upd_same, put_true, List.take_add_one, hk1]
          show _ = some (HO.dK (trues (ddF (ks.take t ++ [kk]))))
          rw [ddF_snoc]
      · refine .inl ⟨w2 hge, D, _, rfl, hdict, fun q hq => ?_⟩
        have et : t = items.length := by omega
        rw [et, List.take_of_length_le (by omega)] at hdict
        rw [et, List.take_of_length_le (by omega)]
        have e0 := Ext.allocO (o := .dK []) p1.ext.fh hD
        have e1 : Ext F1 H1 (fun _ => False) F' H' := e0.trans (fun a z => .inr (by have z : a = D := z; rw [z]; exact hD)) ex
        have e2 : Ext F' H' (fun _ => False) F' (upd H' q (.lst ((trues (ddF ks)).map fun kv => kV kv.1))) := Ext.allocO ex.fh hq
        have p2 := p1.trans (Pst.of_ext p1.re (e1.trans (fun _ z => z.elim) e2))
        rw [List.append_nil] at p2
        have hq1 : H1 q = none := by
          cases y : H1 q with
          | none => rfl
          | some u => exact absurd hq (e1.dom q (by rw [y]; simp))
        have ev : ((trues (ddF ks)).map fun kv => kV kv.1) = (ddF ks).map kV := by rw [List.map_map]; rfl
        rw [ev] at p2 ⊢
        refine k _ _ F' _ fp1 [q] rfl p2 (ro_new ex.fh hq (by rw [List.length_map]; have := ddF_len ks; omega) (reps_keys _)) (fun j a ha z => ?_) (fun a ha => ?_)
        · have e : a = q := by simpa using ha
          subst e
          exact (p1.re.fpin z).2 hq1
        · have e : a = q := by simpa using ha
          subst e
          exact .inr (dom_none p1 hq1)
    · cases e1
  · cases e1
end
end PL
/-! PL24: classes: made, fields given, methods. -/
namespace PL
open PySem L2
/-- a class as the top has made it -/
def ClsAt (K : PySem.W.Frag) (mg : Str → Option Value) (c : Str) (fs : List Str) : Prop := ∃ C, mg c = some (.ref C) ∧ ClsF K C fs
def InitOk (P : Program) (w : World) (K : PySem.W.Frag) (mg : Str → Option Value) (base : Heap) (k : Nat) (c : Str) (fs : List Str) (ps : List Str) (n : Nat) (m : Fn) : Prop :=
  ∃ C f fd, mg c = some (.ref C) ∧ ClsF K C fs ∧ Mk K C f ∧ Binds K fd ps [] ∧ FnOk P w K mg base (L2.CX P w) k f fd ps (spD K mg n [0] [] m)
def MethOk (P : Program) (w : World) (K : PySem.W.Frag) (mg : Str → Option Value) (base : Heap) (k : Nat) (c x : Str) (ps : List Str) (n : Nat) (io : List Nat) (m : Fn) : Prop :=
  ∃ C f fd, mg c = some (.ref C) ∧ Cls K C ∧ Meth K C x f ∧ Binds K fd ps [] ∧ FnOk P w K mg base (L2.CX P w) k f fd ps (spD K mg n io [] m)
theorem passF {X : Cx} : Passes (L2.CX X.prog X.w) X (fun _ _ _ => False) := fun pins σ H s e s' I h => by
  obtain ⟨_, _, _, _, _, _, _, _, _, _, _, _, z⟩ := h
  exact z.elim
section
variable {X : Cx} {W : WX} {T T1 T2 T3 A S : List Nat} {F H F' H' F1 H1 F2 H2 : Hp} {env env' : Env} {σ : St} {fp fp' : Nat → List Addr}
/-! ### C(..) -/
def oMake (c : Str) (n : Nat) (m : Fn) (f : M (List D)) : M O := M.bd f fun ds env => if ds.length + 1 = n then match m (.ins c [] [] :: ds.map .val) with
  | some (.ok (.val .non), some o :: _) => some (.ok o, env)
  | _ => none
  else none
theorem re_vals {F H : Hp} {ds : List D} {vs : List V} (h : Reps X.K X.mg F ds vs) {k : Nat} {d : O} (e : (ds.map O.val)[k]? = some d) : ∃ v, vs[k]? = some v ∧ ∃ d', d = .val d' ∧ Rep X.K X.mg F d' v := by
  rw [List.getElem?_map] at e
  cases q : ds[k]? with
  | none => rw [q] at e; cases e
  | some d' =>
    rw [q] at e
    cases e
    obtain ⟨v, h1, h2⟩ := h.get q
    exact ⟨v, h1, d', rfl, h2⟩
theorem make_core {c : Str} {fs : List Str} {n : Nat} {m : Fn} {C : Addr} {ds : List D} {vs : List V} {o : O} {out : Env} {Q : VK} (hC : X.mg c = some (.ref C)) (hcl : ClsF X.K C fs) (k1 : Same F H) (hr : Reps X.K X.mg F ds vs) (hn : ds.length + 1 = n)
    (hm : m (.ins c [] [] :: ds.map .val) = some (.ok (.val .non), some o :: out))
    (k : ∀ v F' H' fr, Ext F H (fun _ => False) F' H' → RO X.K X.mg F' H' o v fr → (∀ a ∈ fr, H a = none) → Q v H') :
    ∀ x dx, H x = none → H dx = none → dx ≠ x → spD X.K X.mg n [0] [] m (.ref x :: vs) (upd (upd H dx (.own x)) x (.ins C dx [])) (fun v H2 => v = .non ∧ Q (.ref x) H2) (fun _ _ _ => False) := by
  intro x dx nx ndx nex
  have n2 : upd H dx (.own x) x = none := by rw [upd_ne (Ne.symm nex)]; exact nx
  have ex0 : Ext F H (fun _ => False) F (upd (upd H dx (.own x)) x (.ins C dx [])) := Ext.two k1 ndx n2
  have fx : F x = none := by
    cases z : F x with
    | none => rfl
    | some u => rw [k1 x u z] at nx; cases nx
  have fdx : F dx = none := by
    cases z : F dx with
    | none => rfl
    | some u => rw [k1 dx u z] at ndx; cases ndx
  have hl := hr.length
  refine ⟨F, .ins c [] [] :: ds.map .val, fun j => if j = 0 then [x, dx] else [], _, _, ex0.fh, by simp only [List.length_cons]; omega, ⟨by simp [hl], fun j o1 e => ?_, fun j e => ?_, fun i j hij a h1 h2 => ?_⟩, fun i o1 h1 _ h3 => ?_, hm, fun o1 v F' H' fps' fr e ex re cm ro hd hw => ?_, fun _ _ _ _ _ _ e => by cases e⟩
  · cases j with
    | zero =>
      simp only [List.map_cons, List.getElem?_cons_zero, Option.some.injEq] at e
      subst e
      refine ⟨.ref x, rfl, ?_⟩
      rw [if_pos rfl, RO]
      exact ⟨x, dx, C, [], [], rfl, hC, upd_same, by rw [upd_ne nex, upd_same], fx, fdx, rfl, ⟨hcl.cl, fun f hf => by simp at hf⟩, by rw [ROs]; exact ⟨rfl, rfl⟩, by simp, by simp, Ne.symm nex, rfl⟩
    | succ j =>
      simp only [List.map_cons, List.getElem?_cons_succ, List.getElem?_map] at e
      cases q : ds[j]? with
      | none => rw [q] at e; cases e
      | some d =>
        rw [q] at e
        cases e
        obtain ⟨v, g1, g2⟩ := hr.get q
        exact ⟨v, by simp [g1], by rw [if_neg (by omega)]; exact .val g2⟩
  · by_cases z : j = 0
    · subst z
      exact absurd rfl (e (.ins c [] []))
    · rw [if_neg z]
  · by_cases z : i = 0
    · rw [if_neg (fun y => hij (z.trans y.symm))] at h2
      simp at h2
    · rw [if_neg z] at h1
      simp at h1
  · cases i with
    | zero => simp at h1
    | succ i =>
      simp only [List.getElem?_cons_succ, List.getElem?_map] at h3
      cases q : ds[i]? with
      | none => rw [q] at h3; cases h3
      | some d => rw [q] at h3; cases h3; exact ⟨d, rfl⟩
  · cases e
    obtain ⟨_, rv⟩ := ro.val_inv
    simp only [Rep] at rv
    refine ⟨rv, ?_⟩
    obtain ⟨v1, g1, g2⟩ := re.slot 0 o rfl
    simp only [List.map_cons, List.getElem?_cons_zero, Option.some.injEq] at g1
    subst g1
    have wz : ∀ a, Wf [0] (fun j => if j = 0 then [x, dx] else []) a → H a = none := fun a ⟨t, h1, h2⟩ => by
      have e : t = 0 := by simpa using h1
      subst e
      simp only [if_true, List.mem_cons, List.not_mem_nil, or_false] at h2
      rcases h2 with e | e
      · rw [e]; exact nx
      · rw [e]; exact ndx
    refine k _ F' H' (fps' 0) (ex0.trans (fun a w => .inr (wz a w)) ex) g2 fun a ha => ?_
    rcases cm 0 a ha with w | w
    · exact wz a w
    · cases z : H a with
      | none => rfl
      | some u => exact absurd w (by rw [ex0.keep a u z id]; simp)
theorem po_make {k n : Nat} {m : Fn} {fs ps : List Str} {c : Str} {p pos : Pos} {e : Expr} {es : List Expr} {f : M (List D)}
    (Io : InitOk X.prog X.w X.K X.mg X.base k c fs ps n m) (hr : Room (k + 1) X.A) (hg : Gl X c) (ha : PAs X W T (e :: es) f) (hdb : (c == ("__debug__" : Str)) = false := by decide)
    (he : starEach (e :: es) X.env = (false, eval e X.env) :: starEach es X.env := by rfl) (hpl : (backTo pos (starEach es X.env)).any (·.1) = false := by rfl) :
    PO X W T (.Call (.Name c p) (e :: es) [] pos) (oMake c n m f) := by
  obtain ⟨C, g, fd, h1, h2, h3, h4, h5⟩ := Io
  obtain ⟨t, ht, hs⟩ := ha.ex
  refine ⟨_, pe_make h3 h5 hr hg h1 h4 .nil passF ht hdb he hpl, fun F H env σ fp Q r env' k1 k2 k3 kk ke => ?_⟩
  refine SndA.then hs k1 k2 k3 (fun ds vs F1 H1 env1 fp1 q p1 reps => ?_) ke
  split at q
  · rename_i hdl
    split at q
    · rename_i o out hm
      cases q
      rw [List.append_nil]
      refine make_core h1 h2 p1.ext.fh reps hdl hm fun v F2 H2 fr ex ro hz => ?_
      have p2 := p1.trans (Pst.of_ext p1.re ex)
      rw [List.append_nil] at p2
      exact kk o v F2 H2 fp1 fr rfl p2 ro (fun j a ha z => (p1.re.fpin z).2 (hz a ha)) fun a ha => .inr (dom_none p1 (hz a ha))
    · cases q
  · cases q
theorem po_make0 {k : Nat} {m : Fn} {fs ps : List Str} {c : Str} {p pos : Pos}
    (Io : InitOk X.prog X.w X.K X.mg X.base k c fs ps 1 m) (hr : Room (k + 1) X.A) (hg : Gl X c) (hdb : (c == ("__debug__" : Str)) = false := by decide) :
    PO X W [] (.Call (.Name c p) [] [] pos) (oMake c 1 m aNil) := by
  obtain ⟨C, g, fd, h1, h2, h3, h4, h5⟩ := Io
  refine ⟨_, pe_make0 h3 h5 hr hg h1 h4 .nil passF hdb, fun F H env σ fp Q r env' k1 k2 k3 kk ke => ?_⟩
  have k4 : (if ([] : List D).length + 1 = 1 then match m (.ins c [] [] :: ([] : List D).map .val) with
    | some (.ok (.val .non), some o :: _) => some (.ok o, env)
    | _ => none
    else none) = some (r, env') := k3
  simp only [List.length_nil, Nat.zero_add, if_true] at k4
  split at k4
  · rename_i o out hm
    cases k4
    refine make_core (ds := []) h1 h2 k1 .nil rfl hm fun v F2 H2 fr ex ro hz => ?_
    have p2 := Pst.of_ext k2 ex
    exact kk o v F2 H2 fp fr rfl p2 ro (fun j a ha z => (k2.fpin z).2 (hz a ha)) fun a ha => .inr (hz a ha)
  · cases k4
/-! ### o.f = e -/
def dFPut (c f : Str) (o1 o : O) : Option O := match o1 with
  | .ins c' nms os => if c' = c ∧ os.length < 1000 then (match fix nms f with
    | some j => some (.ins c nms (os.set j o))
    | none => some (.ins c (nms ++ [f]) (os ++ [o]))) else none
  | _ => none
theorem putF_at {f : Str} {w : V} : ∀ {nms : List Str} {vs : List V} {j : Nat}, nms.length = vs.length → fix nms f = some j → putF f w (nms.zip vs) = nms.zip (vs.set j w) ∧ j < vs.length
  | [], vs, j, hl, h => by cases h
  | n :: nms, [], j, hl, h => by simp at hl
  | n :: nms, v :: vs, j, hl, h => by
    unfold fix at h
    rw [List.zip_cons_cons]
    unfold putF
    split at h
    · rename_i e
      cases h
      rw [if_pos (by have := eq_of_beq e; exact this.symm)]
      exact ⟨rfl, by simp⟩
    · rename_i e
      simp only [Option.map_eq_some_iff] at h
      obtain ⟨j', h, rfl⟩ := h
      obtain ⟨h1, h2⟩ := putF_at (w := w) (by simpa using hl) h
      rw [if_neg (by intro z; exact e (by rw [z]; exact beq_self_eq_true _)), h1]
      exact ⟨rfl, by simp; omega⟩
theorem putF_end {f : Str} {w : V} : ∀ {nms : List Str} {vs : List V}, nms.length = vs.length → fix nms f = none → putF f w (nms.zip vs) = (nms ++ [f]).zip (vs ++ [w])
  | [], [], hl, h => rfl
  | [], v :: vs, hl, h => by simp at hl
  | n :: nms, [], hl, h => by simp at hl
  | n :: nms, v :: vs, hl, h => by
    unfold fix at h
    split at h
    · cases h
    · rename_i e
      simp only [Option.map_eq_none_iff] at h
      rw [List.zip_cons_cons]
      unfold putF
      rw [if_neg (by intro z; exact e (by rw [z]; exact beq_self_eq_true _)), putF_end (by simpa using hl) h]
      rfl
def sFPut (i : Nat) (p : Pth) (c f : Str) (g : M O) : M Fl := M.bd g fun o => M.bd (atP i p fun o1 => (dFPut c f o1 o).map fun z => ((), z)) fun _ => sNx
theorem z_fput {i : Nat} {p : Pth} {c f : Str} {fs : List Str} {o e : Expr} {g : M O} {pos pos' : Pos} (hC : ClsAt X.K X.mg c fs) (hf : f ∈ fs) (hP : PPl X i p o) (he : PO X W T e g)
    (hs : swapsWith e (some (.Attribute o f pos')) pos.line X.env = pure false := by rfl) : PZ X W (T ++ [i]) [] (.Assign [.Attribute o f pos'] e pos) (sFPut i p c f g) := by
  obtain ⟨C, hC1, hC2⟩ := hC
  obtain ⟨t, ht, hsp⟩ := hP.ex
  obtain ⟨te, e1, e2⟩ := he.ex
  refine ⟨_, ps_fld ht e1 hs, fun F H env σ fp D r env' k1 k2 k3 n bk c0 rt e => ?_⟩
  refine SndO.then e2 k1 k2 k3 (fun o1 w F1 H1 env1 fp1 fr q p1 ro hd hw => ?_) (e.expr k2 mem_l)
  rcases M.bd_cases q with ⟨_, env3, q3, q4⟩ | ⟨x, q3, _⟩
  · obtain ⟨rfl, rfl⟩ := M.ret_some q4
    obtain ⟨o2, od, a, od', o', q5, q6, q7, q8, _, rfl⟩ := atP_some q3
    simp only [Option.map_eq_some_iff] at q7
    obtain ⟨od2, q7, e3⟩ := q7
    cases e3
    obtain ⟨v, v2, f2, m1, m2, m3, m4, m9⟩ := mut_core p1.ext.fh p1.re q5 q6
    refine hsp σ H1 v v2 _ m1 m2 ?_
    unfold dFPut at q7
    split at q7
    · rename_i c' nms os
      split at q7
      · rename_i hz
        obtain ⟨hc', hz2⟩ := hz
        subst hc'
        simp only [RO] at m3
        obtain ⟨l, dx, C', vs, fss, rfl, g1, x1, x1', x2, x2', x3, x4, x5, x6, x6', x6'', rfl⟩ := m3
        rw [hC1] at g1
        cases g1
        have hlv := x5.length
        have hfs : ∀ b ∈ fss, b ≠ l := fun b hb z => x6 (z ▸ hb)
        have hfr : ∀ b ∈ fr, b ≠ l := fun b hb z => hd i b hb (m4 b (by rw [z]; simp))
        have hdfr : ∀ b ∈ fr, b ∉ fss := fun b hb z => hd i b hb (m4 b (by simp [z]))
        have hdx : dx ∉ fr := fun z => hd i dx z (m4 dx (by simp))
        have fin : ∀ (nms' : List Str) (vs' : List V) (os' : List O) (fs' : List Addr), putF f w (nms.zip vs) = nms'.zip vs' → nms'.length = os'.length → ROs X.K X.mg F1 H1 os' vs' fs' → (∀ a ∈ fs', a ∈ fss ∨ a ∈ fr) → (∀ g ∈ nms', g ∈ nms ∨ g = f) → od' = O.ins c' nms' os' →
            ∃ a C dx fs, V.ref l = .ref a ∧ H1 a = some (.ins C dx fs) ∧ Cls X.K C ∧ NoAttr X.K C f ∧ fs.length < 1000 ∧ D.nx σ (upd H1 a (.ins C dx (putF f w fs))) := by
          intro nms' vs' os' fs' y1 y2 y3 y4 y5 y6
          subst y6
          have hfs' : ∀ b ∈ fs', b ≠ l := fun b hb => (y4 b hb).elim (hfs b) (hfr b)
          have y3' := y3.frame (H' := upd H1 l (.ins C dx (putF f w (nms.zip vs)))) Same.refl fun b hb => ⟨upd_ne (hfs' b hb), (y3.fp b hb).1⟩
          obtain ⟨o3, fp3, z1, z2, z3, z4, z5⟩ := m9 (upd H1 l (.ins C dx (putF f w (nms.zip vs)))) (.ins c' nms' os') (l :: dx :: fs') fr (fun a ha => upd_ne fun z => ha (by rw [z]; simp)) (fun a ha => by
            by_cases z : a = l
            · rw [z, upd_same]; simp
            · rw [upd_ne z]; exact ha) (by
              rw [RO]
              refine ⟨l, dx, C, vs', fs', rfl, hC1, by rw [upd_same, y1], by rw [upd_ne (Ne.symm x6'')]; exact x1', x2, x2', y2, ⟨x4.cl, fun g hg => ?_⟩, y3', fun z => hfs' l z rfl, fun z => (y4 dx z).elim x6' hdx, x6'', rfl⟩
              rcases y5 g hg with h | h
              · exact x4.na g h
              · rw [h]; exact hC2.na f hf) (fun a ha => by
            rcases List.mem_cons.mp ha with z | z
            · subst z; exact .inl (by simp)
            · rcases List.mem_cons.mp z with z | z
              · subst z; exact .inl (by simp)
              · exact (y4 a z).imp_left fun y => by simp [y]) hd
          rw [q8] at z1
          cases z1
          refine ⟨l, C, dx, _, rfl, x1, x4.cl, hC2.na f hf, by rw [List.length_zip]; omega, ?_⟩
          exact n _ _ σ fp3 rfl ⟨pst_mut p1 z2 z3 z4 z5 (fr := fr) hw, fun _ _ => rfl⟩
        split at q7
        · rename_i j hj
          cases q7
          obtain ⟨h1, h2⟩ := putF_at (w := w) (show nms.length = vs.length by omega) hj
          obtain ⟨fs', s1, s2⟩ := ROs.set x5 (show j < os.length by omega) ro hdfr
          exact fin nms (vs.set j w) _ fs' h1 (by simp [x3]) s1 s2 (fun g hg => .inl hg) rfl
        · rename_i hj
          cases q7
          exact fin (nms ++ [f]) (vs ++ [w]) _ (fss ++ fr) (putF_end (by omega) hj) (by simp [x3]) (x5.snoc ro hdfr) (fun a ha => List.mem_append.mp ha) (fun g hg => by simpa using hg) rfl
      · cases q7
    · cases q7
  · refine absurd q3 fun z => ?_
    obtain ⟨_, _, _, _, _, _, _, _, _, z, _⟩ := atP_some z
    cases z
/-! ### o.m(..) of an instance in a place -/
def oMeth (i : Nat) (c x : Str) (m : Fn) (sh : List (Option Nat)) (f : M (List Ag)) : M O := fun env => match env[i]? with
  | some (some (.ins c' nms os)) => if c' = c ∧ fix nms x = none then M.bd f (fun as env => match (agos env (.p i :: as)).bind m with
    | some (r, out) => match r with
      | .ok _ => some (r, putBack sh out env)
      | .error _ => none
    | none => none) env else none
  | _ => none
theorem fix_no {f : Str} : ∀ {nms : List Str} {vs : List V}, fix nms f = none → (nms.zip vs).lookup f = none
  | [], vs, h => by simp
  | n :: nms, [], h => by simp
  | n :: nms, v :: vs, h => by
    unfold fix at h
    split at h
    · cases h
    · rename_i e
      simp only [Option.map_eq_none_iff] at h
      rw [List.zip_cons_cons, List.lookup_cons]
      have : (f == n) = false := by simpa using e
      rw [this]
      exact fix_no h
theorem meth_core {n : Nat} {io : List Nat} {m : Fn} {i : Nat} {c x : Str} {C g : Addr} {t : TA} {f : M (List Ag)} {sh : List (Option Nat)} {Q : VK} {r : Except Ex O} {r0 : Except Ex O} (hC : X.mg c = some (.ref C))
    (hs : SndAg X W T sh t f) (hn : sh.length + 1 = n) (nd : (places (some i :: sh)).Nodup) (hio : ∀ k, k < (some i :: sh).length → ((some i :: sh)[k]?).join.isSome → k ∈ io)
    (k1 : Same F H) (k2 : RE X.K X.mg F H env σ fp) (k3 : oMeth i c x m (msk io (some i :: sh)) f env = some (r, env'))
    (kk : ∀ o v F' H' fp' fr, r = .ok o → Pst X.K X.mg (T ++ places (msk io (some i :: sh))) F H env fp F' H' env' σ fp' → RO X.K X.mg F' H' o v fr → (∀ j a, a ∈ fr → a ∉ fp' j) → (∀ a ∈ fr, Wf (T ++ places (msk io (some i :: sh))) fp a ∨ H a = none) → Q v H')
    (ke : ErrK X W (T ++ places (msk io (some i :: sh))) F H env σ fp O r env') : tMeth C x (spD X.K X.mg n io [] m) [] (fun _ _ _ => False) (tVar i) t σ H Q := by
  unfold oMeth at k3
  split at k3
  · rename_i c' nms os q0
    split at k3
    · rename_i hz
      obtain ⟨rfl, hfx⟩ := hz
      obtain ⟨v, h1, h2⟩ := k2.slot i _ q0
      have h2' := h2
      simp only [RO] at h2
      obtain ⟨l, dx, C', vs, fss, rfl, g1, x1, x1', x2, x2', x3, x4, x5, _⟩ := h2
      rw [hC] at g1
      cases g1
      refine ⟨.ref l, h1, l, dx, _, rfl, x1, fix_no hfx, ?_⟩
      refine SndAg.then hs k1 k2 k3 (fun as vs F1 H1 env1 fp1 q es1 p rep => ?_) (ke.left k2)
      cases q1 : (agos env1 (.p i :: as)).bind m with
      | none => rw [q1] at q; cases q
      | some ro =>
        obtain ⟨r1, out⟩ := ro
        rw [q1] at q
        cases r1 with
        | error _ => cases q
        | ok o1 =>
          cases q
          simp only [Option.bind_eq_some_iff] at q1
          obtain ⟨os1, ho, hm1⟩ := q1
          rw [List.append_nil]
          refine spD_call (as := .p i :: as) (sh := some i :: sh) p.ext.fh p.re (by rw [List.map_cons, es1]; rfl) nd (by rw [List.length_cons, ← hn, ← es1, List.length_map]) ⟨.ref l, vs, rfl, h1, rep⟩ ho hm1 (fun k i hki => .inl (hio k (lt_of_get hki) (by rw [hki]; rfl))) (fun o v F' H' fp' fr e p2 ro hd hw => ?_) (fun x F' H' fp' cls d e p2 er => by cases e)
          exact kk o v F' H' fp' fr e (p.trans p2) ro hd fun a ha => Wf.none p (hw a ha)
    · cases k3
  · cases k3
theorem po_meth {n k : Nat} {io : List Nat} {m : Fn} {ps : List Str} {i : Nat} {c x : Str} {o e : Expr} {es : List Expr} {apos pos : Pos} {f : M (List Ag)} {sh : List (Option Nat)} {pl : Sem Bool} (Mo : MethOk X.prog X.w X.K X.mg X.base k c x ps n io m) (hr : Room k X.A) (ho : PE X o (tVar i)) (ha : PAg X W T sh (e :: es) f)
    (hn : sh.length + 1 = n := by rfl) (nd : (places (some i :: sh)).Nodup := by decide) (hio : ∀ k, k < (some i :: sh).length → ((some i :: sh)[k]?).join.isSome → k ∈ io := by decide)
    (hst : starEach (e :: es) X.env = (false, eval e X.env) :: starEach es X.env := by rfl) (hpl : (backTo pos (starEach es X.env)).any (·.1) = false := by rfl)
    (ht : eval (.Call (.Attribute o x apos) (e :: es) [] pos) X.env = (do
      let ov ← eval o X.env
      standAt apos.atName
      let (f, first) ← holding [ov] (getMethod ov x pl)
      callWith pos f first (backTo pos (starEach (e :: es) X.env)) (backToKw pos (keywordEach [] X.env))) := by rfl) :
    PO X W (T ++ places (msk io (some i :: sh))) (.Call (.Attribute o x apos) (e :: es) [] pos) (oMeth i c x m (msk io (some i :: sh)) f) := by
  obtain ⟨C, g, fd, h1, h2, h3, h4, h5⟩ := Mo
  obtain ⟨t, ht1, hs⟩ := ha.ex
  exact ⟨_, pe_meth (pl := pl) ho h2 h3 h5 hr h4 .nil passF ht1 hst hpl ht, fun F H env σ fp Q r env' k1 k2 k3 kk ke => meth_core (g := g) (r0 := r) h1 hs hn nd hio k1 k2 k3 kk ke⟩
theorem po_meth0 {n k : Nat} {io : List Nat} {m : Fn} {ps : List Str} {i : Nat} {c x : Str} {o : Expr} {apos pos : Pos} {pl : Sem Bool} (Mo : MethOk X.prog X.w X.K X.mg X.base k c x ps n io m) (hr : Room k X.A) (ho : PE X o (tVar i))
    (hn : 1 = n := by rfl) (hio : 0 ∈ io := by decide)
    (ht : eval (.Call (.Attribute o x apos) [] [] pos) X.env = (do
      let ov ← eval o X.env
      standAt apos.atName
      let (f, first) ← holding [ov] (getMethod ov x pl)
      callWith pos f first (backTo pos (starEach [] X.env)) (backToKw pos (keywordEach [] X.env))) := by rfl) :
    PO X W ([] ++ places (msk io [some i])) (.Call (.Attribute o x apos) [] [] pos) (oMeth i c x m (msk io [some i]) gNl) := by
  obtain ⟨C, g, fd, h1, h2, h3, h4, h5⟩ := Mo
  refine ⟨_, pe_meth0 (pl := pl) ho h2 h3 h5 hr h4 .nil passF ht, fun F H env σ fp Q r env' k1 k2 k3 kk ke => ?_⟩
  have hs : SndAg X W [] [] tNil gNl := fun F H env σ fp Q r env' k1 k2 k3 k ke => by
    obtain ⟨rfl, rfl⟩ := M.ret_some k3
    exact k [] [] F H fp rfl rfl (.refl k1 k2) rfl
  exact meth_core (g := g) (r0 := r) h1 hs hn (by simp [places]) (fun k hk _ => by
    have : k = 0 := by simpa using hk
    rw [this]; exact hio) k1 k2 k3 kk ke
end
end PL
/-! PL25: d[k], d.get, displays, xs.pop(k), xs.extend. -/
namespace PL
open PySem L2
/-- what a dict has at a key: none where it is not known, some none where it is not there -/
def dLook (d k : D) : Option (Option D) := match d with
  | .dK ks ds => (D.key k).map fun k => getK ks ds k
  | .dT ks ds => (D.tkey k).map fun k => getK ks ds k
  | _ => none
/-- what the look says of the heap -/
def Hit (K : PySem.W.Frag) (G : Str → Option Value) (F : Hp) : Option D → Option V → Prop
  | some d, ov => ∃ v, ov = some v ∧ Rep K G F d v
  | none, ov => ov = none
def D.isD : D → Bool
  | .dK _ _ => true
  | .dT _ _ => true
  | _ => false
section
variable {X : Cx} {W : WX} {T T1 T2 T3 A S : List Nat} {F H F' H' F1 H1 F2 H2 : Hp} {env env' : Env} {σ : St} {fp fp' : Nat → List Addr}
theorem getK_look {κ : Type} [DecidableEq κ] {k : κ} : ∀ {ks : List κ} {ds : List D} {vs : List V}, Reps X.K X.mg F ds vs → ks.length = ds.length →
    Hit X.K X.mg F (getK ks ds k) (valV (ks.zip vs) k)
  | [], ds, vs, r, h => by simp [getK, valV, Hit]
  | j :: ks, [], vs, r, h => by simp at h
  | j :: ks, e :: ds, vs, r, h => by
    simp only [Reps] at r
    obtain ⟨v, t, rfl, r1, r2⟩ := r
    have ih := getK_look (k := k) (ks := ks) r2 (by simpa using h)
    unfold getK valV at ih ⊢
    rw [List.zip_cons_cons, List.find?_cons, List.zip_cons_cons, List.find?_cons]
    by_cases z : j = k
    · subst z
      simp only [decide_true, Option.map_some]
      exact ⟨v, rfl, r1⟩
    · rw [decide_eq_false z]
      exact ih
theorem look_core {d k : D} {x y : V} {o : Option D} (hs : Same F H) (rx : RepC X.K X.mg F H d x) (ry : RepC X.K X.mg F H k y) (hg : dLook d k = some o) :
    ∃ a ov, x = .ref a ∧ DGet H a y ov ∧ IsD H a ∧ Hit X.K X.mg F o ov := by
  unfold dLook at hg
  split at hg
  · rename_i ks ds
    simp only [Option.map_eq_some_iff] at hg
    obtain ⟨kk, hk, rfl⟩ := hg
    have ey := D.key_rep hk ry
    subst ey
    simp only [RepC] at rx
    obtain ⟨a, vs, rfl, h1, h2, h3, h4⟩ := rx
    exact ⟨a, _, rfl, DGet.k h1, .inl ⟨_, .inl h1⟩, getK_look (k := kk) h4 h2⟩
  · rename_i ks ds
    simp only [Option.map_eq_some_iff] at hg
    obtain ⟨kk, hk, rfl⟩ := hg
    unfold D.tkey at hk
    split at hk
    · rename_i dks
      simp only [RepC, Rep] at ry
      obtain ⟨b, us, rfl, g1, g2, g3⟩ := ry
      rw [D.keys_rep hk g3] at g1
      simp only [RepC] at rx
      obtain ⟨a, vs, rfl, h1, h2, h3, h4⟩ := rx
      exact ⟨a, _, rfl, DGet.t h1 (hs _ _ g1), .inr ⟨_, .inl h1⟩, getK_look (k := kk) h4 h2⟩
    · cases hk
  · cases hg
theorem ix_dict (hu : X.A.units + 1 < cLine) : IxR X (fun x y H Q => ∃ a v, x = .ref a ∧ DGet H a y (some v) ∧ Q v H) := by
  intro value slice pins s σ H x y v u Q I rx ry h hsl
  obtain ⟨a, z, rfl, g, q⟩ := h
  obtain rfl : v = Value.ref a := rx
  have hT := dict_typeIs I g
  have last : wpAny (model X.prog X.w) X.A (subscripted slice false (.ref a) u) (fun r s' => wpAny (model X.prog X.w) X.A (letTemporaryGo value (.ref a) r >>= fun _ => pure r) (EP X pins σ Q) X.xe s') X.xe s := by
    rw [hsl]
    refine wpAny_operating (d_getItem hu I g ry fun r s' J rr => ?_)
    exact wpAny_bind (wpAny_letTemporaryGo (wpAny_pure ⟨z, H, J, rr, q⟩))
  unfold PyProof.Rows.subscriptTail
  refine wpAny_bind ?_
  rw [getitemInPython_of_ne hT.not_modules]
  refine wpAny_bind (wpAny_specialOf hT PySem.F.slot_dict_getitem.lookup ?_)
  first
    | exact wpAny_pure (wpAny_bind last)
    | exact wpAny_bind (wpAny_pure (wpAny_bind last))
    | exact wpAny_bind last
/-- x[k] of anything that is looked at -/
def dIxA (d k : D) : Option D := match d with
  | .dK _ _ => (dLook d k).bind id
  | .dT _ _ => (dLook d k).bind id
  | _ => dIx d k
theorem ox_sub (hu : X.A.units + 65 < cLine) : OpIx X dIxA := by
  obtain ⟨r, h1, h2⟩ := (ox_seq : OpIx X dIx)
  refine ⟨_, IxR.or h1 (ix_dict (by omega)), fun F H x y d e z Q hs rx ry hg k => ?_⟩
  have look : (dLook d e).bind id = some z → ∃ a v, x = .ref a ∧ DGet H a y (some v) ∧ Q v H := fun hg => by
    simp only [Option.bind_eq_some_iff, id] at hg
    obtain ⟨o, q1, rfl⟩ := hg
    obtain ⟨a, ov, e1, g, _, v, rfl, rv⟩ := look_core hs rx ry q1
    exact ⟨a, v, e1, g, k v F H (.refl hs) rv⟩
  unfold dIxA at hg
  split at hg
  · exact .inr (look hg)
  · exact .inr (look hg)
  · exact .inl (h2 F H x y d e z Q hs rx ry hg k)
/-! ### d.get(k), d.get(k, x) -/
theorem isD_of {d : D} {v : V} (h : d.isD = true) (r : RepC X.K X.mg F H d v) : ∃ a, v = .ref a ∧ IsD H a := by
  cases d <;> simp only [D.isD, Bool.false_eq_true] at h
  · simp only [RepC] at r
    obtain ⟨a, vs, rfl, h1, _⟩ := r
    exact ⟨a, rfl, .inl ⟨_, .inl h1⟩⟩
  · simp only [RepC] at r
    obtain ⟨a, vs, rfl, h1, _⟩ := r
    exact ⟨a, rfl, .inr ⟨_, .inl h1⟩⟩
def vGet (fa fb : M Rdr) (fx : M D) : M D := M.bd fa fun ra env => match ra env with
  | some d => if d.isD = true then M.bd fb (fun rb => M.bd fx fun x env => M.lift ((ra env).bind fun d => (rb env).bind fun k => (dLook d k).map fun o => o.getD x) env) env else none
  | none => none
theorem pv_get2 {a b c : Expr} {fa fb : M Rdr} {fx : M D} {S1 S2 : List Nat} {apos pos : Pos} (hu : X.A.units + 65 < cLine) (ha : PQ X W T1 S1 a fa) (hb : PQ X W T2 S2 b fb) (hc : PV X W T3 c fx) (hS : ∀ i ∈ S1, i ∉ T2 ++ T3 := by decide) (hS2 : ∀ i ∈ S2, i ∉ T3 := by decide)
    (m : M2 X a "get" apos b c pos := by exact ⟨rfl, rfl, rfl, rfl⟩) : PV X W (T1 ++ (T2 ++ T3)) (.Call (.Attribute a "get" apos) [b, c] [] pos) (vGet fa fb fx) := by
  obtain ⟨ta, a1, a2⟩ := ha.ex
  obtain ⟨tb, b1, b2⟩ := hb.ex
  obtain ⟨tc, c1, c2⟩ := hc.ex
  refine ⟨_, pe_dget2 (by omega) a1 b1 c1 m, fun F H env σ fp Q r env' k1 k2 k3 k ke => ?_⟩
  refine SndQ.then a2 k1 k2 k3 (fun rd v F1 H1 env1 fp1 q p1 hrd => ?_) (ke.left k2)
  split at q
  · rename_i d1 hd1
    split at q
    · rename_i hD
      obtain ⟨l, rfl, hI⟩ := isD_of hD (hrd [] F1 H1 env1 fp1 d1 (.refl p1.ext.fh p1.re) (fun _ _ z => by simp at z) hd1)
      refine ⟨l, rfl, hI, ?_⟩
      refine SndQ.then b2 p1.ext.fh p1.re q (fun rb y F2 H2 env2 fp2 q2 p2 hrb => ?_) ((ke.right p1).left p1.re)
      refine SndV.then c2 p2.ext.fh p2.re q2 (fun x z F3 H3 env3 fp3 q3 p3 repx => ?_) ((ke.right p1).right p2)
      obtain ⟨dd, e1, rfl, rfl⟩ := M.lift_some q3
      simp only [Option.bind_eq_some_iff, Option.map_eq_some_iff] at e1
      obtain ⟨d, e2, kd, e3, o, e4, rfl⟩ := e1
      have rx := hrd _ F3 H3 env' fp3 d (p2.trans p3) hS e2
      have ry := hrb _ F3 H3 env' fp3 kd p3 hS2 e3
      obtain ⟨a, ov, e5, g, _, hit⟩ := look_core p3.ext.fh rx ry e4
      cases e5
      refine ⟨ov, g, ?_⟩
      cases o with
      | none =>
        have e6 : ov = none := hit
        subst e6
        exact k _ z F3 H3 fp3 rfl (p1.trans (p2.trans p3)) repx
      | some dd =>
        obtain ⟨w, rfl, rw⟩ := hit
        exact k _ w F3 H3 fp3 rfl (p1.trans (p2.trans p3)) rw
    · cases q
  · cases q
theorem pv_get1 {a b : Expr} {fa fb : M Rdr} {S1 S2 : List Nat} {apos pos : Pos} (hu : X.A.units + 65 < cLine) (ha : PQ X W T1 S1 a fa) (hb : PQ X W T2 S2 b fb) (hS : ∀ i ∈ S1, i ∉ T2 := by decide)
    (m : M1 X a "get" apos b pos := by exact ⟨rfl, rfl, rfl, rfl⟩) : PV X W (T1 ++ T2) (.Call (.Attribute a "get" apos) [b] [] pos) (vGet fa fb (M.ret .non)) := by
  obtain ⟨ta, a1, a2⟩ := ha.ex
  obtain ⟨tb, b1, b2⟩ := hb.ex
  refine ⟨_, pe_dget1 (by omega) a1 b1 m, fun F H env σ fp Q r env' k1 k2 k3 k ke => ?_⟩
  refine SndQ.then a2 k1 k2 k3 (fun rd v F1 H1 env1 fp1 q p1 hrd => ?_) (ke.left k2)
  split at q
  · rename_i d1 hd1
    split at q
    · rename_i hD
      obtain ⟨l, rfl, hI⟩ := isD_of hD (hrd [] F1 H1 env1 fp1 d1 (.refl p1.ext.fh p1.re) (fun _ _ z => by simp at z) hd1)
      refine ⟨l, rfl, hI, ?_⟩
      refine SndQ.then b2 p1.ext.fh p1.re q (fun rb y F2 H2 env2 fp2 q2 p2 hrb => ?_) (ke.right p1)
      have q3 : M.lift ((rd env2).bind fun d => (rb env2).bind fun k => (dLook d k).map fun o => o.getD .non) env2 = some (r, env') := q2
      obtain ⟨dd, e1, rfl, rfl⟩ := M.lift_some q3
      simp only [Option.bind_eq_some_iff, Option.map_eq_some_iff] at e1
      obtain ⟨d, e2, kd, e3, o, e4, rfl⟩ := e1
      have rx := hrd _ F2 H2 env' fp2 d p2 hS e2
      have ry := hrb [] F2 H2 env' fp2 kd (.refl p2.ext.fh p2.re) (fun _ _ z => by simp at z) e3
      obtain ⟨a, ov, e5, g, _, hit⟩ := look_core p2.ext.fh rx ry e4
      cases e5
      refine ⟨ov, g, ?_⟩
      cases o with
      | none =>
        have e6 : ov = none := hit
        subst e6
        exact k _ .non F2 H2 fp2 rfl (p1.trans p2) rep_non
      | some dd =>
        obtain ⟨w, rfl, rw⟩ := hit
        exact k _ w F2 H2 fp2 rfl (p1.trans p2) rw
    · cases q
  · cases q
/-! ### in, not in, for dicts with keys of any kind too -/
def dIn2B (d e : D) : Option Bool := match e with
  | .dT ks _ => (D.tkey d).map fun k => hasK ks k
  | _ => dInB d e
def dIn2 (d e : D) : Option D := (dIn2B d e).map .bl
def dNotIn2 (d e : D) : Option D := (dIn2B d e).map fun b => .bl (!b)
theorem in2_core {n : Bool} {d e : D} {x y : V} {b : Bool} {Q : VK} (hs : Same F H) (rx : RepC X.K X.mg F H d x) (ry : RepC X.K X.mg F H e y) (h : dIn2B d e = some b) (q : Q (.bl (n ^^ b)) H) :
    rInS2 X.K n x y H Q ∨ rInDc n x y H Q ∨ (∃ (c : Nat) (z : Str), x = .str ⟨#[c]⟩ ∧ y = .str z ∧ Q (.bl (n ^^ decide (c ∈ z.cps.toList))) H) := by
  unfold dIn2B at h
  split at h
  · rename_i ks ds
    simp only [Option.map_eq_some_iff] at h
    obtain ⟨k, hk, rfl⟩ := h
    unfold D.tkey at hk
    split at hk
    · rename_i dks
      simp only [RepC, Rep] at rx
      obtain ⟨b, us, rfl, g1, g2, g3⟩ := rx
      rw [D.keys_rep hk g3] at g1
      simp only [RepC] at ry
      obtain ⟨a, vs, rfl, h1, h2, h3, h4⟩ := ry
      refine .inr (.inl ⟨a, _, rfl, DGet.t h1 (hs _ _ g1), ?_⟩)
      rw [valV_zip (by rw [h4.length, h2])]
      exact q
    · cases hk
  · exact in_core hs rx ry h q
theorem od_in2 (hu : X.A.units + 65 < cLine) : OpD X (compareOp .In) dIn2 := by
  refine ⟨_, OpR.or (op_inS2 hu) (OpR.or (op_inDc (by omega)) op_in_sign), fun F H x y d e z Q hs rx ry hg k => ?_⟩
  simp only [dIn2, Option.map_eq_some_iff] at hg
  obtain ⟨b, hb, rfl⟩ := hg
  rcases in2_core (n := false) (Q := Q) hs rx ry hb (by rw [Bool.false_xor]; exact k _ F H (.refl hs) rep_bl) with h | h | ⟨c, z, e1, e2, q⟩
  · exact .inl h
  · exact .inr (.inl h)
  · exact .inr (.inr ⟨c, z, e1, e2, by rwa [Bool.false_xor] at q⟩)
theorem od_nin2 (hu : X.A.units + 65 < cLine) : OpD X (compareOp .NotIn) dNotIn2 := by
  refine ⟨_, OpR.or (op_ninS2 hu) (OpR.or (op_ninDc (by omega)) op_notIn_sign), fun F H x y d e z Q hs rx ry hg k => ?_⟩
  simp only [dNotIn2, Option.map_eq_some_iff] at hg
  obtain ⟨b, hb, rfl⟩ := hg
  rcases in2_core (n := true) (Q := Q) hs rx ry hb (by rw [Bool.true_xor]; exact k _ F H (.refl hs) rep_bl) with h | h | ⟨c, z, e1, e2, q⟩
  · exact .inl h
  · exact .inr (.inl h)
  · exact .inr (.inr ⟨c, z, e1, e2, by rwa [Bool.true_xor] at q⟩)
/-! ### {'a': e, ..} with written texts as keys; {} -/
def SndD (X : Cx) (W : WX) (T : List Nat) (ks : List Str) (t : List (TE × TE)) (f : M (List O)) : Prop :=
  ∀ (F H : Hp) (env : Env) (σ : St) (fp : Nat → List Addr) (Q : List (V × V) → Hp → Prop) (r : Except Ex (List O)) (env' : Env), Same F H → RE X.K X.mg F H env σ fp → f env = some (r, env') →
    (∀ os vs F' H' fp' fr, r = .ok os → os.length = ks.length → Pst X.K X.mg T F H env fp F' H' env' σ fp' → ROs X.K X.mg F' H' os vs fr → (∀ j a, a ∈ fr → a ∉ fp' j) → (∀ a ∈ fr, Wf T fp a ∨ H a = none) → Q ((ks.map V.str).zip vs) H') →
    ErrK X W T F H env σ fp (List O) r env' → tPairs t σ H Q
structure PDs (X : Cx) (W : WX) (T : List Nat) (pos : Pos) (ks : List Str) (keys : List (Option Expr)) (es : List Expr) (f : M (List O)) : Prop where
  ex : ∃ t, PPs X pos keys es t ∧ SndD X W T ks t f
theorem pds_nil {pos : Pos} : PDs X W [] pos [] [] [] oNil := ⟨[], pps_nil, fun F H env σ fp Q r env' k1 k2 k3 k ke => by
  obtain ⟨rfl, rfl⟩ := M.ret_some k3
  exact k [] [] F H fp [] rfl rfl (.refl k1 k2) (by simp only [ROs]; exact ⟨trivial, trivial⟩) (fun _ _ z => by simp at z) (fun _ z => by simp at z)⟩
theorem pds_cons {pos kpos : Pos} {jc} {k : Str} {ks : List Str} {keys : List (Option Expr)} {e : Expr} {es : List Expr} {f : M O} {g : M (List O)} (h : PO X W T1 e f) (h' : PDs X W T2 pos ks keys es g) :
    PDs X W (T1 ++ T2) pos (k :: ks) (some (.Constant (.str k) jc kpos) :: keys) (e :: es) (oCons f g) := by
  obtain ⟨t, ht, hs1⟩ := h.ex
  obtain ⟨u, hu, hs2⟩ := h'.ex
  refine ⟨_, pps_cons pe_str ht hu, fun F H env σ fp Q r env' k1 k2 k3 kk ke => ?_⟩
  show t σ H _
  refine SndO.then hs1 k1 k2 k3 (fun o v F1 H1 env1 fp1 fr q p ro hd hw => ?_) (ke.left k2)
  rcases M.bd_cases q with ⟨os0, env2, q1, q2⟩ | ⟨x, q1, rfl⟩
  · obtain ⟨rfl, rfl⟩ := M.ret_some q2
    refine hs2 F1 H1 env1 σ fp1 _ _ _ p.ext.fh p.re q1 (fun os vs F2 H2 fp2 fs e hl p2 ros hd2 hw2 => ?_) (fun x _ _ _ _ _ e => by cases e)
    cases e
    have ro2 := p2.keeps ro hd
    have hdd := p2.apart hd fun a ha => (ro.fp a ha).2
    refine kk (o :: os0) (v :: vs) F2 H2 fp2 (fr ++ fs) rfl (by simp [hl]) (p.trans p2) ?_ (fun j a ha => (List.mem_append.mp ha).elim (hdd j a) (hd2 j a)) (fun a ha => ?_)
    · rw [ROs]
      refine ⟨v, vs, fr, fs, rfl, ro2, ros, fun a h1 h2 => ?_, rfl⟩
      rcases hw2 a h2 with ⟨t, _, z⟩ | z
      · exact hd t a h1 z
      · exact (ro.fp a h1).2 z
    · rcases List.mem_append.mp ha with z | z
      · exact (hw a z).imp_left fun w => w.mono mem_l
      · exact Wf.none p (hw2 a z)
  · exact hs2 F1 H1 env1 σ fp1 _ _ env' p.ext.fh p.re q1 (fun os vs F2 H2 fp2 fs e => by cases e) (fun x' F' H' fp' cls d e p2 ex => by cases e; exact (ke.right p) _ _ _ _ _ _ rfl p2 ex)
theorem mergeK_zip {κ : Type} [DecidableEq κ] : ∀ (ks : List κ) (vs : List V) (js : List κ) (us : List V), js.length = us.length → (js ++ ks).Nodup → ks.length = vs.length → (ks.zip vs).foldl (fun acc kv => putK acc kv.1 kv.2) (js.zip us) = (js ++ ks).zip (us ++ vs)
  | [], [], js, us, h, nd, _ => by simp
  | [], v :: vs, js, us, h, nd, hl => by simp at hl
  | k :: ks, [], js, us, h, nd, hl => by simp at hl
  | k :: ks, v :: vs, js, us, h, nd, hl => by
    rw [List.zip_cons_cons, List.foldl_cons]
    have hk : kix js k = none := by
      have : k ∉ js := fun z => by
        rw [List.nodup_append] at nd
        exact nd.2.2 k z k (by simp) rfl
      clear nd h hl
      induction js with
      | nil => rfl
      | cons j js ih =>
        simp only [List.mem_cons, not_or] at this
        unfold kix
        rw [if_neg (Ne.symm this.1), ih this.2]
        rfl
    rw [putK_end h hk, mergeK_zip ks vs (js ++ [k]) (us ++ [v]) (by simp [h]) (by rw [List.append_assoc]; exact nd) (by simpa using hl)]
    rw [List.append_assoc, List.append_assoc]
    rfl
def oDisp (ks : List Str) (f : M (List O)) : M O := M.map (fun os => .dK (ks.map Sum.inr) os) f
theorem po_disp {pos : Pos} {ks : List Str} {keys : List (Option Expr)} {es : List Expr} {f : M (List O)} (h : PDs X W T pos ks keys es f) (hnd : ks.Nodup := by decide) (h15 : ks.length ≤ 15 := by decide) (hks : keys.length = ks.length := by rfl) (hall : keys.all (·.isSome) = true := by rfl) (hl : keys.length = es.length := by rfl) (h0 : keys ≠ [] := by exact List.cons_ne_nil _ _) :
    PO X W T (.Dict keys es pos) (oDisp ks f) := by
  obtain ⟨t, ht, hs⟩ := h.ex
  refine ⟨_, pe_disp ht hall hl h0 (by rw [hks]; exact h15), fun F H env σ fp Q r env' k1 k2 k3 k ke => ?_⟩
  intro p hp
  have e0 := Ext.allocO (o := .dK []) k1 hp
  have p0 := Pst.of_ext k2 e0
  have np : ∀ j, p ∉ fp j := fun j z => (k2.fpin z).2 hp
  have nF : F p = none := by
    cases z : F p with
    | none => rfl
    | some u => rw [k1 p u z] at hp; cases hp
  rcases M.map_cases k3 with ⟨os, q, rfl⟩ | ⟨x, q, rfl⟩
  · refine hs F _ env σ fp _ _ env' e0.fh p0.re q (fun os' vs F1 H1 fp1 fr e hl2 p1 ros hd hw => ?_) (fun x _ _ _ _ _ e => by cases e)
    cases e
    have hpw : ¬ Wf T fp p := fun ⟨t, _, z⟩ => np t z
    have hp1 : H1 p = some (.dK []) := p1.ext.keep p _ (by rw [upd_same]) hpw
    have hlv := ros.length
    have pfr : p ∉ fr := fun z => by
      rcases hw p z with w | w
      · exact hpw w
      · rw [upd_same] at w; cases w
    have ndk : (ks.map (Sum.inr : Str → Key)).Nodup := by
      refine List.pairwise_map.mpr (hnd.imp fun h z => ?_)
      cases z
      exact h rfl
    have hm := mergeK_zip (ks.map (Sum.inr : Str → Key)) vs [] [] rfl (by simpa using ndk) (by simp; omega)
    refine ⟨hp1, (ks.map (Sum.inr : Str → Key)).zip vs, ?_, by rw [List.length_zip, List.length_map]; omega, ?_⟩
    · rw [show (fun kv : Key × V => (kV kv.1, kv.2)) = Prod.map kV id from rfl, ← List.zip_map_left, List.map_map]
      rfl
    · rw [show mergeK ([] : List (Key × V)) ((ks.map (Sum.inr : Str → Key)).zip vs) = (ks.map (Sum.inr : Str → Key)).zip vs from hm]
      have fF1 : F1 p = none := by
        cases z : F1 p with
        | none => rfl
        | some u =>
          rcases p1.ext.new p (by rw [z]; simp) with y | y | y
          · exact absurd nF y
          · exact absurd y hpw
          · rw [upd_same] at y; cases y
      have pp1 : ∀ j, p ∉ fp1 j := fun j z => by
        rcases p1.come' z with y | y | y
        · exact np j y
        · exact hpw y
        · rw [upd_same] at y; cases y
      have p01 : Pst X.K X.mg ([] ++ T) F H env fp F1 H1 env' σ fp1 := p0.trans p1
      rw [List.nil_append] at p01
      have ros2 := ros.frame (H' := upd H1 p (.dK ((ks.map (Sum.inr : Str → Key)).zip vs))) Same.refl fun b hb => ⟨upd_ne (fun z => pfr (by rw [← z]; exact hb)), (ros.fp b hb).1⟩
      have p2 : Pst X.K X.mg T F H env fp F1 (upd H1 p (.dK ((ks.map (Sum.inr : Str → Key)).zip vs))) env' σ fp1 := by
        refine ⟨⟨p01.ext.ff, fun a u e => ?_, fun a u e hn => ?_, p01.ext.new, fun a e => ?_⟩, ⟨p01.re.len, fun j o2 hj => ?_, p01.re.emp, p01.re.dis⟩, p01.same, p01.come, p01.ln⟩
        · rw [upd_ne (fun z => by subst z; rw [fF1] at e; cases e)]
          exact p01.ext.fh a u e
        · rw [upd_ne (fun z => by subst z; rw [hp] at e; cases e)]
          exact p01.ext.keep a u e hn
        · by_cases z : a = p
          · subst z; rw [upd_same]; simp
          · rw [upd_ne z]; exact p01.ext.dom a e
        · obtain ⟨w, y1, y2⟩ := p01.re.slot j o2 hj
          exact ⟨w, y1, y2.frame Same.refl fun a ha => ⟨upd_ne (fun z => pp1 j (by rw [← z]; exact ha)), (y2.fp a ha).1⟩⟩
      refine k _ _ F1 _ fp1 (p :: fr) rfl p2 ?_ (fun j b hb z => ?_) (fun b hb => ?_)
      · rw [RO]
        exact ⟨p, vs, fr, rfl, upd_same, fF1, by simp [hl2], by rw [hl2]; exact Nat.le_trans h15 (by rw [sizeLine_eq]; decide), ros2, pfr, rfl⟩
      · rcases List.mem_cons.mp hb with e | e
        · subst e; exact pp1 j z
        · exact hd j b e z
      · rcases List.mem_cons.mp hb with e | e
        · subst e; exact .inr hp
        · rcases hw b e with w | w
          · exact .inl w
          · refine .inr ?_
            rw [upd_ne (fun z => pfr (by rw [← z]; exact e))] at w
            exact w
  · refine hs F _ env σ fp _ _ env' e0.fh p0.re q (fun os vs F2 H2 fp2 fs e => by cases e) (fun x' F' H' fp' cls d e p2 ex => ?_)
    cases e
    have p02 := p0.trans p2
    rw [List.nil_append] at p02
    exact ke _ _ _ _ _ _ rfl p02 ex
theorem po_dnewK {pos : Pos} : PO X W [] (.Dict [] [] pos) (M.ret (.dK [] [])) := ⟨_, pe_dnewK, fun F H env σ fp Q r env' k1 k2 k3 k ke => by
  obtain ⟨rfl, rfl⟩ := M.ret_some k3
  intro p hp
  refine k _ _ F _ fp [p] rfl (Pst.of_ext k2 (Ext.allocO k1 hp)) (by
    rw [RO]
    refine ⟨p, [], [], rfl, upd_same, ?_, rfl, Nat.zero_le _, by rw [ROs]; exact ⟨rfl, rfl⟩, by simp, rfl⟩
    cases z : F p with
    | none => rfl
    | some u => rw [k1 p u z] at hp; cases hp) (fun j a ha z => ?_) (fun a ha => ?_)
  · have e : a = p := by simpa using ha
    subst e; exact (k2.fpin z).2 hp
  · have e : a = p := by simpa using ha
    subst e; exact .inr hp⟩
theorem po_dnewT {pos : Pos} : PO X W [] (.Dict [] [] pos) (M.ret (.dT [] [])) := ⟨_, pe_dnewT, fun F H env σ fp Q r env' k1 k2 k3 k ke => by
  obtain ⟨rfl, rfl⟩ := M.ret_some k3
  intro p hp
  refine k _ _ F _ fp [p] rfl (Pst.of_ext k2 (Ext.allocO k1 hp)) (by
    rw [RO]
    refine ⟨p, [], [], rfl, upd_same, ?_, rfl, Nat.zero_le _, by rw [ROs]; exact ⟨rfl, rfl⟩, by simp, rfl⟩
    cases z : F p with
    | none => rfl
    | some u => rw [k1 p u z] at hp; cases hp) (fun j a ha z => ?_) (fun a ha => ?_)
  · have e : a = p := by simpa using ha
    subst e; exact (k2.fpin z).2 hp
  · have e : a = p := by simpa using ha
    subst e; exact .inr hp⟩
/-! ### xs.pop(k) -/
theorem ROs.erase {K : PySem.W.Frag} {G : Str → Option Value} : ∀ {os : List O} {vs : List V} {fs : List Addr} {n : Nat} {o : O}, ROs K G F H os vs fs → os[n]? = some o →
    ∃ v f1 f2, vs[n]? = some v ∧ ROs K G F H (os.eraseIdx n) (vs.eraseIdx n) f1 ∧ RO K G F H o v f2 ∧ (∀ a ∈ f2, a ∉ f1) ∧ (∀ a ∈ f1, a ∈ fs) ∧ (∀ a ∈ f2, a ∈ fs)
  | [], vs, fs, n, o, q, e => by simp at e
  | b :: os, vs, fs, 0, o, q, e => by
    rw [ROs] at q
    obtain ⟨w, r, f1, f2, rfl, q1, q2, q3, rfl⟩ := q
    cases e
    exact ⟨w, f2, f1, rfl, q2, q1, q3, fun a h => List.mem_append_right _ h, fun a h => List.mem_append_left _ h⟩
  | b :: os, vs, fs, n + 1, o, q, e => by
    rw [ROs] at q
    obtain ⟨w, r, f1, f2, rfl, q1, q2, q3, rfl⟩ := q
    obtain ⟨v, g1, g2, h1, h2, h3, h4, h5, h6⟩ := ROs.erase (n := n) q2 (by simpa using e)
    refine ⟨v, f1 ++ g1, g2, by simpa using h1, ?_, h3, fun a ha z => ?_, fun a ha => ?_, fun a ha => List.mem_append_right _ (h6 a ha)⟩
    · rw [List.eraseIdx_cons_succ, List.eraseIdx_cons_succ, ROs]
      exact ⟨w, _, f1, g1, rfl, q1, h2, fun a y z => q3 a y (h5 a z), rfl⟩
    · rcases List.mem_append.mp z with y | y
      · exact q3 a y (h6 a ha)
      · exact h4 a ha y
    · rcases List.mem_append.mp ha with y | y
      · exact List.mem_append_left _ y
      · exact List.mem_append_right _ (h5 a y)
def oPopAt (i : Nat) (p : Pth) (g : M D) : M O := fun env => match Env.at env i p with
  | some (.lst _) => M.bd g (fun d => atL i p fun os => match d with
    | .int n => if -(2 ^ 63) ≤ n ∧ n < 2 ^ 63 then (ixN os.length n).bind fun j => (os[j]?).map fun o => (o, os.eraseIdx j) else none
    | _ => none) env
  | _ => none
theorem po_popAt {i : Nat} {p : Pth} {o e : Expr} {f : M D} {apos cpos : Pos} (hP : PPl X i p o) (he : PV X W T e f) (hT : i ∉ T := by decide)
    (hbase : attributeBase o "pop" X.env (eval o X.env) = eval o X.env := by rfl)
    (hfew : ((backTo cpos (starEach [e] X.env)).all (fun x => !x.1) && (backToKw cpos (keywordEach [] X.env)).all (fun x => x.1.isSome)
      && decide ([e].length + ([] : List Keyword).length + (if ([] : List Keyword).isEmpty then 0 else 1) < 30)) = true := by rfl)
    (hline : (apos.endLine == cpos.line) = true := by rfl) (hs : starEach [e] X.env = (false, eval e X.env) :: starEach [] X.env := by rfl) (hplain : (backTo cpos (starEach [] X.env)).any (·.1) = false := by rfl) :
    PO X W (T ++ [i]) (.Call (.Attribute o "pop" apos) [e] [] cpos) (oPopAt i p f) := by
  obtain ⟨t, ht, hsp⟩ := hP.ex
  obtain ⟨te, e1, e2⟩ := he.ex
  refine ⟨_, pe_bm PySem.F.plainAttrs_list PySem.F.slot_list_pop PySem.F.type_list_pop mt_popAt ht (pa_cons e1 pa_nil hs) hbase hfew hline hs hplain, fun F H env σ fp Q r env' k1 k2 k3 k ke => ?_⟩
  unfold oPopAt at k3
  split at k3
  · rename_i os0 q0
    obtain ⟨o0, q1, q2⟩ := Env.at_some q0
    obtain ⟨v, l, vs, fs, m1, m2, m3, m4, _⟩ := mut_lst k1 k2 q1 q2
    refine hsp σ H v (.ref l) _ m1 m2 ⟨.inl ⟨rfl, vs, .of m3⟩, ?_⟩
    refine SndV.then e2 k1 k2 k3 (fun d w F1 H1 env1 fp1 q p1 rep => ?_) (ke.left k2)
    obtain ⟨o2, os, a, os', o', q3, q4, q5, q6, rfl, rfl⟩ := atL_some q
    split at q5
    · rename_i n
      split at q5
      · rename_i hb
        simp only [Option.bind_eq_some_iff, Option.map_eq_some_iff] at q5
        obtain ⟨j, hj, o1, hj2, e5⟩ := q5
        cases e5
        simp only [Rep] at rep
        subst rep
        obtain ⟨v2, l2, vs2, fs2, n1, n2, n3, n4, n5, n6, n7, n8, n9⟩ := mut_lst p1.ext.fh p1.re q3 q4
        rw [m1] at n1
        cases n1
        have e3 := PathV.inj (p1.path k2 hT q1 m1 q2 m2) n2
        cases e3
        obtain ⟨y, g1, g2, x1, x2, x3, x4, x5, x6⟩ := n5.erase hj2
        have hfs : ∀ b, b ∈ fs2 → (upd H1 l (.lst (vs2.eraseIdx j))) b = H1 b ∧ F1 b = none := fun b hb => ⟨upd_ne (fun z => n6 (by rw [← z]; exact hb)), (p1.re.fpin (n8 b hb)).1⟩
        obtain ⟨o3, fp2, y1, y2, y3, y4, y5, y6⟩ := n9 (vs2.eraseIdx j) (os.eraseIdx j) g1 [] (x2.frame Same.refl fun b hb => hfs b (x5 b hb)) (by rw [List.length_eraseIdx]; split <;> omega) (fun z => n6 (x5 l z)) (fun b hb => .inl (x5 b hb)) (fun _ _ z => by simp at z)
        rw [q6] at y1
        cases y1
        refine ⟨l, vs2, n, j, y, rfl, rfl, n3, hb.1, hb.2, by rw [n5.length]; exact (ixN_seq hj).1, x1, ?_⟩
        have p := pst_mut p1 y2 y3 y4 y5 (fr := []) (fun _ z => by simp at z)
        refine k _ y F1 _ fp2 g2 rfl p (x3.frame Same.refl fun b hb => hfs b (x6 b hb)) (fun jj b hb z => ?_) (fun b hb => ?_)
        · by_cases hj : jj = i
          · subst hj
            rcases y6 b z with yy | yy
            · exact yy (x6 b hb)
            · exact x4 b hb yy
          · rw [y4 jj hj] at z
            exact p1.re.dis i jj (Ne.symm hj) b (n8 b (x6 b hb)) z
        · rcases p1.come' (n8 b (x6 b hb)) with w | w | w
          · exact .inl ⟨i, by simp, w⟩
          · exact .inl (w.mono mem_l)
          · exact .inr w
      · cases q5
    · cases q5
  · cases k3
end
end PL
/-! PL26: list(..), dict(..) of anything that is looked at; list, tuple of a range. -/
namespace PL
open PySem L2
def signsOf (x : Str) : List Str := x.cps.toList.map fun c => ⟨#[c]⟩
section
open PyProof.Rows
variable {X : Cx}
theorem call_list_txt (hc : X.calm = true) : CallR X (.type "list") (fun xs H Q => ∃ x : Str, xs = [.str x] ∧ x.cps.size ≤ sizeLine ∧ ∀ p, H p = none → Q (.ref p) (upd H p (.lst ((signsOf x).map V.str)))) := by
  intro pins s σ H xs us Q I r h
  obtain ⟨x, rfl, hl, q⟩ := h
  obtain ⟨u, rfl, t, rfl⟩ := vals1 r
  refine PySem.call_list_str (I.ok.hd hc) x t (fun h' tk acc c' k hg hi => ?_) hl
  have hv : Vals ((signsOf x).map V.str) acc.toList := by
    refine vals_each (by simp [signsOf, hi.1]) fun j v u hv hu => ?_
    obtain ⟨c, tt, e1, e2⟩ := hi.2 j u (by rw [← Array.getElem?_toList]; exact hu)
    rw [List.getElem?_map, signsOf, List.getElem?_map] at hv
    rw [show x.cps.toList[j]? = some c from by rw [Array.getElem?_toList]; exact e1] at hv
    cases hv
    exact ⟨tt, e2⟩
  refine ⟨.ref s.heap.objs.size, upd H s.heap.objs.size (.lst ((signsOf x).map V.str)), I.laid (t' := tk) k (Nat.le_refl _) ⟨by simpa [signsOf] using hl, acc.toList, c', hv, by rw [Array.toArray_toList]; exact hg⟩, rfl, q _ (I.hok.fresh (Nat.le_refl _))⟩
where
  vals_each : ∀ {xs : List V} {us : List Value}, xs.length = us.length → (∀ (j : Nat) v u, xs[j]? = some v → us[j]? = some u → RelV v u) → Vals xs us
    | [], [], _, _ => .nil
    | x :: xs, u :: us, hl, h => .cons (h 0 x u rfl rfl) (vals_each (by simpa using hl) fun j v w hv hw => h (j + 1) v w (by simpa using hv) (by simpa using hw))
    | [], _ :: _, hl, _ => by simp at hl
    | _ :: _, [], hl, _ => by simp at hl
end
section
variable {X : Cx} {W : WX} {T T1 T2 T3 A S : List Nat} {F H F' H' F1 H1 F2 H2 : Hp} {env env' : Env} {σ : St} {fp fp' : Nat → List Addr}
def dListA : D → Option O
  | .lst ds => some (.lst (ds.map .val))
  | .tup ds => some (.lst (ds.map .val))
  | .str x => if x.cps.size ≤ sizeLine then some (.lst (((signsOf x).map .str).map .val)) else none
  | .dK ks _ => some (.lst ((ks.map kDt).map .val))
  | _ => none
theorem one_fr {p : Addr} {H : Hp} (h : H p = none) : ∀ b ∈ [p], H b = none := fun b hb => by
  have e : b = p := by simpa using hb
  subst e; exact h
theorem po_listA {e : Expr} {f : M Rdr} {S : List Nat} {p pos : Pos} (hc : X.calm = true) (hg : Gl X "list") (hm : X.mg "list" = none) (h : PQ X W T S e f)
    (he : starEach [e] X.env = (false, eval e X.env) :: starEach [] X.env := by rfl) (hpl : (backTo pos (starEach [] X.env)).any (·.1) = false := by rfl) : PO X W T (.Call (.Name "list" p) [e] [] pos) (oNew dListA f) := by
  obtain ⟨t, ht, hs⟩ := h.ex
  refine ⟨_, pe_callTy (p := p) (CallR.or call_list_of (CallR.or (call_list_txt hc) (call_list_dK hc))) hg hm boot_list' (pa_cons ht pa_nil he) (by decide) (by decide) he hpl, snd_new (fun F H x d z Q hs rx hg k => ?_) hs⟩
  unfold dListA at hg
  split at hg
  · rename_i ds
    cases hg
    obtain ⟨a, vs, rfl, h1, h2, h3⟩ := rx
    exact .inl ⟨a, vs, rfl, .inl (.of h1), fun c nc => k _ _ _ [c] (Ext.allocO hs nc) (ro_new hs nc h2 h3) (one_fr nc)⟩
  · rename_i ds
    cases hg
    simp only [RepC, Rep] at rx
    obtain ⟨a, vs, rfl, h1, h2, h3⟩ := rx
    exact .inl ⟨a, vs, rfl, .inr (sqT hs h1), fun c nc => k _ _ _ [c] (Ext.allocO hs nc) (ro_new hs nc h2 h3) (one_fr nc)⟩
  · rename_i x
    split at hg
    · rename_i hl
      cases hg
      refine .inr (.inl ⟨x, by rw [repC_str rx], hl, fun c nc => k _ _ _ [c] (Ext.allocO hs nc) (ro_new hs nc (by simpa [signsOf] using hl) reps_strs) (one_fr nc)⟩)
    · cases hg
  · rename_i ks ds
    cases hg
    simp only [RepC] at rx
    obtain ⟨a, vs, rfl, h1, h2, h3, h4⟩ := rx
    refine .inr (.inr ⟨a, _, rfl, h1, fun c nc => ?_⟩)
    have e1 : (ks.zip vs).map (fun kv => kV kv.1) = ks.map kV := by
      rw [show (fun kv : Key × V => kV kv.1) = kV ∘ Prod.fst from rfl, ← List.map_map, List.map_fst_zip (by rw [h4.length]; omega)]
    rw [e1]
    exact k _ _ _ [c] (Ext.allocO hs nc) (ro_new hs nc (by rw [List.length_map]; omega) (reps_keys _)) (one_fr nc)
  · cases hg
def dDictO : D → Option O
  | .dK ks ds => some (.dK ks (ds.map .val))
  | _ => none
theorem po_dictA {e : Expr} {f : M Rdr} {S : List Nat} {p pos : Pos} (hg : Gl X "dict") (hm : X.mg "dict" = none) (h : PQ X W T S e f)
    (he : starEach [e] X.env = (false, eval e X.env) :: starEach [] X.env := by rfl) (hpl : (backTo pos (starEach [] X.env)).any (·.1) = false := by rfl) : PO X W T (.Call (.Name "dict" p) [e] [] pos) (oNew dDictO f) := by
  obtain ⟨t, ht, hs⟩ := h.ex
  refine ⟨_, pe_callTy (p := p) call_dictD hg hm boot_dict' (pa_cons ht pa_nil he) (by decide) (by decide) he hpl, snd_new (fun F H x d z Q hs rx hg k => ?_) hs⟩
  unfold dDictO at hg
  split at hg
  · rename_i ks ds
    cases hg
    simp only [RepC] at rx
    obtain ⟨a, vs, rfl, h1, h2, h3, h4⟩ := rx
    refine ⟨a, _, rfl, .inl h1, fun c nc => k _ _ _ [c] (Ext.allocO hs nc) ?_ (one_fr nc)⟩
    have nF : F c = none := by
      cases z : F c with
      | none => rfl
      | some u => rw [hs c u z] at nc; cases nc
    rw [RO]
    refine ⟨c, vs, [], rfl, upd_same, nF, by rw [List.length_map]; exact h2, by rw [List.length_map]; exact h3, ROs.vals h4, by simp, rfl⟩
  · cases hg
theorem rgV_reps {n : Int} : Reps X.K X.mg F (rangeD 0 n.toNat) (rgV 0 n) := by
  unfold rangeD rgV
  rw [Int.sub_zero]
  have : ∀ l : List Nat, Reps X.K X.mg F (l.map fun i : Nat => D.int (0 + (i : Int))) (l.map fun i : Nat => V.int (0 + (i : Int))) := by
    intro l
    induction l with
    | nil => exact .nil
    | cons a l ih => exact .cons rep_int ih
  exact this _
def oLstRg (f : M D) : M O := M.bd f fun d => M.lift (match d with
  | .int n => if -1000000 ≤ n ∧ n ≤ 1000000 then some (.lst ((rangeD 0 n.toNat).map .val)) else none
  | _ => none)
theorem rangeD_len (lo : Int) (n : Nat) : (rangeD lo n).length = n := by unfold rangeD; simp
theorem po_lstRg {e : Expr} {f : M D} {p p2 pos pos2 : Pos} (hc : X.calm = true) (hg : Gl X "list") (hm : X.mg "list" = none) (hg2 : Gl X "range") (hm2 : X.mg "range" = none) (h : PV X W T e f)
    (na : starEach [e] X.env = (false, eval e X.env) :: starEach [] X.env := by rfl) (na2 : starEach [.Call (.Name "range" p2) [e] [] pos2] X.env = (false, eval (.Call (.Name "range" p2) [e] [] pos2) X.env) :: starEach [] X.env := by rfl) :
    PO X W T (.Call (.Name "list" p) [.Call (.Name "range" p2) [e] [] pos2] [] pos) (oLstRg f) := by
  obtain ⟨t, ht, hs⟩ := h.ex
  refine ⟨_, pe_listRg hc hg hm (prg_1 hg2 hm2 ht na) na2, fun F H env σ fp Q r env' k1 k2 k3 k ke => ?_⟩
  show t σ H _
  refine SndV.then hs k1 k2 k3 (fun d v F1 H1 env1 fp1 q p1 rep => ?_) ke
  obtain ⟨z, e1, rfl, rfl⟩ := M.lift_some q
  split at e1
  · rename_i n
    split at e1
    · rename_i hn
      cases e1
      simp only [Rep] at rep
      subst rep
      refine ⟨n, rfl, ⟨by decide, by decide, by omega, by omega, by omega⟩, fun c nc => ?_⟩
      have p2 := p1.trans (Pst.of_ext p1.re (Ext.allocO (o := .lst (rgV 0 n)) p1.ext.fh nc))
      rw [List.append_nil] at p2
      exact k _ _ F1 _ fp1 [c] rfl p2 (ro_new p1.ext.fh nc (by rw [rangeD_len, sizeLine_eq]; omega) rgV_reps) (fun j b hb z => (p1.re.fpin z).2 (one_fr nc b hb)) (fun b hb => .inr (dom_none p1 (one_fr nc b hb)))
    · cases e1
  · cases e1
end
end PL
/-! PL27: methods by their bodies; constants of the module; the top's facts. -/
namespace PL
open PySem L2
section
variable {P : Program} {w : World} {K : PySem.W.Frag} {mg : Str → Option Value} {base : Heap}
def MkAt (K : PySem.W.Frag) (mg : Str → Option Value) (c q : Str) (fs : List Str) (st : Stmt) : Prop := ∃ C f fd, mg c = some (.ref C) ∧ ClsF K C fs ∧ Mk K C f ∧ Fun K "__init__" q st f fd
def MethAt (K : PySem.W.Frag) (mg : Str → Option Value) (c x q : Str) (st : Stmt) : Prop := ∃ C f fd, mg c = some (.ref C) ∧ Cls K C ∧ Meth K C x f ∧ Fun K x q st f fd
theorem MkAt.cls {c q : Str} {fs : List Str} {st : Stmt} (h : MkAt K mg c q fs st) : ClsAt K mg c fs := let ⟨C, _, _, h1, h2, _⟩ := h; ⟨C, h1, h2⟩
theorem init_pl {c q : Str} {fs : List Str} {st : Stmt} {N ps : List Str} {k n : Nat} {T A : List Nat} {body : M Fl} (Da : MkAt K mg c q fs st) (S : FnScope N ps (defScope st)) (hn : ps.length = n)
    (hbi : ∀ (kV doc pm : Value) (an : Option Addr) (cdv ct : Value) (us : List Value), us.length = ps.length → bindArgs (PySem.W.fnOf "__init__" q (defArgs st) (defBody st) (defScope st) .none kV doc pm an cdv ct) ⟨us, []⟩ = pure (ps.zip us))
    (hio : ∀ j ∈ [0], j ∉ A)
    (hb : ∀ (f : Addr) (cdv : Value) (Ar : Around) (outer : List PySem.Env) (s : Shared) (H : Hp) (E : XK), Room k (Ar.deeper (PyProof.Rows.envOfC q (defScope st) s.heap.objs.size f cdv)) →
      PZs (cxOf (L2.CX P w) P w K mg base N q (defScope st) f cdv Ar outer s H E) (fun cls d _ H => E cls d H) T A (defBody st) body) :
    InitOk P w K mg base (k + 1) c fs ps n (dfn n N.length [0] body) := by
  obtain ⟨C, f, fd, h1, h2, h3, Fu⟩ := Da
  exact ⟨C, f, fd, h1, h2, h3, Fu.binds hbi, fn_pl Fu S hn hio (fun _ h => by simp at h) fun cdv Ar outer s H E hr => hb f cdv Ar outer s H E hr⟩
theorem meth_pl {c x q : Str} {st : Stmt} {N ps : List Str} {k n : Nat} {io T A : List Nat} {body : M Fl} (Da : MethAt K mg c x q st) (S : FnScope N ps (defScope st)) (hn : ps.length = n)
    (hbi : ∀ (kV doc pm : Value) (an : Option Addr) (cdv ct : Value) (us : List Value), us.length = ps.length → bindArgs (PySem.W.fnOf x q (defArgs st) (defBody st) (defScope st) .none kV doc pm an cdv ct) ⟨us, []⟩ = pure (ps.zip us))
    (hio : ∀ j ∈ io, j ∉ A)
    (hb : ∀ (f : Addr) (cdv : Value) (Ar : Around) (outer : List PySem.Env) (s : Shared) (H : Hp) (E : XK), Room k (Ar.deeper (PyProof.Rows.envOfC q (defScope st) s.heap.objs.size f cdv)) →
      PZs (cxOf (L2.CX P w) P w K mg base N q (defScope st) f cdv Ar outer s H E) (fun cls d _ H => E cls d H) T A (defBody st) body) :
    MethOk P w K mg base (k + 1) c x ps n io (dfn n N.length io body) := by
  obtain ⟨C, f, fd, h1, h2, h3, Fu⟩ := Da
  exact ⟨C, f, fd, h1, h2, h3, Fu.binds hbi, fn_pl Fu S hn hio (fun _ h => by simp at h) fun cdv Ar outer s H E hr => hb f cdv Ar outer s H E hr⟩
theorem clsF_mk {C : Addr} {fs : List Str} (pg : PySem.W.plainGet K C Str.empty = true) (hd : PySem.W.hasDictIn K C = true) (po : PySem.W.plainOver K C = true) (sa : PySem.W.findIn K (.ref C) "__setattr__" = some (some (.builtin "object.__setattr__")))
    (na : ∀ f ∈ fs, PySem.W.findIn K (.ref C) f = some none) : ClsF K C fs := ⟨⟨pg, hd, po, sa⟩, na⟩
theorem mkAt_mk {h : Heap} {c q : Str} {fs : List Str} {st : Stmt} {C f : Addr} {oc : Value} {od an : Option Addr} {osl : Array (Option Value)} {kV doc pm cdv ct : Value} (X : K.In h) (G : h.Ns mainGlobals mg)
    (a : PySem.W.nsIn K mainGlobals c = some (some (.ref C))) (a1 : PySem.W.findIn K (.ref C) "__init__" = some (some (.ref f))) (i1 : PySem.W.isFn K (.ref f) = true)
    (l : K.lookup f = some ⟨oc, od, .func (PySem.W.fnOf "__init__" q (defArgs st) (defBody st) (defScope st) .none kV doc pm an cdv ct), osl⟩) (cc : PySem.W.codeIn K cdv q = true) (k : PySem.W.keepIn K (.ref f) = true)
    (mk : PySem.W.makesIn K C = true) (kc : PySem.W.keepIn K (.ref C) = true)
    (pg : PySem.W.plainGet K C Str.empty = true) (hd : PySem.W.hasDictIn K C = true) (po : PySem.W.plainOver K C = true) (sa : PySem.W.findIn K (.ref C) "__setattr__" = some (some (.builtin "object.__setattr__")))
    (na : ∀ f ∈ fs, PySem.W.findIn K (.ref C) f = some none) : MkAt K mg c q fs st := ⟨C, f, _, PySem.W.mg_of X G a, clsF_mk pg hd po sa na, ⟨mk, a1, i1, kc⟩, fun_mk l cc k⟩
theorem methAt_mk {h : Heap} {c x q : Str} {st : Stmt} {C f : Addr} {oc : Value} {od an : Option Addr} {osl : Array (Option Value)} {kV doc pm cdv ct : Value} (X : K.In h) (G : h.Ns mainGlobals mg)
    (a : PySem.W.nsIn K mainGlobals c = some (some (.ref C))) (a1 : PySem.W.findIn K (.ref C) x = some (some (.ref f))) (i1 : PySem.W.isFn K (.ref f) = true)
    (l : K.lookup f = some ⟨oc, od, .func (PySem.W.fnOf x q (defArgs st) (defBody st) (defScope st) .none kV doc pm an cdv ct), osl⟩) (cc : PySem.W.codeIn K cdv q = true) (k : PySem.W.keepIn K (.ref f) = true)
    (pg : PySem.W.plainGet K C Str.empty = true) (hd : PySem.W.hasDictIn K C = true) (po : PySem.W.plainOver K C = true) (sa : PySem.W.findIn K (.ref C) "__setattr__" = some (some (.builtin "object.__setattr__"))) :
    MethAt K mg c x q st := ⟨C, f, _, PySem.W.mg_of X G a, ⟨pg, hd, po, sa⟩, ⟨a1, i1, k⟩, fun_mk l cc k⟩
theorem u65 {k : Nat} {A : Around} (r : Room k A) : A.units + 65 < cLine := PL.Room.u65 r
theorem na_nil {C : Addr} : ∀ f ∈ ([] : List Str), PySem.W.findIn K (.ref C) f = some none := fun f h => by simp at h
theorem na_cons {C : Addr} {f : Str} {fs : List Str} (h : PySem.W.findIn K (.ref C) f = some none) (t : ∀ g ∈ fs, PySem.W.findIn K (.ref C) g = some none) : ∀ g ∈ f :: fs, PySem.W.findIn K (.ref C) g = some none := fun g hg => by
  rcases List.mem_cons.mp hg with rfl | hg
  · exact h
  · exact t g hg
/-- a constant of the module -/
def ConAt (mg : Str → Option Value) (x : Str) (v : V) : Prop := ∃ u, mg x = some u ∧ RelV v u
theorem con_int {h : Heap} {x : Str} {i : Int} {t : Tok} (X : K.In h) (G : h.Ns mainGlobals mg) (a : PySem.W.nsIn K mainGlobals x = some (some (.int i t))) : ConAt mg x (.int i) := ⟨_, PySem.W.mg_of X G a, t, rfl⟩
theorem con_str {h : Heap} {x i : Str} {t : Tok} (X : K.In h) (G : h.Ns mainGlobals mg) (a : PySem.W.nsIn K mainGlobals x = some (some (.str i t))) : ConAt mg x (.str i) := ⟨_, PySem.W.mg_of X G a, t, rfl⟩
end
section
variable {X : Cx} {W : WX}
theorem pv_conI {x : Str} {i : Int} {pos : Pos} (hg : Gl X x) (h : ConAt X.mg x (.int i)) (hd : (x == ("__debug__" : Str)) = false := by decide) : PV X W [] (.Name x pos) (M.ret (.int i)) := let ⟨_, h1, h2⟩ := h; pv_gc hg h1 h2 (fun _ => by simp only [Rep]) hd
theorem pv_conS {x : Str} {i : Str} {pos : Pos} (hg : Gl X x) (h : ConAt X.mg x (.str i)) (hd : (x == ("__debug__" : Str)) = false := by decide) : PV X W [] (.Name x pos) (M.ret (.str i)) := let ⟨_, h1, h2⟩ := h; pv_gc hg h1 h2 (fun _ => by simp only [Rep]) hd
end
/-! ### a comprehension within another one -/
theorem lookup_rel {env : PySem.Env} : ∀ {names : List (Str × NameKind)} {x : Str}, (names.lookup x = some .cell ∨ names.lookup x = some .free) →
    ((names.map fun (n, k) => if (k == NameKind.free && env.scope.kind == ScopeKind.function && env.kindOf n == some NameKind.cell) = true then (n, NameKind.cell) else (n, k)).lookup x = some .cell ∨
    (names.map fun (n, k) => if (k == NameKind.free && env.scope.kind == ScopeKind.function && env.kindOf n == some NameKind.cell) = true then (n, NameKind.cell) else (n, k)).lookup x = some .free)
  | [], x, h => by simp at h
  | (n, k) :: r, x, h => by
    have ih := @lookup_rel env r x
    rw [List.map_cons]
    simp only [List.lookup_cons] at h ⊢
    by_cases e : x == n
    · rw [e] at h
      simp only [Option.some.injEq] at h
      split
      · simp only [List.lookup_cons, e]
        simp
      · simp only [List.lookup_cons, e]
        rcases h with h | h
        · exact .inl (by rw [h])
        · exact .inr (by rw [h])
    · have e : (x == n) = false := by simpa using e
      rw [e] at h
      split
      · simp only [List.lookup_cons, e]
        exact ih h
      · simp only [List.lookup_cons, e]
        exact ih h
theorem blkOk_rel {N : List Str} {sc scope : Scope} {env : PySem.Env} {own : List (Str × Nat)} (h : blkC N sc scope own = true) : BlkOk N (relabel sc env) scope own := by
  refine blkOk_by ?_
  unfold blkC at h ⊢
  simp only [Bool.and_eq_true, List.all_eq_true, decide_eq_true_eq] at h ⊢
  obtain ⟨⟨⟨h1, h2⟩, h3⟩, h4⟩ := h
  refine ⟨⟨⟨h1, h2⟩, h3⟩, fun y hy => ?_⟩
  have := h4 y hy
  obtain ⟨nm, kd⟩ := y
  cases kd with
  | free =>
    have hl : sc.names.lookup nm = some .cell ∨ sc.names.lookup nm = some .free := by
      have this : (match sc.names.lookup nm with | some NameKind.cell => true | some NameKind.free => true | _ => false) = true := this
      split at this
      · rename_i z; exact .inl z
      · rename_i z; exact .inr z
      · cases this
    show (match (relabel sc env).names.lookup nm with | some NameKind.cell => true | some NameKind.free => true | _ => false) = true
    rcases lookup_rel (env := env) hl with z | z
    · rw [show (relabel sc env).names.lookup nm = some .cell from z]
    · rw [show (relabel sc env).names.lookup nm = some .free from z]
  | _ => exact this
end PL
/-! PL28: a op b op c. -/
namespace PL
open PySem L2
def mChn (g g' : D → D → Option D) (fa fb fc : M Rdr) : M Bool := M.bd fa fun ra => M.bd fb fun rb => fun env => match (ra env).bind fun x => (rb env).bind fun y => g x y with
  | some (.bl false) => M.ret false env
  | some (.bl true) => M.bd fc (fun rc => fun env => M.lift (match (rb env).bind fun y => (rc env).bind fun z => g' y z with
    | some (.bl k) => some k
    | _ => none) env) env
  | _ => none
section
variable {X : Cx} {W : WX} {T T1 T2 T3 A S : List Nat} {F H F' H' F1 H1 F2 H2 : Hp} {env env' : Env} {σ : St} {fp fp' : Nat → List Addr}
theorem chain_core {g g' : D → D → Option D} {r r' : R2} {ta tb tc : TE} {fa fb fc : M Rdr} {S1 S2 S3 : List Nat}
    (h2 : ∀ (F H : Hp) (x y : V) (d e z : D) (Q : VK), Same F H → RepC X.K X.mg F H d x → RepC X.K X.mg F H e y → g d e = some z → (∀ v F' H', Ext F H (fun _ => False) F' H' → Rep X.K X.mg F' z v → Q v H') → r x y H Q)
    (h2' : ∀ (F H : Hp) (x y : V) (d e z : D) (Q : VK), Same F H → RepC X.K X.mg F H d x → RepC X.K X.mg F H e y → g' d e = some z → (∀ v F' H', Ext F H (fun _ => False) F' H' → Rep X.K X.mg F' z v → Q v H') → r' x y H Q)
    (a2 : SndQ X W T1 S1 ta fa) (b2 : SndQ X W T2 S2 tb fb) (c2 : SndQ X W T3 S3 tc fc) (hS : ∀ i ∈ S1, i ∉ T2) (hS2 : ∀ i ∈ S2, i ∉ T3) {Q : VK} {z : Except Ex Bool}
    (k1 : Same F H) (k2 : RE X.K X.mg F H env σ fp) (k3 : mChn g g' fa fb fc env = some (z, env')) (k : ∀ b F' H' fp', z = .ok b → Pst X.K X.mg (T1 ++ (T2 ++ T3)) F H env fp F' H' env' σ fp' → Q (.bl b) H')
    (ke : ErrK X W (T1 ++ (T2 ++ T3)) F H env σ fp Bool z env') : tChain r r' ta tb tc σ H Q := by
  refine SndQ.then a2 k1 k2 k3 (fun ra v F1 H1 env1 fp1 q1 p1 hra => ?_) (ErrK.left k2 ke)
  have ke1 := ErrK.right p1 ke
  refine SndQ.then b2 p1.ext.fh p1.re q1 (fun rb u F2 H2 env2 fp2 q2 p2 hrb => ?_) (ErrK.left p1.re ke1)
  split at q2
  · rename_i e
    simp only [Option.bind_eq_some_iff] at e
    obtain ⟨d1, e2, d2, e3, e4⟩ := e
    cases q2
    have c1 := hra T2 F2 H2 env' fp2 d1 p2 hS e2
    have c2 := hrb [] F2 H2 env' fp2 d2 (.refl p2.ext.fh p2.re) (fun _ _ z => by simp at z) e3
    refine h2 F2 H2 v u d1 d2 _ _ p2.ext.fh c1 c2 e4 fun w F3 H3 ex rep => ?_
    simp only [Rep] at rep
    subst rep
    refine ⟨false, rfl, ?_⟩
    show Q (.bl false) H3
    have p := (p1.trans p2).trans (Pst.of_ext p2.re ex)
    rw [List.append_nil] at p
    exact k false F3 H3 fp2 rfl (p.mono (fun t h => by rw [← List.append_assoc]; exact List.mem_append_left _ h) k2)
  · rename_i e
    simp only [Option.bind_eq_some_iff] at e
    obtain ⟨d1, e2, d2, e3, e4⟩ := e
    have c1' := hra T2 F2 H2 env2 fp2 d1 p2 hS e2
    have c2' := hrb [] F2 H2 env2 fp2 d2 (.refl p2.ext.fh p2.re) (fun _ _ z => by simp at z) e3
    refine h2 F2 H2 v u d1 d2 _ _ p2.ext.fh c1' c2' e4 fun w F3 H3 ex rep => ?_
    simp only [Rep] at rep
    subst rep
    refine ⟨true, rfl, ?_⟩
    show tc σ H3 _
    have p3 := Pst.of_ext p2.re ex
    have p23 := p2.trans p3
    rw [List.append_nil] at p23
    have p12 := p1.trans p23
    refine SndQ.then c2 p3.ext.fh p3.re q2 (fun rc y F4 H4 env4 fp4 q4 p4 hrc => ?_) ?_
    · obtain ⟨kk, e5, rfl, rfl⟩ := M.lift_some q4
      split at e5
      · rename_i k' e6
        cases e5
        simp only [Option.bind_eq_some_iff] at e6
        obtain ⟨y1, e7, z1, e8, e9⟩ := e6
        have r1 := hrb _ F4 H4 env' fp4 y1 (p3.trans p4) (by simpa using hS2) e7
        have r2 := hrc [] F4 H4 env' fp4 z1 (.refl p4.ext.fh p4.re) (fun _ _ z => by simp at z) e8
        refine h2' F4 H4 u y y1 z1 _ _ p4.ext.fh r1 r2 e9 fun w F5 H5 ex5 rep5 => ?_
        simp only [Rep] at rep5
        subst rep5
        have p := (p12.trans p4).trans (Pst.of_ext p4.re ex5)
        rw [List.append_nil] at p
        exact k kk F5 H5 fp4 rfl (p.mono (fun t h => by rw [List.append_assoc] at h; exact h) k2)
      · cases e5
    · exact ErrK.right p23 ke1
  · cases q2
theorem pb_chain {op op' : CmpOp} {g g' : D → D → Option D} {a b c : Expr} {fa fb fc : M Rdr} {S1 S2 S3 : List Nat} {pos : Pos} (ho : OpD X (compareOp op) g) (ho' : OpD X (compareOp op') g') (ha : PQ X W T1 S1 a fa) (hb : PQ X W T2 S2 b fb) (hc : PQ X W T3 S3 c fc)
    (hm : lastMarks [op, op'] [b, c] = false := by rfl) (hS : ∀ i ∈ S1, i ∉ T2 := by decide) (hS2 : ∀ i ∈ S2, i ∉ T3 := by decide) :
    PB X W (T1 ++ (T2 ++ T3)) (.Compare a [op, op'] [b, c] pos) (mChn g g' fa fb fc) := by
  obtain ⟨r, h1, h2⟩ := ho
  obtain ⟨r', h1', h2'⟩ := ho'
  obtain ⟨ta, a1, a2⟩ := ha.ex
  obtain ⟨tb, b1, b2⟩ := hb.ex
  obtain ⟨tc, c1, c2⟩ := hc.ex
  exact ⟨_, pt_chain h1 h1' a1 b1 c1 hm, fun F H env σ fp Q z env' k1 k2 k3 k ke => chain_core h2 h2' a2 b2 c2 hS hS2 k1 k2 k3 (fun b F' H' fp' e p => ⟨b, rfl, k b F' H' fp' e p⟩) ke⟩
theorem pv_chain {op op' : CmpOp} {g g' : D → D → Option D} {a b c : Expr} {fa fb fc : M Rdr} {S1 S2 S3 : List Nat} {pos : Pos} (ho : OpD X (compareOp op) g) (ho' : OpD X (compareOp op') g') (ha : PQ X W T1 S1 a fa) (hb : PQ X W T2 S2 b fb) (hc : PQ X W T3 S3 c fc)
    (hm : lastMarks [op, op'] [b, c] = false := by rfl) (hS : ∀ i ∈ S1, i ∉ T2 := by decide) (hS2 : ∀ i ∈ S2, i ∉ T3 := by decide) :
    PV X W (T1 ++ (T2 ++ T3)) (.Compare a [op, op'] [b, c] pos) (M.map D.bl (mChn g g' fa fb fc)) := by
  obtain ⟨r, h1, h2⟩ := ho
  obtain ⟨r', h1', h2'⟩ := ho'
  obtain ⟨ta, a1, a2⟩ := ha.ex
  obtain ⟨tb, b1, b2⟩ := hb.ex
  obtain ⟨tc, c1, c2⟩ := hc.ex
  refine ⟨_, pe_chain h1 h1' a1 b1 c1 hm, fun F H env σ fp Q z env' k1 k2 k3 k ke => ?_⟩
  rcases M.map_cases k3 with ⟨o, q, rfl⟩ | ⟨x, q, rfl⟩
  · refine chain_core h2 h2' a2 b2 c2 hS hS2 k1 k2 q (fun b F' H' fp' e p => ?_) (fun x _ _ _ _ _ e => by cases e)
    cases e
    exact k _ _ F' H' fp' rfl p rep_bl
  · refine chain_core h2 h2' a2 b2 c2 hS hS2 k1 k2 q (fun b F' H' fp' e => by cases e) (fun x' F' H' fp' cls d e p ex => ?_)
    cases e
    exact ke x F' H' fp' cls d rfl p ex
end
end PL
/-! PL29: x op= e, for ints. -/
namespace PL
open PySem L2
def dIAdd : D → D → Option D := dInt2 (fun _ _ => true) fun i j => i + j
def dISub : D → D → Option D := dInt2 (fun _ _ => true) fun i j => i - j
def dIOr : D → D → Option D := dInt2 (fun _ _ => true) fun i j => Builtin.bitOr i j
def dIAnd : D → D → Option D := dInt2 (fun _ _ => true) fun i j => Builtin.bitAnd i j
section
variable {X : Cx} {W : WX} {T T1 T2 T3 A S : List Nat} {F H F' H' F1 H1 F2 H2 : Hp} {env env' : Env} {σ : St} {fp fp' : Nat → List Addr}
theorem iod_add : OpD X (inplaceOp .Add) dIAdd := opd_int0 iop_add
theorem iod_sub : OpD X (inplaceOp .Sub) dISub := opd_int0 iop_sub
theorem iod_or : OpD X (inplaceOp .BitOr) dIOr := opd_int0 iop_or
theorem iod_and : OpD X (inplaceOp .BitAnd) dIAnd := opd_int0 iop_and
theorem snd_qVar (i : Nat) : SndQ X W [] [] (tVar i) (qVar i) := by
  intro F H env σ fp Q r env' h1 h2 h3 k ke
  unfold qVar at h3
  split at h3
  · rename_i o q
    cases h3
    obtain ⟨v, h4, h5⟩ := h2.slot i _ q
    refine ⟨v, h4, k _ v F H fp rfl (.refl h1 h2) fun T2 F2 H2 env2 fp2 d p2 _ e2 => ?_⟩
    unfold rVar at e2
    split at e2
    · rename_i o2 q2
      obtain ⟨v2, h6, h7⟩ := p2.re.slot i _ q2
      rw [h4] at h6
      cases h6
      exact h7.peek p2.ext.fh e2
    · cases e2
  · cases h3
theorem snd_om {t : TE} {f : M D} (hs : SndV X W T t f) : SndO X W T t (om f) := by
  intro F H env σ fp Q r env' h1 h2 h3 k ke
  rcases M.map_cases h3 with ⟨o, q, rfl⟩ | ⟨x, q, rfl⟩
  · refine hs F H env σ fp Q _ env' h1 h2 q (fun d v F' H' fp' e p rep => ?_) (fun x _ _ _ _ _ e => by cases e)
    cases e
    exact k _ v F' H' fp' [] rfl p (.val rep) (fun _ _ z => by simp at z) (fun _ z => by simp at z)
  · refine hs F H env σ fp Q _ env' h1 h2 q (fun o' v F' H' fp' e => by cases e) (fun x' F' H' fp' cls d e p ex => ?_)
    cases e
    exact ke x F' H' fp' cls d rfl p ex
theorem z_aug {i : Nat} {x : Str} {e : Expr} {op : Operator} {g : D → D → Option D} {fe : M Rdr} {S2 : List Nat} {pos pos' : Pos} (hN : X.N.Nodup) (hi : X.N[i]? = some x) (hx : Loc X.env.scope x) (ho : OpD X (inplaceOp op) g) (he : PQ X W T2 S2 e fe)
    (hf : X.fn x = true ∨ X.env.scope.names.lookup x = some .local := by first | exact .inl rfl | exact .inr rfl | assumption) : PZ X W (T2 ++ [i]) [i] (.AugAssign (.Name x pos') op e pos) (sSet (om (bin g (qVar i) fe)) (gSet i)) := by
  obtain ⟨r, h1, h2⟩ := ho
  obtain ⟨te, e1, e2⟩ := he.ex
  have key : SndV X W ([] ++ T2) (tOp r (tVar i) te) (bin g (qVar i) fe) := snd_op h2 (snd_qVar i) e2 (fun _ h => by simp at h)
  refine ⟨_, ps_aug hN hi hx e1 h1 hf, ?_⟩
  have := snd_asg (snd_om key) (snd_gName i) (fun o env x env' h => by unfold gSet at h; split at h <;> cases h)
  exact this
end
end PL
/-! PL30: enumerate of a list. -/
namespace PL
open PySem L2
def enumD (xs : List D) : List D := (List.range xs.length).map fun i => .tup [.int ((i : Nat) : Int), xs.getD i .non]
def iEn (f : M (List D)) : M (List D) := M.bd f fun ds env => M.lift (match ds with
  | [.lst xs] => some (enumD xs)
  | _ => none) env
section
variable {X : Cx} {W : WX} {T T1 T2 T3 A S : List Nat} {F H F' H' F1 H1 F2 H2 : Hp} {env env' : Env} {σ : St} {fp fp' : Nat → List Addr}
theorem it_enum {elts : List Expr} {kk : Nat} {tpos p pos : Pos} {a : Expr} {f : M (List D)} (hg : Gl X "enumerate") (hm : X.mg "enumerate" = none) (h : PAs X W T [a] f)
    (hs : starEach [a] X.env = [(false, eval a X.env)] := by rfl) : PIt X W T [] (.Tuple elts kk tpos) (.Call (.Name "enumerate" p) [a] [] pos) (iEn f) := by
  obtain ⟨t, ht, h2⟩ := h.ex
  refine ⟨_, pi_enum hg hm ht hs, fun F H env σ fp R r env' k1 k2 k3 k ke => ?_⟩
  refine SndA.then h2 k1 k2 k3 (fun ds vs F1 H1 env1 fp1 q p reps => ?_) ke
  obtain ⟨items, e, rfl, rfl⟩ := M.lift_some q
  split at e
  · rename_i xs
    cases e
    simp only [Reps] at reps
    obtain ⟨v, w, rfl, r1, rfl⟩ := reps
    simp only [Rep] at r1
    obtain ⟨a, us, rfl, a1, a2, a3⟩ := r1
    refine ⟨a, us, rfl, .of (p.ext.fh _ _ a1), k _ _ F1 H1 fp1 [] rfl p (fun i F2 H2 s1 s2 _ => ?_) (fun a z => by simp at z)⟩
    have h1 : SqL X.K H2 a us := .of (s2 _ _ (s1 _ _ a1))
    have hl := a3.length
    have hlen : (enumD xs).length = xs.length := by unfold enumD; simp
    refine ⟨fun hi => ?_, fun hi => ⟨us, h1, by omega⟩⟩
    rw [hlen] at hi
    obtain ⟨v, g1, g2⟩ := a3.get (List.getElem?_eq_getElem hi)
    refine ⟨⟨us, v, h1, g1⟩, fun x H3 hy => ?_⟩
    obtain ⟨t, x1, rfl, nt, rfl, f1⟩ := hy
    have ex1 : x1 = v := Option.some.inj ((f1 us h1).symm.trans g1)
    subst ex1
    have ex := Ext.alloc (o := .tup [.int (i : Nat), x1]) s2 nt
    refine ⟨.tup [.int (i : Nat), xs[i]], _, ?_, ex, rep_tup upd_same (by show 2 ≤ sizeLine; decide) (Reps.mono ex.ff _ _ (Reps.mono s1 _ _ (.cons rep_int (.single g2))))⟩
    unfold enumD
    rw [List.getElem?_map, List.getElem?_range hi]
    simp [List.getD_eq_getElem?_getD, List.getElem?_eq_getElem hi]
  · cases e
end
end PL
/-! PL31: ways whose steps are read from the places. -/
namespace PL
open PySem L2
/-- one step more, by what lies at j -/
def kstep (env : Env) (i j : Nat) (p : Pth) : Option Pth := match env[i]? with
  | some (some o) => match o.at p with
    | some (.dK _ _) => match env[j]? with
      | some (some (.val d)) => (D.key d).map fun k => p ++ [.ke k]
      | _ => none
    | some (.lst _) => match env[j]? with
      | some (some (.val (.int n))) => if 0 ≤ n then some (p ++ [.ix n.toNat]) else none
      | _ => none
    | _ => none
  | _ => none
structure PPd (X : Cx) (i : Nat) (pf : Env → Option Pth) (e : Expr) : Prop where
  ex : ∃ t, PE X e t ∧ ∀ (F H : Hp) (env : Env) (σ : St) (fp : Nat → List Addr) (v w : V) (p : Pth) (Q : VK), Same F H → RE X.K X.mg F H env σ fp → pf env = some p → σ[i]? = some (some v) → PathV X.K H p v w → Q w H → t σ H Q
section
variable {X : Cx} {W : WX} {T T1 T2 T3 A S : List Nat} {F H F' H' F1 H1 F2 H2 : Hp} {env env' : Env} {σ : St} {fp fp' : Nat → List Addr}
theorem pd_of {i : Nat} {p : Pth} {e : Expr} (h : PPl X i p e) : PPd X i (fun _ => some p) e := by
  obtain ⟨t, ht, hs⟩ := h.ex
  refine ⟨t, ht, fun F H env σ fp v w p' Q _ _ e1 e2 e3 q => ?_⟩
  cases e1
  exact hs σ H v w Q e2 e3 q
theorem pd_key {i j : Nat} {pf : Env → Option Pth} {e : Expr} {y : Str} {py pos : Pos} (hu : X.A.units + 65 < cLine) (h : PPd X i pf e) (hj : PE X (.Name y py) (tVar j)) :
    PPd X i (fun env => (pf env).bind fun p => kstep env i j p) (.Subscript e (.Name y py) pos) := by
  obtain ⟨t, ht, hs⟩ := h.ex
  refine ⟨_, pe_ix (IxR.or ix_list (ix_dict (by omega))) ht hj (fun _ _ => rfl), fun F H env σ fp v w p' Q k1 k2 e1 e2 e3 q => ?_⟩
  simp only [Option.bind_eq_some_iff] at e1
  obtain ⟨p, g1, g2⟩ := e1
  unfold kstep at g2
  split at g2
  · split at g2
    · split at g2
      · rename_i d hd
        simp only [Option.map_eq_some_iff] at g2
        obtain ⟨k, hk, rfl⟩ := g2
        obtain ⟨u, m1, m2⟩ := e3.app
        obtain ⟨a, kvs, u', rfl, n1, n2, n3⟩ := m2
        have : u' = w := n3
        subst this
        obtain ⟨v2, s1, s2⟩ := k2.slot j _ hd
        simp only [RO] at s2
        have ek := PL.D.key_rep' hk s2.2
        subst ek
        exact hs F H env σ fp v _ p _ k1 k2 g1 e2 m1 ⟨_, s1, .inr ⟨a, u', rfl, .inl ⟨kvs, k, .of n1, rfl, n2.symm⟩, q⟩⟩
      · cases g2
    · split at g2
      · rename_i n hd
        split at g2
        · rename_i hn
          cases g2
          obtain ⟨u, m1, m2⟩ := e3.app
          obtain ⟨a, vs, u', rfl, n1, n2, n3⟩ := m2
          have : u' = w := n3
          subst this
          obtain ⟨v2, s1, s2⟩ := k2.slot j _ hd
          simp only [RO, Rep] at s2
          obtain ⟨_, rfl⟩ := s2
          obtain ⟨m, rfl⟩ := Int.eq_ofNat_of_zero_le hn
          exact hs F H env σ fp v _ p _ k1 k2 g1 e2 m1 ⟨_, s1, .inl ⟨a, vs, m, u', rfl, rfl, .of n1, atI_nat n2, q⟩⟩
        · cases g2
      · cases g2
    · cases g2
  · cases g2
end
end PL
/-! PL32: P[k] = v, P a way whose steps are read from the places. -/
namespace PL
open PySem L2
def sDPutD (i : Nat) (pf : Env → Option Pth) (f : M O) (g : M D) : M Fl := M.bd f fun o env => match (pf env).bind fun p => (Env.at env i p).map fun x => (p, x) with
  | some (p, _) => M.bd g (fun d => M.bd (atP i p fun o1 => (dPutO o1 d o).map fun o1' => ((), o1')) fun _ => sNx) env
  | _ => none
section
variable {X : Cx} {W : WX} {T T1 T2 T3 A S : List Nat} {F H F' H' F1 H1 F2 H2 : Hp} {env env' : Env} {σ : St} {fp fp' : Nat → List Addr}
theorem z_dputD {i : Nat} {pf : Env → Option Pth} {o e b : Expr} {f : M O} {g : M D} {pos pos' : Pos} (hu : X.A.units + 65 < cLine) (hP : PPd X i pf o) (he : PO X W T1 e f) (hb : PV X W T2 b g) (hT : i ∉ T2 := by decide)
    (hs : swapsWith e (some (.Subscript o b pos')) pos.line X.env = pure false := by rfl) : PZ X W ((T1 ++ T2) ++ [i]) [] (.Assign [.Subscript o b pos'] e pos) (sDPutD i pf f g) := by
  obtain ⟨t, ht, hsp⟩ := hP.ex
  obtain ⟨te, e1, e2⟩ := he.ex
  obtain ⟨tb, b1, b2⟩ := hb.ex
  refine ⟨_, ps_dput (by omega) ht b1 e1 hs, fun F H env σ fp D r env' k1 k2 k3 n bk c rt e => ?_⟩
  refine SndO.then e2 k1 k2 k3 (fun o1 w F1 H1 env1 fp1 fr q p1 ro hd hw => ?_) (e.expr k2 fun t h => mem_l t (mem_l t h))
  split at q
  · rename_i p od0 q0
    simp only [Option.bind_eq_some_iff, Option.map_eq_some_iff] at q0
    obtain ⟨p', hpf, x0, q0, e0⟩ := q0
    cases e0
    obtain ⟨o0, q1, q2⟩ := Env.at_some q0
    obtain ⟨v0, v1, f1, a1, a2, a3, a4, _⟩ := mut_core p1.ext.fh p1.re q1 q2
    refine hsp F1 H1 env1 σ fp1 v0 v1 p _ p1.ext.fh p1.re hpf a1 a2 ?_
    have e' : ErrS X W (T1 ++ T2) [] F H env σ fp r env' := e.mono k2 mem_l fun _ h => h
    refine SndV.then b2 p1.ext.fh p1.re q (fun d u F2 H2 env2 fp2 q p2 rep => ?_) (fun x F' H' fp' cls d ex p er => e' x F' H' σ fp' cls d ex ⟨p1.trans p, fun _ _ => rfl⟩ er)
    have p12 := p1.trans p2
    rcases M.bd_cases q with ⟨_, env3, q3, q4⟩ | ⟨x, q3, _⟩
    · obtain ⟨rfl, rfl⟩ := M.ret_some q4
      obtain ⟨o2, od, a, od', o', q5, q6, q7, q8, _, rfl⟩ := atP_some q3
      simp only [Option.map_eq_some_iff] at q7
      obtain ⟨od2, q7, e3⟩ := q7
      cases e3
      obtain ⟨v, v2, f2, m1, m2, m3, m4, m9⟩ := mut_core p2.ext.fh p2.re q5 q6
      rw [a1] at m1
      cases m1
      have e3 := PathV.inj (p2.path p1.re hT q1 a1 q2 a2) m2
      subst e3
      have ro2 := p2.keeps ro hd
      have hd2 := p2.apart hd fun a ha => (ro.fp a ha).2
      unfold dPutO at q7
      split at q7
      · rename_i ks os
        simp only [Option.bind_eq_some_iff] at q7
        obtain ⟨k, hk, q7⟩ := q7
        split at q7
        · rename_i hz
          cases q7
          have ek := PL.D.key_rep' hk rep
          subst ek
          simp only [RO] at m3
          obtain ⟨l, vs, fs, rfl, x1, x2, x3, x4, x5, x6, rfl⟩ := m3
          have hfs : ∀ b ∈ fs, b ≠ l := fun b hb z => x6 (z ▸ hb)
          have hfr : ∀ b ∈ fr, b ≠ l := fun b hb z => hd2 i b hb (m4 b (by rw [z]; simp))
          obtain ⟨vs', fs', y1, y2, y3, y4, y5, y6⟩ := ros_putK (k := k) hz.1 x3 x5 ro2 (fun b hb z => hd2 i b hb (m4 b (List.mem_cons_of_mem _ z)))
          have hfs' : ∀ b ∈ fs', b ≠ l := fun b hb => (y3 b hb).elim (hfs b) (hfr b)
          have y2' := y2.frame (H' := upd H2 l (.dK (putK (ks.zip vs) k w))) Same.refl fun b hb => ⟨upd_ne (hfs' b hb), (y2.fp b hb).1⟩
          obtain ⟨o3, fp3, z1, z2, z3, z4, z5⟩ := m9 (upd H2 l (.dK (putK (ks.zip vs) k w))) (.dK (oPutK ks os k o1).1 (oPutK ks os k o1).2) (l :: fs') fr (fun a ha => upd_ne fun z => ha (by rw [z]; simp)) (fun a ha => by
            by_cases z : a = l
            · rw [z, upd_same]; simp
            · rw [upd_ne z]; exact ha) (by rw [RO]; exact ⟨l, vs', fs', rfl, by rw [upd_same, y1], x2, y4, by omega, y2', fun z => hfs' l z rfl, rfl⟩) (fun a ha => by
            rcases List.mem_cons.mp ha with z | z
            · subst z; exact .inl (by simp)
            · exact (y3 a z).imp_left fun y => List.mem_cons_of_mem _ y) hd2
          rw [q8] at z1
          cases z1
          refine ⟨l, _, rfl, DPut.k x1 (by rw [List.length_zip, x3, x5.length]; omega), ?_⟩
          exact n _ _ σ fp3 rfl ⟨pst_mut p12 z2 z3 z4 z5 (fr := fr) (fun b hb => (hw b hb).imp_left fun w => w.mono mem_l), fun _ _ => rfl⟩
        · cases q7
      · rename_i ks os
        simp only [Option.bind_eq_some_iff] at q7
        obtain ⟨k, hk, q7⟩ := q7
        split at q7
        · rename_i hz
          cases q7
          unfold PL.D.tkey at hk
          split at hk
          · rename_i dks
            simp only [Rep] at rep
            obtain ⟨b, us, rfl, g1, g2, g3⟩ := rep
            rw [PL.D.keys_rep hk g3] at g1
            simp only [RO] at m3
            obtain ⟨l, vs, fs, rfl, x1, x2, x3, x4, x5, x6, rfl⟩ := m3
            have hfs : ∀ b ∈ fs, b ≠ l := fun b hb z => x6 (z ▸ hb)
            have hfr : ∀ b ∈ fr, b ≠ l := fun b hb z => hd2 i b hb (m4 b (by rw [z]; simp))
            obtain ⟨vs', fs', y1, y2, y3, y4, y5, y6⟩ := ros_putK (k := k) hz.1 x3 x5 ro2 (fun b hb z => hd2 i b hb (m4 b (List.mem_cons_of_mem _ z)))
            have hfs' : ∀ b ∈ fs', b ≠ l := fun b hb => (y3 b hb).elim (hfs b) (hfr b)
            have y2' := y2.frame (H' := upd H2 l (.dT (putK (ks.zip vs) k w))) Same.refl fun b hb => ⟨upd_ne (hfs' b hb), (y2.fp b hb).1⟩
            obtain ⟨o3, fp3, z1, z2, z3, z4, z5⟩ := m9 (upd H2 l (.dT (putK (ks.zip vs) k w))) (.dT (oPutK ks os k o1).1 (oPutK ks os k o1).2) (l :: fs') fr (fun a ha => upd_ne fun z => ha (by rw [z]; simp)) (fun a ha => by
              by_cases z : a = l
              · rw [z, upd_same]; simp
              · rw [upd_ne z]; exact ha) (by rw [RO]; exact ⟨l, vs', fs', rfl, by rw [upd_same, y1], x2, y4, by omega, y2', fun z => hfs' l z rfl, rfl⟩) (fun a ha => by
              rcases List.mem_cons.mp ha with z | z
              · subst z; exact .inl (by simp)
              · exact (y3 a z).imp_left fun y => List.mem_cons_of_mem _ y) hd2
            rw [q8] at z1
            cases z1
            refine ⟨l, _, rfl, DPut.t x1 (p2.ext.fh _ _ g1) (by rw [List.length_zip, x3, x5.length]; omega), ?_⟩
            exact n _ _ σ fp3 rfl ⟨pst_mut p12 z2 z3 z4 z5 (fr := fr) (fun b hb => (hw b hb).imp_left fun w => w.mono mem_l), fun _ _ => rfl⟩
          · cases hk
        · cases q7
      · cases q7
    · refine absurd q3 fun z => ?_
      obtain ⟨_, _, _, _, _, _, _, _, _, z, _⟩ := atP_some z
      cases z
  · cases q
end
end PL
/-! PL33: list(zip(a, b)) of two tuples. -/
namespace PL
open PySem L2
open PySem.Sem (wp)
section
variable {prog : Program} {w : World} {A : Around} {E : Value → Shared → Prop} {s : Shared}
/-- next of a zip of tuples, the pair before still out -/
theorem zh_item {z TI TO T j1 j2 l1 l2 : Addr} {f : Bool} {oT : Obj} {k1 k2 : Nat} {xs ys : Array Value} {x y : Value} {Q : Value → Shared → Prop} (D : ZipApart z TI TO j1 j2 l1 l2)
    (qz : IsZipHeld s.heap z TI TO T f) (qT : s.heap.get? T = some oT) (qI : IsPair s.heap TI (.ref j1) (.ref j2))
    (q1 : s.heap.IsTupleIter j1 l1 k1) (q2 : s.heap.IsTupleIter j2 l2 k2) (r1 : s.heap.IsTuple l1 xs) (r2 : s.heap.IsTuple l2 ys) (ex : xs[k1]? = some x) (ey : ys[k2]? = some y)
    (kQ : ∀ h', IsZipHeld h' z TI TO T true → h'.IsTupleIter j1 l1 (k1 + 1) → h'.IsTupleIter j2 l2 (k2 + 1) → IsPair h' s.heap.objs.size x y → h'.objs.size = s.heap.objs.size + 1 →
      (∀ c o, c ≠ z → c ≠ j1 → c ≠ j2 → s.heap.get? c = some o → h'.get? c = some o) → Q (.ref s.heap.objs.size) { s with heap := h' }) :
    wpAny (model prog w) A (Builtin.«zip.__next__» ⟨[.ref z], []⟩) (fun fin s' => ∃ v, fin = .done (.ret v) ∧ Q v s') E s := by
  show wpAny _ _ (field (.ref z) 2 >>= _) _ _ _
  refine wpAny_bind (wpAny_field qz rfl (x := .bool false) rfl ?_)
  show wpAny _ _ (field (.ref z) 3 >>= _) _ _ _
  refine wpAny_bind (wpAny_field qz rfl (x := .ref TI) rfl ?_)
  refine wpAny_bind (wpAny_seqItems qI rfl ?_)
  show wpAny _ _ (Builtin.SmallTypes.ownedTupleIsFree (.ref z) >>= _) _ _ _
  refine wpAny_bind (wpAny_tupleHeld_zip qz qT fun g1 z1 b1 => ?_)
  simp only [Bool.false_eq_true, if_false]
  refine wpAny_bind ?_
  rw [← Array.forIn_toList]
  simp only [List.forIn_cons, List.forIn_nil]
  refine wpAny_bind (wpAny_bind (wpAny_holding ?_))
  show wpAny _ _ (Builtin.SmallTypes.nextOf (.ref j1) >>= _) _ _ _
  refine wpAny_bind (RZ.nextOf_tuple_item (s := { s with heap := g1 }) (q1.extBut b1.extBut D.i1z) (r1.extBut b1.extBut D.l1z) ex fun g2 u1 b2 => wpAny_pure ?_)
  refine wpAny_pure ?_
  refine wpAny_bind (wpAny_bind (wpAny_holding ?_))
  show wpAny _ _ (Builtin.SmallTypes.nextOf (.ref j2) >>= _) _ _ _
  refine wpAny_bind (RZ.nextOf_tuple_item (s := { s with heap := g2 }) ((q2.extBut b1.extBut D.i2z).extBut b2.extBut D.i12.symm) ((r2.extBut b1.extBut D.l2z).extBut b2.extBut D.l2i1) ey fun g3 u2 b3 => wpAny_pure ?_)
  refine wpAny_pure (wpAny_pure ?_)
  show wpAny _ _ (newTuple [x, y] >>= _) _ _ _
  refine wpAny_bind (wpAny_newTuple ?_)
  have sz : g3.objs.size = s.heap.objs.size := by rw [b3.1, b2.1, b1.1]
  have z3 : IsZipHeld g3 z TI TO T true := b3.extBut _ _ D.i2z.symm (b2.extBut _ _ D.i1z.symm z1)
  have kk : ∀ c o, c ≠ z → c ≠ j1 → c ≠ j2 → s.heap.get? c = some o → g3.get? c = some o := fun c o c1 c2 c3 e => b3.extBut _ _ c3 (b2.extBut _ _ c2 (b1.extBut _ _ c1 e))
  have v1 : g3.IsTupleIter j1 l1 (k1 + 1) := u1.extBut b3.extBut D.i12
  refine wpAny_pure ⟨_, rfl, ?_⟩
  show Q (.ref g3.objs.size) _
  have np : IsPair (g3.push { cls := .type "tuple", data := .seq #[x, y] }) g3.objs.size x y := Heap.get?_push_size _ rfl
  have n4 : (g3.push { cls := .type "tuple", data := .seq #[x, y] }).objs.size = g3.objs.size + 1 := Heap.size_push ..
  rw [sz] at np n4 ⊢
  exact kQ _ (Heap.get?_push_of_some _ z3) (v1.at fun o e => Heap.get?_push_of_some _ e) (u2.at fun o e => Heap.get?_push_of_some _ e) np n4 fun c o c1 c2 c3 e => Heap.get?_push_of_some _ (kk c o c1 c2 c3 e)
theorem zh_end {z TI TO T j1 j2 l1 l2 : Addr} {f : Bool} {oT : Obj} {k1 k2 : Nat} {xs ys : Array Value} {Q : Fin → Shared → Prop} (hh : A.handled = none) (D : ZipApart z TI TO j1 j2 l1 l2)
    (qz : IsZipHeld s.heap z TI TO T f) (qT : s.heap.get? T = some oT) (qI : IsPair s.heap TI (.ref j1) (.ref j2))
    (q1 : s.heap.IsTupleIter j1 l1 k1) (q2 : s.heap.IsTupleIter j2 l2 k2) (r1 : s.heap.IsTuple l1 xs) (r2 : s.heap.IsTuple l2 ys) (he : xs[k1]? = none ∨ ys[k2]? = none)
    (kE : ∀ h' e, (∀ c o, c ≠ z → c ≠ j1 → c ≠ j2 → s.heap.get? c = some o → h'.get? c = some o) → (∃ o, h'.get? e = some o ∧ o.cls = .type "StopIteration") → E (.ref e) { s with heap := h' }) :
    wpAny (model prog w) A (Builtin.«zip.__next__» ⟨[.ref z], []⟩) Q E s := by
  show wpAny _ _ (field (.ref z) 2 >>= _) _ _ _
  refine wpAny_bind (wpAny_field qz rfl (x := .bool false) rfl ?_)
  show wpAny _ _ (field (.ref z) 3 >>= _) _ _ _
  refine wpAny_bind (wpAny_field qz rfl (x := .ref TI) rfl ?_)
  refine wpAny_bind (wpAny_seqItems qI rfl ?_)
  show wpAny _ _ (Builtin.SmallTypes.ownedTupleIsFree (.ref z) >>= _) _ _ _
  refine wpAny_bind (wpAny_tupleHeld_zip qz qT fun g1 z1 b1 => ?_)
  simp only [Bool.false_eq_true, if_false]
  refine wpAny_bind ?_
  rw [← Array.forIn_toList]
  simp only [List.forIn_cons, List.forIn_nil]
  refine wpAny_bind (wpAny_bind (wpAny_holding ?_))
  show wpAny _ _ (Builtin.SmallTypes.nextOf (.ref j1) >>= _) _ _ _
  cases ex : xs[k1]? with
  | none =>
    refine wpAny_bind (RZ.nextOf_tuple_end (s := { s with heap := g1 }) hh (q1.extBut b1.extBut D.i1z) (r1.extBut b1.extBut D.l1z) ex fun g2 e b2 hx => ?_)
    exact kE g2 e (fun c o c1 c2 _ x => b2 _ _ c2 (b1.extBut _ _ c1 x)) hx
  | some x =>
    have ey : ys[k2]? = none := by
      rcases he with h | h
      · rw [ex] at h; cases h
      · exact h
    refine wpAny_bind (RZ.nextOf_tuple_item (s := { s with heap := g1 }) (q1.extBut b1.extBut D.i1z) (r1.extBut b1.extBut D.l1z) ex fun g2 u1 b2 => wpAny_pure ?_)
    refine wpAny_pure ?_
    refine wpAny_bind (wpAny_bind (wpAny_holding ?_))
    show wpAny _ _ (Builtin.SmallTypes.nextOf (.ref j2) >>= _) _ _ _
    refine wpAny_bind (RZ.nextOf_tuple_end (s := { s with heap := g2 }) hh ((q2.extBut b1.extBut D.i2z).extBut b2.extBut D.i12.symm) ((r2.extBut b1.extBut D.l2z).extBut b2.extBut D.l2i1) ey fun g3 e b3 hx => ?_)
    exact kE g3 e (fun c o c1 c2 c3 x => b3 _ _ c3 (b2.extBut _ _ c2 (b1.extBut _ _ c1 x))) hx
theorem zh_next_item {z TI TO T j1 j2 l1 l2 : Addr} {f : Bool} {oT : Obj} {k1 k2 : Nat} {xs ys : Array Value} {x y : Value} {Q : Option Value → Shared → Prop} (D : ZipApart z TI TO j1 j2 l1 l2)
    (qz : IsZipHeld s.heap z TI TO T f) (qT : s.heap.get? T = some oT) (qI : IsPair s.heap TI (.ref j1) (.ref j2))
    (q1 : s.heap.IsTupleIter j1 l1 k1) (q2 : s.heap.IsTupleIter j2 l2 k2) (r1 : s.heap.IsTuple l1 xs) (r2 : s.heap.IsTuple l2 ys) (ex : xs[k1]? = some x) (ey : ys[k2]? = some y)
    (kQ : ∀ h', IsZipHeld h' z TI TO T true → h'.IsTupleIter j1 l1 (k1 + 1) → h'.IsTupleIter j2 l2 (k2 + 1) → IsPair h' s.heap.objs.size x y → h'.objs.size = s.heap.objs.size + 1 →
      (∀ c o, c ≠ z → c ≠ j1 → c ≠ j2 → s.heap.get? c = some o → h'.get? c = some o) → Q (some (.ref s.heap.objs.size)) { s with heap := h' }) :
    wpAny (model prog w) A (pyNext (.ref z)) Q E s := by
  have ty : s.TypeIs (.ref z) "zip" := ⟨_, qz, rfl⟩
  unfold pyNext
  exact wpAny_bind (wpAny_attempt (wpAny_callSpecial?_slot (name := Str.ofString "__next__") ty F.slot_zip_next
    (wpAny_call_entry F.slot_zip_next ty F.entry_zip_next (zh_item D qz qT qI q1 q2 r1 r2 ex ey fun h' a1 a3 a4 a5 a6 a7 => wpAny_pure (kQ h' a1 a3 a4 a5 a6 a7)) (F.args_zip_next_1 _))))
theorem zh_next_end {z TI TO T j1 j2 l1 l2 : Addr} {f : Bool} {oT : Obj} {k1 k2 : Nat} {xs ys : Array Value} {Q : Option Value → Shared → Prop} (hh : A.handled = none) (D : ZipApart z TI TO j1 j2 l1 l2)
    (qz : IsZipHeld s.heap z TI TO T f) (qT : s.heap.get? T = some oT) (qI : IsPair s.heap TI (.ref j1) (.ref j2))
    (q1 : s.heap.IsTupleIter j1 l1 k1) (q2 : s.heap.IsTupleIter j2 l2 k2) (r1 : s.heap.IsTuple l1 xs) (r2 : s.heap.IsTuple l2 ys) (he : xs[k1]? = none ∨ ys[k2]? = none)
    (kQ : ∀ h', (∀ c o, c ≠ z → c ≠ j1 → c ≠ j2 → s.heap.get? c = some o → h'.get? c = some o) → Q none { s with heap := h' }) : wpAny (model prog w) A (pyNext (.ref z)) Q E s := by
  have ty : s.TypeIs (.ref z) "zip" := ⟨_, qz, rfl⟩
  unfold pyNext
  refine wpAny_bind (wpAny_attempt (wpAny_callSpecial?_slot (name := Str.ofString "__next__") ty F.slot_zip_next
    (wpAny_call_entry F.slot_zip_next ty F.entry_zip_next (zh_end hh D qz qT qI q1 q2 r1 r2 he fun h' e hk hx => ?_) (F.args_zip_next_1 _))))
  obtain ⟨o, ho, hcl⟩ := hx
  exact wpAny_bind (wpAny_isInstance (T := "StopIteration") (b := true) ⟨o, ho, hcl⟩ isSubtype_stop (wpAny_pure (kQ _ hk)))

/-- an iterator that hands out n things, one after another, beside the list S -/
structure Stp (prog : Program) (w : World) (A : Around) (z S : Addr) (n : Nat) (St Fn : Heap → List Value → Prop) : Prop where
  item : ∀ {s : Shared} {vs : List Value} {E : Value → Shared → Prop} {Q : Option Value → Shared → Prop}, St s.heap vs → vs.length < n → (∃ o, s.heap.get? S = some o) →
    (∀ v h', St h' (vs ++ [v]) → (∀ o, s.heap.get? S = some o → h'.get? S = some o) → Q (some v) { s with heap := h' }) → wpAny (model prog w) A (pyNext (.ref z)) Q E s
  done : ∀ {s : Shared} {vs : List Value} {E : Value → Shared → Prop} {Q : Option Value → Shared → Prop}, St s.heap vs → vs.length = n → (∃ o, s.heap.get? S = some o) →
    (∀ h', Fn h' vs → (∀ o, s.heap.get? S = some o → h'.get? S = some o) → Q none { s with heap := h' }) → wpAny (model prog w) A (pyNext (.ref z)) Q E s
  frame : ∀ {h h' : Heap} {vs : List Value}, St h vs → (∀ b o, b ≠ S → h.get? b = some o → h'.get? b = some o) → St h' vs
theorem stp_loop {z S : Addr} {n : Nat} {St Fn : Heap → List Value → Prop} {R : Result → Shared → Prop} (hn : n ≤ sizeLine) (G : Stp prog w A.in1 z S n St Fn) (res : Value)
    (kR : ∀ h' acc c, Fn h' acc.toList → acc.size = n → h'.get? S = some { cls := .type "list", dict := none, data := .seq acc c, slots := #[] } → R (.ok (.ret res)) { s with heap := h' }) :
    ∀ (k : Nat) (h : Heap) (c : Nat) (acc : Array Value), acc.size + k = n → St h acc.toList → h.get? S = some { cls := .type "list", dict := none, data := .seq acc c, slots := #[] } →
      codeAny (model prog w) A (.builtin "list.extend.loop" ⟨[.ref S, .ref z, res], []⟩) R { s with heap := h } := by
  intro k
  induction k with
  | zero =>
    intro h c acc hk st hS
    refine codeAny_builtin PySem.F.entry_extend_loop ?_
    rw [Around.under_plainId PySem.F.plain_extend_loop _]
    show wpAny _ A.in1 (pyNext (.ref z) >>= _) _ _ _
    exact wpAny_bind (G.done (s := { s with heap := h }) st (by simpa using hk) ⟨_, hS⟩ fun h' st' sS => wpAny_pure (kR h' acc c st' (by simpa using hk) (sS _ hS)))
  | succ k ih =>
    intro h c acc hk st hS
    refine codeAny_builtin PySem.F.entry_extend_loop ?_
    rw [Around.under_plainId PySem.F.plain_extend_loop _]
    show wpAny _ A.in1 (pyNext (.ref z) >>= _) _ _ _
    refine wpAny_bind (G.item (s := { s with heap := h }) st (by simp; omega) ⟨_, hS⟩ fun v h' st' sS => ?_)
    have hS' := sS _ hS
    show wpAny _ A.in1 (updateSeq S (·.push v) >>= _) _ _ _
    refine wpAny_bind (wpAny_updateSeq hS' rfl (wpAny_pure ⟨plainId_quiet PySem.F.plain_extend_loop _, ih _ _ (acc.push v) (by simp; omega) ?_ (Heap.get?_update_self _ hS' rfl)⟩) (by omega) (by
      show (acc.push v).size ≤ sizeLine + 1
      rw [Array.size_push]; omega))
    rw [Array.toList_push]
    exact G.frame st' fun b o hb e => (Heap.get?_update_other _ _ (Ne.symm hb)).trans e

theorem am_zlen : typeLookup (.type "zip") "__len__" = pure none := am_miss_of_fast (by decide +kernel)
theorem am_zhint : typeLookup (.type "zip") "__length_hint__" = pure none := am_miss_of_fast (by decide +kernel)
theorem zip_hint {z : Addr} {Q : Bool → Shared → Prop} (hT : s.TypeIs (.ref z) "zip") (h : Q true s) : wpAny (model prog w) A (Builtin.List.listLengthHint (.ref z)) Q E s := by
  unfold Builtin.List.listLengthHint
  refine wpAny_bind (wpAny_specialOf hT am_zlen ?_)
  show wpAny _ _ (specialOf (Value.ref z) (Str.ofString "__length_hint__") >>= _) _ _ _
  exact wpAny_bind (wpAny_specialOf hT am_zhint (wpAny_pure h))

theorem stp_extend {z S : Addr} {n c0 : Nat} {f0 : Value} {St Fn : Heap → List Value → Prop} {R : Result → Shared → Prop} {TI TO : Addr} (hn : n ≤ sizeLine) (G : Stp prog w A.in1 z S n St Fn) (hz : IsZip s.heap z TI TO f0) (ne : S ≠ z) (res : Value) (st : St s.heap [])
    (hS : s.heap.get? S = some { cls := .type "list", data := .seq #[] c0 })
    (kR : ∀ h' acc c, Fn h' acc.toList → acc.size = n → h'.get? S = some { cls := .type "list", dict := none, data := .seq acc c, slots := #[] } → R (.ok (.ret res)) { s with heap := h' }) :
    wpAny (model prog w) A.in1 (Builtin.List.listExtendWith (.ref S) (.ref z) res)
      (fun fin s' => match fin with | .done f => R (.ok f) s' | .again c' => c'.quiet = true ∧ codeAny (model prog w) A c' R s') (fun e s' => R (.error e) s') s := by
  have hT : s.TypeIs (.ref z) "zip" := ⟨_, hz, rfl⟩
  unfold Builtin.List.listExtendWith
  refine wpAny_bind (wpAny_typeOf (T := "zip") hT ?_)
  have h1 : Builtin.List.listSameRef (.ref S) (.ref z) = false := by simp [Builtin.List.listSameRef, ne]
  have h2 : (Value.type "zip" == Value.type "list") = false := by decide
  have h3 : (Value.type "zip" == Value.type "tuple") = false := by decide
  simp only [h1, h2, h3, Bool.or_false, Bool.false_eq_true, if_false]
  refine wpAny_bind (wpAny_pyIter_zip hz ?_)
  refine wpAny_bind (wpAny_holding (zip_hint hT ?_))
  refine wpAny_ite_split (fun _ => ?_) (fun hab => absurd rfl hab)
  refine wpAny_bind (wpAny_rule ?_)
  refine wpAny_bind ?_
  show wpAny _ _ (updateSeq S (·.push .none) >>= fun _ => updateSeq S (·.pop)) _ _ _
  refine wpAny_bind (wpAny_updateSeq hS rfl ?_)
  have hS2 := Heap.get?_update_self (Obj.mapSeq (·.push Value.none)) hS rfl
  refine wpAny_updateSeq (hz := by seq_fits) hS2 rfl ?_
  have hS3 := Heap.get?_update_self (Obj.mapSeq (·.pop)) hS2 rfl
  refine wpAny_pure ⟨plainId_quiet PySem.F.plain_extend_loop _, stp_loop hn G res kR n _ _ #[] (by simp) (G.frame st fun b o hb e => ?_) hS3⟩
  exact (Heap.get?_update_other _ _ (Ne.symm hb)).trans ((Heap.get?_update_other _ _ (Ne.symm hb)).trans e)
theorem stp_init {z S : Addr} {n : Nat} {f0 : Value} {St Fn : Heap → List Value → Prop} {R : Result → Shared → Prop} {TI TO : Addr} (hn : n ≤ sizeLine) (G : Stp prog w A.in1 z S n St Fn) (hz : IsZip s.heap z TI TO f0) (ne : S ≠ z) (st : St s.heap [])
    (hS : s.heap.get? S = some { cls := .type "list", data := .seq #[] })
    (kR : ∀ h' acc c, Fn h' acc.toList → acc.size = n → h'.get? S = some { cls := .type "list", dict := none, data := .seq acc c, slots := #[] } → R (.ok (.ret .none)) { s with heap := h' }) :
    wpAny (model prog w) A.in1 (Builtin.«list.__init__» ⟨[.ref S, .ref z], []⟩)
      (fun fin s' => match fin with | .done f => R (.ok f) s' | .again c' => c'.quiet = true ∧ codeAny (model prog w) A c' R s') (fun e s' => R (.error e) s') s := by
  show wpAny _ _ (do let old ← Builtin.List.listItems (.ref S); Builtin.List.listUpdate (.ref S) (fun _ => #[]); letGo old.toList.reverse; Builtin.List.listExtendWith (.ref S) (.ref z) .none) _ _ s
  refine wpAny_bind ?_
  unfold Builtin.List.listItems
  refine wpAny_bind (wpAny_seqItems hS rfl (wpAny_pure ?_))
  show wpAny _ _ (updateSeq S (fun _ => #[]) >>= fun _ => letGo (#[] : Array Value).toList.reverse >>= fun _ => Builtin.List.listExtendWith (.ref S) (.ref z) .none) _ _ s
  refine wpAny_bind (wpAny_updateSeq hS rfl ?_)
  have hS2 := Heap.get?_update_self (Obj.mapSeq (fun _ => (#[] : Array Value))) hS rfl
  have ot : ∀ b o, b ≠ S → s.heap.get? b = some o → (s.heap.update S (Obj.mapSeq (fun _ => (#[] : Array Value)))).get? b = some o := fun b o hb e => (Heap.get?_update_other _ _ (Ne.symm hb)).trans e
  refine wpAny_bind (wpAny_letGo ?_)
  exact stp_extend hn G (ot _ _ (Ne.symm ne) hz) ne .none (G.frame st ot) hS2 kR
theorem stp_call {z : Addr} {n : Nat} {f0 : Value} {St Fn : Heap → List Value → Prop} {Q : Value → Shared → Prop} {TI TO : Addr} (hn : n ≤ sizeLine) (G : Stp prog w A.in1.in1 z s.heap.objs.size n St Fn) (hz : IsZip s.heap z TI TO f0)
    (st : ∀ h', (∀ b o, s.heap.get? b = some o → h'.get? b = some o) → h'.objs.size = s.heap.objs.size + 1 → St h' [])
    (kQ : ∀ h' acc c, Fn h' acc.toList → acc.size = n → h'.get? s.heap.objs.size = some { cls := .type "list", dict := none, data := .seq acc c, slots := #[] } → Q (.ref s.heap.objs.size) { s with heap := h' }) :
    wpAny (model prog w) A (call (.type "list") [.ref z]) Q E s := by
  refine callType_codes (Q₁ := fun obj s₁ => obj = .ref s.heap.objs.size ∧ s₁ = { s with heap := s.heap.push { cls := .type "list", data := .seq #[] } }) PySem.F.called_list (PySem.F.typeCall_list_1 _) PySem.F.entry_list_init
    (code_list_new _ ⟨rfl, rfl⟩) fun obj s₁ h₁ => ?_
  obtain ⟨rfl, rfl⟩ := h₁
  have hS : (s.heap.push { cls := .type "list", data := .seq #[] }).get? s.heap.objs.size = some { cls := .type "list", data := .seq #[] } := Heap.get?_push_size _ rfl
  have hzl : z < s.heap.objs.size := Heap.lt_size hz
  refine ⟨⟨_, hS, rfl⟩, PySem.F.args_list_init_2 _ _, stp_init (s := { s with heap := s.heap.push { cls := .type "list", data := .seq #[] } }) hn G (Heap.get?_push_of_some _ hz) (Nat.ne_of_gt hzl) (st _ (fun b o e => Heap.get?_push_of_some _ e) (Heap.size_push ..)) hS fun h' acc c s1 s2 s3 => ?_⟩
  exact ⟨rfl, kQ h' acc c s1 s2 s3⟩

/-! ### a zip of two tuples as such an iterator -/
/-- how it stands when vs are out: B the heap at the beginning, nothing of which but the zip's own is touched -/
structure ZSt (B : Heap) (z TI TO j1 j2 l1 l2 S : Addr) (xs ys : Array Value) (h : Heap) (vs : List Value) : Prop where
  keep : ∀ b o, b ≠ z → b ≠ TO → b ≠ j1 → b ≠ j2 → b ≠ S → B.get? b = some o → h.get? b = some o
  zip : (vs = [] ∧ IsZip h z TI TO .none) ∨ ∃ T f oT, IsZipHeld h z TI TO T f ∧ h.get? T = some oT ∧ S < T
  out : ∃ a b, IsPair h TO a b
  i1 : h.IsTupleIter j1 l1 vs.length
  i2 : h.IsTupleIter j2 l2 vs.length
  as : ∃ as : List Addr, vs = as.map Value.ref ∧ as.Pairwise (· < ·) ∧ (∀ a ∈ as, S < a) ∧ ∀ (k : Nat) a, as[k]? = some a → ∃ x y, xs[k]? = some x ∧ ys[k]? = some y ∧ IsPair h a x y
/-- .. when it is at its end -/
structure ZFn (B : Heap) (z TO j1 j2 S : Addr) (xs ys : Array Value) (h : Heap) (vs : List Value) : Prop where
  keep : ∀ b o, b ≠ z → b ≠ TO → b ≠ j1 → b ≠ j2 → b ≠ S → B.get? b = some o → h.get? b = some o
  as : ∃ as : List Addr, vs = as.map Value.ref ∧ as.Pairwise (· < ·) ∧ (∀ a ∈ as, S < a) ∧ ∀ (k : Nat) a, as[k]? = some a → ∃ x y, xs[k]? = some x ∧ ys[k]? = some y ∧ IsPair h a x y
theorem ZSt.frame {B h h' : Heap} {z TI TO j1 j2 l1 l2 S : Addr} {xs ys : Array Value} {vs : List Value} (q : ZSt B z TI TO j1 j2 l1 l2 S xs ys h vs) (zS : z < S) (tS : TO < S) (aS : j1 < S) (bS : j2 < S) (k : ∀ b o, b ≠ S → h.get? b = some o → h'.get? b = some o) : ZSt B z TI TO j1 j2 l1 l2 S xs ys h' vs := by
  obtain ⟨q1, q2, ⟨a, b, q3⟩, q4, q5, ⟨as, e1, e2, e3, e4⟩⟩ := q
  have ne : ∀ {x : Addr}, x < S → x ≠ S := fun h => Nat.ne_of_lt h
  refine ⟨fun b o n1 n2 n3 n4 n5 e => k b o n5 (q1 b o n1 n2 n3 n4 n5 e), ?_, ⟨a, b, k _ _ (ne tS) q3⟩, q4.at fun o e => k _ o (ne aS) e, q5.at fun o e => k _ o (ne bS) e, ⟨as, e1, e2, e3, fun j a hj => ?_⟩⟩
  · rcases q2 with ⟨r1, r2⟩ | ⟨T, f, oT, r1, r2, r3⟩
    · exact .inl ⟨r1, k _ _ (ne zS) r2⟩
    · exact .inr ⟨T, f, oT, k _ _ (ne zS) r1, k _ _ (Nat.ne_of_gt r3) r2, r3⟩
  · obtain ⟨x, y, g1, g2, g3⟩ := e4 j a hj
    exact ⟨x, y, g1, g2, k _ _ (Nat.ne_of_gt (e3 a (List.mem_of_getElem? hj))) g3⟩
theorem stp_zip {B : Heap} {z TI TO j1 j2 l1 l2 S : Addr} {xs ys : Array Value} (hh : A.handled = none) (D : ZipApart z TI TO j1 j2 l1 l2) (zS : z < S) (iS : TI < S) (tS : TO < S) (aS : j1 < S) (bS : j2 < S) (cS : l1 < S) (dS : l2 < S)
    (hI : IsPair B TI (.ref j1) (.ref j2)) (r1 : B.IsTuple l1 xs) (r2 : B.IsTuple l2 ys) : Stp prog w A z S (min xs.size ys.size) (ZSt B z TI TO j1 j2 l1 l2 S xs ys) (ZFn B z TO j1 j2 S xs ys) where
  frame := fun q k => q.frame zS tS aS bS k
  item := by
    intro s vs E Q q hlt ⟨oS, hS⟩ kQ
    have hSl : S < s.heap.objs.size := Heap.lt_size hS
    obtain ⟨q1, q2, ⟨a, b, q3⟩, q4, q5, ⟨as, e1, e2, e3, e4⟩⟩ := q
    have kI : IsPair s.heap TI (.ref j1) (.ref j2) := q1 _ _ D.TIz D.TITO D.TIi1 D.TIi2 (Nat.ne_of_lt iS) hI
    have k1 : s.heap.IsTuple l1 xs := let ⟨o, ho, x⟩ := r1; ⟨o, q1 _ _ D.l1z D.l1TO D.l1i1 D.l1i2 (Nat.ne_of_lt cS) ho, x⟩
    have k2 : s.heap.IsTuple l2 ys := let ⟨o, ho, x⟩ := r2; ⟨o, q1 _ _ D.l2z D.l2TO D.l2i1 D.l2i2 (Nat.ne_of_lt dS) ho, x⟩
    have hx : xs[vs.length]? = some (xs[vs.length]'(by omega)) := Array.getElem?_eq_getElem _
    have hy : ys[vs.length]? = some (ys[vs.length]'(by omega)) := Array.getElem?_eq_getElem _
    generalize xs[vs.length]'(by omega) = x at hx
    generalize ys[vs.length]'(by omega) = y at hy
    have fin : ∀ h', (∀ c o, c ≠ z → c ≠ TO → c ≠ j1 → c ≠ j2 → s.heap.get? c = some o → h'.get? c = some o) → (∃ T f oT, IsZipHeld h' z TI TO T f ∧ h'.get? T = some oT ∧ S < T) → (∃ a b, IsPair h' TO a b) → h'.IsTupleIter j1 l1 (vs.length + 1) → h'.IsTupleIter j2 l2 (vs.length + 1) →
        IsPair h' s.heap.objs.size x y → Q (some (.ref s.heap.objs.size)) { s with heap := h' } := fun h' kp zz oo t1 t2 np => by
      have kpn : ∀ c o, S < c → s.heap.get? c = some o → h'.get? c = some o := fun c o hc e => kp c o (Nat.ne_of_gt (Nat.lt_trans zS hc)) (Nat.ne_of_gt (Nat.lt_trans tS hc)) (Nat.ne_of_gt (Nat.lt_trans aS hc)) (Nat.ne_of_gt (Nat.lt_trans bS hc)) e
      refine kQ _ h' ⟨fun b o n1 n2 n3 n4 n5 e => kp b o n1 n2 n3 n4 (q1 b o n1 n2 n3 n4 n5 e), .inr zz, oo, by rw [List.length_append]; exact t1, by rw [List.length_append]; exact t2, ⟨as ++ [s.heap.objs.size], by rw [e1]; simp, ?_, ?_, ?_⟩⟩ fun o e => kp S o (Nat.ne_of_gt zS) (Nat.ne_of_gt tS) (Nat.ne_of_gt aS) (Nat.ne_of_gt bS) e
      · refine List.pairwise_append.mpr ⟨e2, List.pairwise_singleton _ _, fun a ha b hb => ?_⟩
        rw [List.mem_singleton.mp hb]
        obtain ⟨k, hk⟩ := List.getElem?_of_mem ha
        obtain ⟨x', y', _, _, g⟩ := e4 k a hk
        exact Heap.lt_size g
      · intro a ha
        rcases List.mem_append.mp ha with ha | ha
        · exact e3 a ha
        · rw [List.mem_singleton.mp ha]; exact hSl
      · intro k a hk
        have hlen : as.length = vs.length := by rw [e1, List.length_map]
        rcases Nat.lt_trichotomy k as.length with h1 | h1 | h1
        · rw [List.getElem?_append_left h1] at hk
          obtain ⟨x', y', g1, g2, g3⟩ := e4 k a hk
          exact ⟨x', y', g1, g2, kpn a _ (e3 a (List.mem_of_getElem? hk)) g3⟩
        · subst h1
          have ea : s.heap.objs.size = a := by simpa using hk
          subst ea
          exact ⟨x, y, by rw [hlen]; exact hx, by rw [hlen]; exact hy, np⟩
        · rw [List.getElem?_eq_none (by rw [List.length_append, List.length_singleton]; omega)] at hk
          cases hk
    rcases q2 with ⟨rfl, z0⟩ | ⟨T, f, oT, z0, z1, z2⟩
    · refine RZ.pyNext_zipT_item D z0 kI q3 q4 q5 k1 k2 hx hy fun h' a1 a2 a3 a4 a5 a6 a7 => fin h' a7 ⟨s.heap.objs.size, false, _, a1, a5, hSl⟩ ⟨_, _, a2⟩ a3 a4 a5
    · refine zh_next_item D z0 z1 kI q4 q5 k1 k2 hx hy fun h' a1 a3 a4 a5 a6 a7 => fin h' (fun c o c1 _ c3 c4 e => a7 c o c1 c3 c4 e) ⟨T, true, _, a1, a7 T oT (Nat.ne_of_gt (Nat.lt_trans zS z2)) (Nat.ne_of_gt (Nat.lt_trans aS z2)) (Nat.ne_of_gt (Nat.lt_trans bS z2)) z1, z2⟩
        ⟨_, _, a7 TO _ D.TOz D.TOi1 D.TOi2 q3⟩ a3 a4 a5
  done := by
    intro s vs E Q q hlt ⟨oS, hS⟩ kQ
    obtain ⟨q1, q2, ⟨a, b, q3⟩, q4, q5, ⟨as, e1, e2, e3, e4⟩⟩ := q
    have kI : IsPair s.heap TI (.ref j1) (.ref j2) := q1 _ _ D.TIz D.TITO D.TIi1 D.TIi2 (Nat.ne_of_lt iS) hI
    have k1 : s.heap.IsTuple l1 xs := let ⟨o, ho, x⟩ := r1; ⟨o, q1 _ _ D.l1z D.l1TO D.l1i1 D.l1i2 (Nat.ne_of_lt cS) ho, x⟩
    have k2 : s.heap.IsTuple l2 ys := let ⟨o, ho, x⟩ := r2; ⟨o, q1 _ _ D.l2z D.l2TO D.l2i1 D.l2i2 (Nat.ne_of_lt dS) ho, x⟩
    have he : xs[vs.length]? = none ∨ ys[vs.length]? = none := by
      rcases Nat.le_total xs.size ys.size with h | h
      · exact .inl (Array.getElem?_eq_none (by omega))
      · exact .inr (Array.getElem?_eq_none (by omega))
    have fin : ∀ h', (∀ c o, c ≠ z → c ≠ TO → c ≠ j1 → c ≠ j2 → s.heap.get? c = some o → h'.get? c = some o) → Q none { s with heap := h' } := fun h' kp => by
      refine kQ h' ⟨fun b o n1 n2 n3 n4 n5 e => kp b o n1 n2 n3 n4 (q1 b o n1 n2 n3 n4 n5 e), ⟨as, e1, e2, e3, fun k a hk => ?_⟩⟩ fun o e => kp S o (Nat.ne_of_gt zS) (Nat.ne_of_gt tS) (Nat.ne_of_gt aS) (Nat.ne_of_gt bS) e
      obtain ⟨x', y', g1, g2, g3⟩ := e4 k a hk
      have hc := e3 a (List.mem_of_getElem? hk)
      exact ⟨x', y', g1, g2, kp a _ (Nat.ne_of_gt (Nat.lt_trans zS hc)) (Nat.ne_of_gt (Nat.lt_trans tS hc)) (Nat.ne_of_gt (Nat.lt_trans aS hc)) (Nat.ne_of_gt (Nat.lt_trans bS hc)) g3⟩
    rcases q2 with ⟨rfl, z0⟩ | ⟨T, f, oT, z0, z1, z2⟩
    · exact RZ.pyNext_zipT_end hh D z0 kI q3 q4 q5 k1 k2 he fun h' a7 => fin h' a7
    · exact zh_next_end hh D z0 z1 kI q4 q5 k1 k2 he fun h' a7 => fin h' fun c o c1 _ c3 c4 e => a7 c o c1 c3 c4 e
end
/-! ### the rule -/
section
open PyProof.Rows LiI
def putP : Hp → List Addr → List (V × V) → Hp
  | H, a :: as, p :: r => putP (upd H a (.tup [p.1, p.2])) as r
  | H, _, _ => H
theorem putP_off {b : Addr} : ∀ (as : List Addr) (ps : List (V × V)) (H : Hp), b ∉ as → putP H as ps b = H b
  | [], _, _, _ => rfl
  | _ :: _, [], _, _ => rfl
  | a :: as, p :: ps, H, h => by
    show putP (upd H a (.tup [p.1, p.2])) as ps b = H b
    rw [putP_off as ps _ (fun z => h (List.mem_cons_of_mem _ z)), upd_ne (fun z => h (by rw [z]; exact List.mem_cons_self))]
theorem putP_at : ∀ (as : List Addr) (ps : List (V × V)) (H : Hp), as.length = ps.length → as.Nodup → Paired (fun (t : Addr) (p : V × V) => putP H as ps t = some (.tup [p.1, p.2])) as ps
  | [], [], _, _, _ => .nil
  | [], _ :: _, _, h, _ => by cases h
  | _ :: _, [], _, h, _ => by cases h
  | a :: as, p :: ps, H, h, hn => by
    have hn' := List.nodup_cons.mp hn
    have ih := putP_at as ps (upd H a (.tup [p.1, p.2])) (Nat.succ.inj h) hn'.2
    refine .cons ?_ ih
    show putP (upd H a (.tup [p.1, p.2])) as ps a = some (.tup [p.1, p.2])
    rw [putP_off as ps _ hn'.1, upd_same]
variable {X : Cx}
theorem pairs_laid {pins : List (Addr × Obj)} {σ : L2.St} {H : Hp} {s : Shared} {h' : Heap} {xs ys : List V} {us ws : List Value} {acc : Array Value} {c : Nat} {S : Addr} {as : List Addr} (I : Inv X pins σ H s) (hz : (xs.zip ys).length ≤ sizeLine) (rx : Vals xs us) (ry : Vals ys ws) (hS0 : s.heap.objs.size ≤ S)
    (hk : ∀ b o, s.heap.get? b = some o → h'.get? b = some o) (hS : h'.get? S = some { cls := .type "list", dict := none, data := .seq acc c, slots := #[] }) (hl : as.length = (xs.zip ys).length) (hacc : acc.toList = as.map Value.ref) (rise : as.Pairwise (· < ·)) (above : ∀ a ∈ as, S < a)
    (hp : ∀ (k : Nat) a, as[k]? = some a → ∃ x y, us.toArray[k]? = some x ∧ ws.toArray[k]? = some y ∧ IsPair h' a x y) :
    ∃ H' : Hp, (∀ b o, H b = some o → H' b = some o) ∧ H S = none ∧ (∀ t ∈ as, H t = none) ∧ S ∉ as ∧ H' S = some (.lst (as.map V.ref)) ∧ Paired (fun (t : Addr) (q : V × V) => H' t = some (.tup [q.1, q.2])) as (xs.zip ys) ∧ (∀ b, b ∉ as → b ≠ S → H' b = H b) ∧ Inv X pins σ H' { s with heap := h' } := by
  have nS : S ∉ as := fun z => Nat.lt_irrefl _ (above _ z)
  have nd : as.Nodup := List.Pairwise.imp (fun {a b} (h : a < b) => Nat.ne_of_lt h) rise
  have ge : ∀ t ∈ as, s.heap.objs.size ≤ t := fun t ht => Nat.le_of_lt (Nat.lt_of_le_of_lt hS0 (above t ht))
  have new : ∀ t ∈ as, H t = none := fun t ht => I.hok.fresh (ge t ht)
  have newS : H S = none := I.hok.fresh hS0
  have atP := putP_at as (xs.zip ys) (upd H S (.lst (as.map V.ref))) hl nd
  have off : ∀ b, b ∉ as → b ≠ S → putP (upd H S (.lst (as.map V.ref))) as (xs.zip ys) b = H b := fun b h1 h2 => by rw [putP_off as _ _ h1, upd_ne h2]
  have low : ∀ b o, s.heap.get? b = some o → b ∉ as ∧ b ≠ S := fun b o e => ⟨fun z => absurd (Heap.lt_size e) (Nat.not_lt.mpr (ge b z)), Nat.ne_of_lt (Nat.lt_of_lt_of_le (Heap.lt_size e) hS0)⟩
  have kp : ∀ b u, H b = some u → (putP (upd H S (.lst (as.map V.ref))) as (xs.zip ys)) b = some u := fun b u e => by
    rw [off b (fun z => by rw [new b z] at e; cases e) (fun z => by rw [z, newS] at e; cases e)]
    exact e
  have eS : putP (upd H S (.lst (as.map V.ref))) as (xs.zip ys) S = some (.lst (as.map V.ref)) := by rw [putP_off as _ _ nS, upd_same]
  refine ⟨putP (upd H S (.lst (as.map V.ref))) as (xs.zip ys), kp, newS, new, nS, eS, atP, off, ?_⟩
  refine I.call' (ch := []) rfl ⟨fun b o q _ _ _ => hk b o q, fun b o q _ _ _ => ⟨o.slots, hk b o q⟩, fun b o q n _ => ?_, fun b o q _ => ⟨o, hk b o q⟩, fun b xs q => kp b _ q, fun b o u q => kp b _ q, fun b ps q => ⟨#[], by rw [kp b _ q]; simp⟩⟩ (fun b u q => ?_) I.bare fun b z => by simp at z
  · obtain ⟨z1, z2⟩ := low b o q
    rw [off b z1 z2]
    exact n
  · by_cases hb : b ∈ as
    · obtain ⟨j, pk, e1, e2, e3⟩ := paired_ix atP hb
      rw [e3] at q
      cases q
      obtain ⟨x, y, f1, f2, f3⟩ := hp j b e1
      have e2' := List.getElem?_zip_eq_some.mp e2
      obtain ⟨u1, g1, g2⟩ := rx.get e2'.1
      obtain ⟨u2, g3, g4⟩ := ry.get e2'.2
      have h1 : us[j]? = some x := by simpa using f1
      have h2 : ws[j]? = some y := by simpa using f2
      rw [g1] at h1; cases h1
      rw [g3] at h2; cases h2
      exact ⟨by show 2 ≤ sizeLine; decide, [x, y], .cons g2 (.cons g4 .nil), ⟨_, f3, rfl, _, rfl⟩⟩
    · by_cases hb2 : b = S
      · rw [hb2] at q ⊢
        rw [eS] at q
        cases q
        refine ⟨by rw [List.length_map]; omega, acc.toList, c, by rw [hacc]; exact LiI.vals_refs as, ?_⟩
        rw [Array.toArray_toList]
        exact hS
      · rw [off b hb hb2] at q
        exact (I.hok b u q).stay (fun d v _ y => hk d v y) (fun d y => kp d _ y) fun d xs y => kp d _ y
def tLstZip (K : PySem.W.Frag) (ta : TA) : TE := fun σ H Q => ta σ H fun vs H1 => ∃ a b xs ys, vs = [.ref a, .ref b] ∧ SqT K H1 a xs ∧ SqT K H1 b ys ∧ (xs.zip ys).length ≤ sizeLine ∧
  ∀ (H' : Hp) (p : Addr) (ts : List Addr), (∀ b o, H1 b = some o → H' b = some o) → H1 p = none → (∀ t ∈ ts, H1 t = none) → p ∉ ts → ts.Nodup → H' p = some (.lst (ts.map V.ref)) → Paired (fun (t : Addr) (q : V × V) => H' t = some (.tup [q.1, q.2])) ts (xs.zip ys) → (∀ b, b ∉ ts → b ≠ p → H' b = H1 b) → Q (.ref p) H'
theorem pe_listZip {e e2 : Expr} {ta : TA} {p p2 cpos pos : Pos} (hc : X.calm = true) (hg : Gl X "list") (hm : X.mg "list" = none) (hg2 : Gl X "zip") (hm2 : X.mg "zip" = none) (ha : PA X [e, e2] ta)
    (hs : starEach [.Call (.Name "zip" p2) [e, e2] [] cpos] X.env = (false, eval (.Call (.Name "zip" p2) [e, e2] [] cpos) X.env) :: starEach [] X.env := by rfl)
    (hs2 : starEach [e, e2] X.env = (false, eval e X.env) :: starEach [e2] X.env := by rfl) (hpl : (backTo cpos (starEach [e2] X.env)).any (·.1) = false := by rfl) :
    PE X (.Call (.Name "list" p) [.Call (.Name "zip" p2) [e, e2] [] cpos] [] pos) (tLstZip X.K ta) := by
  refine ⟨fun pins s σ H Q I hq => ?_⟩
  refine wpAny_Call_Name_kw (ld_blt I hg hm boot_list' ?_)
  refine PyProof.Rows.callWith_type1 ?_ hs rfl
  rw [hs]
  show wpAny _ _ (spliced ((false, eval (.Call (.Name "zip" p2) [e, e2] [] cpos) X.env) :: backTo pos (starEach [] X.env))) _ _ s
  refine Calls.spliced_cons ?_
  refine wpAny_Call_Name_kw (ld_blt I hg2 hm2 PyProof.Rows.boot_zip ?_)
  refine PyProof.Rows.callWith_type1 (thn (ha.run cpos pins s σ H _ I hq) fun us s1 ⟨vs, H1, I1, r1, q1⟩ => ?_) hs2 hpl
  obtain ⟨a, b, xs, ys, ex, h1, h2, hz, q⟩ := q1
  subst ex
  obtain ⟨v1, v2, rfl, ra, rb⟩ := vals2 r1
  cases ra
  cases rb
  obtain ⟨its, rv, p1, _⟩ := I1.tuple h1
  obtain ⟨its2, rv2, p3, _⟩ := I1.tuple h2
  obtain ⟨o1, ho1, _⟩ := id p1
  obtain ⟨o2, ho2, _⟩ := id p3
  refine RZ.call_zipT (show s1.heap.IsTuple a its.toArray from p1) (show s1.heap.IsTuple b its2.toArray from p3) fun g1 gz gI gO t1 t2 gs gk => ?_
  refine Calls.spliced_nil ?_
  have l1 := rv.length
  have l2 := rv2.length
  have hs5 : g1.objs.size = s1.heap.objs.size + 5 := gs
  have la : a < s1.heap.objs.size := Heap.lt_size ho1
  have lb : b < s1.heap.objs.size := Heap.lt_size ho2
  have ln : min its.toArray.size its2.toArray.size = (xs.zip ys).length := by rw [List.length_zip]; simp; omega
  have nn : min its.toArray.size its2.toArray.size ≤ sizeLine := by rw [ln]; exact hz
  have rr1 : g1.IsTuple a its.toArray := let ⟨o, ho, x⟩ := (show s1.heap.IsTuple a its.toArray from p1); ⟨o, gk _ _ ho, x⟩
  have rr2 : g1.IsTuple b its2.toArray := let ⟨o, ho, x⟩ := (show s1.heap.IsTuple b its2.toArray from p3); ⟨o, gk _ _ ho, x⟩
  refine stp_call (s := { s1 with heap := g1 }) nn (stp_zip (B := g1) (I1.ok.hd hc) (PySem.W.ktu_apart s1.heap.objs.size a b la lb) (by show _ < g1.objs.size; omega) (by show _ < g1.objs.size; omega) (by show _ < g1.objs.size; omega) (by show _ < g1.objs.size; omega) (by show _ < g1.objs.size; omega) (Nat.lt_of_lt_of_le la (by show _ ≤ g1.objs.size; omega)) (Nat.lt_of_lt_of_le lb (by show _ ≤ g1.objs.size; omega)) gI rr1 rr2) gz
    (fun g2 k2 s2 => ⟨fun b o _ _ _ _ _ e => k2 b o e, .inl ⟨rfl, k2 _ _ gz⟩, ⟨_, _, k2 _ _ gO⟩, t1.at fun o e => k2 _ o e, t2.at fun o e => k2 _ o e, [], rfl, .nil, (fun a ha => by simp at ha), fun k a h => by simp at h⟩) fun g3 acc c fz asz hS => ?_
  obtain ⟨as, e1, e2, e3, e4⟩ := fz.as
  have hal : as.length = (xs.zip ys).length := by
    have := congrArg List.length e1
    rw [List.length_map, Array.length_toList, asz, ln] at this
    omega
  have hkk : ∀ b o, s1.heap.get? b = some o → g3.get? b = some o := fun b o e => by
    have hb := Heap.lt_size e
    have nl : ∀ k, s1.heap.objs.size ≤ k → b ≠ k := fun k hk => Nat.ne_of_lt (Nat.lt_of_lt_of_le hb hk)
    exact fz.keep b o (nl _ (by omega)) (nl _ (by omega)) (nl _ (by omega)) (nl _ (by omega)) (nl _ (by show _ ≤ g1.objs.size; omega)) (gk b o e)
  obtain ⟨H', k1, k2, k3, k4, k5, k6, k7, J⟩ := pairs_laid (s := s1) (h' := g3) (S := g1.objs.size) I1 hz rv rv2 (by omega) hkk hS hal e1 e2 e3 e4
  exact ⟨.ref _, H', J, rfl, q H' _ as k1 k2 k3 k4 (List.Pairwise.imp (fun {a b} (h : a < b) => Nat.ne_of_lt h) e2) k5 k6 k7⟩
end
end PL
/-! PL34: list(zip(a, b)), plain. -/
namespace PL
open PySem L2
section
variable {X : Cx} {W : WX} {T T1 T2 T3 A S : List Nat} {F H F' H' F1 H1 F2 H2 : Hp} {env env' : Env} {σ : St} {fp fp' : Nat → List Addr}
theorem reps_pairs : ∀ {xs ys : List D} {us ws : List V} {ts : List Addr}, Reps X.K X.mg F xs us → Reps X.K X.mg F ys ws → Paired (fun (t : Addr) (q : V × V) => F t = some (.tup [q.1, q.2])) ts (us.zip ws) → Reps X.K X.mg F ((xs.zip ys).map fun p => D.tup [p.1, p.2]) (ts.map V.ref)
  | [], ys, us, ws, ts, r1, r2, p => by
    simp only [Reps] at r1
    subst r1
    cases p
    exact .nil
  | x :: xs, [], us, ws, ts, r1, r2, p => by
    simp only [Reps] at r2
    subst r2
    rw [List.zip_nil_right] at p
    cases p
    exact .nil
  | x :: xs, y :: ys, us, ws, ts, r1, r2, p => by
    simp only [Reps] at r1 r2
    obtain ⟨v, us, rfl, a1, a2⟩ := r1
    obtain ⟨w, ws, rfl, b1, b2⟩ := r2
    rw [List.zip_cons_cons] at p
    cases p with
    | cons h t => exact .cons (rep_tup h (by show 2 ≤ sizeLine; decide) (.cons a1 (.single b1))) (reps_pairs a2 b2 t)
def oLstZip (f : M (List D)) : M O := M.bd f fun ds => M.lift (match ds with
  | [.tup a, .tup b] => some (.lst (((a.zip b).map fun p => D.tup [p.1, p.2]).map .val))
  | _ => none)
theorem po_lstZip {e e2 : Expr} {f : M (List D)} {p p2 cpos pos : Pos} (hc : X.calm = true) (hg : Gl X "list") (hm : X.mg "list" = none) (hg2 : Gl X "zip") (hm2 : X.mg "zip" = none) (h : PAs X W T [e, e2] f)
    (hs : starEach [.Call (.Name "zip" p2) [e, e2] [] cpos] X.env = (false, eval (.Call (.Name "zip" p2) [e, e2] [] cpos) X.env) :: starEach [] X.env := by rfl)
    (hs2 : starEach [e, e2] X.env = (false, eval e X.env) :: starEach [e2] X.env := by rfl) (hpl : (backTo cpos (starEach [e2] X.env)).any (·.1) = false := by rfl) :
    PO X W T (.Call (.Name "list" p) [.Call (.Name "zip" p2) [e, e2] [] cpos] [] pos) (oLstZip f) := by
  obtain ⟨t, ht, h2⟩ := h.ex
  refine ⟨_, pe_listZip hc hg hm hg2 hm2 ht hs hs2 hpl, fun F H env σ fp Q r env' k1 k2 k3 k ke => ?_⟩
  refine SndA.then h2 k1 k2 k3 (fun ds vs F1 H1 env1 fp1 q p reps => ?_) ke
  obtain ⟨o, e, rfl, rfl⟩ := M.lift_some q
  split at e
  · rename_i xs ys
    cases e
    obtain ⟨v, w, rfl, r1, r2⟩ := reps2 reps
    simp only [Rep] at r1 r2
    obtain ⟨a, us, rfl, a1, a2, a3⟩ := r1
    obtain ⟨b, ws, rfl, b1, b2, b3⟩ := r2
    have la := a3.length
    have lb := b3.length
    refine ⟨a, b, us, ws, rfl, sqT p.ext.fh a1, sqT p.ext.fh b1, by rw [List.length_zip]; omega, fun H2 c ts s1 n1 n2 n3 n4 e1 e2 e3 => ?_⟩
    have fx : ∀ {x : Addr} {u : HO}, F1 x = some u → x ∉ ts := fun {x u} e z => by
      have := p.ext.fh _ _ e
      rw [n2 x z] at this
      cases this
    let F2 : Hp := fun x => if x ∈ ts then H2 x else F1 x
    have ff : Same F1 F2 := fun x u e => by show (if x ∈ ts then H2 x else F1 x) = _; rw [if_neg (fx e)]; exact e
    have ex : Ext F1 H1 (fun _ => False) F2 H2 := ⟨ff, fun x u e => by
      have e : (if x ∈ ts then H2 x else F1 x) = some u := e
      split at e
      · exact e
      · exact s1 _ _ (p.ext.fh _ _ e), fun x u e _ => s1 x u e, fun x e => by
      have e : (if x ∈ ts then H2 x else F1 x) ≠ none := e
      split at e
      · rename_i z; exact .inr (.inr (n2 x z))
      · exact .inl e, fun x e => by
      cases z : H1 x with
      | none => exact absurd z e
      | some u => rw [s1 x u z]; simp⟩
    have p2 := p.trans (Pst.of_ext p.re ex)
    rw [List.append_nil] at p2
    have pr : Paired (fun (t : Addr) (q : V × V) => F2 t = some (.tup [q.1, q.2])) ts (us.zip ws) := by
      have gen : ∀ {l : List Addr} {ps : List (V × V)}, (∀ x ∈ l, x ∈ ts) → Paired (fun (t : Addr) (q : V × V) => H2 t = some (.tup [q.1, q.2])) l ps → Paired (fun (t : Addr) (q : V × V) => F2 t = some (.tup [q.1, q.2])) l ps := by
        intro l ps hl h
        induction h with
        | nil => exact .nil
        | cons h t ih => exact .cons (by show (if _ ∈ ts then H2 _ else F1 _) = _; rw [if_pos (hl _ (by simp))]; exact h) (ih fun x hx => hl x (List.mem_cons_of_mem _ hx))
      exact gen (fun _ h => h) e2
    have rp := reps_pairs (Reps.mono ff _ _ a3) (Reps.mono ff _ _ b3) pr
    refine k _ (.ref c) F2 H2 fp1 [c] rfl p2 ?_ (fun j x hx z => ?_) fun x hx => ?_
    · rw [RO]
      refine ⟨c, _, [], rfl, e1, ?_, ?_, ROs.vals rp, by simp, rfl⟩
      · show (if c ∈ ts then H2 c else F1 c) = none
        rw [if_neg n3]
        cases z : F1 c with
        | none => rfl
        | some u => rw [p.ext.fh _ _ z] at n1; cases n1
      · rw [List.length_map, List.length_map, List.length_zip]; omega
    · have e : x = c := by simpa using hx
      subst e
      exact (p.re.fpin z).2 n1
    · have e : x = c := by simpa using hx
      subst e
      exact .inr (dom_none p n1)
  · cases e
end
end PL
/-! PW1: going through the plain meaning step by step. -/
namespace PL
open PySem L2
section
variable {α β : Type}
abbrev Kt (α : Type) := Except Ex α → Env → Prop
/-- it ends, and so -/
def wp (f : M α) (env : Env) (Q : Kt α) : Prop := ∃ r e, f env = some (r, e) ∧ Q r e
def wpF (m : Fn) (os : List O) (Q : Kt O) : Prop := ∃ r e, m os = some (r, e) ∧ Q r e
variable {f : M α} {env env1 env2 : Env} {Q Q' : Kt α}
theorem wp.mono (h : wp f env Q) (k : ∀ r e, Q r e → Q' r e) : wp f env Q' := let ⟨r, e, a, b⟩ := h; ⟨r, e, a, k r e b⟩
theorem wpF.mono {m : Fn} {os : List O} {Q Q' : Kt O} (h : wpF m os Q) (k : ∀ r e, Q r e → Q' r e) : wpF m os Q' := let ⟨r, e, a, b⟩ := h; ⟨r, e, a, k r e b⟩
theorem wpF_eq {m : Fn} {os : List O} {Q : Kt O} {r : Except Ex O} {e : Env} (h : m os = some (r, e)) (k : Q r e) : wpF m os Q := ⟨r, e, h, k⟩
theorem wp_ret {a : α} (k : Q (.ok a) env) : wp (M.ret a) env Q := ⟨_, _, rfl, k⟩
theorem wp_lift {a : α} {o : Option α} (h : o = some a) (k : Q (.ok a) env) : wp (M.lift o) env Q := ⟨.ok a, env, by subst h; rfl, k⟩
def kB (g : α → M β) (Q : Kt β) : Kt α := fun r e => match r with
  | .ok a => wp (g a) e Q
  | .error x => Q (.error x) e
theorem wp_bd {g : α → M β} {Q : Kt β} (h : wp f env (kB g Q)) : wp (M.bd f g) env Q := by
  obtain ⟨r, e, h1, h2⟩ := h
  unfold M.bd
  cases r with
  | ok a =>
    obtain ⟨r', e', h3, h4⟩ := h2
    exact ⟨r', e', by show (match f env with | _ => _) = _; rw [h1]; exact h3, h4⟩
  | error x => exact ⟨.error x, e, by show (match f env with | _ => _) = _; rw [h1], h2⟩
theorem kB_ok {g : α → M β} {Q : Kt β} {a : α} (k : wp (g a) env Q) : kB g Q (.ok a) env := k
theorem kB_er {g : α → M β} {Q : Kt β} {x : Ex} (k : Q (.error x) env) : kB g Q (.error x) env := k
end
/-! ### places -/
inductive SetAt : Env → Nat → Option O → Env → Prop where
  | z {x o : Option O} {xs : Env} : SetAt (x :: xs) 0 o (o :: xs)
  | s {x o : Option O} {xs ys : Env} {n : Nat} (h : SetAt xs n o ys) : SetAt (x :: xs) (n + 1) o (x :: ys)
theorem SetAt.eq {e e' : Env} {n : Nat} {o : Option O} (h : SetAt e n o e') : n < e.length ∧ e.set n o = e' := by
  induction h with
  | z => exact ⟨Nat.zero_lt_succ _, rfl⟩
  | s _ ih => exact ⟨Nat.succ_lt_succ ih.1, congrArg _ ih.2⟩
inductive PutB : List (Option Nat) → Env → Env → Env → Prop where
  | nil {out env : Env} : PutB [] out env env
  | no {sh : List (Option Nat)} {o : Option O} {out env env1 : Env} (h : PutB sh out env env1) : PutB (none :: sh) (o :: out) env env1
  | so {sh : List (Option Nat)} {i : Nat} {o : Option O} {out env env1 env2 : Env} (h : PutB sh out env env1) (k : SetAt env1 i o env2) : PutB (some i :: sh) (o :: out) env env2
theorem pix_cons {a : Option Nat} {sh : List (Option Nat)} {j : Nat} : pix (a :: sh) j = if a = some j then some 0 else (pix sh j).map (· + 1) := rfl
theorem putBack_none {sh : List (Option Nat)} {o : Option O} {out env : Env} : putBack (none :: sh) (o :: out) env = putBack sh out env := by
  apply List.ext_getElem?
  intro j
  rw [putBack_get, putBack_get, pix_cons, if_neg (by simp)]
  cases pix sh j <;> rfl
theorem putBack_some {sh : List (Option Nat)} {i : Nat} {o : Option O} {out env : Env} : putBack (some i :: sh) (o :: out) env = (putBack sh out env).set i o := by
  apply List.ext_getElem?
  intro j
  rw [putBack_get, List.getElem?_set, pix_cons]
  have hl : (putBack sh out env).length = env.length := by unfold putBack; rw [List.length_mapIdx]
  by_cases hj : i = j
  · subst hj
    rw [if_pos rfl, hl, if_pos rfl]
    by_cases h : i < env.length
    · rw [if_pos h, List.getElem?_eq_getElem h]; rfl
    · rw [if_neg h, List.getElem?_eq_none (Nat.le_of_not_lt h)]; rfl
  · rw [if_neg hj, if_neg (fun e => hj (Option.some.inj e)), putBack_get]
    cases pix sh j <;> rfl
theorem PutB.eq {sh : List (Option Nat)} {out env env' : Env} (h : PutB sh out env env') : putBack sh out env = env' := by
  induction h with
  | nil =>
    apply List.ext_getElem?
    intro j
    rw [putBack_get]
    show Option.map (fun o => o) _ = _
    rw [Option.map_id']
  | no _ ih => rw [putBack_none]; exact ih
  | so _ k ih => rw [putBack_some, ih]; exact k.eq.2
inductive WipB : List Nat → Env → Env → Prop where
  | nil {env : Env} : WipB [] env env
  | cons {v : Nat} {vs : List Nat} {env env1 env2 : Env} (h : WipB vs env env1) (k : SetAt env1 v none env2) : WipB (v :: vs) env env2
theorem WipB.eq {vs : List Nat} {env env' : Env} (h : WipB vs env env') : wipeE vs env = env' := by
  induction h with
  | nil =>
    apply List.ext_getElem?
    intro j
    rw [wipeE_get]
    cases (_ : Env)[j]? <;> simp
  | @cons v vs env env1 env2 _ k ih =>
    rw [← k.eq.2, ← ih]
    apply List.ext_getElem?
    intro j
    rw [wipeE_get, List.getElem?_set, wipeE_get]
    have hl : (wipeE vs env).length = env.length := by unfold wipeE; rw [List.length_mapIdx]
    rw [hl]
    by_cases hj : v = j
    · subst hj
      rw [if_pos rfl]
      by_cases h : v < env.length
      · rw [if_pos h, List.getElem?_eq_getElem h]; simp
      · rw [if_neg h, List.getElem?_eq_none (by omega)]; rfl
    · rw [if_neg hj]
      cases env[j]? with
      | none => rfl
      | some o => simp [Ne.symm hj]
inductive BackB : List Nat → Env → Env → Env → Prop where
  | nil {env envB : Env} (h : env.length = envB.length) : BackB [] env envB envB
  | cons {v : Nat} {vs : List Nat} {o : Option O} {env envB env1 env2 : Env} (h : BackB vs env envB env1) (e : env[v]? = some o) (k : SetAt env1 v o env2) : BackB (v :: vs) env envB env2
theorem BackB.eq {vs : List Nat} {env envB env' : Env} (h : BackB vs env envB env') : backE vs env envB = env' := by
  induction h with
  | @nil env envB h =>
    apply List.ext_getElem?
    intro j
    rw [backE_get]
    by_cases hj : j < env.length
    · rw [List.getElem?_eq_getElem hj, List.getElem?_eq_getElem (by omega)]; simp
    · rw [List.getElem?_eq_none (by omega), List.getElem?_eq_none (by omega)]; rfl
  | @cons v vs o env envB env1 env2 _ e k ih =>
    rw [← k.eq.2, ← ih]
    apply List.ext_getElem?
    intro j
    rw [backE_get, List.getElem?_set, backE_get]
    have hl : (backE vs env envB).length = env.length := by unfold backE; rw [List.length_mapIdx]
    rw [hl]
    by_cases hj : v = j
    · subst hj
      have h : v < env.length := by
        rw [List.getElem?_eq_some_iff] at e
        exact e.1
      rw [if_pos rfl, if_pos h, e]; simp
    · rw [if_neg hj]
      cases env[j]? with
      | none => rfl
      | some o => simp [Ne.symm hj]
/-! ### names -/
section
variable {env env1 env2 : Env}
theorem wp_vVar {i : Nat} {d : D} {Q : Kt D} (h : env[i]? = some (some (.val d))) (k : Q (.ok d) env) : wp (vVar i) env Q := ⟨_, _, by unfold vVar; rw [h], k⟩
theorem wp_qVar {i : Nat} {o : O} {Q : Kt Rdr} (h : env[i]? = some (some o)) (k : Q (.ok (rVar i)) env) : wp (qVar i) env Q := ⟨_, _, by unfold qVar; rw [h], k⟩
theorem wp_oMove {i : Nat} {o : O} {Q : Kt O} (h : env[i]? = some (some o)) (s : SetAt env i none env1) (k : Q (.ok o) env1) : wp (oMove i) env Q := ⟨_, _, by unfold oMove; rw [h]; dsimp only; rw [s.eq.2], k⟩
theorem wp_vFrz {i : Nat} {o : O} {d : D} {Q : Kt D} (h : env[i]? = some (some o)) (e : o.er = d) (s : SetAt env i (some (.val d)) env1) (k : Q (.ok d) env1) : wp (vFrz i) env Q := ⟨_, _, by unfold vFrz; rw [h]; dsimp only; rw [e, s.eq.2], k⟩
theorem wp_gSet {i : Nat} {o : O} {Q : Kt Unit} (s : SetAt env i (some o) env1) (k : Q (.ok ()) env1) : wp (gSet i o) env Q := ⟨_, _, by unfold gSet; rw [if_pos s.eq.1, s.eq.2], k⟩
theorem wp_vPl {i : Nat} {p : Pth} {d : D} {Q : Kt D} (h : Env.at env i p = some (.val d)) (k : Q (.ok d) env) : wp (vPl i p) env Q := ⟨_, _, by unfold vPl; rw [h], k⟩
theorem wp_qPl {i : Nat} {p : Pth} {o : O} {Q : Kt Rdr} (h : Env.at env i p = some o) (k : Q (.ok (rPl i p)) env) : wp (qPl i p) env Q := ⟨_, _, by unfold qPl; rw [h], k⟩
end
section
variable {α : Type} {env env1 env2 : Env}
/-! ### handed on, given away -/
def kOm (Q : Kt O) : Kt D := fun r e => match r with
  | .ok d => Q (.ok (.val d)) e
  | .error x => Q (.error x) e
theorem wp_om {f : M D} {Q : Kt O} (h : wp f env (kOm Q)) : wp (om f) env Q := by
  refine wp_bd (h.mono fun r e q => ?_)
  cases r with
  | error x => exact q
  | ok d => exact wp_ret q
theorem kOm_ok {d : D} {Q : Kt O} (k : Q (.ok (.val d)) env) : kOm Q (.ok d) env := k
theorem kOm_er {x : Ex} {Q : Kt O} (k : Q (.error x) env) : kOm Q (.error x) env := k
def kVm (Q : Kt D) : Kt O := fun r e => match r with
  | .ok o => Q (.ok o.er) e
  | .error x => Q (.error x) e
theorem wp_vm {f : M O} {Q : Kt D} (h : wp f env (kVm Q)) : wp (vm f) env Q := by
  refine wp_bd (h.mono fun r e q => ?_)
  cases r with
  | error x => exact q
  | ok d => exact wp_ret q
theorem er_vals (ds : List D) : (O.lst (ds.map .val)).er = .lst ds := by
  simp only [O.er]
  congr 1
  induction ds with
  | nil => rfl
  | cons d ds ih => simp only [List.map_cons, O.ers, O.er, ih]
theorem kVm_val {d : D} {Q : Kt D} (k : Q (.ok d) env) : kVm Q (.ok (.val d)) env := by unfold kVm; simp only [O.er]; exact k
theorem kVm_lst {ds : List D} {Q : Kt D} (k : Q (.ok (.lst ds)) env) : kVm Q (.ok (.lst (ds.map .val))) env := by unfold kVm; simp only [er_vals]; exact k
theorem kVm_ok {o : O} {d : D} {Q : Kt D} (h : o.er = d) (k : Q (.ok d) env) : kVm Q (.ok o) env := by unfold kVm; simp only [h]; exact k
theorem kVm_er {x : Ex} {Q : Kt D} (k : Q (.error x) env) : kVm Q (.error x) env := k
def kQm (Q : Kt Rdr) : Kt D := fun r e => match r with
  | .ok d => Q (.ok fun _ => some d) e
  | .error x => Q (.error x) e
theorem wp_qm {f : M D} {Q : Kt Rdr} (h : wp f env (kQm Q)) : wp (qm f) env Q := by
  refine wp_bd (h.mono fun r e q => ?_)
  cases r with
  | error x => exact q
  | ok d => exact wp_ret q
theorem kQm_ok {d : D} {Q : Kt Rdr} (k : Q (.ok fun _ => some d) env) : kQm Q (.ok d) env := k
theorem kQm_er {x : Ex} {Q : Kt Rdr} (k : Q (.error x) env) : kQm Q (.error x) env := k
/-! ### operators -/
/-- what a reader reads -/
def Reads (rd : Rdr) (env : Env) (d : D) : Prop := rd env = some d
theorem reads_const {d : D} : Reads (fun _ => some d) env d := rfl
theorem reads_val {i : Nat} {d : D} (h : env[i]? = some (some (.val d))) : Reads (rVar i) env d := by unfold Reads rVar; rw [h]; rfl
theorem reads_lst {i : Nat} {ds : List D} (h : env[i]? = some (some (.lst (ds.map .val)))) : Reads (rVar i) env (.lst ds) := by unfold Reads rVar; rw [h]; simp only [O.peek, O.flat_vals]; rfl
theorem reads_nil {i : Nat} (h : env[i]? = some (some (.lst []))) : Reads (rVar i) env (.lst []) := by unfold Reads rVar; rw [h]; rfl
theorem reads_var {i : Nat} {o : O} {d : D} (h : env[i]? = some (some o)) (k : o.peek = some d) : Reads (rVar i) env d := by unfold Reads rVar; rw [h]; exact k
theorem reads_plv {i : Nat} {p : Pth} {d : D} (h : Env.at env i p = some (.val d)) : Reads (rPl i p) env d := by unfold Reads rPl; rw [h]; rfl
theorem reads_pl {i : Nat} {p : Pth} {ds : List D} (h : Env.at env i p = some (.lst (ds.map .val))) : Reads (rPl i p) env (.lst ds) := by unfold Reads rPl; rw [h]; simp only [Option.bind_some, O.peek, O.flat_vals]; rfl
def kBin2 (g : D → D → Option D) (ra : Rdr) (Q : Kt D) : Kt Rdr := fun r e => match r with
  | .ok rb => ∃ x y d, ra e = some x ∧ rb e = some y ∧ g x y = some d ∧ Q (.ok d) e
  | .error x => Q (.error x) e
def kBin1 (g : D → D → Option D) (fb : M Rdr) (Q : Kt D) : Kt Rdr := fun r e => match r with
  | .ok ra => wp fb e (kBin2 g ra Q)
  | .error x => Q (.error x) e
theorem wp_bin {g : D → D → Option D} {fa fb : M Rdr} {Q : Kt D} (h : wp fa env (kBin1 g fb Q)) : wp (bin g fa fb) env Q := by
  refine wp_bd (h.mono fun r e q => ?_)
  cases r with
  | error x => exact q
  | ok ra =>
    refine wp_bd (wp.mono q fun r e q => ?_)
    cases r with
    | error x => exact q
    | ok rb =>
      obtain ⟨x, y, d, h5, h6, h7, h8⟩ := q
      exact ⟨.ok d, e, by dsimp only; rw [h5, h6]; simp only [Option.bind_some]; rw [h7]; rfl, h8⟩
theorem kBin1_ok {g : D → D → Option D} {fb : M Rdr} {Q : Kt D} {ra : Rdr} (k : wp fb env (kBin2 g ra Q)) : kBin1 g fb Q (.ok ra) env := k
theorem kBin1_er {g : D → D → Option D} {fb : M Rdr} {Q : Kt D} {x : Ex} (k : Q (.error x) env) : kBin1 g fb Q (.error x) env := k
theorem kBin2_ok {g : D → D → Option D} {ra rb : Rdr} {Q : Kt D} {x y d : D} (h1 : Reads ra env x) (h2 : Reads rb env y) (h3 : g x y = some d) (k : Q (.ok d) env) : kBin2 g ra Q (.ok rb) env := ⟨x, y, d, h1, h2, h3, k⟩
theorem kBin2_er {g : D → D → Option D} {ra : Rdr} {Q : Kt D} {x : Ex} (k : Q (.error x) env) : kBin2 g ra Q (.error x) env := k
def kUn (g : D → Option D) (Q : Kt D) : Kt Rdr := fun r e => match r with
  | .ok rd => ∃ x d, rd e = some x ∧ g x = some d ∧ Q (.ok d) e
  | .error x => Q (.error x) e
theorem wp_un {g : D → Option D} {f : M Rdr} {Q : Kt D} (h : wp f env (kUn g Q)) : wp (un g f) env Q := by
  refine wp_bd (h.mono fun r e q => ?_)
  cases r with
  | error x => exact q
  | ok rd =>
    obtain ⟨x, d, h5, h6, h7⟩ := q
    exact ⟨.ok d, e, by dsimp only; rw [h5]; simp only [Option.bind_some]; rw [h6]; rfl, h7⟩
theorem kUn_ok {g : D → Option D} {rd : Rdr} {Q : Kt D} {x d : D} (h1 : Reads rd env x) (h2 : g x = some d) (k : Q (.ok d) env) : kUn g Q (.ok rd) env := ⟨x, d, h1, h2, k⟩
theorem kUn_er {g : D → Option D} {Q : Kt D} {x : Ex} (k : Q (.error x) env) : kUn g Q (.error x) env := k
/-! ### tests -/
def kBm (Q : Kt Bool) : Kt D := fun r e => match r with
  | .ok (.bl b) => Q (.ok b) e
  | .ok _ => False
  | .error x => Q (.error x) e
theorem wp_bm {f : M D} {Q : Kt Bool} (h : wp f env (kBm Q)) : wp (bm f) env Q := by
  refine wp_bd (h.mono fun r e q => ?_)
  cases r with
  | error x => exact q
  | ok d => cases d with
    | bl b => exact wp_lift rfl q
    | _ => exact q.elim
theorem kBm_ok {b : Bool} {Q : Kt Bool} (k : Q (.ok b) env) : kBm Q (.ok (.bl b)) env := k
theorem kBm_er {x : Ex} {Q : Kt Bool} (k : Q (.error x) env) : kBm Q (.error x) env := k
def kTru (Q : Kt Bool) : Kt Rdr := fun r e => match r with
  | .ok rd => ∃ x b, rd e = some x ∧ x.tru = some b ∧ Q (.ok b) e
  | .error x => Q (.error x) e
theorem wp_bTru {f : M Rdr} {Q : Kt Bool} (h : wp f env (kTru Q)) : wp (bTru f) env Q := by
  refine wp_bd (h.mono fun r e q => ?_)
  cases r with
  | error x => exact q
  | ok rd =>
    obtain ⟨x, d, h5, h6, h7⟩ := q
    exact ⟨.ok d, e, by dsimp only; rw [h5]; simp only [Option.bind_some]; rw [h6]; rfl, h7⟩
theorem kTru_ok {rd : Rdr} {x : D} {b : Bool} {Q : Kt Bool} (h1 : Reads rd env x) (h2 : x.tru = some b) (k : Q (.ok b) env) : kTru Q (.ok rd) env := ⟨x, b, h1, h2, k⟩
theorem kTru_er {x : Ex} {Q : Kt Bool} (k : Q (.error x) env) : kTru Q (.error x) env := k
def kNot (Q : Kt Bool) : Kt Bool := fun r e => match r with
  | .ok b => Q (.ok (!b)) e
  | .error x => Q (.error x) e
theorem wp_bNot {f : M Bool} {Q : Kt Bool} (h : wp f env (kNot Q)) : wp (bNot f) env Q := by
  refine wp_bd (h.mono fun r e q => ?_)
  cases r with
  | error x => exact q
  | ok d => exact wp_ret q
theorem kNot_t {Q : Kt Bool} (k : Q (.ok false) env) : kNot Q (.ok true) env := k
theorem kNot_f {Q : Kt Bool} (k : Q (.ok true) env) : kNot Q (.ok false) env := k
theorem kNot_d {p : Prop} [Decidable p] {Q : Kt Bool} (k : Q (.ok (decide (¬ p))) env) : kNot Q (.ok (decide p)) env := by
  unfold kNot; dsimp only; rw [← decide_not]; exact k
theorem kNot_ok {b : Bool} {Q : Kt Bool} (k : Q (.ok !b) env) : kNot Q (.ok b) env := k
theorem kNot_er {x : Ex} {Q : Kt Bool} (k : Q (.error x) env) : kNot Q (.error x) env := k
/-- one way or the other -/
def kIf (f g : M α) (Q : Kt α) : Kt Bool := fun r e => match r with
  | .ok true => wp f e Q
  | .ok false => wp g e Q
  | .error x => Q (.error x) e
theorem wp_if_ {c : M Bool} {f g : M α} {Q : Kt α} (h : wp c env (kIf f g Q)) : wp (M.bd c fun b => if b = true then f else g) env Q := by
  refine wp_bd (h.mono fun r e q => ?_)
  cases r with
  | error x => exact q
  | ok b => cases b with
    | true => exact q
    | false => exact q
theorem wp_sIf {c : M Bool} {f g : M Fl} {Q : Kt Fl} (h : wp c env (kIf f g Q)) : wp (sIf c f g) env Q := wp_if_ h
theorem wp_mIf {c : M Bool} {f g : M α} {Q : Kt α} (h : wp c env (kIf f g Q)) : wp (mIf c f g) env Q := wp_if_ h
theorem wp_bAnd {c g : M Bool} {Q : Kt Bool} (h : wp c env (kIf g (M.ret false) Q)) : wp (bAnd c g) env Q := wp_if_ h
theorem wp_bOr {c g : M Bool} {Q : Kt Bool} (h : wp c env (kIf (M.ret true) g Q)) : wp (bOr c g) env Q := wp_if_ h
theorem kIf_t {f g : M α} {Q : Kt α} (k : wp f env Q) : kIf f g Q (.ok true) env := k
theorem kIf_f {f g : M α} {Q : Kt α} (k : wp g env Q) : kIf f g Q (.ok false) env := k
theorem kIf_d {p : Prop} [Decidable p] {f g : M α} {Q : Kt α} (h : p → wp f env Q) (k : ¬ p → wp g env Q) : kIf f g Q (.ok (decide p)) env := by
  by_cases hp : p
  · rw [decide_eq_true hp]; exact h hp
  · rw [decide_eq_false hp]; exact k hp
theorem kIf_nd {p : Prop} [Decidable p] {f g : M α} {Q : Kt α} (h : ¬ p → wp f env Q) (k : p → wp g env Q) : kIf f g Q (.ok (!decide p)) env := by
  by_cases hp : p
  · rw [decide_eq_true hp]; exact k hp
  · rw [decide_eq_false hp]; exact h hp
theorem kIf_b {b : Bool} {f g : M α} {Q : Kt α} (h : b = true → wp f env Q) (k : b = false → wp g env Q) : kIf f g Q (.ok b) env := by
  cases b with
  | true => exact h rfl
  | false => exact k rfl
theorem kIf_er {x : Ex} {f g : M α} {Q : Kt α} (k : Q (.error x) env) : kIf f g Q (.error x) env := k
/-! ### truth values as values -/
def kAsB (g : Bool → M D) (Q : Kt D) : Kt D := fun r e => match r with
  | .ok (.bl b) => wp (g b) e Q
  | .ok _ => False
  | .error x => Q (.error x) e
theorem wp_asB {f : M D} {g : Bool → M D} {Q : Kt D} (h : wp f env (kAsB g Q)) : wp (asB f g) env Q := by
  refine wp_bd (h.mono fun r e q => ?_)
  cases r with
  | error x => exact q
  | ok d => cases d with
    | bl b => exact q
    | _ => exact q.elim
def kAB (f g : M D) (Q : Kt D) : Kt D := kAsB (fun b => if b = true then f else g) Q
theorem wp_vAnd {f g : M D} {Q : Kt D} (h : wp f env (kAB g (M.ret (.bl false)) Q)) : wp (vAnd f g) env Q := wp_asB h
theorem wp_vOr {f g : M D} {Q : Kt D} (h : wp f env (kAB (M.ret (.bl true)) g Q)) : wp (vOr f g) env Q := wp_asB h
theorem kAB_t {f g : M D} {Q : Kt D} (k : wp f env Q) : kAB f g Q (.ok (.bl true)) env := k
theorem kAB_f {f g : M D} {Q : Kt D} (k : wp g env Q) : kAB f g Q (.ok (.bl false)) env := k
theorem kAB_b {b : Bool} {f g : M D} {Q : Kt D} (h : b = true → wp f env Q) (k : b = false → wp g env Q) : kAB f g Q (.ok (.bl b)) env := by
  cases b with
  | true => exact h rfl
  | false => exact k rfl
theorem kAB_d {p : Prop} [Decidable p] {f g : M D} {Q : Kt D} (h : p → wp f env Q) (k : ¬ p → wp g env Q) : kAB f g Q (.ok (.bl (decide p))) env := kAB_b (fun e => h (of_decide_eq_true e)) (fun e => k (of_decide_eq_false e))
theorem kAB_er {x : Ex} {f g : M D} {Q : Kt D} (k : Q (.error x) env) : kAB f g Q (.error x) env := k
def kVNot (Q : Kt D) : Kt D := fun r e => match r with
  | .ok (.bl b) => Q (.ok (.bl (!b))) e
  | .ok _ => False
  | .error x => Q (.error x) e
theorem wp_vNot {f : M D} {Q : Kt D} (h : wp f env (kVNot Q)) : wp (vNot f) env Q := by
  refine wp_asB (h.mono fun r e q => ?_)
  cases r with
  | error x => exact q
  | ok d => cases d with
    | bl b => exact wp_ret q
    | _ => exact q.elim
theorem kVNot_ok {b : Bool} {Q : Kt D} (k : Q (.ok (.bl (!b))) env) : kVNot Q (.ok (.bl b)) env := k
theorem kVNot_er {x : Ex} {Q : Kt D} (k : Q (.error x) env) : kVNot Q (.error x) env := k
/-! ### rows of values -/
def kA2 (d : D) (Q : Kt (List D)) : Kt (List D) := fun r e => match r with
  | .ok ds => Q (.ok (d :: ds)) e
  | .error x => Q (.error x) e
def kA1 (g : M (List D)) (Q : Kt (List D)) : Kt D := fun r e => match r with
  | .ok d => wp g e (kA2 d Q)
  | .error x => Q (.error x) e
theorem wp_aNil {Q : Kt (List D)} (k : Q (.ok []) env) : wp aNil env Q := wp_ret k
theorem wp_aCons {f : M D} {g : M (List D)} {Q : Kt (List D)} (h : wp f env (kA1 g Q)) : wp (aCons f g) env Q := by
  refine wp_bd (h.mono fun r e q => ?_)
  cases r with
  | error x => exact q
  | ok d =>
    refine wp_bd (wp.mono q fun r e q => ?_)
    cases r with
    | error x => exact q
    | ok ds => exact wp_ret q
theorem kA1_ok {g : M (List D)} {d : D} {Q : Kt (List D)} (k : wp g env (kA2 d Q)) : kA1 g Q (.ok d) env := k
theorem kA1_er {g : M (List D)} {x : Ex} {Q : Kt (List D)} (k : Q (.error x) env) : kA1 g Q (.error x) env := k
theorem kA2_ok {d : D} {ds : List D} {Q : Kt (List D)} (k : Q (.ok (d :: ds)) env) : kA2 d Q (.ok ds) env := k
theorem kA2_er {d : D} {x : Ex} {Q : Kt (List D)} (k : Q (.error x) env) : kA2 d Q (.error x) env := k
/-- a row of values made one -/
def kLf {β : Type} (h : List D → Option β) (Q : Kt β) : Kt (List D) := fun r e => match r with
  | .ok ds => ∃ b, h ds = some b ∧ Q (.ok b) e
  | .error x => Q (.error x) e
theorem wp_lf {β : Type} {f : M (List D)} {h : List D → Option β} {Q : Kt β} (k : wp f env (kLf h Q)) : wp (M.bd f fun ds => M.lift (h ds)) env Q := by
  refine wp_bd (k.mono fun r e q => ?_)
  cases r with
  | error x => exact q
  | ok ds =>
    obtain ⟨b, h3, h4⟩ := q
    exact wp_lift h3 h4
theorem kLf_ok {β : Type} {h : List D → Option β} {b : β} {ds : List D} {Q : Kt β} (e : h ds = some b) (k : Q (.ok b) env) : kLf h Q (.ok ds) env := ⟨b, e, k⟩
theorem kLf_er {β : Type} {h : List D → Option β} {x : Ex} {Q : Kt β} (k : Q (.error x) env) : kLf h Q (.error x) env := k
def hTup (ds : List D) : Option D := if ds.length ≤ sizeLine then some (.tup ds) else none
def hLst (ds : List D) : Option O := if ds.length ≤ sizeLine then some (.lst (ds.map .val)) else none
theorem wp_vTup {f : M (List D)} {Q : Kt D} (h : wp f env (kLf hTup Q)) : wp (vTup f) env Q := wp_lf h
theorem wp_oLst {f : M (List D)} {Q : Kt O} (h : wp f env (kLf hLst Q)) : wp (oLst f) env Q := wp_lf h
theorem hTup_ok {ds : List D} (h : ds.length ≤ sizeLine := by decide) : hTup ds = some (.tup ds) := if_pos h
theorem hLst_ok {ds : List D} (h : ds.length ≤ sizeLine := by decide) : hLst ds = some (.lst (ds.map .val)) := if_pos h
def hIR1 (ds : List D) : Option (List D) := match ds with
  | [.int j] => if -(2 ^ 62) ≤ j ∧ j < 2 ^ 62 then some (rangeD 0 j.toNat) else none
  | _ => none
def hIR2 (ds : List D) : Option (List D) := match ds with
  | [.int i, .int j] => if -(2 ^ 62) ≤ i ∧ i < 2 ^ 62 ∧ -(2 ^ 62) ≤ j ∧ j < 2 ^ 62 then some (rangeD i (j - i).toNat) else none
  | _ => none
theorem wp_iR1 {f : M (List D)} {Q : Kt (List D)} (h : wp f env (kLf hIR1 Q)) : wp (iR1 f) env Q := wp_lf h
theorem wp_iR2 {f : M (List D)} {Q : Kt (List D)} (h : wp f env (kLf hIR2 Q)) : wp (iR2 f) env Q := wp_lf h
theorem hIR1_ok {j : Int} (h : -(2 ^ 62) ≤ j ∧ j < 2 ^ 62) : hIR1 [.int j] = some (rangeD 0 j.toNat) := if_pos h
theorem hIR2_ok {i j : Int} (h : -(2 ^ 62) ≤ i ∧ i < 2 ^ 62 ∧ -(2 ^ 62) ≤ j ∧ j < 2 ^ 62) : hIR2 [.int i, .int j] = some (rangeD i (j - i).toNat) := if_pos h
def hZip (ds : List D) : Option (List D) := match ds with
  | [.lst a, .lst b] => some ((a.zip b).map fun p => .tup [p.1, p.2])
  | [.tup a, .tup b] => some ((a.zip b).map fun p => .tup [p.1, p.2])
  | _ => none
theorem wp_iZip {f : M (List D)} {Q : Kt (List D)} (h : wp f env (kLf hZip Q)) : wp (iZip f) env Q := wp_lf h
def h2 (g : D → D → Option D) (ds : List D) : Option D := match ds with
  | [a, b] => g a b
  | _ => none
theorem wp_vCall2 {g : D → D → Option D} {f : M (List D)} {Q : Kt D} (h : wp f env (kLf (h2 g) Q)) : wp (vCall2 g f) env Q := wp_lf h
theorem h2_ok {g : D → D → Option D} {a b d : D} (h : g a b = some d) : h2 g [a, b] = some d := h
/-! ### what a loop walks -/
def kIt (Q : Kt (List D)) : Kt D := fun r e => match r with
  | .ok d => ∃ ds, d.items = some ds ∧ Q (.ok ds) e
  | .error x => Q (.error x) e
theorem wp_iVal {f : M D} {Q : Kt (List D)} (h : wp f env (kIt Q)) : wp (iVal f) env Q := by
  refine wp_bd (h.mono fun r e q => ?_)
  cases r with
  | error x => exact q
  | ok ds =>
    obtain ⟨b, h3, h4⟩ := q
    exact wp_lift h3 h4
theorem kIt_lst {ds : List D} {Q : Kt (List D)} (k : Q (.ok ds) env) : kIt Q (.ok (.lst ds)) env := ⟨ds, rfl, k⟩
theorem kIt_tup {ds : List D} {Q : Kt (List D)} (k : Q (.ok ds) env) : kIt Q (.ok (.tup ds)) env := ⟨ds, rfl, k⟩
theorem kIt_er {x : Ex} {Q : Kt (List D)} (k : Q (.error x) env) : kIt Q (.error x) env := k
theorem wp_iOwn {i : Nat} {ds : List D} {Q : Kt (List D)} (h : env[i]? = some (some (.lst (ds.map .val)))) (k : Q (.ok ds) env) : wp (iOwn i) env Q := ⟨.ok ds, env, by unfold iOwn; rw [h]; dsimp only; rw [O.flat_vals]; rfl, k⟩
/-! ### rows of what is held alone -/
def kO2 (d : O) (Q : Kt (List O)) : Kt (List O) := fun r e => match r with
  | .ok ds => Q (.ok (d :: ds)) e
  | .error x => Q (.error x) e
def kO1 (g : M (List O)) (Q : Kt (List O)) : Kt O := fun r e => match r with
  | .ok d => wp g e (kO2 d Q)
  | .error x => Q (.error x) e
theorem wp_oNil {Q : Kt (List O)} (k : Q (.ok []) env) : wp oNil env Q := wp_ret k
theorem wp_oCons {f : M O} {g : M (List O)} {Q : Kt (List O)} (h : wp f env (kO1 g Q)) : wp (oCons f g) env Q := by
  refine wp_bd (h.mono fun r e q => ?_)
  cases r with
  | error x => exact q
  | ok d =>
    refine wp_bd (wp.mono q fun r e q => ?_)
    cases r with
    | error x => exact q
    | ok ds => exact wp_ret q
theorem kO1_ok {g : M (List O)} {d : O} {Q : Kt (List O)} (k : wp g env (kO2 d Q)) : kO1 g Q (.ok d) env := k
theorem kO1_er {g : M (List O)} {x : Ex} {Q : Kt (List O)} (k : Q (.error x) env) : kO1 g Q (.error x) env := k
theorem kO2_ok {d : O} {ds : List O} {Q : Kt (List O)} (k : Q (.ok (d :: ds)) env) : kO2 d Q (.ok ds) env := k
theorem kO2_er {d : O} {x : Ex} {Q : Kt (List O)} (k : Q (.error x) env) : kO2 d Q (.error x) env := k
def kLstO (Q : Kt O) : Kt (List O) := fun r e => match r with
  | .ok os => os.length ≤ sizeLine ∧ Q (.ok (.lst os)) e
  | .error x => Q (.error x) e
theorem wp_oLstO {f : M (List O)} {Q : Kt O} (h : wp f env (kLstO Q)) : wp (oLstO f) env Q := by
  refine wp_bd (h.mono fun r e q => ?_)
  cases r with
  | error x => exact q
  | ok os => exact wp_lift (if_pos q.1) q.2
theorem kLstO_ok {os : List O} {Q : Kt O} (h : os.length ≤ sizeLine) (k : Q (.ok (.lst os)) env) : kLstO Q (.ok os) env := ⟨h, k⟩
theorem kLstO_er {x : Ex} {Q : Kt O} (k : Q (.error x) env) : kLstO Q (.error x) env := k
/-! ### readers made results -/
def kRd {β : Type} (g : D → Option β) (Q : Kt β) : Kt Rdr := fun r e => match r with
  | .ok rd => ∃ x d, rd e = some x ∧ g x = some d ∧ Q (.ok d) e
  | .error x => Q (.error x) e
theorem wp_rd {β : Type} {g : D → Option β} {f : M Rdr} {Q : Kt β} (h : wp f env (kRd g Q)) : wp (M.bd f fun rd env => M.lift ((rd env).bind g) env) env Q := by
  refine wp_bd (h.mono fun r e q => ?_)
  cases r with
  | error x => exact q
  | ok rd =>
    obtain ⟨x, d, h5, h6, h7⟩ := q
    exact ⟨.ok d, e, by dsimp only; rw [h5]; simp only [Option.bind_some]; rw [h6]; rfl, h7⟩
theorem kRd_ok {β : Type} {g : D → Option β} {rd : Rdr} {Q : Kt β} {x : D} {d : β} (h1 : Reads rd env x) (h2 : g x = some d) (k : Q (.ok d) env) : kRd g Q (.ok rd) env := ⟨x, d, h1, h2, k⟩
theorem kRd_er {β : Type} {g : D → Option β} {Q : Kt β} {x : Ex} (k : Q (.error x) env) : kRd g Q (.error x) env := k
def dListO (d : D) : Option O := match d with
  | .lst ds => some (O.lst (ds.map .val))
  | .tup ds => some (O.lst (ds.map .val))
  | _ => none
def dRevO (d : D) : Option O := match d with
  | .lst ds => some (O.lst (ds.reverse.map .val))
  | .tup ds => some (O.val (.tup ds.reverse))
  | _ => none
theorem wp_oList {f : M Rdr} {Q : Kt O} (h : wp f env (kRd dListO Q)) : wp (oList f) env Q := wp_rd h
theorem wp_oRev {f : M Rdr} {Q : Kt O} (h : wp f env (kRd dRevO Q)) : wp (oRev f) env Q := wp_rd h
/-! ### slices -/
def kSP (Q : Kt (Option Int)) : Kt D := fun r e => match r with
  | .ok (.int i) => Q (.ok (some i)) e
  | .ok _ => False
  | .error x => Q (.error x) e
theorem wp_sN {Q : Kt (Option Int)} (k : Q (.ok none) env) : wp sN env Q := wp_ret k
theorem wp_sP {f : M D} {Q : Kt (Option Int)} (h : wp f env (kSP Q)) : wp (sP f) env Q := by
  refine wp_bd (h.mono fun r e q => ?_)
  cases r with
  | error x => exact q
  | ok d => cases d with
    | int i => exact wp_lift rfl q
    | _ => exact q.elim
theorem kSP_ok {i : Int} {Q : Kt (Option Int)} (k : Q (.ok (some i)) env) : kSP Q (.ok (.int i)) env := k
theorem kSP_er {x : Ex} {Q : Kt (Option Int)} (k : Q (.error x) env) : kSP Q (.error x) env := k
def kCut3 (rd : Rdr) (lo : Option Int) (Q : Kt O) : Kt (Option Int) := fun r e => match r with
  | .ok hi => ∃ x o, rd e = some x ∧ dCutO x lo hi = some o ∧ Q (.ok o) e
  | .error x => Q (.error x) e
def kCut2 (rd : Rdr) (h : M (Option Int)) (Q : Kt O) : Kt (Option Int) := fun r e => match r with
  | .ok lo => wp h e (kCut3 rd lo Q)
  | .error x => Q (.error x) e
def kCut1 (l h : M (Option Int)) (Q : Kt O) : Kt Rdr := fun r e => match r with
  | .ok rd => wp l e (kCut2 rd h Q)
  | .error x => Q (.error x) e
theorem wp_oCutA {f : M Rdr} {l h : M (Option Int)} {Q : Kt O} (k : wp f env (kCut1 l h Q)) : wp (oCutA f l h) env Q := by
  refine wp_bd (k.mono fun r e q => ?_)
  cases r with
  | error x => exact q
  | ok rd =>
    refine wp_bd (wp.mono q fun r e q => ?_)
    cases r with
    | error x => exact q
    | ok lo =>
      refine wp_bd (wp.mono q fun r e q => ?_)
      cases r with
      | error x => exact q
      | ok hi =>
        obtain ⟨x, o, e1, e2, e3⟩ := q
        exact ⟨.ok o, e, by dsimp only; rw [e1]; simp only [Option.bind_some]; rw [e2]; rfl, e3⟩
theorem kCut1_ok {rd : Rdr} {l h : M (Option Int)} {Q : Kt O} (k : wp l env (kCut2 rd h Q)) : kCut1 l h Q (.ok rd) env := k
theorem kCut2_ok {rd : Rdr} {lo : Option Int} {h : M (Option Int)} {Q : Kt O} (k : wp h env (kCut3 rd lo Q)) : kCut2 rd h Q (.ok lo) env := k
theorem kCut3_ok {rd : Rdr} {lo hi : Option Int} {x : D} {o : O} {Q : Kt O} (h1 : Reads rd env x) (h2 : dCutO x lo hi = some o) (k : Q (.ok o) env) : kCut3 rd lo Q (.ok hi) env := ⟨x, o, h1, h2, k⟩
/-! ### lists -/
def kAdd2 (ra : Rdr) (Q : Kt O) : Kt Rdr := fun r e => match r with
  | .ok rb => ∃ x y o, ra e = some x ∧ rb e = some y ∧ dAddO x y = some o ∧ Q (.ok o) e
  | .error x => Q (.error x) e
def kAdd1 (fb : M Rdr) (Q : Kt O) : Kt Rdr := fun r e => match r with
  | .ok ra => wp fb e (kAdd2 ra Q)
  | .error x => Q (.error x) e
theorem wp_oAdd {fa fb : M Rdr} {Q : Kt O} (h : wp fa env (kAdd1 fb Q)) : wp (oAdd fa fb) env Q := by
  refine wp_bd (h.mono fun r e q => ?_)
  cases r with
  | error x => exact q
  | ok ra =>
    refine wp_bd (wp.mono q fun r e q => ?_)
    cases r with
    | error x => exact q
    | ok rb =>
      obtain ⟨x, y, d, h5, h6, h7, h8⟩ := q
      exact ⟨.ok d, e, by dsimp only; rw [h5, h6]; simp only [Option.bind_some]; rw [h7]; rfl, h8⟩
theorem kAdd1_ok {ra : Rdr} {fb : M Rdr} {Q : Kt O} (k : wp fb env (kAdd2 ra Q)) : kAdd1 fb Q (.ok ra) env := k
theorem kAdd2_ok {ra rb : Rdr} {x y : D} {o : O} {Q : Kt O} (h1 : Reads ra env x) (h2 : Reads rb env y) (h3 : dAddO x y = some o) (k : Q (.ok o) env) : kAdd2 ra Q (.ok rb) env := ⟨x, y, o, h1, h2, h3, k⟩
theorem dAddO_lst {a b : List D} (h : a.length + b.length ≤ sizeLine) : dAddO (.lst a) (.lst b) = some (.lst ((a ++ b).map .val)) := if_pos h
def kApp (i : Nat) (p : Pth) (Q : Kt O) : Kt O := fun r e => match r with
  | .ok o => ∃ x os x', e[i]? = some (some x) ∧ x.at p = some (.lst os) ∧ os.length < sizeLine ∧ x.put p (.lst (os ++ [o])) = some x' ∧ Q (.ok (.val .non)) (e.set i (some x'))
  | .error x => Q (.error x) e
theorem wp_oAppend {i : Nat} {p : Pth} {f : M O} {os : List O} {Q : Kt O} (h0 : Env.at env i p = some (.lst os)) (h : wp f env (kApp i p Q)) : wp (oAppend i p f) env Q := by
  have g : wp (M.bd f (fun o => atL i p fun os => if os.length < sizeLine then some (.val .non, os ++ [o]) else none)) env Q := by
    refine wp_bd (h.mono fun r e q => ?_)
    cases r with
    | error x => exact q
    | ok o =>
      obtain ⟨x, os, x', e1, e2, e3, e4, e5⟩ := q
      refine ⟨.ok (.val .non), e.set i (some x'), ?_, e5⟩
      unfold atL
      dsimp only
      rw [e1]; dsimp only; rw [e2]; dsimp only; rw [if_pos e3]; dsimp only; rw [e4]
  obtain ⟨r, e, h1, h2⟩ := g
  exact ⟨r, e, by unfold oAppend; rw [h0]; exact h1, h2⟩
theorem kApp_ok {i : Nat} {p : Pth} {Q : Kt O} {o x x' : O} {os : List O} (h1 : env[i]? = some (some x)) (h2 : x.at p = some (.lst os)) (h3 : os.length < sizeLine) (h4 : x.put p (.lst (os ++ [o])) = some x') (s : SetAt env i (some x') env1) (k : Q (.ok (.val .non)) env1) : kApp i p Q (.ok o) env :=
  ⟨x, os, x', h1, h2, h3, h4, by rw [s.eq.2]; exact k⟩
theorem wp_oPop {i : Nat} {p : Pth} {Q : Kt O} {o x x' : O} {os os' : List O} (h1 : env[i]? = some (some x)) (h2 : x.at p = some (.lst os)) (h3 : os = os' ++ [o]) (h4 : x.put p (.lst os') = some x') (s : SetAt env i (some x') env1) (k : Q (.ok o) env1) : wp (oPop i p) env Q := by
  subst h3
  refine ⟨.ok o, env1, ?_, k⟩
  unfold oPop atL
  rw [h1]; dsimp only; rw [h2]; dsimp only
  rw [List.getLast?_concat]
  dsimp only [Option.map]
  rw [List.dropLast_concat, h4]; dsimp only; rw [s.eq.2]
def kPut2 (i : Nat) (p : Pth) (o : O) (Q : Kt Fl) : Kt D := fun r e => match r with
  | .ok d => ∃ x os x' n j, d = .int n ∧ e[i]? = some (some x) ∧ x.at p = some (.lst os) ∧ ixN os.length n = some j ∧ x.put p (.lst (os.set j o)) = some x' ∧ Q (.ok .nx) (e.set i (some x'))
  | .error x => Q (.error x) e
def kPut1 (i : Nat) (p : Pth) (g : M D) (Q : Kt Fl) : Kt O := fun r e => match r with
  | .ok o => (∃ os, Env.at e i p = some (.lst os)) ∧ wp g e (kPut2 i p o Q)
  | .error x => Q (.error x) e
theorem wp_sPut {i : Nat} {p : Pth} {f : M O} {g : M D} {Q : Kt Fl} (h : wp f env (kPut1 i p g Q)) : wp (sPut i p f g) env Q := by
  refine wp_bd (h.mono fun r e q => ?_)
  cases r with
  | error x => exact q
  | ok o =>
    obtain ⟨⟨os, h3⟩, q⟩ := q
    have g : wp (M.bd g (fun d => M.bd (atL i p fun os => match d with
      | .int n => (ixN os.length n).map fun j => ((), os.set j o)
      | _ => none) fun _ => sNx)) e Q := by
      refine wp_bd (wp.mono q fun r e q => ?_)
      cases r with
      | error x => exact q
      | ok d =>
        obtain ⟨x, os, x', n, j, rfl, e1, e2, e3, e4, e5⟩ := q
        refine wp_bd ⟨.ok (), e.set i (some x'), ?_, wp_ret e5⟩
        unfold atL
        rw [e1]; dsimp only; rw [e2]; dsimp only; rw [e3]; dsimp only [Option.map]; rw [e4]
    obtain ⟨r, e', h1, h2⟩ := g
    exact ⟨r, e', by dsimp only; rw [h3]; exact h1, h2⟩
theorem kPut1_ok {i : Nat} {p : Pth} {g : M D} {o : O} {os : List O} {Q : Kt Fl} (h : Env.at env i p = some (.lst os)) (k : wp g env (kPut2 i p o Q)) : kPut1 i p g Q (.ok o) env := ⟨⟨os, h⟩, k⟩
theorem kPut2_ok {i : Nat} {p : Pth} {o x x' : O} {os : List O} {n : Int} {j : Nat} {Q : Kt Fl} (h1 : env[i]? = some (some x)) (h2 : x.at p = some (.lst os)) (h3 : ixN os.length n = some j) (h4 : x.put p (.lst (os.set j o)) = some x') (s : SetAt env i (some x') env1) (k : Q (.ok .nx) env1) : kPut2 i p o Q (.ok (.int n)) env :=
  ⟨x, os, x', n, j, rfl, h1, h2, h3, h4, by rw [s.eq.2]; exact k⟩
/-! ### statements -/
def kSeq (g : M Fl) (Q : Kt Fl) : Kt Fl := fun r e => match r with
  | .ok .nx => wp g e Q
  | r => Q r e
theorem wp_sSeq {f g : M Fl} {Q : Kt Fl} (h : wp f env (kSeq g Q)) : wp (sSeq f g) env Q := by
  refine wp_bd (h.mono fun r e q => ?_)
  cases r with
  | error x => exact q
  | ok l => cases l with
    | nx => exact q
    | bk => exact wp_ret q
    | ct => exact wp_ret q
    | ret o => exact wp_ret q
theorem kSeq_nx {g : M Fl} {Q : Kt Fl} (k : wp g env Q) : kSeq g Q (.ok .nx) env := k
theorem kSeq_bk {g : M Fl} {Q : Kt Fl} (k : Q (.ok .bk) env) : kSeq g Q (.ok .bk) env := k
theorem kSeq_ct {g : M Fl} {Q : Kt Fl} (k : Q (.ok .ct) env) : kSeq g Q (.ok .ct) env := k
theorem kSeq_rt {g : M Fl} {Q : Kt Fl} {o : O} (k : Q (.ok (.ret o)) env) : kSeq g Q (.ok (.ret o)) env := k
theorem kSeq_er {g : M Fl} {Q : Kt Fl} {x : Ex} (k : Q (.error x) env) : kSeq g Q (.error x) env := k
theorem wp_sNx {Q : Kt Fl} (k : Q (.ok .nx) env) : wp sNx env Q := wp_ret k
def kRet (Q : Kt Fl) : Kt O := fun r e => match r with
  | .ok o => Q (.ok (.ret o)) e
  | .error x => Q (.error x) e
theorem wp_sRet {f : M O} {Q : Kt Fl} (h : wp f env (kRet Q)) : wp (sRet f) env Q := by
  refine wp_bd (h.mono fun r e q => ?_)
  cases r with
  | error x => exact q
  | ok o => exact wp_ret q
theorem kRet_ok {o : O} {Q : Kt Fl} (k : Q (.ok (.ret o)) env) : kRet Q (.ok o) env := k
theorem kRet_er {x : Ex} {Q : Kt Fl} (k : Q (.error x) env) : kRet Q (.error x) env := k
def kDrop (Q : Kt Fl) : Kt O := fun r e => match r with
  | .ok _ => Q (.ok .nx) e
  | .error x => Q (.error x) e
theorem wp_sDrop {f : M O} {Q : Kt Fl} (h : wp f env (kDrop Q)) : wp (sDrop f) env Q := by
  refine wp_bd (h.mono fun r e q => ?_)
  cases r with
  | error x => exact q
  | ok o => exact wp_ret q
theorem kDrop_ok {o : O} {Q : Kt Fl} (k : Q (.ok .nx) env) : kDrop Q (.ok o) env := k
theorem kDrop_er {x : Ex} {Q : Kt Fl} (k : Q (.error x) env) : kDrop Q (.error x) env := k
def kTg (Q : Kt Fl) : Kt Unit := fun r e => match r with
  | .ok _ => Q (.ok .nx) e
  | .error x => Q (.error x) e
def kSet (g : O → M Unit) (Q : Kt Fl) : Kt O := fun r e => match r with
  | .ok o => wp (g o) e (kTg Q)
  | .error x => Q (.error x) e
theorem wp_sSet {f : M O} {g : O → M Unit} {Q : Kt Fl} (h : wp f env (kSet g Q)) : wp (sSet f g) env Q := by
  refine wp_bd (h.mono fun r e q => ?_)
  cases r with
  | error x => exact q
  | ok o =>
    refine wp_bd (wp.mono q fun r e q => ?_)
    cases r with
    | error x => exact q
    | ok u => exact wp_ret q
theorem kSet_ok {o : O} {g : O → M Unit} {Q : Kt Fl} (k : wp (g o) env (kTg Q)) : kSet g Q (.ok o) env := k
theorem kSet_er {x : Ex} {g : O → M Unit} {Q : Kt Fl} (k : Q (.error x) env) : kSet g Q (.error x) env := k
theorem kTg_ok {Q : Kt Fl} {u : Unit} (k : Q (.ok .nx) env) : kTg Q (.ok u) env := k
/-! ### a, b = .. -/
theorem wp_gTup {n : Nat} {f : List D → M Unit} {ds : List D} {Q : Kt Unit} (h : ds.length = n) (k : wp (f ds) env Q) : wp (gTup n f (.val (.tup ds))) env Q := by
  obtain ⟨r, e, h1, h2⟩ := k
  exact ⟨r, e, by unfold gTup; dsimp only; rw [if_pos h]; exact h1, h2⟩
theorem wp_gtNil {Q : Kt Unit} (k : Q (.ok ()) env) : wp (gtNil []) env Q := wp_ret k
def kGt (g : M Unit) (Q : Kt Unit) : Kt Unit := fun r e => match r with
  | .ok _ => wp g e Q
  | .error x => Q (.error x) e
theorem wp_gtCons {f : O → M Unit} {g : List D → M Unit} {d : D} {ds : List D} {Q : Kt Unit} (k : wp (f (.val d)) env (kGt (g ds) Q)) : wp (gtCons f g (d :: ds)) env Q := by
  refine wp_bd (k.mono fun r e q => ?_)
  cases r with
  | error x => exact q
  | ok o => exact q
theorem kGt_ok {g : M Unit} {u : Unit} {Q : Kt Unit} (k : wp g env Q) : kGt g Q (.ok u) env := k
def kPar (i j : Nat) (Q : Kt Fl) : Kt (List D) := fun r e => match r with
  | .ok ds => ∃ a b, ds = [a, b] ∧ i < e.length ∧ j < e.length ∧ Q (.ok .nx) ((e.set i (some (.val a))).set j (some (.val b)))
  | .error x => Q (.error x) e
theorem wp_sPar {i j : Nat} {f : M (List D)} {Q : Kt Fl} (h : wp f env (kPar i j Q)) : wp (sPar i j f) env Q := by
  refine wp_bd (h.mono fun r e q => ?_)
  cases r with
  | error x => exact q
  | ok ds =>
    obtain ⟨a, b, rfl, h1, h2, h3⟩ := q
    exact ⟨_, _, if_pos ⟨h1, h2⟩, h3⟩
theorem kPar_ok {i j : Nat} {a b : D} {Q : Kt Fl} (s : SetAt env i (some (.val a)) env1) (t : SetAt env1 j (some (.val b)) env2) (k : Q (.ok .nx) env2) : kPar i j Q (.ok [a, b]) env := by
  refine ⟨a, b, rfl, s.eq.1, ?_, ?_⟩
  · have := t.eq.1; rw [← s.eq.2, List.length_set] at this; exact this
  · rw [s.eq.2, t.eq.2]; exact k
theorem kPar_er {i j : Nat} {x : Ex} {Q : Kt Fl} (k : Q (.error x) env) : kPar i j Q (.error x) env := k
def kPar3 (i j l : Nat) (Q : Kt Fl) : Kt (List D) := fun r e => match r with
  | .ok ds => ∃ a b c, ds = [a, b, c] ∧ i < e.length ∧ j < e.length ∧ l < e.length ∧ Q (.ok .nx) (((e.set i (some (.val a))).set j (some (.val b))).set l (some (.val c)))
  | .error x => Q (.error x) e
theorem wp_sPar3 {i j l : Nat} {f : M (List D)} {Q : Kt Fl} (h : wp f env (kPar3 i j l Q)) : wp (sPar3 i j l f) env Q := by
  refine wp_bd (h.mono fun r e q => ?_)
  cases r with
  | error x => exact q
  | ok ds =>
    obtain ⟨a, b, c, rfl, h1, h2, h4, h3⟩ := q
    exact ⟨_, _, if_pos ⟨h1, h2, h4⟩, h3⟩
theorem kPar3_ok {i j l : Nat} {a b c : D} {env3 : Env} {Q : Kt Fl} (s : SetAt env i (some (.val a)) env1) (t : SetAt env1 j (some (.val b)) env2) (u : SetAt env2 l (some (.val c)) env3) (k : Q (.ok .nx) env3) : kPar3 i j l Q (.ok [a, b, c]) env := by
  refine ⟨a, b, c, rfl, s.eq.1, ?_, ?_, ?_⟩
  · have := t.eq.1; rw [← s.eq.2, List.length_set] at this; exact this
  · have := u.eq.1; rw [← t.eq.2, ← s.eq.2, List.length_set, List.length_set] at this; exact this
  · rw [s.eq.2, t.eq.2, u.eq.2]; exact k
/-! ### calls -/
def kG2 (a : Ag) (Q : Kt (List Ag)) : Kt (List Ag) := fun r e => match r with
  | .ok as => Q (.ok (a :: as)) e
  | .error x => Q (.error x) e
def kG1 (g : M (List Ag)) (Q : Kt (List Ag)) : Kt D := fun r e => match r with
  | .ok d => wp g e (kG2 (.v d) Q)
  | .error x => Q (.error x) e
theorem wp_gNl {Q : Kt (List Ag)} (k : Q (.ok []) env) : wp gNl env Q := wp_ret k
theorem wp_gV {f : M D} {g : M (List Ag)} {Q : Kt (List Ag)} (h : wp f env (kG1 g Q)) : wp (gV f g) env Q := by
  refine wp_bd (h.mono fun r e q => ?_)
  cases r with
  | error x => exact q
  | ok o =>
    refine wp_bd (wp.mono q fun r e q => ?_)
    cases r with
    | error x => exact q
    | ok u => exact wp_ret q
theorem wp_gP {i : Nat} {o : O} {g : M (List Ag)} {Q : Kt (List Ag)} (h0 : env[i]? = some (some o)) (h : wp g env (kG2 (.p i) Q)) : wp (gP i g) env Q := by
  have g : wp (M.bd g (fun as => M.ret (.p i :: as))) env Q := by
    refine wp_bd (h.mono fun r e q => ?_)
    cases r with
    | error x => exact q
    | ok ds => exact wp_ret q
  obtain ⟨r, e, h1, h2⟩ := g
  exact ⟨r, e, by unfold gP; rw [h0]; exact h1, h2⟩
theorem kG1_ok {g : M (List Ag)} {d : D} {Q : Kt (List Ag)} (k : wp g env (kG2 (.v d) Q)) : kG1 g Q (.ok d) env := k
theorem kG1_er {g : M (List Ag)} {x : Ex} {Q : Kt (List Ag)} (k : Q (.error x) env) : kG1 g Q (.error x) env := k
theorem kG2_ok {a : Ag} {as : List Ag} {Q : Kt (List Ag)} (k : Q (.ok (a :: as)) env) : kG2 a Q (.ok as) env := k
theorem kG2_er {a : Ag} {x : Ex} {Q : Kt (List Ag)} (k : Q (.error x) env) : kG2 a Q (.error x) env := k
inductive AgB (env : Env) : List Ag → List O → Prop where
  | nil : AgB env [] []
  | v {d : D} {as : List Ag} {os : List O} (h : AgB env as os) : AgB env (.v d :: as) (.val d :: os)
  | p {i : Nat} {o : O} {as : List Ag} {os : List O} (e : env[i]? = some (some o)) (h : AgB env as os) : AgB env (.p i :: as) (o :: os)
theorem AgB.eq {env : Env} {as : List Ag} {os : List O} (h : AgB env as os) : agos env as = some os := by
  induction h with
  | nil => rfl
  | v _ ih => unfold agos Ag.o; dsimp only; rw [ih]; rfl
  | p e _ ih => unfold agos Ag.o; dsimp only; rw [e, ih]; rfl
def kCal (m : Fn) (sh : List (Option Nat)) (Q : Kt O) : Kt (List Ag) := fun r e => match r with
  | .ok as => ∃ os, agos e as = some os ∧ wpF m os fun r out => Q r (putBack sh out e)
  | .error x => Q (.error x) e
theorem wp_oCall {m : Fn} {sh : List (Option Nat)} {f : M (List Ag)} {Q : Kt O} (h : wp f env (kCal m sh Q)) : wp (oCall m sh f) env Q := by
  refine wp_bd (h.mono fun r e q => ?_)
  cases r with
  | error x => exact q
  | ok as =>
    obtain ⟨os, h1, r, out, h2, h3⟩ := q
    exact ⟨r, _, by dsimp only; rw [h1]; simp only [Option.bind_some]; rw [h2], h3⟩
/-- what a call leaves behind -/
def kBk (sh : List (Option Nat)) (e : Env) (Q : Kt O) : Kt O := fun r out => Q r (putBack sh out e)
theorem kCal_ok {m : Fn} {sh : List (Option Nat)} {as : List Ag} {os : List O} {Q : Kt O} (h : AgB env as os) (k : wpF m os (kBk sh env Q)) : kCal m sh Q (.ok as) env := ⟨os, h.eq, k⟩
theorem kCal_er {m : Fn} {sh : List (Option Nat)} {x : Ex} {Q : Kt O} (k : Q (.error x) env) : kCal m sh Q (.error x) env := k
theorem kBk_ok {sh : List (Option Nat)} {out : Env} {r : Except Ex O} {Q : Kt O} (h : PutB sh out env env1) (k : Q r env1) : kBk sh env Q r out := by
  unfold kBk; rw [h.eq]; exact k
def kOrd (π : List Nat) (Q : Kt (List Ag)) : Kt (List Ag) := fun r e => match r with
  | .ok as => Q (.ok (ord π (.v .non) as)) e
  | .error x => Q (.error x) e
theorem wp_ord {π : List Nat} {f : M (List Ag)} {Q : Kt (List Ag)} (h : wp f env (kOrd π Q)) : wp (M.map (ord π (.v .non)) f) env Q := by
  refine wp_bd (h.mono fun r e q => ?_)
  cases r with
  | error x => exact q
  | ok as => exact wp_ret q
theorem kOrd_ok {π : List Nat} {as as' : List Ag} {Q : Kt (List Ag)} (h : ord π (.v .non) as = as') (k : Q (.ok as') env) : kOrd π Q (.ok as) env := by unfold kOrd; dsimp only; rw [h]; exact k
def kBoth2 (as : List Ag) (Q : Kt (List Ag)) : Kt (List Ag) := fun r e => match r with
  | .ok bs => Q (.ok (as ++ bs)) e
  | .error x => Q (.error x) e
def kBoth1 (g : M (List Ag)) (Q : Kt (List Ag)) : Kt (List Ag) := fun r e => match r with
  | .ok as => wp g e (kBoth2 as Q)
  | .error x => Q (.error x) e
theorem wp_aBoth {f g : M (List Ag)} {Q : Kt (List Ag)} (h : wp f env (kBoth1 g Q)) : wp (aBoth f g) env Q := by
  refine wp_bd (h.mono fun r e q => ?_)
  cases r with
  | error x => exact q
  | ok o =>
    refine wp_bd (wp.mono q fun r e q => ?_)
    cases r with
    | error x => exact q
    | ok u => exact wp_ret q
theorem kBoth1_ok {g : M (List Ag)} {as : List Ag} {Q : Kt (List Ag)} (k : wp g env (kBoth2 as Q)) : kBoth1 g Q (.ok as) env := k
theorem kBoth2_ok {as bs : List Ag} {Q : Kt (List Ag)} (k : Q (.ok (as ++ bs)) env) : kBoth2 as Q (.ok bs) env := k
/-! ### a def -/
def kDf (io : List Nat) (n : Nat) (Q : Kt O) : Kt Fl := fun r e => match r with
  | .ok .nx => Q (.ok (.val .non)) (outs io n e)
  | .ok (.ret o) => Q (.ok o) (outs io n e)
  | .error x => Q (.error x) (outs io n e)
  | _ => False
theorem wpF_dfn {n N : Nat} {io : List Nat} {b : M Fl} {os : List O} {Q : Kt O} (h : os.map some ++ List.replicate (N - n) none = env) (k : wp b env (kDf io n Q)) : wpF (dfn n N io b) os Q := by
  subst h
  obtain ⟨r, e, h1, h2⟩ := k
  unfold wpF dfn
  rw [h1]
  cases r with
  | error x => exact ⟨_, _, rfl, h2⟩
  | ok l => cases l with
    | nx => exact ⟨_, _, rfl, h2⟩
    | ret o => exact ⟨_, _, rfl, h2⟩
    | bk => exact h2.elim
    | ct => exact h2.elim
theorem kDf_nx {io : List Nat} {n : Nat} {out : Env} {Q : Kt O} (h : outs io n env = out) (k : Q (.ok (.val .non)) out) : kDf io n Q (.ok .nx) env := by subst h; exact k
theorem kDf_rt {io : List Nat} {n : Nat} {out : Env} {o : O} {Q : Kt O} (h : outs io n env = out) (k : Q (.ok o) out) : kDf io n Q (.ok (.ret o)) env := by subst h; exact k
theorem kDf_er {io : List Nat} {n : Nat} {out : Env} {x : Ex} {Q : Kt O} (h : outs io n env = out) (k : Q (.error x) out) : kDf io n Q (.error x) env := by subst h; exact k
/-! ### loops -/
def kFor (g : O → M Unit) (b : M Fl) (Q : Kt Fl) : Kt (List D) := fun r e => match r with
  | .ok ds => wp (forF g b ds) e Q
  | .error x => Q (.error x) e
theorem wp_sFor {f : M (List D)} {g : O → M Unit} {b : M Fl} {Q : Kt Fl} (h : wp f env (kFor g b Q)) : wp (sFor f g b) env Q := by
  refine wp_bd (h.mono fun r e q => ?_)
  cases r with
  | error x => exact q
  | ok o => exact q
theorem kFor_ok {g : O → M Unit} {b : M Fl} {ds : List D} {Q : Kt Fl} (k : wp (forF g b ds) env Q) : kFor g b Q (.ok ds) env := k
theorem kFor_er {g : O → M Unit} {b : M Fl} {x : Ex} {Q : Kt Fl} (k : Q (.error x) env) : kFor g b Q (.error x) env := k
/-- behind a turn -/
def kLp (I : Env → Prop) (Q : Kt Fl) : Kt Fl := fun r e => match r with
  | .ok .nx => I e
  | .ok .ct => I e
  | .ok .bk => Q (.ok .nx) e
  | .ok (.ret o) => Q (.ok (.ret o)) e
  | .error x => Q (.error x) e
theorem kLp_nx {I : Env → Prop} {Q : Kt Fl} (k : I env) : kLp I Q (.ok .nx) env := k
theorem kLp_ct {I : Env → Prop} {Q : Kt Fl} (k : I env) : kLp I Q (.ok .ct) env := k
theorem kLp_bk {I : Env → Prop} {Q : Kt Fl} (k : Q (.ok .nx) env) : kLp I Q (.ok .bk) env := k
theorem kLp_rt {I : Env → Prop} {o : O} {Q : Kt Fl} (k : Q (.ok (.ret o)) env) : kLp I Q (.ok (.ret o)) env := k
theorem kLp_er {I : Env → Prop} {x : Ex} {Q : Kt Fl} (k : Q (.error x) env) : kLp I Q (.error x) env := k
theorem wp_back {b k : M Fl} {Q : Kt Fl} {I : Env → Prop} (h : wp b env (kLp I Q)) (h2 : ∀ e, I e → wp k e Q) : wp (sBack b k) env Q := by
  refine wp_bd (h.mono fun r e q => ?_)
  cases r with
  | error x => exact q
  | ok l => cases l with
    | nx => exact h2 e q
    | ct => exact h2 e q
    | bk => exact wp_ret q
    | ret o => exact wp_ret q
def kTgB (b : M Fl) (Q : Kt Fl) : Kt Unit := fun r e => match r with
  | .ok _ => wp b e Q
  | .error _ => False
theorem kTgB_ok {b : M Fl} {u : Unit} {Q : Kt Fl} (k : wp b env Q) : kTgB b Q (.ok u) env := k
theorem wp_forF {g : O → M Unit} {b : M Fl} {Q : Kt Fl} (I : Nat → Env → Prop) (ds : List D) (h0 : I 0 env) (hs : ∀ i d e, ds[i]? = some d → I i e → wp (g (.val d)) e (kTgB b (kLp (I (i + 1)) Q))) (hd : ∀ e, I ds.length e → Q (.ok .nx) e) : wp (forF g b ds) env Q := by
  induction ds generalizing I env with
  | nil => exact wp_ret (hd _ h0)
  | cons d ds ih =>
    refine wp_bd ((hs 0 d env rfl h0).mono fun r e q => ?_)
    cases r with
    | error x => exact q.elim
    | ok u => exact wp_back q fun e' i1 => ih (fun i => I (i + 1)) i1 (fun i d e h => hs (i + 1) d e h) hd
theorem wp_sWhile {c : M Bool} {b : M Fl} {Q : Kt Fl} (I : Nat → Env → Prop) (n : Nat) (h0 : I n env) (hw : ∀ n e, I n e → wp c e fun r e => match r with
    | .ok true => wp b e (kLp (fun e => ∃ m, m < n ∧ I m e) Q)
    | .ok false => Q (.ok .nx) e
    | .error x => Q (.error x) e) : wp (sWhile c b) env Q := by
  induction n using Nat.strongRecOn generalizing env with
  | ind n ih =>
    have e1 : wp (M.bd c (fun k => if k = true then sBack b (sWhile c b) else sNx)) env Q := by
      refine wp_bd ((hw n env h0).mono fun r e q => ?_)
      cases r with
      | error x => exact q
      | ok k => cases k with
        | true => exact wp_back q fun e' ⟨m, hm, i1⟩ => ih m hm i1
        | false => exact wp_ret q
    obtain ⟨r, e, h1, h2⟩ := e1
    exact ⟨r, e, by rw [sWhile_eq]; exact h1, h2⟩
/-- the test of a loop: on, or out -/
def kWh (b : M Fl) (R : Kt Fl) (Q : Kt Fl) : Kt Bool := fun r e => match r with
  | .ok true => wp b e R
  | .ok false => Q (.ok .nx) e
  | .error x => Q (.error x) e
theorem wp_while {c : M Bool} {b : M Fl} {Q : Kt Fl} (I : Nat → Env → Prop) (n : Nat) (h0 : I n env) (hw : ∀ n e, I n e → wp c e (kWh b (kLp (fun e => ∃ m, m < n ∧ I m e) Q) Q)) : wp (sWhile c b) env Q :=
  wp_sWhile I n h0 fun n e i => (hw n e i).mono fun r e q => by
    cases r with
    | error x => exact q
    | ok k => cases k <;> exact q
theorem kWh_t {b : M Fl} {R Q : Kt Fl} (k : wp b env R) : kWh b R Q (.ok true) env := k
theorem kWh_f {b : M Fl} {R Q : Kt Fl} (k : Q (.ok .nx) env) : kWh b R Q (.ok false) env := k
theorem kWh_d {p : Prop} [Decidable p] {b : M Fl} {R Q : Kt Fl} (h : p → wp b env R) (k : ¬ p → Q (.ok .nx) env) : kWh b R Q (.ok (decide p)) env := by
  by_cases hp : p
  · rw [decide_eq_true hp]; exact h hp
  · rw [decide_eq_false hp]; exact k hp
theorem kWh_b {k0 : Bool} {b : M Fl} {R Q : Kt Fl} (h : k0 = true → wp b env R) (k : k0 = false → Q (.ok .nx) env) : kWh b R Q (.ok k0) env := by
  cases k0 with
  | true => exact h rfl
  | false => exact k rfl
/-! ### comprehensions -/
def kLe (own : List Nat) (acc : List O) (J : List O → Env → Prop) : Kt O := fun r e => match r with
  | .ok o => J (acc ++ [o]) (wipeE own e)
  | .error _ => False
def kLcd (own : List Nat) (el : M O) (acc : List O) (J : List O → Env → Prop) : Kt Bool := fun r e => match r with
  | .ok true => wp el e (kLe own acc J)
  | .ok false => J acc (wipeE own e)
  | .error _ => False
def kLg (own : List Nat) (c : M Bool) (el : M O) (acc : List O) (J : List O → Env → Prop) : Kt Unit := fun r e => match r with
  | .ok _ => wp c e (kLcd own el acc J)
  | .error _ => False
theorem kLg_ok {own : List Nat} {c : M Bool} {el : M O} {acc : List O} {J : List O → Env → Prop} {u : Unit} (k : wp c env (kLcd own el acc J)) : kLg own c el acc J (.ok u) env := k
theorem kLcd_t {own : List Nat} {el : M O} {acc : List O} {J : List O → Env → Prop} (k : wp el env (kLe own acc J)) : kLcd own el acc J (.ok true) env := k
theorem kLcd_f {own : List Nat} {el : M O} {acc : List O} {J : List O → Env → Prop} (h : WipB own env env1) (k : J acc env1) : kLcd own el acc J (.ok false) env := by unfold kLcd; dsimp only; rw [h.eq]; exact k
theorem kLcd_b {b : Bool} {own : List Nat} {el : M O} {acc : List O} {J : List O → Env → Prop} (h : WipB own env env1) (k1 : b = true → wp el env (kLe own acc J)) (k : b = false → J acc env1) : kLcd own el acc J (.ok b) env := by
  cases b with
  | true => exact k1 rfl
  | false => exact kLcd_f h (k rfl)
theorem kLcd_d {p : Prop} [Decidable p] {own : List Nat} {el : M O} {acc : List O} {J : List O → Env → Prop} (h : WipB own env env1) (k1 : p → wp el env (kLe own acc J)) (k : ¬ p → J acc env1) : kLcd own el acc J (.ok (decide p)) env := kLcd_b h (fun e => k1 (of_decide_eq_true e)) (fun e => k (of_decide_eq_false e))
theorem kLe_ok {own : List Nat} {acc : List O} {J : List O → Env → Prop} {o : O} (h : WipB own env env1) (k : J (acc ++ [o]) env1) : kLe own acc J (.ok o) env := by unfold kLe; dsimp only; rw [h.eq]; exact k
theorem lcF_run {own : List Nat} {g : O → M Unit} {c : M Bool} {el : M O} (J : Nat → List O → Env → Prop) (ds : List D) : ∀ (k : Nat) (acc : List O) (env : Env), J k acc env → k ≤ ds.length →
    (∀ i d acc e, ds[i]? = some d → J i acc e → wp (g (.val d)) e (kLg own c el acc (J (i + 1)))) → ∃ os e, lcF own g c el (ds.drop k) env = some (os, e) ∧ J ds.length (acc ++ os) e := by
  intro k
  generalize hn : ds.length - k = n
  induction n generalizing k with
  | zero =>
    intro acc env j hk hs
    have : k = ds.length := by omega
    subst this
    rw [List.drop_length]
    exact ⟨[], env, rfl, by rw [List.append_nil]; exact j⟩
  | succ n ih =>
    intro acc env j hk hs
    have hlt : k < ds.length := by omega
    rw [List.drop_eq_getElem_cons hlt]
    obtain ⟨r, e1, h1, h2⟩ := hs k ds[k] acc env (List.getElem?_eq_getElem hlt) j
    unfold lcF
    rw [h1]
    cases r with
    | error x => exact h2.elim
    | ok u =>
      obtain ⟨r, e2, h3, h4⟩ := h2
      dsimp only
      rw [h3]
      cases r with
      | error x => exact h4.elim
      | ok b => cases b with
        | false =>
          obtain ⟨os, e, h5, h6⟩ := ih (k + 1) (by omega) acc _ h4 hlt hs
          exact ⟨os, e, h5, h6⟩
        | true =>
          obtain ⟨r, e3, h5, h6⟩ := h4
          dsimp only
          rw [h5]
          cases r with
          | error x => exact h6.elim
          | ok o =>
            obtain ⟨os, e, h7, h8⟩ := ih (k + 1) (by omega) _ _ h6 hlt hs
            exact ⟨o :: os, e, by dsimp only; rw [h7]; rfl, by rw [List.append_cons]; exact h8⟩
def kLc (own : List Nat) (g : O → M Unit) (c : M Bool) (el : M O) (Q : Kt O) : Kt (List D) := fun r e => match r with
  | .ok ds => ds.length ≤ sizeLine ∧ ∃ os eB, lcF own g c el ds (wipeE own e) = some (os, eB) ∧ Q (.ok (.lst os)) (backE own e eB)
  | .error x => Q (.error x) e
theorem wp_oLc {own : List Nat} {f : M (List D)} {g : O → M Unit} {c : M Bool} {el : M O} {Q : Kt O} (h : wp f env (kLc own g c el Q)) : wp (oLc own f g c el) env Q := by
  refine wp_bd (h.mono fun r e q => ?_)
  cases r with
  | error x => exact q
  | ok ds =>
    obtain ⟨h1, os, eB, h2, h3⟩ := q
    exact ⟨.ok (.lst os), backE own e eB, by dsimp only; rw [if_pos h1, h2], h3⟩
theorem kLc_ok {own : List Nat} {g : O → M Unit} {c : M Bool} {el : M O} {Q : Kt O} {ds : List D} (J : Nat → List O → Env → Prop) (hl : ds.length ≤ sizeLine) (hw : WipB own env env1) (h0 : J 0 [] env1)
    (hs : ∀ i d acc e, ds[i]? = some d → J i acc e → wp (g (.val d)) e (kLg own c el acc (J (i + 1)))) (hd : ∀ os e, J ds.length os e → ∃ e', BackB own env e e' ∧ Q (.ok (.lst os)) e') : kLc own g c el Q (.ok ds) env := by
  obtain ⟨os, e, h1, h2⟩ := lcF_run J ds 0 [] env1 h0 (Nat.zero_le _) hs
  rw [List.nil_append] at h2
  obtain ⟨e', h3, h4⟩ := hd os e h2
  exact ⟨hl, os, e, by rw [hw.eq]; exact h1, by rw [h3.eq]; exact h4⟩
end
end PL
/-! PW2: what the operators give. -/
namespace PL
open PySem L2
theorem op_add (i j : Int) : dAdd (.int i) (.int j) = some (.int (i + j)) := id rfl
theorem op_sub (i j : Int) : dSub (.int i) (.int j) = some (.int (i - j)) := id rfl
theorem op_lt (i j : Int) : dLt (.int i) (.int j) = some (.bl (decide (i < j))) := id rfl
theorem op_le (i j : Int) : dLe (.int i) (.int j) = some (.bl (decide (i ≤ j))) := id rfl
theorem op_gt (i j : Int) : dGt (.int i) (.int j) = some (.bl (decide (j < i))) := id rfl
theorem op_ge (i j : Int) : dGe (.int i) (.int j) = some (.bl (decide (j ≤ i))) := id rfl
theorem op_neg (i : Int) : dNeg (.int i) = some (.int (-i)) := id rfl
theorem op_int (i : Int) : dInt (.int i) = some (.int i) := id rfl
theorem op_abs (i : Int) : dAbs (.int i) = some (.int (if i < 0 then -i else i)) := id rfl
theorem op_len_l (ds : List D) : dLen (.lst ds) = some (.int ds.length) := id rfl
theorem op_len_n : dLen (.lst []) = some (.int 0) := id rfl
theorem op_len_t (ds : List D) : dLen (.tup ds) = some (.int ds.length) := id rfl
theorem op_tup_l (ds : List D) : dTuple (.lst ds) = some (.tup ds) := id rfl
theorem op_tup_t (ds : List D) : dTuple (.tup ds) = some (.tup ds) := id rfl
theorem op_mod {i j : Int} (h : 0 < j) : dMod (.int i) (.int j) = some (.int (i % j)) := if_pos (decide_eq_true h)
theorem op_floor {i j : Int} (h : 0 < j) (h2 : j < 18446744073709551616) : dFloor (.int i) (.int j) = some (.int (i / j)) := by
  refine if_pos ?_
  have h3 : j.natAbs.log2 < 9000 := by
    by_cases z : j.natAbs = 0
    · omega
    · rw [Nat.log2_lt z]
      have : j.natAbs < 2 ^ 64 := by omega
      exact Nat.lt_of_lt_of_le this (Nat.pow_le_pow_right (by decide) (by decide))
  simp [h, h3]
theorem op_mul_r {i j : Int} (h : -18446744073709551616 < j) (h2 : j < 18446744073709551616) : dMul (.int i) (.int j) = some (.int (i * j)) := by
  refine if_pos ?_
  have e : ((2 : Int) ^ 64) = 18446744073709551616 := by decide
  unfold mulOk
  rw [e]
  simp [h, h2]
theorem op_mul_l {i j : Int} (h : -18446744073709551616 < i) (h2 : i < 18446744073709551616) : dMul (.int i) (.int j) = some (.int (i * j)) := by
  refine if_pos ?_
  have e : ((2 : Int) ^ 64) = 18446744073709551616 := by decide
  unfold mulOk
  rw [e]
  simp [h, h2]

/-! ### == of plain data -/
/-- plain data, n deep; with truth values or without -/
def Pd (k : Bool) : Nat → D → Prop
  | n, d => match d with
    | .non => True
    | .bl _ => k = true
    | .int _ => True
    | .str x => PyData.strOk x = true
    | .tup ds => match n with
      | 0 => False
      | n + 1 => ∀ d ∈ ds, Pd k n d
    | .lst ds => match n with
      | 0 => False
      | n + 1 => ∀ d ∈ ds, Pd k n d
    | _ => False
theorem Pd.tup {k : Bool} {n : Nat} {ds : List D} (h : ∀ d ∈ ds, Pd k n d) : Pd k (n + 1) (.tup ds) := by unfold Pd; exact h
theorem Pd.lst {k : Bool} {n : Nat} {ds : List D} (h : ∀ d ∈ ds, Pd k n d) : Pd k (n + 1) (.lst ds) := by unfold Pd; exact h
theorem Pd.int {k : Bool} {n : Nat} {i : Int} : Pd k n (.int i) := by unfold Pd; exact trivial
theorem Pd.ints {k : Bool} {n : Nat} {is : List Int} : ∀ d ∈ is.map D.int, Pd k n d := fun d h => by
  obtain ⟨i, _, rfl⟩ := List.mem_map.mp h
  exact .int
theorem Pd.pys {k : Bool} {n : Nat} (ih : ∀ d, Pd k n d → ∃ p, D.py d = some p ∧ p.canLay0 = true ∧ p.depth ≤ n) : ∀ ds : List D, (∀ d ∈ ds, Pd k n d) → ∃ ps, D.pys ds = some ps ∧ PyData.canLayAll0 ps = true ∧ PyData.depthAll ps ≤ n
  | [], _ => ⟨[], by simp only [D.pys], rfl, Nat.zero_le _⟩
  | d :: ds, h => by
    obtain ⟨p, h1, h2, h3⟩ := ih d (h d (List.mem_cons_self ..))
    obtain ⟨ps, g1, g2, g3⟩ := Pd.pys ih ds fun e he => h e (List.mem_cons_of_mem _ he)
    refine ⟨p :: ps, by simp only [D.pys, h1, g1, Option.bind_some, Option.map_some], ?_, ?_⟩
    · simp only [PyData.canLayAll0, h2, g2, Bool.and_self]
    · simp only [PyData.depthAll]; omega
theorem Pd.py {k : Bool} : ∀ (n : Nat) (d : D), Pd k n d → ∃ p, D.py d = some p ∧ p.canLay0 = true ∧ p.depth ≤ n := by
  intro n
  induction n with
  | zero =>
    intro d h
    unfold Pd at h
    cases d with
    | non => exact ⟨.none, rfl, rfl, by simp [PyData.depth]⟩
    | bl b => exact ⟨.bool b, rfl, rfl, by simp [PyData.depth]⟩
    | int i => exact ⟨.int i, rfl, rfl, by simp [PyData.depth]⟩
    | str x => exact ⟨.str x, rfl, by simpa [PyData.canLay0] using h, by simp [PyData.depth]⟩
    | _ => exact h.elim
  | succ n ih =>
    intro d h
    unfold Pd at h
    cases d with
    | non => exact ⟨.none, rfl, rfl, by simp [PyData.depth]⟩
    | bl b => exact ⟨.bool b, rfl, rfl, by simp [PyData.depth]⟩
    | int i => exact ⟨.int i, rfl, rfl, by simp [PyData.depth]⟩
    | str x => exact ⟨.str x, rfl, by simpa [PyData.canLay0] using h, by simp [PyData.depth]⟩
    | tup ds =>
      obtain ⟨ps, g1, g2, g3⟩ := Pd.pys ih ds h
      exact ⟨.tuple ps, by simp only [D.py, g1, Option.map_some], by simp only [PyData.canLay0, g2], by simp only [PyData.depth]; omega⟩
    | lst ds =>
      obtain ⟨ps, g1, g2, g3⟩ := Pd.pys ih ds h
      exact ⟨.list ps, by simp only [D.py, g1, Option.map_some], by simp only [PyData.canLay0, g2], by simp only [PyData.depth]; omega⟩
    | _ => exact h.elim
mutual
theorem eqv_refl : ∀ p : PyData, p.canLay0 = true → PyData.eqv p p = true
  | .none, _ => by simp only [PyData.eqv]
  | .bool b, _ => by simp only [PyData.eqv, beq_self_eq_true]
  | .int b, _ => by simp only [PyData.eqv, beq_self_eq_true]
  | .str b, _ => by simp only [PyData.eqv, beq_self_eq_true]
  | .list ps, h => by simp only [PyData.eqv]; exact eqvAll_refl ps (by simpa [PyData.canLay0] using h)
  | .tuple ps, h => by simp only [PyData.eqv]; exact eqvAll_refl ps (by simpa [PyData.canLay0] using h)
  | .dict _, h => by simp [PyData.canLay0] at h
theorem eqvAll_refl : ∀ ps : List PyData, PyData.canLayAll0 ps = true → PyData.eqvAll ps ps = true
  | [], _ => by simp only [PyData.eqvAll]
  | p :: ps, h => by
    have h' : p.canLay0 = true ∧ PyData.canLayAll0 ps = true := by simpa [PyData.canLayAll0] using h
    simp only [PyData.eqvAll, eqv_refl p h'.1, eqvAll_refl ps h'.2, Bool.and_self]
end
theorem shaped_of {p : PyData} (h : p.canLay0 = true) (h2 : p.depth ≤ 64) : PySem.SeqAt.shaped p = true := by
  unfold PySem.SeqAt.shaped
  rw [h, decide_eq_true h2]; rfl
/-- same data are equal -/
theorem dEqB_refl {k : Bool} {n : Nat} {d : D} (h : Pd k n d) (hn : n ≤ 64) : dEqB d d = some true := by
  obtain ⟨p, h1, h2, h3⟩ := Pd.py n d h
  unfold dEqB
  rw [h1]
  dsimp only
  rw [shaped_of h2 (by omega)]
  exact congrArg some (eqv_refl p h2)
theorem eqvs_iff {n : Nat} (ih : ∀ d e : D, Pd false n d → ∀ (m : Nat) (p q : PyData), Pd false m e → D.py d = some p → D.py e = some q → (PyData.eqv p q = true ↔ d = e)) :
    ∀ (ds es : List D) (m : Nat) (ps qs : List PyData), (∀ d ∈ ds, Pd false n d) → (∀ d ∈ es, Pd false m d) → D.pys ds = some ps → D.pys es = some qs → (PyData.eqvAll ps qs = true ↔ ds = es)
  | [], [], m, ps, qs, h1, h2, h3, h4 => by
    simp only [D.pys, Option.some.injEq] at h3 h4
    subst h3 h4
    simp only [PyData.eqvAll]
  | [], e :: es, m, ps, qs, h1, h2, h3, h4 => by
    simp only [D.pys, Option.some.injEq, Option.bind_eq_some_iff, Option.map_eq_some_iff] at h3 h4
    obtain ⟨q, _, qs', _, rfl⟩ := h4
    subst h3
    simp [PyData.eqvAll]
  | d :: ds, [], m, ps, qs, h1, h2, h3, h4 => by
    simp only [D.pys, Option.some.injEq, Option.bind_eq_some_iff, Option.map_eq_some_iff] at h3 h4
    obtain ⟨q, _, qs', _, rfl⟩ := h3
    subst h4
    simp [PyData.eqvAll]
  | d :: ds, e :: es, m, ps, qs, h1, h2, h3, h4 => by
    simp only [D.pys, Option.bind_eq_some_iff, Option.map_eq_some_iff] at h3 h4
    obtain ⟨p, a1, ps', a2, rfl⟩ := h3
    obtain ⟨q, b1, qs', b2, rfl⟩ := h4
    have i1 := ih d e (h1 d (List.mem_cons_self ..)) m p q (h2 e (List.mem_cons_self ..)) a1 b1
    have i2 := eqvs_iff ih ds es m ps' qs' (fun x hx => h1 x (List.mem_cons_of_mem _ hx)) (fun x hx => h2 x (List.mem_cons_of_mem _ hx)) a2 b2
    simp only [PyData.eqvAll, Bool.and_eq_true, i1, i2, List.cons.injEq]
theorem Pd.lt {n : Nat} {e : D} : ∀ {m : Nat}, Pd false m e → (∀ ds, e = .tup ds → ∃ m', ∀ d ∈ ds, Pd false m' d) ∧ (∀ ds, e = .lst ds → ∃ m', ∀ d ∈ ds, Pd false m' d)
  | 0, h => by
    unfold Pd at h
    exact ⟨fun ds z => by subst z; exact h.elim, fun ds z => by subst z; exact h.elim⟩
  | m + 1, h => by
    unfold Pd at h
    exact ⟨fun ds z => by subst z; exact ⟨m, h⟩, fun ds z => by subst z; exact ⟨m, h⟩⟩
theorem str_beq {a b : Str} : ((a == b) = true) ↔ a = b := by simp
theorem eqv_iff : ∀ (n : Nat) (d e : D), Pd false n d → ∀ (m : Nat) (p q : PyData), Pd false m e → D.py d = some p → D.py e = some q → (PyData.eqv p q = true ↔ d = e) := by
  intro n
  induction n with
  | zero =>
    intro d e h m p q g hp hq
    unfold Pd at h
    cases d <;> first | exact h.elim | skip
    all_goals (cases e <;> first | (unfold Pd at g; exact g.elim) | skip)
    all_goals (simp only [D.py, Option.some.injEq, Option.map_eq_some_iff] at hp hq)
    all_goals (first | (obtain ⟨qs, _, rfl⟩ := hq) | subst hq)
    all_goals (subst hp)
    all_goals (first | (exact Bool.noConfusion (show false = true from h)) | (unfold Pd at g; exact Bool.noConfusion (show false = true from g)) | simp [PyData.eqv])
  | succ n ih =>
    intro d e h m p q g hp hq
    have h0 := h
    unfold Pd at h
    cases d <;> first | exact h.elim | skip
    all_goals (cases e <;> first | (unfold Pd at g; exact g.elim) | skip)
    all_goals (simp only [D.py, Option.some.injEq, Option.map_eq_some_iff] at hp hq)
    all_goals (first | (obtain ⟨qs, hq, rfl⟩ := hq) | subst hq)
    all_goals (first | (obtain ⟨ps, hp, rfl⟩ := hp) | subst hp)
    all_goals (first | (exact Bool.noConfusion (show false = true from h)) | (unfold Pd at g; exact Bool.noConfusion (show false = true from g)) | skip)
    all_goals (first | (simp [PyData.eqv]; done) | skip)
    · obtain ⟨m', g'⟩ := (Pd.lt (n := 0) g).1 _ rfl
      simp only [PyData.eqv, D.tup.injEq]
      exact eqvs_iff ih _ _ m' _ _ h g' hp hq
    · obtain ⟨m', g'⟩ := (Pd.lt (n := 0) g).2 _ rfl
      simp only [PyData.eqv, D.lst.injEq]
      exact eqvs_iff ih _ _ m' _ _ h g' hp hq
open Classical in
/-- == of data without truth values -/
theorem dEqB_pd {n m : Nat} {d e : D} (h : Pd false n d) (g : Pd false m e) (hn : n ≤ 64) (hm : m ≤ 64) : dEqB d e = some (decide (d = e)) := by
  obtain ⟨p, h1, h2, h3⟩ := Pd.py n d h
  obtain ⟨q, g1, g2, g3⟩ := Pd.py m e g
  unfold dEqB
  rw [h1, g1]
  dsimp only
  rw [shaped_of h2 (by omega), shaped_of g2 (by omega)]
  have k := eqv_iff n d e h m p q g h1 g1
  show some _ = _
  congr 1
  by_cases z : d = e
  · rw [k.mpr z, decide_eq_true z]
  · rw [decide_eq_false z]
    exact Bool.eq_false_iff.mpr fun y => z (k.mp y)
open Classical in
theorem op_eq (i j : Int) : dEq (.int i) (.int j) = some (.bl (decide (i = j))) := by
  unfold dEq
  rw [dEqB_pd (n := 0) (m := 0) .int .int (by decide) (by decide)]
  show some (D.bl _) = _
  congr 2
  by_cases h : i = j
  · rw [decide_eq_true h, decide_eq_true (by rw [h])]
  · rw [decide_eq_false h, decide_eq_false (fun e => h (D.int.inj e))]
open Classical in
theorem op_ne (i j : Int) : dNe (.int i) (.int j) = some (.bl (decide (i ≠ j))) := by
  unfold dNe
  rw [dEqB_pd (n := 0) (m := 0) .int .int (by decide) (by decide)]
  show some (D.bl _) = _
  congr 2
  by_cases h : i = j
  · rw [decide_eq_true (by rw [h]), decide_eq_false (fun e => e h)]; rfl
  · rw [decide_eq_false (fun e => h (D.int.inj e)), decide_eq_true h]; rfl
open Classical in
theorem op_eqp {n m : Nat} {d e : D} (h : Pd false n d) (g : Pd false m e) (hn : n ≤ 64 := by decide) (hm : m ≤ 64 := by decide) : dEq d e = some (.bl (decide (d = e))) := by
  unfold dEq
  rw [dEqB_pd h g hn hm]; rfl
open Classical in
theorem op_nep {n m : Nat} {d e : D} (h : Pd false n d) (g : Pd false m e) (hn : n ≤ 64 := by decide) (hm : m ≤ 64 := by decide) : dNe d e = some (.bl (decide (d ≠ e))) := by
  unfold dNe
  rw [dEqB_pd h g hn hm]
  show some (D.bl (!decide _)) = _
  rw [← decide_not]
theorem ints_inj : ∀ {a b : List Int}, a.map D.int = b.map D.int → a = b
  | [], [], _ => rfl
  | [], _ :: _, h => by simp at h
  | _ :: _, [], h => by simp at h
  | x :: a, y :: b, h => by
    simp only [List.map_cons, List.cons.injEq, D.int.injEq] at h
    rw [h.1, ints_inj h.2]

theorem op_pow {i j : Int} (h : (decide (0 ≤ j) && decide (j ≤ 1000000) && decide (i.natAbs < 2 ^ 64)) = true) : dPow (.int i) (.int j) = some (.int (i ^ j.toNat)) := if_pos h
theorem op_mul_k {i j : Int} (h : mulOk i j = true) : dMul (.int i) (.int j) = some (.int (i * j)) := if_pos h
theorem rev_l (ds : List D) : dRevO (.lst ds) = some (.lst (ds.reverse.map .val)) := id rfl
theorem rev_t (ds : List D) : dRevO (.tup ds) = some (.val (.tup ds.reverse)) := id rfl
theorem list_l (ds : List D) : dListO (.lst ds) = some (.lst (ds.map .val)) := id rfl
theorem list_t (ds : List D) : dListO (.tup ds) = some (.lst (ds.map .val)) := id rfl
theorem cut_l (ds : List D) (lo hi : Option Int) : dCutO (.lst ds) lo hi = some (.lst ((cutL ds lo hi).map .val)) := id rfl
theorem cut_f (ds : List D) (lo hi : Option Int) : dCutO (.frl ds) lo hi = some (.lst ((cutL ds lo hi).map .val)) := id rfl
theorem cut_t (ds : List D) (lo hi : Option Int) : dCutO (.tup ds) lo hi = some (.val (.tup (cutL ds lo hi))) := id rfl
theorem kVm_lstO {os : List O} {ds : List D} {env : Env} {Q : Kt D} (e : os = ds.map .val) (k : Q (.ok (.lst ds)) env) : kVm Q (.ok (.lst os)) env := by subst e; exact kVm_lst k
theorem cutL_take {α : Type} (xs : List α) (k : Nat) : cutL xs none (some (k : Int)) = xs.take k := by
  unfold cutL
  rw [HT.sIx_none, HT.sIx_nat, Nat.sub_zero, List.drop_zero, List.take_eq_take_iff]
  omega
theorem cutL_drop {α : Type} (xs : List α) (k : Nat) : cutL xs (some (k : Int)) none = xs.drop k := by
  unfold cutL
  rw [HT.sIx_none, HT.sIx_nat]
  by_cases h : k ≤ xs.length
  · rw [Nat.min_eq_left h, ← List.length_drop, List.take_length]
  · rw [Nat.min_eq_right (by omega), List.drop_of_length_le (Nat.le_refl _), List.drop_of_length_le (by omega)]; simp
end PL
/-! PW3: the same going, as equations. -/
namespace PL
open PySem L2
/-- not by definition -/
theorem nr {α : Sort _} {a b : α} (h : a = b) : a = b := h
section
variable {α β : Type} {env : Env}
theorem wp_eq (f : M α) (env : Env) (Q : Kt α) : wp f env Q = match f env with
    | some (r, e) => Q r e
    | none => False := by
  apply propext
  unfold wp
  constructor
  · rintro ⟨r, e, h1, h2⟩; rw [h1]; exact h2
  · intro h
    split at h
    · rename_i r e q; exact ⟨r, e, q, h⟩
    · exact h.elim
theorem e_bdk {f : M α} {g : α → M β} {Q : Kt β} (K : Kt α) (h : ∀ a e, wp (g a) e Q = K (.ok a) e) (hx : ∀ x e, K (.error x) e = Q (.error x) e) : wp (M.bd f g) env Q = wp f env K := by
  rw [wp_eq, wp_eq f]
  unfold M.bd
  cases f env with
  | none => rfl
  | some x =>
    obtain ⟨r, e⟩ := x
    cases r with
    | ok a => dsimp only; rw [← h, wp_eq]
    | error x => exact (hx x e).symm
theorem e_ret {a : α} {Q : Kt α} : wp (M.ret a) env Q = Q (.ok a) env := by rw [wp_eq]; rfl
/-- what follows, where the going does not look ahead -/
class Kn (α : Type) where
  k : α → Prop
def ob (o : Option α) [h : Kn α] : Prop := match o with
  | some a => h.k a
  | none => False
def gt (o : Option (Option O)) [h : Kn O] : Prop := match o with
  | some (some a) => h.k a
  | _ => False
def gtv (o : Option (Option O)) [h : Kn D] : Prop := match o with
  | some (some (.val d)) => h.k d
  | _ => False
def lsO (o : Option O) [h : Kn (List O)] : Prop := match o with
  | some (.lst os) => h.k os
  | _ => False
def gtO (o : Option (Option O)) (k : O → Option α) : Option α := match o with
  | some (some a) => k a
  | _ => none
theorem ob_some {a : α} {k : α → Prop} : ob (h := ⟨k⟩) (some a) = k a := nr rfl
theorem gt_some {a : O} {k : O → Prop} : gt (h := ⟨k⟩) (some (some a)) = k a := nr rfl
theorem gtv_some {a : D} {k : D → Prop} : gtv (h := ⟨k⟩) (some (some (.val a))) = k a := nr rfl
theorem lsO_some {a : List O} {k : List O → Prop} : lsO (h := ⟨k⟩) (some (.lst a)) = k a := nr rfl
theorem gtO_some {a : O} {k : O → Option α} : gtO (some (some a)) k = k a := nr rfl
theorem e_lift {o : Option α} {Q : Kt α} : wp (M.lift o) env Q = ob (h := ⟨fun a => Q (.ok a) env⟩) o := by
  rw [wp_eq]; cases o <;> rfl
/-! ### places -/
theorem e_rVar {i : Nat} : rVar i env = gtO env[i]? O.peek := by
  unfold rVar gtO
  split <;> rename_i h <;> simp_all
theorem e_peek_val {d : D} : O.peek (.val d) = some d := nr rfl
theorem e_peek_lst {ds : List D} : O.peek (.lst (ds.map .val)) = some (.lst ds) := by simp only [O.peek, O.flat_vals]; rfl
theorem e_peek_nil : O.peek (.lst []) = some (.lst []) := nr rfl
theorem e_er_val {d : D} : O.er (.val d) = d := by simp only [O.er]
theorem e_er_lst {ds : List D} : O.er (.lst (ds.map .val)) = .lst ds := er_vals ds
theorem e_er_nil : O.er (.lst []) = .lst [] := by simp only [O.er, O.ers]
theorem e_at {i : Nat} {p : Pth} : Env.at env i p = gtO env[i]? fun o => o.at p := by
  unfold Env.at gtO
  split <;> rename_i h <;> simp_all
theorem e_at0 {o : O} : O.at o [] = some o := by cases o <;> rfl
theorem e_at1 {os : List O} {n : Nat} {p : Pth} : O.at (.lst os) (.ix n :: p) = (os[n]?).bind fun o => O.at o p := nr rfl
theorem e_put0 {o o' : O} : O.put o [] o' = some o' := by cases o <;> rfl
theorem e_put1 {os : List O} {n : Nat} {p : Pth} {o' : O} : O.put (.lst os) (.ix n :: p) o' = (os[n]?).bind fun o => (O.put o p o').map fun o2 => .lst (os.set n o2) := nr rfl
theorem e_rPl {i : Nat} {p : Pth} : rPl i p env = (Env.at env i p).bind O.peek := nr rfl
theorem e_qVar {i : Nat} {Q : Kt Rdr} : wp (qVar i) env Q = gt (h := ⟨fun _ => Q (.ok (rVar i)) env⟩) env[i]? := by
  rw [wp_eq]; unfold qVar gt
  cases env[i]? with
  | none => rfl
  | some o => cases o <;> rfl
theorem e_vVar {i : Nat} {Q : Kt D} : wp (vVar i) env Q = gtv (h := ⟨fun d => Q (.ok d) env⟩) env[i]? := by
  rw [wp_eq]; unfold vVar gtv
  cases env[i]? with
  | none => rfl
  | some o => cases o with
    | none => rfl
    | some o => cases o <;> rfl
theorem e_oMove {i : Nat} {Q : Kt O} : wp (oMove i) env Q = gt (h := ⟨fun o => Q (.ok o) (env.set i none)⟩) env[i]? := by
  rw [wp_eq]; unfold oMove gt
  cases env[i]? with
  | none => rfl
  | some o => cases o <;> rfl
theorem e_vFrz {i : Nat} {Q : Kt D} : wp (vFrz i) env Q = gt (h := ⟨fun o => Q (.ok o.er) (env.set i (some (.val o.er)))⟩) env[i]? := by
  rw [wp_eq]; unfold vFrz gt
  cases env[i]? with
  | none => rfl
  | some o => cases o <;> rfl
theorem e_gSet {i : Nat} {o : O} {Q : Kt Unit} : wp (gSet i o) env Q = (i < env.length ∧ Q (.ok ()) (env.set i (some o))) := by
  rw [wp_eq]; unfold gSet
  by_cases h : i < env.length
  · rw [if_pos h]; simp [h]
  · rw [if_neg h]; simp [h]
theorem e_vPl {i : Nat} {p : Pth} {Q : Kt D} : wp (vPl i p) env Q = gtv (h := ⟨fun d => Q (.ok d) env⟩) ((Env.at env i p).map some) := by
  rw [wp_eq]; unfold vPl gtv
  cases Env.at env i p with
  | none => rfl
  | some o => cases o <;> rfl
theorem e_qPl {i : Nat} {p : Pth} {Q : Kt Rdr} : wp (qPl i p) env Q = ob (h := ⟨fun _ => Q (.ok (rPl i p)) env⟩) (Env.at env i p) := by
  rw [wp_eq]; unfold qPl ob
  cases Env.at env i p with
  | none => rfl
  | some o => rfl
/-! ### expressions -/
theorem e_om {f : M D} {Q : Kt O} : wp (om f) env Q = wp f env (kOm Q) := e_bdk _ (fun _ _ => e_ret) fun _ _ => rfl
theorem e_kOm {d : D} {Q : Kt O} : kOm Q (.ok d) env = Q (.ok (.val d)) env := nr rfl
theorem e_vm {f : M O} {Q : Kt D} : wp (vm f) env Q = wp f env (kVm Q) := e_bdk _ (fun _ _ => e_ret) fun _ _ => rfl
theorem e_kVm {o : O} {Q : Kt D} : kVm Q (.ok o) env = Q (.ok o.er) env := nr rfl
theorem e_qm {f : M D} {Q : Kt Rdr} : wp (qm f) env Q = wp f env (kQm Q) := e_bdk _ (fun _ _ => e_ret) fun _ _ => rfl
theorem e_kQm {d : D} {Q : Kt Rdr} : kQm Q (.ok d) env = Q (.ok fun _ => some d) env := nr rfl
theorem ob_iff {o : Option α} {k : α → Prop} : ob (h := ⟨k⟩) o ↔ ∃ a, o = some a ∧ k a := by
  unfold ob
  cases o with
  | none => simp
  | some a => simp
theorem e_kBin2 {g : D → D → Option D} {ra rb : Rdr} {Q : Kt D} : kBin2 g ra Q (.ok rb) env = ob (h := ⟨fun x => ob (h := ⟨fun y => ob (h := ⟨fun d => Q (.ok d) env⟩) (g x y)⟩) (rb env)⟩) (ra env) := by
  apply propext
  simp only [kBin2, ob_iff]
  constructor
  · rintro ⟨x, y, d, h1, h2, h3, h4⟩; exact ⟨x, h1, y, h2, d, h3, h4⟩
  · rintro ⟨x, h1, y, h2, d, h3, h4⟩; exact ⟨x, y, d, h1, h2, h3, h4⟩
theorem e_kBin1 {g : D → D → Option D} {fb : M Rdr} {ra : Rdr} {Q : Kt D} : kBin1 g fb Q (.ok ra) env = wp fb env (kBin2 g ra Q) := nr rfl
theorem e_bin {g : D → D → Option D} {fa fb : M Rdr} {Q : Kt D} : wp (bin g fa fb) env Q = wp fa env (kBin1 g fb Q) :=
  e_bdk _ (fun ra e => e_bdk _ (fun rb e => by
    rw [e_kBin2]
    show wp (M.lift _) e Q = _
    rw [e_lift]
    cases ra e with
    | none => rfl
    | some x => cases rb e <;> rfl) fun _ _ => rfl) fun _ _ => rfl
theorem e_kUn {g : D → Option D} {rd : Rdr} {Q : Kt D} : kUn g Q (.ok rd) env = ob (h := ⟨fun x => ob (h := ⟨fun d => Q (.ok d) env⟩) (g x)⟩) (rd env) := by
  apply propext
  simp only [kUn, ob_iff]
  constructor
  · rintro ⟨x, d, h1, h3, h4⟩; exact ⟨x, h1, d, h3, h4⟩
  · rintro ⟨x, h1, d, h3, h4⟩; exact ⟨x, d, h1, h3, h4⟩
theorem e_un {g : D → Option D} {f : M Rdr} {Q : Kt D} : wp (un g f) env Q = wp f env (kUn g Q) :=
  e_bdk _ (fun rd e => by
    rw [e_kUn]
    show wp (M.lift _) e Q = _
    rw [e_lift]
    cases rd e <;> rfl) fun _ _ => rfl
theorem e_kRd {g : D → Option β} {rd : Rdr} {Q : Kt β} : kRd g Q (.ok rd) env = ob (h := ⟨fun x => ob (h := ⟨fun d => Q (.ok d) env⟩) (g x)⟩) (rd env) := by
  apply propext
  simp only [kRd, ob_iff]
  constructor
  · rintro ⟨x, d, h1, h3, h4⟩; exact ⟨x, h1, d, h3, h4⟩
  · rintro ⟨x, h1, d, h3, h4⟩; exact ⟨x, d, h1, h3, h4⟩
theorem e_rd {g : D → Option β} {f : M Rdr} {Q : Kt β} : wp (M.bd f fun rd env => M.lift ((rd env).bind g) env) env Q = wp f env (kRd g Q) :=
  e_bdk _ (fun rd e => by
    rw [e_kRd]
    show wp (M.lift _) e Q = _
    rw [e_lift]
    cases rd e <;> rfl) fun _ _ => rfl
theorem e_oList {f : M Rdr} {Q : Kt O} : wp (oList f) env Q = wp f env (kRd dListO Q) := e_rd
theorem e_oRev {f : M Rdr} {Q : Kt O} : wp (oRev f) env Q = wp f env (kRd dRevO Q) := e_rd
theorem e_kBm {b : Bool} {Q : Kt Bool} : kBm Q (.ok (.bl b)) env = Q (.ok b) env := nr rfl
theorem e_bm {f : M D} {Q : Kt Bool} : wp (bm f) env Q = wp f env (kBm Q) := e_bdk _ (fun d e => by rw [e_lift]; cases d <;> rfl) fun _ _ => rfl
theorem e_kTru {rd : Rdr} {Q : Kt Bool} : kTru Q (.ok rd) env = ob (h := ⟨fun x => ob (h := ⟨fun b => Q (.ok b) env⟩) x.tru⟩) (rd env) := by
  apply propext
  simp only [kTru, ob_iff]
  constructor
  · rintro ⟨x, d, h1, h3, h4⟩; exact ⟨x, h1, d, h3, h4⟩
  · rintro ⟨x, h1, d, h3, h4⟩; exact ⟨x, d, h1, h3, h4⟩
theorem e_bTru {f : M Rdr} {Q : Kt Bool} : wp (bTru f) env Q = wp f env (kTru Q) :=
  e_bdk _ (fun rd e => by
    rw [e_kTru]
    show wp (M.lift _) e Q = _
    rw [e_lift]
    cases rd e <;> rfl) fun _ _ => rfl
theorem e_bNot {f : M Bool} {Q : Kt Bool} : wp (bNot f) env Q = wp f env (kNot Q) := e_bdk _ (fun _ _ => e_ret) fun _ _ => rfl
theorem e_kNot {b : Bool} {Q : Kt Bool} : kNot Q (.ok b) env = Q (.ok !b) env := nr rfl
theorem e_if_ {c : M Bool} {f g : M α} {Q : Kt α} : wp (M.bd c fun b => if b = true then f else g) env Q = wp c env (kIf f g Q) := e_bdk _ (fun b _ => by cases b <;> rfl) fun _ _ => rfl
theorem e_sIf {c : M Bool} {f g : M Fl} {Q : Kt Fl} : wp (sIf c f g) env Q = wp c env (kIf f g Q) := e_if_
theorem e_mIf {c : M Bool} {f g : M α} {Q : Kt α} : wp (mIf c f g) env Q = wp c env (kIf f g Q) := e_if_
theorem e_bAnd {c g : M Bool} {Q : Kt Bool} : wp (bAnd c g) env Q = wp c env (kIf g (M.ret false) Q) := e_if_
theorem e_bOr {c g : M Bool} {Q : Kt Bool} : wp (bOr c g) env Q = wp c env (kIf (M.ret true) g Q) := e_if_
theorem e_kIf_t {f g : M α} {Q : Kt α} : kIf f g Q (.ok true) env = wp f env Q := nr rfl
theorem e_kIf_f {f g : M α} {Q : Kt α} : kIf f g Q (.ok false) env = wp g env Q := nr rfl
theorem e_kIf {p : Prop} [Decidable p] {f g : M α} {Q : Kt α} : kIf f g Q (.ok (decide p)) env = ((p → wp f env Q) ∧ (¬ p → wp g env Q)) := by
  apply propext
  by_cases hp : p
  · rw [decide_eq_true hp, e_kIf_t]; simp [hp]
  · rw [decide_eq_false hp, e_kIf_f]; simp [hp]
theorem e_asB {f : M D} {g : Bool → M D} {Q : Kt D} : wp (asB f g) env Q = wp f env (kAsB g Q) := e_bdk _ (fun d e => by cases d <;> (rw [wp_eq]; try rfl) <;> (show _ = wp _ _ _; rw [wp_eq])) fun _ _ => rfl
theorem e_vAnd {f g : M D} {Q : Kt D} : wp (vAnd f g) env Q = wp f env (kAB g (M.ret (.bl false)) Q) := e_asB
theorem e_vOr {f g : M D} {Q : Kt D} : wp (vOr f g) env Q = wp f env (kAB (M.ret (.bl true)) g Q) := e_asB
theorem e_kAB_t {f g : M D} {Q : Kt D} : kAB f g Q (.ok (.bl true)) env = wp f env Q := nr rfl
theorem e_kAB_f {f g : M D} {Q : Kt D} : kAB f g Q (.ok (.bl false)) env = wp g env Q := nr rfl
theorem e_kAB {p : Prop} [Decidable p] {f g : M D} {Q : Kt D} : kAB f g Q (.ok (.bl (decide p))) env = ((p → wp f env Q) ∧ (¬ p → wp g env Q)) := by
  apply propext
  by_cases hp : p
  · rw [decide_eq_true hp, e_kAB_t]; simp [hp]
  · rw [decide_eq_false hp, e_kAB_f]; simp [hp]
theorem e_vNot {f : M D} {Q : Kt D} : wp (vNot f) env Q = wp f env (kVNot Q) := by
  unfold vNot
  rw [e_asB]
  congr 1
  funext r e
  cases r with
  | error x => rfl
  | ok d => cases d with
    | bl b => exact e_ret
    | _ => rfl
theorem e_kVNot {b : Bool} {Q : Kt D} : kVNot Q (.ok (.bl b)) env = Q (.ok (.bl !b)) env := nr rfl
theorem e_aNil {Q : Kt (List D)} : wp aNil env Q = Q (.ok []) env := e_ret
theorem e_aCons {f : M D} {g : M (List D)} {Q : Kt (List D)} : wp (aCons f g) env Q = wp f env (kA1 g Q) := e_bdk _ (fun _ _ => e_bdk _ (fun _ _ => e_ret) fun _ _ => rfl) fun _ _ => rfl
theorem e_kA1 {g : M (List D)} {d : D} {Q : Kt (List D)} : kA1 g Q (.ok d) env = wp g env (kA2 d Q) := nr rfl
theorem e_kA2 {d : D} {ds : List D} {Q : Kt (List D)} : kA2 d Q (.ok ds) env = Q (.ok (d :: ds)) env := nr rfl
theorem e_lf {f : M (List D)} {h : List D → Option β} {Q : Kt β} : wp (M.bd f fun ds => M.lift (h ds)) env Q = wp f env (kLf h Q) := e_bdk _ (fun ds e => by
  rw [e_lift]; apply propext; simp only [kLf, ob_iff]) fun _ _ => rfl
theorem e_kLf {h : List D → Option β} {ds : List D} {Q : Kt β} : kLf h Q (.ok ds) env = ob (h := ⟨fun b => Q (.ok b) env⟩) (h ds) := by apply propext; simp only [kLf, ob_iff]
theorem e_vTup {f : M (List D)} {Q : Kt D} : wp (vTup f) env Q = wp f env (kLf hTup Q) := e_lf
theorem e_oLst {f : M (List D)} {Q : Kt O} : wp (oLst f) env Q = wp f env (kLf hLst Q) := e_lf
theorem e_iR1 {f : M (List D)} {Q : Kt (List D)} : wp (iR1 f) env Q = wp f env (kLf hIR1 Q) := e_lf
theorem e_iR2 {f : M (List D)} {Q : Kt (List D)} : wp (iR2 f) env Q = wp f env (kLf hIR2 Q) := e_lf
theorem e_iZip {f : M (List D)} {Q : Kt (List D)} : wp (iZip f) env Q = wp f env (kLf hZip Q) := e_lf
theorem e_vCall2 {g : D → D → Option D} {f : M (List D)} {Q : Kt D} : wp (vCall2 g f) env Q = wp f env (kLf (h2 g) Q) := e_lf
theorem e_h2 {g : D → D → Option D} {a b : D} : h2 g [a, b] = g a b := nr rfl
theorem e_hZip_l {a b : List D} : hZip [.lst a, .lst b] = some ((a.zip b).map fun p => .tup [p.1, p.2]) := nr rfl
theorem e_hZip_t {a b : List D} : hZip [.tup a, .tup b] = some ((a.zip b).map fun p => .tup [p.1, p.2]) := nr rfl
theorem e_iVal {f : M D} {Q : Kt (List D)} : wp (iVal f) env Q = wp f env (kIt Q) := e_bdk _ (fun d e => by rw [e_lift]; apply propext; simp only [kIt, ob_iff]) fun _ _ => rfl
theorem e_kIt {d : D} {Q : Kt (List D)} : kIt Q (.ok d) env = ob (h := ⟨fun ds => Q (.ok ds) env⟩) d.items := by apply propext; simp only [kIt, ob_iff]
theorem e_items_l {ds : List D} : D.items (.lst ds) = some ds := nr rfl
theorem e_items_t {ds : List D} : D.items (.tup ds) = some ds := nr rfl
theorem e_iOwn {i : Nat} {Q : Kt (List D)} : wp (iOwn i) env Q = ob (h := ⟨fun ds => Q (.ok ds) env⟩) (gtO env[i]? fun o => match o with | .lst os => O.flat? os | _ => none) := by
  rw [wp_eq]; unfold iOwn gtO
  cases env[i]? with
  | none => rfl
  | some o => cases o with
    | none => rfl
    | some o => cases o with
      | lst os => dsimp only; cases O.flat? os <;> rfl
      | _ => rfl
theorem e_flat {ds : List D} : O.flat? (ds.map .val) = some ds := O.flat_vals ds
theorem e_flat0 : O.flat? [] = some [] := nr rfl
theorem e_oNil {Q : Kt (List O)} : wp oNil env Q = Q (.ok []) env := e_ret
theorem e_oCons {f : M O} {g : M (List O)} {Q : Kt (List O)} : wp (oCons f g) env Q = wp f env (kO1 g Q) := e_bdk _ (fun _ _ => e_bdk _ (fun _ _ => e_ret) fun _ _ => rfl) fun _ _ => rfl
theorem e_kO1 {g : M (List O)} {d : O} {Q : Kt (List O)} : kO1 g Q (.ok d) env = wp g env (kO2 d Q) := nr rfl
theorem e_kO2 {d : O} {ds : List O} {Q : Kt (List O)} : kO2 d Q (.ok ds) env = Q (.ok (d :: ds)) env := nr rfl
theorem e_oLstO {f : M (List O)} {Q : Kt O} : wp (oLstO f) env Q = wp f env (kLstO Q) := e_bdk _ (fun os e => by
  rw [e_lift]
  apply propext
  simp only [kLstO]
  by_cases h : os.length ≤ sizeLine
  · rw [if_pos h, ob_some]; simp [h]
  · rw [if_neg h]; simp [h, ob]) fun _ _ => rfl
theorem e_kLstO {os : List O} {Q : Kt O} : kLstO Q (.ok os) env = (os.length ≤ sizeLine ∧ Q (.ok (.lst os)) env) := nr rfl
theorem e_sN {Q : Kt (Option Int)} : wp sN env Q = Q (.ok none) env := e_ret
theorem e_sP {f : M D} {Q : Kt (Option Int)} : wp (sP f) env Q = wp f env (kSP Q) := e_bdk _ (fun d e => by rw [e_lift]; cases d <;> rfl) fun _ _ => rfl
theorem e_kSP {i : Int} {Q : Kt (Option Int)} : kSP Q (.ok (.int i)) env = Q (.ok (some i)) env := nr rfl
theorem e_kCut3 {rd : Rdr} {lo hi : Option Int} {Q : Kt O} : kCut3 rd lo Q (.ok hi) env = ob (h := ⟨fun x => ob (h := ⟨fun o => Q (.ok o) env⟩) (dCutO x lo hi)⟩) (rd env) := by
  apply propext
  simp only [kCut3, ob_iff]
  constructor
  · rintro ⟨x, d, h1, h3, h4⟩; exact ⟨x, h1, d, h3, h4⟩
  · rintro ⟨x, h1, d, h3, h4⟩; exact ⟨x, d, h1, h3, h4⟩
theorem e_kCut2 {rd : Rdr} {lo : Option Int} {h : M (Option Int)} {Q : Kt O} : kCut2 rd h Q (.ok lo) env = wp h env (kCut3 rd lo Q) := nr rfl
theorem e_kCut1 {rd : Rdr} {l h : M (Option Int)} {Q : Kt O} : kCut1 l h Q (.ok rd) env = wp l env (kCut2 rd h Q) := nr rfl
theorem e_oCutA {f : M Rdr} {l h : M (Option Int)} {Q : Kt O} : wp (oCutA f l h) env Q = wp f env (kCut1 l h Q) :=
  e_bdk _ (fun rd e => e_bdk _ (fun lo e => e_bdk _ (fun hi e => by
    rw [e_kCut3]
    show wp (M.lift _) e Q = _
    rw [e_lift]
    cases rd e <;> rfl) fun _ _ => rfl) fun _ _ => rfl) fun _ _ => rfl
theorem e_kAdd2 {ra rb : Rdr} {Q : Kt O} : kAdd2 ra Q (.ok rb) env = ob (h := ⟨fun x => ob (h := ⟨fun y => ob (h := ⟨fun d => Q (.ok d) env⟩) (dAddO x y)⟩) (rb env)⟩) (ra env) := by
  apply propext
  simp only [kAdd2, ob_iff]
  constructor
  · rintro ⟨x, y, d, h1, h2, h3, h4⟩; exact ⟨x, h1, y, h2, d, h3, h4⟩
  · rintro ⟨x, h1, y, h2, d, h3, h4⟩; exact ⟨x, y, d, h1, h2, h3, h4⟩
theorem e_kAdd1 {fb : M Rdr} {ra : Rdr} {Q : Kt O} : kAdd1 fb Q (.ok ra) env = wp fb env (kAdd2 ra Q) := nr rfl
theorem e_oAdd {fa fb : M Rdr} {Q : Kt O} : wp (oAdd fa fb) env Q = wp fa env (kAdd1 fb Q) :=
  e_bdk _ (fun ra e => e_bdk _ (fun rb e => by
    rw [e_kAdd2]
    show wp (M.lift _) e Q = _
    rw [e_lift]
    cases ra e with
    | none => rfl
    | some x => cases rb e <;> rfl) fun _ _ => rfl) fun _ _ => rfl
/-! ### lists changed in their place -/
def putE (env : Env) (i : Nat) (p : Pth) (o : O) (k : Env → Prop) : Prop := gt (h := ⟨fun x => ob (h := ⟨fun x' => k (env.set i (some x'))⟩) (x.put p o)⟩) env[i]?
theorem wp_atL {i : Nat} {p : Pth} {h : List O → Option (α × List O)} {Q : Kt α} : wp (atL i p h) env Q = lsO (h := ⟨fun os => ob (h := ⟨fun a => putE env i p (.lst a.2) fun e => Q (.ok a.1) e⟩) (h os)⟩) (Env.at env i p) := by
  rw [wp_eq]
  unfold atL Env.at putE gt
  cases env[i]? with
  | none => rfl
  | some o => cases o with
    | none => rfl
    | some o =>
      dsimp only
      cases o.at p with
      | none => rfl
      | some x => cases x with
        | lst os =>
          dsimp only [lsO]
          cases h os with
          | none => rfl
          | some a =>
            obtain ⟨a, os'⟩ := a
            dsimp only [ob]
            cases o.put p (.lst os') <;> rfl
        | _ => rfl
theorem e_oAppend {i : Nat} {p : Pth} {f : M O} {Q : Kt O} : wp (oAppend i p f) env Q = lsO (h := ⟨fun _ => wp f env (kApp i p Q)⟩) (Env.at env i p) := by
  have g : ∀ e, wp (M.bd f (fun o => atL i p fun os => if os.length < sizeLine then some (.val .non, os ++ [o]) else none)) e Q = wp f e (kApp i p Q) := fun e => e_bdk _ (fun o e => by
    rw [wp_atL]
    apply propext
    simp only [kApp, Env.at, lsO, putE, gt, ob]
    constructor
    · intro h
      split at h
      · rename_i os q
        split at q
        · rename_i x q1
          split at h
          · rename_i a q2
            split at q2
            · rename_i hl
              cases q2
              simp only [q1] at h
              split at h
              · rename_i x' q3
                exact ⟨x, os, x', q1, q, hl, q3, h⟩
              · exact h.elim
            · cases q2
          · exact h.elim
        · cases q
      · exact h.elim
    · rintro ⟨x, os, x', q1, q, hl, q3, h⟩
      simp only [q1, q, if_pos hl, q3]
      exact h) fun _ _ => rfl
  rw [← g, wp_eq, wp_eq]
  unfold oAppend
  cases hh : Env.at env i p with
  | none => rfl
  | some o => cases o <;> rfl
theorem e_kApp {i : Nat} {p : Pth} {Q : Kt O} {o : O} : kApp i p Q (.ok o) env = lsO (h := ⟨fun os => os.length < sizeLine ∧ putE env i p (.lst (os ++ [o])) fun e => Q (.ok (.val .non)) e⟩) (Env.at env i p) := by
  apply propext
  simp only [kApp, Env.at, lsO, putE, gt, ob]
  constructor
  · rintro ⟨x, os, x', q1, q, hl, q3, h⟩
    simp only [q1, q, q3]
    exact ⟨hl, h⟩
  · intro h
    split at h
    · rename_i os q
      split at q
      · rename_i x q1
        obtain ⟨hl, h⟩ := h
        simp only [q1] at h
        split at h
        · rename_i x' q3
          exact ⟨x, os, x', q1, q, hl, q3, h⟩
        · exact h.elim
      · cases q
    · exact h.elim
theorem e_oPop {i : Nat} {p : Pth} {Q : Kt O} : wp (oPop i p) env Q = lsO (h := ⟨fun os => ob (h := ⟨fun o => putE env i p (.lst os.dropLast) fun e => Q (.ok o) e⟩) os.getLast?⟩) (Env.at env i p) := by
  unfold oPop
  rw [wp_atL]
  congr 1
  refine congrArg Kn.mk (funext fun os => ?_)
  cases os.getLast? <;> rfl
theorem e_putE {i : Nat} {p : Pth} {o : O} {k : Env → Prop} : putE env i p o k = gt (h := ⟨fun x => ob (h := ⟨fun x' => k (env.set i (some x'))⟩) (x.put p o)⟩) env[i]? := nr rfl
theorem e_kPut2 {i : Nat} {p : Pth} {o : O} {n : Int} {Q : Kt Fl} : kPut2 i p o Q (.ok (.int n)) env = lsO (h := ⟨fun os => ob (h := ⟨fun j => putE env i p (.lst (os.set j o)) fun e => Q (.ok .nx) e⟩) (ixN os.length n)⟩) (Env.at env i p) := by
  apply propext
  simp only [kPut2, Env.at, lsO, putE, gt, ob]
  constructor
  · rintro ⟨x, os, x', n', j, e, q1, q, hj, q3, h⟩
    cases e
    simp only [q1, q, hj, q3]
    exact h
  · intro h
    split at h
    · rename_i os q
      split at q
      · rename_i x q1
        split at h
        · rename_i j hj
          simp only [q1] at h
          split at h
          · rename_i x' q3
            exact ⟨x, os, x', n, j, rfl, q1, q, hj, q3, h⟩
          · exact h.elim
        · exact h.elim
      · cases q
    · exact h.elim
theorem e_kPut1 {i : Nat} {p : Pth} {g : M D} {o : O} {Q : Kt Fl} : kPut1 i p g Q (.ok o) env = lsO (h := ⟨fun _ => wp g env (kPut2 i p o Q)⟩) (Env.at env i p) := by
  apply propext
  simp only [kPut1, lsO]
  constructor
  · rintro ⟨⟨os, h⟩, k⟩; rw [h]; exact k
  · intro h
    split at h
    · rename_i os q; exact ⟨⟨os, q⟩, h⟩
    · exact h.elim
theorem e_sPut {i : Nat} {p : Pth} {f : M O} {g : M D} {Q : Kt Fl} : wp (sPut i p f g) env Q = wp f env (kPut1 i p g Q) := by
  have g2 : ∀ o e, wp (M.bd g (fun d => M.bd (atL i p fun os => match d with
      | .int n => (ixN os.length n).map fun j => ((), os.set j o)
      | _ => none) fun _ => sNx)) e Q = wp g e (kPut2 i p o Q) := fun o e => e_bdk _ (fun d e => by
    have h3 : ∀ (h : List O → Option (Unit × List O)), wp (M.bd (atL i p h) fun _ => sNx) e Q = wp (atL i p h) e (fun r e => match r with | .ok _ => Q (.ok .nx) e | .error x => Q (.error x) e) := fun h => e_bdk _ (fun _ _ => e_ret) fun _ _ => rfl
    rw [h3, wp_atL]
    cases d with
    | int n =>
      rw [e_kPut2]
      congr 1
      refine congrArg Kn.mk (funext fun os => ?_)
      show ob (h := _) (Option.map _ (ixN os.length n)) = _
      generalize ixN os.length n = z
      cases z <;> rfl
    | _ =>
      show lsO (h := ⟨fun os => False⟩) _ = _
      apply propext
      simp only [kPut2, lsO]
      constructor
      · intro h; split at h <;> exact h.elim
      · rintro ⟨x, os, x', n, j, e, _⟩; cases e) fun _ _ => rfl
  unfold sPut
  refine e_bdk _ (fun o e => ?_) fun _ _ => rfl
  rw [e_kPut1, ← g2, wp_eq, wp_eq]
  cases hh : Env.at e i p with
  | none => rfl
  | some o => cases o <;> rfl
/-! ### statements -/
theorem e_sSeq {f g : M Fl} {Q : Kt Fl} : wp (sSeq f g) env Q = wp f env (kSeq g Q) := e_bdk _ (fun l e => by cases l <;> first | rfl | exact e_ret) fun _ _ => rfl
theorem e_kSeq_nx {g : M Fl} {Q : Kt Fl} : kSeq g Q (.ok .nx) env = wp g env Q := nr rfl
theorem e_kSeq_bk {g : M Fl} {Q : Kt Fl} : kSeq g Q (.ok .bk) env = Q (.ok .bk) env := nr rfl
theorem e_kSeq_ct {g : M Fl} {Q : Kt Fl} : kSeq g Q (.ok .ct) env = Q (.ok .ct) env := nr rfl
theorem e_kSeq_rt {g : M Fl} {Q : Kt Fl} {o : O} : kSeq g Q (.ok (.ret o)) env = Q (.ok (.ret o)) env := nr rfl
theorem e_kSeq_er {g : M Fl} {Q : Kt Fl} {x : Ex} : kSeq g Q (.error x) env = Q (.error x) env := nr rfl
theorem e_sNx {Q : Kt Fl} : wp sNx env Q = Q (.ok .nx) env := e_ret
theorem e_sRet {f : M O} {Q : Kt Fl} : wp (sRet f) env Q = wp f env (kRet Q) := e_bdk _ (fun _ _ => e_ret) fun _ _ => rfl
theorem e_kRet {o : O} {Q : Kt Fl} : kRet Q (.ok o) env = Q (.ok (.ret o)) env := nr rfl
theorem e_sDrop {f : M O} {Q : Kt Fl} : wp (sDrop f) env Q = wp f env (kDrop Q) := e_bdk _ (fun _ _ => e_ret) fun _ _ => rfl
theorem e_kDrop {o : O} {Q : Kt Fl} : kDrop Q (.ok o) env = Q (.ok .nx) env := nr rfl
theorem e_sSet {f : M O} {g : O → M Unit} {Q : Kt Fl} : wp (sSet f g) env Q = wp f env (kSet g Q) := e_bdk _ (fun _ _ => e_bdk _ (fun _ _ => e_ret) fun _ _ => rfl) fun _ _ => rfl
theorem e_kSet {o : O} {g : O → M Unit} {Q : Kt Fl} : kSet g Q (.ok o) env = wp (g o) env (kTg Q) := nr rfl
theorem e_kTg {u : Unit} {Q : Kt Fl} : kTg Q (.ok u) env = Q (.ok .nx) env := nr rfl
theorem e_gTup {n : Nat} {f : List D → M Unit} {ds : List D} {Q : Kt Unit} : wp (gTup n f (.val (.tup ds))) env Q = (ds.length = n ∧ wp (f ds) env Q) := by
  rw [wp_eq, wp_eq]
  unfold gTup
  dsimp only
  by_cases h : ds.length = n
  · rw [if_pos h]; simp [h]
  · rw [if_neg h]; simp [h]
theorem e_gtNil {Q : Kt Unit} : wp (gtNil []) env Q = Q (.ok ()) env := e_ret
theorem e_gtCons {f : O → M Unit} {g : List D → M Unit} {d : D} {ds : List D} {Q : Kt Unit} : wp (gtCons f g (d :: ds)) env Q = wp (f (.val d)) env (kGt (g ds) Q) := e_bdk _ (fun _ _ => rfl) fun _ _ => rfl
theorem e_kGt {g : M Unit} {u : Unit} {Q : Kt Unit} : kGt g Q (.ok u) env = wp g env Q := nr rfl
theorem e_sPar {i j : Nat} {f : M (List D)} {Q : Kt Fl} : wp (sPar i j f) env Q = wp f env (kPar i j Q) := e_bdk _ (fun ds e => by
  apply propext
  rw [wp_eq]
  constructor
  · intro h
    match ds, h with
    | [a, b], h =>
      by_cases z : i < e.length ∧ j < e.length
      · simp only [if_pos z] at h; exact ⟨a, b, rfl, z.1, z.2, h⟩
      · simp only [if_neg z] at h
  · rintro ⟨a, b, rfl, h1, h2, h⟩
    simp only [h1, h2, and_self, if_true]; exact h) fun _ _ => rfl
theorem e_kPar {i j : Nat} {a b : D} {Q : Kt Fl} : kPar i j Q (.ok [a, b]) env = (i < env.length ∧ j < env.length ∧ Q (.ok .nx) ((env.set i (some (.val a))).set j (some (.val b)))) := by
  apply propext
  constructor
  · rintro ⟨_, _, e, h⟩; cases e; exact h
  · intro h; exact ⟨a, b, rfl, h⟩
theorem e_sPar3 {i j l : Nat} {f : M (List D)} {Q : Kt Fl} : wp (sPar3 i j l f) env Q = wp f env (kPar3 i j l Q) := e_bdk _ (fun ds e => by
  apply propext
  rw [wp_eq]
  constructor
  · intro h
    match ds, h with
    | [a, b, c], h =>
      by_cases z : i < e.length ∧ j < e.length ∧ l < e.length
      · simp only [if_pos z] at h; exact ⟨a, b, c, rfl, z.1, z.2.1, z.2.2, h⟩
      · simp only [if_neg z] at h
  · rintro ⟨a, b, c, rfl, h1, h2, h3, h⟩
    simp only [h1, h2, h3, and_self, if_true]; exact h) fun _ _ => rfl
theorem e_kPar3 {i j l : Nat} {a b c : D} {Q : Kt Fl} : kPar3 i j l Q (.ok [a, b, c]) env = (i < env.length ∧ j < env.length ∧ l < env.length ∧ Q (.ok .nx) (((env.set i (some (.val a))).set j (some (.val b))).set l (some (.val c)))) := by
  apply propext
  constructor
  · rintro ⟨_, _, _, e, h⟩; cases e; exact h
  · intro h; exact ⟨a, b, c, rfl, h⟩
/-! ### calls -/
theorem e_gNl {Q : Kt (List Ag)} : wp gNl env Q = Q (.ok []) env := e_ret
theorem e_gV {f : M D} {g : M (List Ag)} {Q : Kt (List Ag)} : wp (gV f g) env Q = wp f env (kG1 g Q) := e_bdk _ (fun _ _ => e_bdk _ (fun _ _ => e_ret) fun _ _ => rfl) fun _ _ => rfl
theorem e_kG1 {g : M (List Ag)} {d : D} {Q : Kt (List Ag)} : kG1 g Q (.ok d) env = wp g env (kG2 (.v d) Q) := nr rfl
theorem e_kG2 {a : Ag} {as : List Ag} {Q : Kt (List Ag)} : kG2 a Q (.ok as) env = Q (.ok (a :: as)) env := nr rfl
theorem e_gP {i : Nat} {g : M (List Ag)} {Q : Kt (List Ag)} : wp (gP i g) env Q = gt (h := ⟨fun _ => wp g env (kG2 (.p i) Q)⟩) env[i]? := by
  have h : wp (M.bd g fun as => M.ret (.p i :: as)) env Q = wp g env (kG2 (.p i) Q) := e_bdk _ (fun _ _ => e_ret) fun _ _ => rfl
  rw [wp_eq]
  unfold gP gt
  cases env[i]? with
  | none => rfl
  | some o => cases o with
    | none => rfl
    | some o => dsimp only; rw [← h, wp_eq]
theorem e_kCal {m : Fn} {sh : List (Option Nat)} {as : List Ag} {Q : Kt O} : kCal m sh Q (.ok as) env = ob (h := ⟨fun os => wpF m os (kBk sh env Q)⟩) (agos env as) := by
  apply propext
  simp only [kCal, ob_iff]; rfl
theorem e_oCall {m : Fn} {sh : List (Option Nat)} {f : M (List Ag)} {Q : Kt O} : wp (oCall m sh f) env Q = wp f env (kCal m sh Q) := e_bdk _ (fun as e => by
  rw [e_kCal, wp_eq]
  cases agos e as with
  | none => rfl
  | some os =>
    simp only [Option.bind_some, ob_some]
    unfold wpF kBk
    apply propext
    cases m os with
    | none => simp
    | some x =>
      constructor
      · intro h; exact ⟨x.1, x.2, rfl, h⟩
      · rintro ⟨r, e', h1, h2⟩; cases h1; exact h2) fun _ _ => rfl
theorem e_kBk {sh : List (Option Nat)} {out : Env} {r : Except Ex O} {Q : Kt O} : kBk sh env Q r out = Q r (putBack sh out env) := nr rfl
theorem e_pb0 {out : Env} : putBack [] out env = env := PutB.nil.eq
theorem e_pbN {sh : List (Option Nat)} {o : Option O} {out : Env} : putBack (none :: sh) (o :: out) env = putBack sh out env := putBack_none
theorem e_pbS {sh : List (Option Nat)} {i : Nat} {o : Option O} {out : Env} : putBack (some i :: sh) (o :: out) env = (putBack sh out env).set i o := putBack_some
theorem e_ag0 : agos env [] = some [] := nr rfl
theorem e_agV {d : D} {as : List Ag} : agos env (.v d :: as) = (agos env as).map fun os => .val d :: os := nr rfl
theorem e_agP {i : Nat} {as : List Ag} : agos env (.p i :: as) = (gtO env[i]? some).bind fun o => (agos env as).map fun os => o :: os := by
  show ((env[i]?).join).bind _ = _
  unfold gtO
  cases env[i]? with
  | none => rfl
  | some o => cases o <;> rfl
theorem e_ord {π : List Nat} {f : M (List Ag)} {Q : Kt (List Ag)} : wp (M.map (ord π (.v .non)) f) env Q = wp f env (kOrd π Q) := e_bdk _ (fun _ _ => e_ret) fun _ _ => rfl
theorem e_kOrd {π : List Nat} {as : List Ag} {Q : Kt (List Ag)} : kOrd π Q (.ok as) env = Q (.ok (ord π (.v .non) as)) env := nr rfl
theorem e_ord0 {α : Type} {d : α} {xs : List α} : ord [] d xs = [] := nr rfl
theorem e_ord1 {α : Type} {d : α} {i : Nat} {π : List Nat} {xs : List α} : ord (i :: π) d xs = (xs[i]?).getD d :: ord π d xs := by
  show xs.getD i d :: _ = _
  rw [List.getD_eq_getElem?_getD]; rfl
theorem e_aBoth {f g : M (List Ag)} {Q : Kt (List Ag)} : wp (aBoth f g) env Q = wp f env (kBoth1 g Q) := e_bdk _ (fun _ _ => e_bdk _ (fun _ _ => e_ret) fun _ _ => rfl) fun _ _ => rfl
theorem e_kBoth1 {g : M (List Ag)} {as : List Ag} {Q : Kt (List Ag)} : kBoth1 g Q (.ok as) env = wp g env (kBoth2 as Q) := nr rfl
theorem e_kBoth2 {as bs : List Ag} {Q : Kt (List Ag)} : kBoth2 as Q (.ok bs) env = Q (.ok (as ++ bs)) env := nr rfl
/-! ### a def, loops -/
theorem e_kDf_nx {io : List Nat} {n : Nat} {Q : Kt O} : kDf io n Q (.ok .nx) env = Q (.ok (.val .non)) (outs io n env) := nr rfl
theorem e_kDf_rt {io : List Nat} {n : Nat} {o : O} {Q : Kt O} : kDf io n Q (.ok (.ret o)) env = Q (.ok o) (outs io n env) := nr rfl
theorem e_kDf_er {io : List Nat} {n : Nat} {x : Ex} {Q : Kt O} : kDf io n Q (.error x) env = Q (.error x) (outs io n env) := nr rfl
def outsE (io : List Nat) : Nat → Nat → Env → Env
  | _, 0, _ => []
  | j, n + 1, [] => none :: outsE io (j + 1) n []
  | j, n + 1, o :: e => (if j ∈ io then o else none) :: outsE io (j + 1) n e
theorem outsE_eq {io : List Nat} : ∀ (n j : Nat) (e : Env), outsE io j n e = (List.range' j n).map fun k => if k ∈ io then (e[k - j]?).join else none
  | 0, _, _ => rfl
  | n + 1, j, [] => by
    rw [outsE, outsE_eq n (j + 1) [], List.range'_succ]
    simp
  | n + 1, j, o :: e => by
    rw [outsE, outsE_eq n (j + 1) e, List.range'_succ]
    simp only [List.map_cons, Nat.sub_self, List.getElem?_cons_zero, Option.join_some, List.cons.injEq, true_and]
    refine List.map_congr_left fun k hk => ?_
    have : j + 1 ≤ k := (List.mem_range'_1.mp hk).1
    rw [show k - j = (k - (j + 1)) + 1 by omega, List.getElem?_cons_succ]
theorem e_outs {io : List Nat} {n : Nat} : outs io n env = outsE io 0 n env := by
  rw [outsE_eq]; unfold outs; rw [List.range_eq_range']; rfl
theorem e_outs0 {io : List Nat} {j : Nat} : outsE io j 0 env = [] := by cases env <;> rfl
theorem e_outs1 {io : List Nat} {j n : Nat} {o : Option O} : outsE io j (n + 1) (o :: env) = (if j ∈ io then o else none) :: outsE io (j + 1) n env := nr rfl
theorem e_sFor {f : M (List D)} {g : O → M Unit} {b : M Fl} {Q : Kt Fl} : wp (sFor f g b) env Q = wp f env (kFor g b Q) := e_bdk _ (fun _ _ => rfl) fun _ _ => rfl
theorem e_kFor {g : O → M Unit} {b : M Fl} {ds : List D} {Q : Kt Fl} : kFor g b Q (.ok ds) env = wp (forF g b ds) env Q := nr rfl
theorem e_kLp_nx {I : Env → Prop} {Q : Kt Fl} : kLp I Q (.ok .nx) env = I env := nr rfl
theorem e_kLp_ct {I : Env → Prop} {Q : Kt Fl} : kLp I Q (.ok .ct) env = I env := nr rfl
theorem e_kLp_bk {I : Env → Prop} {Q : Kt Fl} : kLp I Q (.ok .bk) env = Q (.ok .nx) env := nr rfl
theorem e_kLp_rt {I : Env → Prop} {o : O} {Q : Kt Fl} : kLp I Q (.ok (.ret o)) env = Q (.ok (.ret o)) env := nr rfl
theorem e_kTgB {b : M Fl} {u : Unit} {Q : Kt Fl} : kTgB b Q (.ok u) env = wp b env Q := nr rfl
theorem e_kWh_t {b : M Fl} {R Q : Kt Fl} : kWh b R Q (.ok true) env = wp b env R := nr rfl
theorem e_kWh_f {b : M Fl} {R Q : Kt Fl} : kWh b R Q (.ok false) env = Q (.ok .nx) env := nr rfl
theorem e_kWh {p : Prop} [Decidable p] {b : M Fl} {R Q : Kt Fl} : kWh b R Q (.ok (decide p)) env = ((p → wp b env R) ∧ (¬ p → Q (.ok .nx) env)) := by
  apply propext
  by_cases hp : p
  · rw [decide_eq_true hp, e_kWh_t]; simp [hp]
  · rw [decide_eq_false hp, e_kWh_f]; simp [hp]
theorem e_oLc {own : List Nat} {f : M (List D)} {g : O → M Unit} {c : M Bool} {el : M O} {Q : Kt O} : wp (oLc own f g c el) env Q = wp f env (kLc own g c el Q) := e_bdk _ (fun ds e => by
  apply propext
  rw [wp_eq]
  constructor
  · intro h
    by_cases z : ds.length ≤ sizeLine
    · simp only [if_pos z] at h
      cases hh : lcF own g c el ds (wipeE own e) with
      | none => rw [hh] at h; exact h.elim
      | some x => rw [hh] at h; exact ⟨z, x.1, x.2, hh, h⟩
    · simp only [if_neg z] at h
  · rintro ⟨z, os, eB, h1, h2⟩
    simp only [if_pos z, h1]; exact h2) fun _ _ => rfl
theorem e_kLg {own : List Nat} {c : M Bool} {el : M O} {acc : List O} {J : List O → Env → Prop} {u : Unit} : kLg own c el acc J (.ok u) env = wp c env (kLcd own el acc J) := nr rfl
theorem e_kLcd_t {own : List Nat} {el : M O} {acc : List O} {J : List O → Env → Prop} : kLcd own el acc J (.ok true) env = wp el env (kLe own acc J) := nr rfl
theorem e_kLcd_f {own : List Nat} {el : M O} {acc : List O} {J : List O → Env → Prop} : kLcd own el acc J (.ok false) env = J acc (wipeE own env) := nr rfl
theorem e_kLcd {p : Prop} [Decidable p] {own : List Nat} {el : M O} {acc : List O} {J : List O → Env → Prop} : kLcd own el acc J (.ok (decide p)) env = ((p → wp el env (kLe own acc J)) ∧ (¬ p → J acc (wipeE own env))) := by
  apply propext
  by_cases hp : p
  · rw [decide_eq_true hp, e_kLcd_t]; simp [hp]
  · rw [decide_eq_false hp, e_kLcd_f]; simp [hp]
theorem e_kLe {own : List Nat} {acc : List O} {J : List O → Env → Prop} {o : O} : kLe own acc J (.ok o) env = J (acc ++ [o]) (wipeE own env) := nr rfl
theorem e_wip0 : wipeE [] env = env := WipB.nil.eq
theorem e_wip1 {v : Nat} {vs : List Nat} : wipeE (v :: vs) env = (wipeE vs env).set v none := by
  apply List.ext_getElem?
  intro j
  rw [wipeE_get, List.getElem?_set, wipeE_get]
  have hl : (wipeE vs env).length = env.length := by unfold wipeE; rw [List.length_mapIdx]
  rw [hl]
  by_cases hj : v = j
  · subst hj
    rw [if_pos rfl]
    by_cases h : v < env.length
    · rw [if_pos h, List.getElem?_eq_getElem h]; simp
    · rw [if_neg h, List.getElem?_eq_none (by omega)]; rfl
  · rw [if_neg hj]
    cases env[j]? with
    | none => rfl
    | some o => simp [Ne.symm hj]
theorem e_size : sizeLine = 16777216 := nr rfl
theorem x_last1 {α β : Type} {f : α → β} {l : List α} {x : α} : ((l ++ [x]).map f).getLast? = some (f x) := by simp
theorem x_drop1 {α β : Type} {f : α → β} {l : List α} {x : α} : ((l ++ [x]).map f).dropLast = l.map f := by simp
theorem x_last2 {α β γ : Type} {g : β → γ} {f : α → β} {l : List α} {x : α} : (((l ++ [x]).map f).map g).getLast? = some (g (f x)) := by simp
theorem x_drop2 {α β γ : Type} {g : β → γ} {f : α → β} {l : List α} {x : α} : (((l ++ [x]).map f).map g).dropLast = (l.map f).map g := by simp
theorem x_ixlast1 {α : Type} {f : α → D} {l : List α} {x : α} : dIx (.lst ((l ++ [x]).map f)) (.int (-1)) = some (f x) := by
  show L2.atI _ _ = _
  rw [List.map_append]
  exact atI_last _ _
theorem x_ixlast {l : List D} {x : D} : dIx (.lst (l ++ [x])) (.int (-1)) = some x := atI_last _ _
theorem x_ixl {l : List D} {n : Nat} : dIx (.lst l) (.int (n : Int)) = l[n]? := by
  show L2.atI _ _ = _
  unfold L2.atI ixN
  by_cases h : n < l.length
  · rw [if_pos (by omega), if_pos (by omega)]; rfl
  · rw [if_pos (by omega), if_neg (by omega), List.getElem?_eq_none (by omega)]; rfl
theorem x_ixt {l : List D} {n : Nat} : dIx (.tup l) (.int (n : Int)) = l[n]? := x_ixl
theorem x_c0 : ((0 : Nat) : Int) = 0 := nr rfl
theorem x_c1 : ((1 : Nat) : Int) = 1 := nr rfl
theorem x_c2 : ((2 : Nat) : Int) = 2 := nr rfl
theorem x_c3 : ((3 : Nat) : Int) = 3 := nr rfl
theorem x_c4 : ((4 : Nat) : Int) = 4 := nr rfl
theorem x_c5 : ((5 : Nat) : Int) = 5 := nr rfl
/-! ### what kind -/
theorem x_isi_t {ds : List D} : dIsi (.tup ds) (.ty "tuple") = some (.bl true) := nr rfl
theorem x_isi_i {i : Int} : dIsi (.int i) (.ty "tuple") = some (.bl false) := nr rfl
theorem x_isi_s {i : Str} : dIsi (.str i) (.ty "tuple") = some (.bl false) := nr rfl
theorem x_isi_b {i : Bool} : dIsi (.bl i) (.ty "tuple") = some (.bl false) := nr rfl
theorem x_isi_n : dIsi .non (.ty "tuple") = some (.bl false) := nr rfl
theorem x_isi_ii {i : Int} : dIsi (.int i) (.ty "int") = some (.bl true) := nr rfl
theorem x_isi_ib {i : Int} : dIsi (.int i) (.ty "bool") = some (.bl false) := nr rfl
theorem x_isi_is {i : Int} : dIsi (.int i) (.ty "str") = some (.bl false) := nr rfl
theorem x_isi_ss {i : Str} : dIsi (.str i) (.ty "str") = some (.bl true) := nr rfl
theorem x_isi_3i {i : Int} : dIsi (.int i) (.tup [.ty "tuple", .ty "list", .ty "dict"]) = some (.bl false) := nr rfl
theorem x_isi_3s {i : Str} : dIsi (.str i) (.tup [.ty "tuple", .ty "list", .ty "dict"]) = some (.bl false) := nr rfl
theorem x_isi_3b {i : Bool} : dIsi (.bl i) (.tup [.ty "tuple", .ty "list", .ty "dict"]) = some (.bl false) := nr rfl
theorem x_isi_3n : dIsi .non (.tup [.ty "tuple", .ty "list", .ty "dict"]) = some (.bl false) := nr rfl
theorem x_is_ni {i : Int} : dIs (.int i) .non = some (.bl false) := nr rfl
theorem x_is_nb {i : Bool} : dIs (.bl i) .non = some (.bl false) := nr rfl
theorem x_is_ns {i : Str} : dIs (.str i) .non = some (.bl false) := nr rfl
theorem x_is_nt {i : List D} : dIs (.tup i) .non = some (.bl false) := nr rfl
theorem x_is_nn : dIs .non .non = some (.bl true) := nr rfl
theorem x_is_ti {i : Int} {b : Bool} : dIs (.int i) (.bl b) = some (.bl false) := by cases b <;> rfl
theorem x_is_ts {i : Str} {b : Bool} : dIs (.str i) (.bl b) = some (.bl false) := by cases b <;> rfl
theorem x_is_tt : dIs (.bl true) (.bl true) = some (.bl true) := nr rfl
theorem x_is_tf : dIs (.bl true) (.bl false) = some (.bl false) := nr rfl
theorem x_is_ft : dIs (.bl false) (.bl true) = some (.bl false) := nr rfl
theorem x_is_ff : dIs (.bl false) (.bl false) = some (.bl true) := nr rfl
theorem x_eq_refl {k : Bool} {n : Nat} {d : D} (h : Pd k n d) (hn : n ≤ 64 := by decide) : dEq d d = some (.bl true) := by unfold dEq; rw [dEqB_refl h hn]; rfl
theorem x_ne_refl {k : Bool} {n : Nat} {d : D} (h : Pd k n d) (hn : n ≤ 64 := by decide) : dNe d d = some (.bl false) := by unfold dNe; rw [dEqB_refl h hn]; rfl
theorem x_eq_str {x : Str} (h : PyData.strOk x = true) : dEq (.str x) (.str x) = some (.bl true) := x_eq_refl (k := true) (n := 0) (by unfold Pd; exact h)
theorem x_tru_b {b : Bool} : D.tru (.bl b) = some b := nr rfl
theorem x_ht0 : hTup [] = some (.tup []) := hTup_ok (Nat.le_of_ble_eq_true rfl)
theorem x_hl0 : hLst [] = some (.lst (List.map .val [])) := hLst_ok (Nat.le_of_ble_eq_true rfl)
theorem x_ht1 {a : D} : hTup [a] = some (.tup [a]) := hTup_ok (Nat.le_of_ble_eq_true rfl)
theorem x_hl1 {a : D} : hLst [a] = some (.lst (List.map .val [a])) := hLst_ok (Nat.le_of_ble_eq_true rfl)
theorem x_ht2 {a b : D} : hTup [a, b] = some (.tup [a, b]) := hTup_ok (Nat.le_of_ble_eq_true rfl)
theorem x_hl2 {a b : D} : hLst [a, b] = some (.lst (List.map .val [a, b])) := hLst_ok (Nat.le_of_ble_eq_true rfl)
theorem x_ht3 {a b c : D} : hTup [a, b, c] = some (.tup [a, b, c]) := hTup_ok (Nat.le_of_ble_eq_true rfl)
theorem x_hl3 {a b c : D} : hLst [a, b, c] = some (.lst (List.map .val [a, b, c])) := hLst_ok (Nat.le_of_ble_eq_true rfl)
theorem x_ht4 {a b c d : D} : hTup [a, b, c, d] = some (.tup [a, b, c, d]) := hTup_ok (Nat.le_of_ble_eq_true rfl)
theorem x_hl4 {a b c d : D} : hLst [a, b, c, d] = some (.lst (List.map .val [a, b, c, d])) := hLst_ok (Nat.le_of_ble_eq_true rfl)
theorem x_ht5 {a b c d e : D} : hTup [a, b, c, d, e] = some (.tup [a, b, c, d, e]) := hTup_ok (Nat.le_of_ble_eq_true rfl)
theorem x_hl5 {a b c d e : D} : hLst [a, b, c, d, e] = some (.lst (List.map .val [a, b, c, d, e])) := hLst_ok (Nat.le_of_ble_eq_true rfl)
theorem x_ht6 {a b c d e f : D} : hTup [a, b, c, d, e, f] = some (.tup [a, b, c, d, e, f]) := hTup_ok (Nat.le_of_ble_eq_true rfl)
theorem x_hl6 {a b c d e f : D} : hLst [a, b, c, d, e, f] = some (.lst (List.map .val [a, b, c, d, e, f])) := hLst_ok (Nat.le_of_ble_eq_true rfl)
/-! ### a loop's rows -/
theorem range_get {n i : Nat} {d : D} (h : (rangeD 0 n)[i]? = some d) : d = .int (i : Int) ∧ i < n := by
  unfold rangeD at h
  rw [List.getElem?_map] at h
  by_cases hi : i < n
  · rw [List.getElem?_range hi] at h
    simp at h
    exact ⟨h.symm, hi⟩
  · rw [List.getElem?_eq_none (by rw [List.length_range]; omega)] at h
    cases h
theorem range_len {lo : Int} {n : Nat} : (rangeD lo n).length = n := by unfold rangeD; rw [List.length_map, List.length_range]
theorem snoc_take {α : Type} {l : List α} {i : Nat} {a : α} (h : l[i]? = some a) : l.take (i + 1) = l.take i ++ [a] := by rw [List.take_add_one, h]; rfl
theorem vals_app {α : Type} {f : α → D} {l : List α} {x : α} : ((l ++ [x]).map f).map O.val = (l.map f).map O.val ++ [O.val (f x)] := by simp
theorem ints_get {ns : List Int} {i : Nat} {d : D} (h : (ns.map D.int)[i]? = some d) : ∃ c, d = .int c ∧ ns[i]? = some c := by
  rw [List.getElem?_map] at h
  cases q : ns[i]? with
  | none => rw [q] at h; cases h
  | some c => rw [q] at h; exact ⟨c, (Option.some.inj h).symm, rfl⟩
/-! ### rows of numbers, equal or not -/
theorem pd_ints {k : Bool} (a : List Int) : Pd k 1 (.lst (a.map D.int)) ∧ Pd k 1 (.tup (a.map D.int)) := ⟨.lst .ints, .tup .ints⟩
theorem dec_of {p q : Prop} {ip : Decidable p} {iq : Decidable q} (h : p ↔ q) : @decide p ip = @decide q iq := by
  by_cases hq : q
  · rw [decide_eq_true hq, decide_eq_true (h.mpr hq)]
  · rw [decide_eq_false hq, decide_eq_false fun z => hq (h.mp z)]
theorem some_bl {a b : Bool} (h : a = b) : some (D.bl a) = some (D.bl b) := by rw [h]
theorem x_eql {a b : List Int} : dEq (.lst (a.map D.int)) (.lst (b.map D.int)) = some (.bl (decide (a = b))) := (op_eqp (pd_ints a).1 (pd_ints b).1).trans (some_bl (dec_of ⟨fun h => ints_inj (D.lst.inj h), fun h => by rw [h]⟩))
theorem x_eqt {a b : List Int} : dEq (.tup (a.map D.int)) (.tup (b.map D.int)) = some (.bl (decide (a = b))) := (op_eqp (pd_ints a).2 (pd_ints b).2).trans (some_bl (dec_of ⟨fun h => ints_inj (D.tup.inj h), fun h => by rw [h]⟩))
theorem x_nel {a b : List Int} : dNe (.lst (a.map D.int)) (.lst (b.map D.int)) = some (.bl (decide (a ≠ b))) := (op_nep (pd_ints a).1 (pd_ints b).1).trans (some_bl (dec_of ⟨fun h e => h (by rw [e]), fun h e => h (ints_inj (D.lst.inj e))⟩))
theorem x_net {a b : List Int} : dNe (.tup (a.map D.int)) (.tup (b.map D.int)) = some (.bl (decide (a ≠ b))) := (op_nep (pd_ints a).2 (pd_ints b).2).trans (some_bl (dec_of ⟨fun h e => h (by rw [e]), fun h e => h (ints_inj (D.tup.inj e))⟩))
theorem x_nel0 {a : List Int} : dNe (.lst (a.map D.int)) (.lst []) = some (.bl (decide (a ≠ []))) := x_nel (b := [])
theorem x_eql0 {a : List Int} : dEq (.lst (a.map D.int)) (.lst []) = some (.bl (decide (a = []))) := x_eql (b := [])
theorem x_net0 {a : List Int} : dNe (.tup (a.map D.int)) (.tup []) = some (.bl (decide (a ≠ []))) := x_net (b := [])
theorem x_eqt0 {a : List Int} : dEq (.tup (a.map D.int)) (.tup []) = some (.bl (decide (a = []))) := x_eqt (b := [])
theorem x_addt {a b : List D} (h : a.length + b.length ≤ sizeLine) : dAdd (.tup a) (.tup b) = some (.tup (a ++ b)) := if_pos h
theorem x_addl {a b : List D} (h : a.length + b.length ≤ sizeLine) : dAdd (.lst a) (.lst b) = some (.lst (a ++ b)) := if_pos h
theorem x_r1 {j : Int} (h : -4611686018427387904 ≤ j) (h2 : j < 4611686018427387904) : hIR1 [.int j] = some (rangeD 0 j.toNat) := hIR1_ok ⟨h, h2⟩
theorem x_r1n {n : Nat} (h : n ≤ 16777216) : hIR1 [.int (n : Int)] = some (rangeD 0 n) := x_r1 (by omega) (by omega)
theorem x_r2 {i j : Int} (h : -4611686018427387904 ≤ i) (h2 : i < 4611686018427387904) (h3 : -4611686018427387904 ≤ j) (h4 : j < 4611686018427387904) : hIR2 [.int i, .int j] = some (rangeD i (j - i).toNat) := hIR2_ok ⟨h, h2, h3, h4⟩
theorem x_addti {α : Type} {f : α → D} {a b : List α} (h : a.length + b.length ≤ 16777216) : dAdd (.tup (a.map f)) (.tup (b.map f)) = some (.tup ((a ++ b).map f)) := by
  rw [List.map_append]; exact x_addt (by rw [List.length_map, List.length_map]; exact h)
theorem x_addli {α : Type} {f : α → D} {a b : List α} (h : a.length + b.length ≤ 16777216) : dAdd (.lst (a.map f)) (.lst (b.map f)) = some (.lst ((a ++ b).map f)) := by
  rw [List.map_append]; exact x_addl (by rw [List.length_map, List.length_map]; exact h)
theorem x_cutl1 {α : Type} {f : α → D} {l : List α} {k : Nat} : dCutO (.lst (l.map f)) none (some (k : Int)) = some (.lst (((l.take k).map f).map .val)) := by
  rw [List.map_take, ← cutL_take]; rfl
theorem x_cutl2 {α : Type} {f : α → D} {l : List α} {k : Nat} : dCutO (.lst (l.map f)) (some (k : Int)) none = some (.lst (((l.drop k).map f).map .val)) := by
  rw [List.map_drop, ← cutL_drop]; rfl
theorem x_cutlT0 {α : Type} {f : α → D} {l : List α} : dCutO (.lst (l.map f)) none (some 0) = some (.lst (((l.take 0).map f).map .val)) := x_cutl1 (k := 0)
theorem x_cutlD0 {α : Type} {f : α → D} {l : List α} : dCutO (.lst (l.map f)) (some 0) none = some (.lst (((l.drop 0).map f).map .val)) := x_cutl2 (k := 0)
theorem x_cutlT1 {α : Type} {f : α → D} {l : List α} : dCutO (.lst (l.map f)) none (some 1) = some (.lst (((l.take 1).map f).map .val)) := x_cutl1 (k := 1)
theorem x_cutlD1 {α : Type} {f : α → D} {l : List α} : dCutO (.lst (l.map f)) (some 1) none = some (.lst (((l.drop 1).map f).map .val)) := x_cutl2 (k := 1)
theorem x_cutlT2 {α : Type} {f : α → D} {l : List α} : dCutO (.lst (l.map f)) none (some 2) = some (.lst (((l.take 2).map f).map .val)) := x_cutl1 (k := 2)
theorem x_cutlD2 {α : Type} {f : α → D} {l : List α} : dCutO (.lst (l.map f)) (some 2) none = some (.lst (((l.drop 2).map f).map .val)) := x_cutl2 (k := 2)
theorem x_cutlT3 {α : Type} {f : α → D} {l : List α} : dCutO (.lst (l.map f)) none (some 3) = some (.lst (((l.take 3).map f).map .val)) := x_cutl1 (k := 3)
theorem x_cutlD3 {α : Type} {f : α → D} {l : List α} : dCutO (.lst (l.map f)) (some 3) none = some (.lst (((l.drop 3).map f).map .val)) := x_cutl2 (k := 3)
theorem x_cutt1 {α : Type} {f : α → D} {l : List α} {k : Nat} : dCutO (.tup (l.map f)) none (some (k : Int)) = some (.val (.tup ((l.take k).map f))) := by
  rw [List.map_take, ← cutL_take]; rfl
theorem x_cutt2 {α : Type} {f : α → D} {l : List α} {k : Nat} : dCutO (.tup (l.map f)) (some (k : Int)) none = some (.val (.tup ((l.drop k).map f))) := by
  rw [List.map_drop, ← cutL_drop]; rfl
theorem x_cuttT0 {α : Type} {f : α → D} {l : List α} : dCutO (.tup (l.map f)) none (some 0) = some (.val (.tup ((l.take 0).map f))) := x_cutt1 (k := 0)
theorem x_cuttD0 {α : Type} {f : α → D} {l : List α} : dCutO (.tup (l.map f)) (some 0) none = some (.val (.tup ((l.drop 0).map f))) := x_cutt2 (k := 0)
theorem x_cuttT1 {α : Type} {f : α → D} {l : List α} : dCutO (.tup (l.map f)) none (some 1) = some (.val (.tup ((l.take 1).map f))) := x_cutt1 (k := 1)
theorem x_cuttD1 {α : Type} {f : α → D} {l : List α} : dCutO (.tup (l.map f)) (some 1) none = some (.val (.tup ((l.drop 1).map f))) := x_cutt2 (k := 1)
theorem x_cuttT2 {α : Type} {f : α → D} {l : List α} : dCutO (.tup (l.map f)) none (some 2) = some (.val (.tup ((l.take 2).map f))) := x_cutt1 (k := 2)
theorem x_cuttD2 {α : Type} {f : α → D} {l : List α} : dCutO (.tup (l.map f)) (some 2) none = some (.val (.tup ((l.drop 2).map f))) := x_cutt2 (k := 2)
theorem x_cuttT3 {α : Type} {f : α → D} {l : List α} : dCutO (.tup (l.map f)) none (some 3) = some (.val (.tup ((l.take 3).map f))) := x_cutt1 (k := 3)
theorem x_cuttD3 {α : Type} {f : α → D} {l : List α} : dCutO (.tup (l.map f)) (some 3) none = some (.val (.tup ((l.drop 3).map f))) := x_cutt2 (k := 3)
end
end PL
/-! PW4: the going through the later rules, as equations. -/
namespace PL
open PySem L2
section
variable {α β : Type} {env : Env}
theorem e_map {f : M α} {h : α → β} {Q : Kt β} (K : Kt α) (hk : ∀ a e, K (.ok a) e = Q (.ok (h a)) e) (hx : ∀ x e, K (.error x) e = Q (.error x) e) : wp (M.map h f) env Q = wp f env K :=
  e_bdk K (fun a e => by rw [hk, e_ret]) hx
/-! ### a new thing of one that is looked at -/
theorem e_oNew {g : D → Option O} {f : M Rdr} {Q : Kt O} : wp (oNew g f) env Q = wp f env (kRd g Q) := e_rd
/-! ### texts -/
def kS1 (g : Str → D → Option D) (h : M Rdr) (Q : Kt D) : Kt D := fun r e => match r with
  | .ok (.str x) => wp h e (kRd (g x) Q)
  | .ok _ => False
  | .error x => Q (.error x) e
theorem e_kS1 {g : Str → D → Option D} {h : M Rdr} {Q : Kt D} {x : Str} : kS1 g h Q (.ok (.str x)) env = wp h env (kRd (g x) Q) := nr rfl
theorem e_vS1 {g : Str → D → Option D} {f : M D} {h : M Rdr} {Q : Kt D} : wp (vS1 g f h) env Q = wp f env (kS1 g h Q) := by
  rw [wp_eq, wp_eq f]
  unfold vS1 asStr M.bd
  cases f env with
  | none => rfl
  | some z =>
    obtain ⟨r, e⟩ := z
    cases r with
    | error x => rfl
    | ok d =>
      cases d with
      | str x =>
        dsimp only [M.lift, kS1]
        have := e_rd (env := e) (f := h) (g := g x) (Q := Q)
        rw [← this, wp_eq]
        rfl
      | _ => rfl
/-! ### d.get -/
def kGt3 (ra rb : Rdr) (Q : Kt D) : Kt D := fun r e => match r with
  | .ok x => ob (h := ⟨fun d => ob (h := ⟨fun k => ob (h := ⟨fun o => Q (.ok (o.getD x)) e⟩) (dLook d k)⟩) (rb e)⟩) (ra e)
  | .error x => Q (.error x) e
def kGt2 (ra : Rdr) (fx : M D) (Q : Kt D) : Kt Rdr := fun r e => match r with
  | .ok rb => wp fx e (kGt3 ra rb Q)
  | .error x => Q (.error x) e
def kGt1 (fb : M Rdr) (fx : M D) (Q : Kt D) : Kt Rdr := fun r e => match r with
  | .ok ra => ob (h := ⟨fun d => d.isD = true ∧ wp fb e (kGt2 ra fx Q)⟩) (ra e)
  | .error x => Q (.error x) e
theorem e_kGt1 {fb : M Rdr} {fx : M D} {Q : Kt D} {ra : Rdr} : kGt1 fb fx Q (.ok ra) env = ob (h := ⟨fun d => d.isD = true ∧ wp fb env (kGt2 ra fx Q)⟩) (ra env) := nr rfl
theorem e_kGt2 {fx : M D} {Q : Kt D} {ra rb : Rdr} : kGt2 ra fx Q (.ok rb) env = wp fx env (kGt3 ra rb Q) := nr rfl
theorem e_kGt3 {Q : Kt D} {ra rb : Rdr} {x : D} : kGt3 ra rb Q (.ok x) env = ob (h := ⟨fun d => ob (h := ⟨fun k => ob (h := ⟨fun o => Q (.ok (o.getD x)) env⟩) (dLook d k)⟩) (rb env)⟩) (ra env) := nr rfl
theorem wp_none {Q : Kt α} : wp (fun _ => none) env Q = False := by rw [wp_eq]
theorem e_vGet {fa fb : M Rdr} {fx : M D} {Q : Kt D} : wp (vGet fa fb fx) env Q = wp fa env (kGt1 fb fx Q) := by
  refine e_bdk _ (fun ra e => ?_) (fun x e => rfl)
  rw [e_kGt1, wp_eq]
  cases h : ra e with
  | none => rfl
  | some d =>
    dsimp only
    by_cases hd : d.isD = true
    · rw [if_pos hd]
      have : wp fb e (kGt2 ra fx Q) = wp (M.bd fb fun rb => M.bd fx fun x env => M.lift ((ra env).bind fun d => (rb env).bind fun k => (dLook d k).map fun o => o.getD x) env) e Q := by
        refine (e_bdk (Q := Q) (f := fb) (kGt2 ra fx Q) (fun rb e2 => ?_) (fun x e => rfl)).symm
        rw [e_kGt2]
        refine (e_bdk (Q := Q) (f := fx) (kGt3 ra rb Q) (fun x e3 => ?_) (fun x e => rfl))
        rw [e_kGt3, wp_eq]
        cases ra e3 with
        | none => rfl
        | some d =>
          cases rb e3 with
          | none => rfl
          | some k =>
            show _ = ob (h := ⟨_⟩) _
            cases q : dLook d k with
            | none => simp [M.lift, q, ob]
            | some o => simp [M.lift, q, ob]
      show _ = (d.isD = true ∧ wp fb e (kGt2 ra fx Q))
      rw [this, wp_eq]
      simp [hd]
    · rw [if_neg hd]
      show False = (d.isD = true ∧ wp fb e (kGt2 ra fx Q))
      simp [hd]
/-! ### list({x: True ..}) -/
def kUl (i : Nat) (Q : Kt O) : Kt (List D) := fun r e => match r with
  | .ok items => ob (h := ⟨fun ks => i < e.length ∧ items.length < sizeLine ∧ Q (.ok (.lst (((ddF ks).map kDt).map .val))) e⟩) (D.keys items)
  | .error x => Q (.error x) e
theorem e_kUl {i : Nat} {Q : Kt O} {items : List D} : kUl i Q (.ok items) env = ob (h := ⟨fun ks => i < env.length ∧ items.length < sizeLine ∧ Q (.ok (.lst (((ddF ks).map kDt).map .val))) env⟩) (D.keys items) := nr rfl
theorem e_oUnl {i : Nat} {f : M (List D)} {Q : Kt O} : wp (oUnl i f) env Q = wp f env (kUl i Q) := by
  refine e_bdk _ (fun items e => ?_) (fun x e => rfl)
  rw [e_kUl, wp_eq]
  cases q : D.keys items with
  | none => rfl
  | some ks =>
    show _ = (i < e.length ∧ items.length < sizeLine ∧ _)
    by_cases h : i < e.length ∧ items.length < sizeLine
    · simp only [M.lift, h, and_self, if_true, true_and]
    · have : ¬ (i < e.length ∧ items.length < sizeLine ∧ Q (.ok (.lst (((ddF ks).map kDt).map .val))) e) := fun z => h ⟨z.1, z.2.1⟩
      simp only [M.lift, h, if_false, this]
/-! ### classes -/
def kMk2 (e : Env) (Q : Kt O) : Kt O := fun r out => match r, out with
  | .ok (.val .non), some o :: _ => Q (.ok o) e
  | _, _ => False
def kMk (c : Str) (n : Nat) (m : Fn) (Q : Kt O) : Kt (List D) := fun r e => match r with
  | .ok ds => ds.length + 1 = n ∧ wpF m (.ins c [] [] :: ds.map .val) (kMk2 e Q)
  | .error x => Q (.error x) e
theorem e_kMk2 {Q : Kt O} {o : O} {out : Env} : kMk2 env Q (.ok (.val .non)) (some o :: out) = Q (.ok o) env := nr rfl
theorem e_kMk {c : Str} {n : Nat} {m : Fn} {Q : Kt O} {ds : List D} : kMk c n m Q (.ok ds) env = (ds.length + 1 = n ∧ wpF m (.ins c [] [] :: ds.map .val) (kMk2 env Q)) := nr rfl
theorem wpF_eqp {m : Fn} {os : List O} {Q : Kt O} : wpF m os Q = match m os with
    | some (r, e) => Q r e
    | none => False := by
  apply propext
  unfold wpF
  constructor
  · rintro ⟨r, e, h1, h2⟩; rw [h1]; exact h2
  · intro h
    split at h
    · rename_i r e q; exact ⟨r, e, q, h⟩
    · exact h.elim
theorem e_oMake {c : Str} {n : Nat} {m : Fn} {f : M (List D)} {Q : Kt O} : wp (oMake c n m f) env Q = wp f env (kMk c n m Q) := by
  refine e_bdk _ (fun ds e => ?_) (fun x e => rfl)
  rw [e_kMk, wp_eq, wpF_eqp]
  by_cases h : ds.length + 1 = n
  · simp only [h, if_true, true_and]
    cases q : m (.ins c [] [] :: ds.map .val) with
    | none => simp
    | some z =>
      obtain ⟨r, out⟩ := z
      unfold kMk2
      dsimp only
      split <;> rename_i hh <;> split at hh <;> simp_all
  · simp only [h, if_false, false_and]
/-! ### what stands at a path, changed -/
theorem e_atP {i : Nat} {p : Pth} {h : O → Option (α × O)} {Q : Kt α} : wp (atP i p h) env Q = gt (h := ⟨fun o => ob (h := ⟨fun o1 => ob (h := ⟨fun x => ob (h := ⟨fun o' => Q (.ok x.1) (env.set i (some o'))⟩) (o.put p x.2)⟩) (h o1)⟩) (o.at p)⟩) env[i]? := by
  rw [wp_eq]
  unfold atP
  cases env[i]? with
  | none => rfl
  | some z =>
    cases z with
    | none => rfl
    | some o =>
      show _ = ob (h := ⟨_⟩) _
      cases q1 : o.at p with
      | none => simp [q1, ob]
      | some o1 =>
        show _ = ob (h := ⟨_⟩) _
        cases q2 : h o1 with
        | none => simp [q1, q2, ob]
        | some x =>
          obtain ⟨a, o1'⟩ := x
          show _ = ob (h := ⟨_⟩) _
          cases q3 : o.put p o1' with
          | none => simp [q1, q2, q3, ob]
          | some o' => simp [q1, q2, q3, ob]
def kNx (Q : Kt Fl) : Kt Unit := fun r e => match r with
  | .ok _ => Q (.ok .nx) e
  | .error x => Q (.error x) e
theorem e_kNx {Q : Kt Fl} {u : Unit} : kNx Q (.ok u) env = Q (.ok .nx) env := nr rfl
def kFp (i : Nat) (p : Pth) (c f : Str) (Q : Kt Fl) : Kt O := fun r e => match r with
  | .ok o => wp (atP i p fun o1 => (dFPut c f o1 o).map fun z => ((), z)) e (kNx Q)
  | .error x => Q (.error x) e
theorem e_kFp {i : Nat} {p : Pth} {c f : Str} {Q : Kt Fl} {o : O} : kFp i p c f Q (.ok o) env = wp (atP i p fun o1 => (dFPut c f o1 o).map fun z => ((), z)) env (kNx Q) := nr rfl
theorem e_sFPut {i : Nat} {p : Pth} {c f : Str} {g : M O} {Q : Kt Fl} : wp (sFPut i p c f g) env Q = wp g env (kFp i p c f Q) :=
  e_bdk _ (fun o e => by rw [e_kFp]; exact e_bdk _ (fun u e => by rw [e_kNx]; unfold sNx; rw [e_ret]) fun x e => rfl) fun x e => rfl
def kDp2 (i : Nat) (p : Pth) (o : O) (Q : Kt Fl) : Kt D := fun r e => match r with
  | .ok d => wp (atP i p fun o1 => (dPutO o1 d o).map fun o1' => ((), o1')) e (kNx Q)
  | .error x => Q (.error x) e
def kDp1 (i : Nat) (p : Pth) (g : M D) (Q : Kt Fl) : Kt O := fun r e => match r with
  | .ok o => ob (h := ⟨fun _ => wp g e (kDp2 i p o Q)⟩) (Env.at e i p)
  | .error x => Q (.error x) e
theorem e_kDp2 {i : Nat} {p : Pth} {o : O} {Q : Kt Fl} {d : D} : kDp2 i p o Q (.ok d) env = wp (atP i p fun o1 => (dPutO o1 d o).map fun o1' => ((), o1')) env (kNx Q) := nr rfl
theorem e_kDp1 {i : Nat} {p : Pth} {g : M D} {Q : Kt Fl} {o : O} : kDp1 i p g Q (.ok o) env = ob (h := ⟨fun _ => wp g env (kDp2 i p o Q)⟩) (Env.at env i p) := nr rfl
theorem e_sDPutP {i : Nat} {p : Pth} {f : M O} {g : M D} {Q : Kt Fl} : wp (sDPutP i p f g) env Q = wp f env (kDp1 i p g Q) := by
  refine e_bdk _ (fun o e => ?_) (fun x e => rfl)
  rw [e_kDp1, wp_eq]
  cases Env.at e i p with
  | none => rfl
  | some z =>
    show _ = wp g e (kDp2 i p o Q)
    have : wp (M.bd g fun d => M.bd (atP i p fun o1 => (dPutO o1 d o).map fun o1' => ((), o1')) fun _ => sNx) e Q = wp g e (kDp2 i p o Q) :=
      e_bdk _ (fun d e => by rw [e_kDp2]; exact e_bdk _ (fun u e => by rw [e_kNx]; unfold sNx; rw [e_ret]) fun x e => rfl) fun x e => rfl
    rw [← this, wp_eq]
def kDi (ks : List Str) (Q : Kt O) : Kt (List O) := fun r e => match r with
  | .ok os => Q (.ok (.dK (ks.map Sum.inr) os)) e
  | .error x => Q (.error x) e
theorem e_kDi {ks : List Str} {Q : Kt O} {os : List O} : kDi ks Q (.ok os) env = Q (.ok (.dK (ks.map Sum.inr) os)) env := nr rfl
theorem e_oDisp {ks : List Str} {f : M (List O)} {Q : Kt O} : wp (oDisp ks f) env Q = wp f env (kDi ks Q) := e_map _ (fun _ _ => rfl) fun _ _ => rfl
def kPa (i : Nat) (p : Pth) (Q : Kt O) : Kt D := fun r e => match r with
  | .ok (.int n) => lsO (h := ⟨fun os => -(2 ^ 63) ≤ n ∧ n < 2 ^ 63 ∧ ob (h := ⟨fun j => ob (h := ⟨fun o => putE e i p (.lst (os.eraseIdx j)) fun e' => Q (.ok o) e'⟩) os[j]?⟩) (ixN os.length n)⟩) (Env.at e i p)
  | .ok _ => False
  | .error x => Q (.error x) e
theorem e_kPa {i : Nat} {p : Pth} {n : Int} {Q : Kt O} : kPa i p Q (.ok (.int n)) env = lsO (h := ⟨fun os => -(2 ^ 63) ≤ n ∧ n < 2 ^ 63 ∧ ob (h := ⟨fun j => ob (h := ⟨fun o => putE env i p (.lst (os.eraseIdx j)) fun e' => Q (.ok o) e'⟩) os[j]?⟩) (ixN os.length n)⟩) (Env.at env i p) := nr rfl
theorem e_oPopAt {i : Nat} {p : Pth} {g : M D} {Q : Kt O} : wp (oPopAt i p g) env Q = lsO (h := ⟨fun _ => wp g env (kPa i p Q)⟩) (Env.at env i p) := by
  rw [wp_eq]
  unfold oPopAt
  cases Env.at env i p with
  | none => rfl
  | some z =>
    cases z with
    | lst os =>
      show _ = wp g env (kPa i p Q)
      have : wp (M.bd g fun d => atL i p fun os => match d with
        | .int n => if -(2 ^ 63) ≤ n ∧ n < 2 ^ 63 then (ixN os.length n).bind fun j => (os[j]?).map fun o => (o, os.eraseIdx j) else none
        | _ => none) env Q = wp g env (kPa i p Q) := by
        refine e_bdk _ (fun d e => ?_) fun x e => rfl
        rw [wp_atL]
        cases d with
        | int n =>
          rw [e_kPa]
          cases Env.at e i p with
          | none => rfl
          | some z =>
            cases z with
            | lst os =>
              show ob (h := ⟨_⟩) _ = (_ ∧ _ ∧ ob (h := ⟨_⟩) _)
              by_cases hb : -(2 ^ 63) ≤ n ∧ n < 2 ^ 63
              · dsimp only
                rw [if_pos hb]
                cases q1 : ixN os.length n with
                | none => simp [ob]
                | some j =>
                  cases q2 : os[j]? with
                  | none => simp [ob, q2]
                  | some o =>
                    simp only [ob, q2, Option.bind_some, Option.map_some]
                    exact propext ⟨fun z => ⟨hb.1, hb.2, z⟩, fun z => z.2.2⟩
              · dsimp only
                rw [if_neg hb]
                have : ¬ (-(2 ^ 63) ≤ n ∧ n < 2 ^ 63 ∧ ob (h := ⟨fun j => ob (h := ⟨fun o => putE e i p (.lst (os.eraseIdx j)) fun e' => Q (.ok o) e'⟩) os[j]?⟩) (ixN os.length n)) := fun z => hb ⟨z.1, z.2.1⟩
                exact (propext ⟨fun z => z.elim, fun z => this z⟩)
            | _ => rfl
        | _ =>
          unfold kPa
          dsimp only
          cases Env.at e i p with
          | none => rfl
          | some z => cases z <;> rfl
      rw [← this, wp_eq]
      try rfl
    | _ => rfl
/-! ### a, b = x, y of what is held alone -/
def kParO (i j : Nat) (Q : Kt Fl) : Kt (List O) := fun r e => match r with
  | .ok [a, b] => i < e.length ∧ j < e.length ∧ Q (.ok .nx) ((e.set i (some a)).set j (some b))
  | .ok _ => False
  | .error x => Q (.error x) e
theorem e_kParO {i j : Nat} {a b : O} {Q : Kt Fl} : kParO i j Q (.ok [a, b]) env = (i < env.length ∧ j < env.length ∧ Q (.ok .nx) ((env.set i (some a)).set j (some b))) := nr rfl
theorem e_sParO {i j : Nat} {f : M (List O)} {Q : Kt Fl} : wp (sParO i j f) env Q = wp f env (kParO i j Q) := by
  refine e_bdk _ (fun os e => ?_) (fun x e => rfl)
  rw [wp_eq]
  unfold kParO
  split
  · rename_i r e2 hh
    split at hh
    · split at hh
      · rename_i a b hc
        cases hh
        simp [hc.1, hc.2]
      · cases hh
    · cases hh
  · rename_i hh
    split at hh
    · rename_i a b
      split at hh
      · cases hh
      · rename_i hc
        exact (propext ⟨fun z => z.elim, fun z => hc ⟨z.1, z.2.1⟩⟩)
    · rename_i hne
      split
      · rename_i a b h
        cases h
        exact absurd rfl (hne a b)
      · rfl
      · rename_i h; cases h
def kLr (Q : Kt O) : Kt D := fun r e => match r with
  | .ok (.int n) => -1000000 ≤ n ∧ n ≤ 1000000 ∧ Q (.ok (.lst ((rangeD 0 n.toNat).map .val))) e
  | .ok _ => False
  | .error x => Q (.error x) e
theorem e_kLr {n : Int} {Q : Kt O} : kLr Q (.ok (.int n)) env = (-1000000 ≤ n ∧ n ≤ 1000000 ∧ Q (.ok (.lst ((rangeD 0 n.toNat).map .val))) env) := nr rfl
theorem e_oLstRg {f : M D} {Q : Kt O} : wp (oLstRg f) env Q = wp f env (kLr Q) := by
  refine e_bdk _ (fun d e => ?_) (fun x e => rfl)
  rw [wp_eq]
  cases d with
  | int n =>
    rw [e_kLr]
    unfold M.lift
    by_cases h : -1000000 ≤ n ∧ n ≤ 1000000
    · simp [h.1, h.2]
    · simp only [h, if_false]
      have : ¬ (-1000000 ≤ n ∧ n ≤ 1000000 ∧ Q (.ok (.lst ((rangeD 0 n.toNat).map .val))) e) := fun z => h ⟨z.1, z.2.1⟩
      simp only [this]
  | _ => rfl
end
end PL
/-! PW5: what the later rules say, at ints and lists of ints. -/
namespace PL
open PySem L2
theorem eqF {m : Fn} {os : List O} {a : Except Ex O} {b : Env} (h : wpF m os fun r out => r = a ∧ out = b) (Q : Kt O) : wpF m os Q = Q a b := by
  rw [wpF_eqp] at h ⊢
  cases q : m os with
  | none => rw [q] at h; exact h.elim
  | some z =>
    obtain ⟨r, e⟩ := z
    rw [q] at h
    obtain ⟨rfl, rfl⟩ := h
    rfl
abbrev dn (n : Nat) : D := .int (n : Int)
/-! ### x[k] -/
theorem ixA_l {l : List D} {k : D} : dIxA (.lst l) k = dIx (.lst l) k := rfl
theorem ixA_t {l : List D} {k : D} : dIxA (.tup l) k = dIx (.tup l) k := rfl
theorem ixA_s {z : Str} {k : D} : dIxA (.str z) k = dIx (.str z) k := rfl
theorem ix_lm1 {l : List D} : dIx (.lst l) (.int (-1)) = l.getLast? := by
  rcases List.eq_nil_or_concat l with rfl | ⟨l, x, rfl⟩
  · rfl
  · rw [List.concat_eq_append, x_ixlast]; simp
theorem ix_tm1 {l : List D} : dIx (.tup l) (.int (-1)) = l.getLast? := ix_lm1
/-! ### in -/
theorem pys_ints : ∀ ns : List Int, D.pys (ns.map .int) = some (ns.map PyData.int)
  | [] => rfl
  | n :: ns => by rw [List.map_cons, D.pys, pys_ints ns]; rfl
theorem pys_nats (ns : List Nat) : D.pys (ns.map dn) = some (ns.map fun n : Nat => PyData.int (n : Int)) := by
  have := pys_ints (ns.map fun n : Nat => (n : Int))
  rw [List.map_map, List.map_map] at this
  exact this
theorem lay_ints : ∀ ns : List Int, PyData.canLayAll0 (ns.map PyData.int) = true
  | [] => rfl
  | n :: ns => by rw [List.map_cons, PyData.canLayAll0, lay_ints ns]; rfl
theorem shaped_ints (ns : List Int) : SeqAt.shaped (.list (ns.map PyData.int)) = true :=
  shaped_of (by rw [PyData.canLay0]; exact lay_ints ns) (by have := depth_ints ns; simp only [PyData.depth]; omega)
theorem in2B_ints {a : Int} {ns : List Int} : dIn2B (.int a) (.tup (ns.map .int)) = some (decide (a ∈ ns)) := by
  unfold dIn2B dInB
  dsimp only
  rw [pys_ints]
  show (if (SeqAt.shaped (.int a) && SeqAt.shaped (.list (ns.map PyData.int))) = true then _ else _) = _
  rw [shaped_ints, if_pos (by rfl)]
  congr 1
  rw [List.any_map, Bool.eq_iff_iff, List.any_eq_true, decide_eq_true_iff]
  constructor
  · rintro ⟨x, hx, e⟩
    have e : PyData.eqv (.int x) (.int a) = true := e
    simp only [PyData.eqv, beq_iff_eq] at e
    exact e ▸ hx
  · intro h
    exact ⟨a, h, by show PyData.eqv (.int a) (.int a) = true; simp only [PyData.eqv, beq_self_eq_true]⟩
theorem dn_map (ns : List Nat) : ns.map dn = (ns.map fun n : Nat => (n : Int)).map D.int := by rw [List.map_map]; rfl
theorem mem_cast {a : Nat} {ns : List Nat} : ((a : Int) ∈ ns.map fun n : Nat => (n : Int)) ↔ a ∈ ns := by
  rw [List.mem_map]
  exact ⟨fun ⟨x, hx, e⟩ => by have : x = a := by omega
                              exact this ▸ hx, fun h => ⟨a, h, rfl⟩⟩
theorem in2_nats {a : Nat} {ns : List Nat} : dIn2 (.int (a : Int)) (.tup (ns.map dn)) = some (.bl (decide (a ∈ ns))) := by
  unfold dIn2
  rw [dn_map, in2B_ints, Option.map_some]
  congr 2
  exact decide_eq_decide.mpr mem_cast
theorem notIn2_nats {a : Nat} {ns : List Nat} : dNotIn2 (.int (a : Int)) (.tup (ns.map dn)) = some (.bl (decide (a ∉ ns))) := by
  unfold dNotIn2
  rw [dn_map, in2B_ints, Option.map_some]
  by_cases h : a ∈ ns
  · rw [decide_eq_true (mem_cast.mpr h), decide_eq_false (fun z => z h)]; rfl
  · rw [decide_eq_false (fun z => h (mem_cast.mp z)), decide_eq_true h]; rfl
theorem le_pint (a b : Int) : dSle (.int a) (.int b) = decide (a ≤ b) := le_ints a b
theorem sorted_ints {ns : List Int} : dSorted (.lst (ns.map .int)) = some (.lst (((srtI ns).map .int).map .val)) := by
  unfold dSorted dSrt
  dsimp only
  rw [pys_ints]
  dsimp only
  rw [if_pos alike_ints]
  have : (ns.map D.int).mergeSort dSle = (srtI ns).map .int := by
    unfold srtI
    exact (List.map_mergeSort (fun a _ b _ => (le_pint a b).symm)).symm
  rw [Option.map_some, this]
theorem sum_ints {ns : List Int} : dSum (.lst (ns.map .int)) = some (.int ns.sum) := by
  unfold dSum; dsimp only; rw [intsD_map]; rfl
theorem keys_ints : ∀ ns : List Int, D.keys (ns.map .int) = some (ns.map Sum.inl)
  | [] => rfl
  | n :: ns => by rw [List.map_cons, D.keys, keys_ints ns]; rfl
theorem ddF_map {α β : Type} [DecidableEq α] [DecidableEq β] {f : α → β} (hf : ∀ a b, f a = f b → a = b) (l : List α) : ddF (l.map f) = (ddF l).map f := by
  have key : ∀ (l acc : List α), (l.map f).foldl (fun acc k => if k ∈ acc then acc else acc ++ [k]) (acc.map f) = (l.foldl (fun acc k => if k ∈ acc then acc else acc ++ [k]) acc).map f := by
    intro l
    induction l with
    | nil => intro acc; rfl
    | cons a l ih =>
      intro acc
      rw [List.map_cons, List.foldl_cons, List.foldl_cons]
      have : (f a ∈ acc.map f) = (a ∈ acc) := propext ⟨fun h => by
        obtain ⟨b, hb, e⟩ := List.mem_map.mp h
        rw [← hf _ _ e]; exact hb, fun h => List.mem_map.mpr ⟨a, h, rfl⟩⟩
      by_cases h : a ∈ acc
      · rw [if_pos h, if_pos (this ▸ h)]; exact ih acc
      · rw [if_neg h, if_neg (this ▸ h)]
        have := ih (acc ++ [a])
        rw [List.map_append] at this
        exact this
  exact key l []
theorem unl_ints (ns : List Int) : (((ddF (ns.map Sum.inl : List Key)).map kDt).map O.val) = ((ddF ns).map D.int).map O.val := by
  rw [ddF_map (fun a b h => by cases h; rfl), List.map_map, List.map_map, List.map_map]; rfl
theorem srt_ddF (ns : List Int) : srtI (ddF ns) = srtUI ns :=
  srtUI_uniq (lt_of_le_nd (srtI_le _) ((srtI_perm _).nodup_iff.mpr (nodup_ddF ns))) fun k => by rw [(srtI_perm _).mem_iff, mem_ddF]
/-! ### max -/
theorem plDs_ints : ∀ ns : List Int, plDs (ns.map .int) = true
  | [] => rfl
  | n :: ns => by rw [List.map_cons, plDs, plDs_ints ns]; rfl
theorem ok_best (ns : List Int) : okBest (ns.map PyData.int) = true := by
  unfold okBest
  simp only [Bool.and_eq_true, List.all_eq_true, List.mem_map, decide_eq_true_eq]
  refine ⟨⟨?_, ?_⟩, Nat.le_trans (depth_ints ns) (by decide)⟩
  · rintro _ ⟨a, _, rfl⟩ _ ⟨b, _, rfl⟩; rfl
  · rintro _ ⟨a, _, rfl⟩; rfl
theorem best_ints : ∀ (x : Int) (xs : List Int), bestD PySem.W.dataLt (.int x) (xs.map .int) = .int (xs.foldl (fun a y => if a < y then y else a) x)
  | x, [] => rfl
  | x, y :: xs => by
    show bestD PySem.W.dataLt (if PySem.W.dataLt (.int x) (.int y) = true then D.int y else D.int x) (xs.map .int) = _
    rw [PySem.W.dataLt_int, List.foldl_cons]
    by_cases h : x < y
    · rw [decide_eq_true h, if_pos rfl, if_pos h]; exact best_ints y xs
    · rw [decide_eq_false h, if_neg (by decide), if_neg h]; exact best_ints x xs
theorem fold_max : ∀ (x : Int) (xs : List Int) (m : Int), m ∈ x :: xs → (∀ y ∈ x :: xs, y ≤ m) → xs.foldl (fun a y => if a < y then y else a) x = m
  | x, [], m, hm, h => (List.mem_singleton.mp hm).symm
  | x, y :: xs, m, hm, h => by
    rw [List.foldl_cons]
    have hx := h x (by simp)
    have hy := h y (by simp)
    refine fold_max _ xs m ?_ ?_
    · rcases List.mem_cons.mp hm with rfl | hm
      · rw [if_neg (by omega)]; simp
      · rcases List.mem_cons.mp hm with rfl | hm
        · by_cases q : x < m
          · rw [if_pos q]; simp
          · rw [if_neg q]; simp; omega
        · exact List.mem_cons_of_mem _ hm
    · intro z hz
      rcases List.mem_cons.mp hz with rfl | hz
      · split <;> assumption
      · exact h z (by simp [hz])
theorem max_ints {ns : List Int} {m : Int} (hm : m ∈ ns) (h : ∀ x ∈ ns, x ≤ m) : dBest PySem.W.dataLt (.lst (ns.map .int)) = some (.int m) := by
  cases ns with
  | nil => simp at hm
  | cons x xs =>
    have : dBest PySem.W.dataLt (.lst ((x :: xs).map .int)) = dBestL PySem.W.dataLt (.int x :: xs.map .int) := rfl
    rw [this]
    unfold dBestL
    dsimp only
    have e : (D.int x :: xs.map .int).map D.pyd = (x :: xs).map PyData.int := by rw [List.map_cons, List.map_cons, List.map_map]; rfl
    have e2 : plDs (.int x :: xs.map .int) = true := plDs_ints (x :: xs)
    rw [e, ok_best, e2, if_pos ⟨rfl, rfl⟩, best_ints, fold_max x xs m hm h]
end PL
/-! PX1: webs and standings as bits, in plain Lean. -/
namespace PL
open PySem L2
def lob (b : Nat) : List Nat := (List.range 16).filter fun i => b.testBit i
def flp (b t : Nat) : Nat := b ^^^ 2 ^ t
theorem lob_pair (b : Nat) : (lob b).Pairwise (· < ·) := List.Pairwise.filter _ List.pairwise_lt_range
theorem mem_lob {b i : Nat} (hb : b < 2 ^ 16) : i ∈ lob b ↔ b.testBit i = true := by
  unfold lob
  rw [List.mem_filter, List.mem_range]
  refine ⟨fun h => h.2, fun h => ⟨?_, h⟩⟩
  have := Nat.ge_two_pow_of_testBit h
  exact (Nat.pow_lt_pow_iff_right (by decide : 1 < 2)).mp (by omega)
theorem lob_len (b : Nat) : (lob b).length ≤ 16 := Nat.le_trans (List.length_filter_le _ _) (by simp)
theorem asc_nat {l k : List Nat} (h1 : l.Pairwise (· < ·)) (h2 : k.Pairwise (· < ·)) (h : ∀ x, x ∈ l ↔ x ∈ k) : l = k := asc_uniq (lt := (· < ·)) (fun a b h1 h2 => by omega) h1 h2 h
theorem flp_bit {b t i : Nat} : (flp b t).testBit i = (b.testBit i != decide (t = i)) := by
  unfold flp; rw [Nat.testBit_xor, Nat.testBit_two_pow]
theorem flp_flp (b t : Nat) : flp (flp b t) t = b := by
  refine Nat.eq_of_testBit_eq fun i => ?_
  rw [flp_bit, flp_bit]
  cases b.testBit i <;> cases decide (t = i) <;> rfl
theorem flp_lt {n b t : Nat} (hb : b < 2 ^ n) (ht : t < n) : flp b t < 2 ^ n := Nat.xor_lt_two_pow hb ((Nat.pow_lt_pow_iff_right (by decide : 1 < 2)).mpr ht)
theorem xor_two (a b : Nat) : (a ^^^ b) % 2 = (a + b) % 2 := by
  have h := Nat.testBit_xor a b 0
  rw [Nat.testBit_zero, Nat.testBit_zero, Nat.testBit_zero] at h
  have ha := Nat.mod_two_eq_zero_or_one a
  have hb := Nat.mod_two_eq_zero_or_one b
  have hc := Nat.mod_two_eq_zero_or_one (a ^^^ b)
  rcases ha with ha | ha <;> rcases hb with hb | hb <;> rcases hc with hc | hc <;> simp [ha, hb, hc] at h <;> omega
theorem flp_add : ∀ (t b : Nat), b.testBit t = false → b + 2 ^ t = flp b t
  | 0, b, h => by
    unfold flp
    have h1 : (b ^^^ 2 ^ 0) / 2 = b / 2 ^^^ 2 ^ 0 / 2 := Nat.xor_div_two
    have h2 : (b ^^^ 2 ^ 0) % 2 = (b + 2 ^ 0) % 2 := xor_two _ _
    have h3 : b % 2 = 0 := by have := Nat.testBit_zero b; rw [h] at this; have := of_decide_eq_false this.symm; omega
    have h4 : b / 2 ^^^ 2 ^ 0 / 2 = b / 2 := by simp
    rw [h4] at h1
    simp only [Nat.pow_zero] at *
    omega
  | t + 1, b, h => by
    rw [Nat.testBit_succ] at h
    have ih := flp_add t (b / 2) h
    unfold flp at ih ⊢
    have h1 : (b ^^^ 2 ^ (t + 1)) / 2 = b / 2 ^^^ 2 ^ (t + 1) / 2 := Nat.xor_div_two
    have h2 : (b ^^^ 2 ^ (t + 1)) % 2 = (b + 2 ^ (t + 1)) % 2 := xor_two _ _
    have h3 : 2 ^ (t + 1) / 2 = 2 ^ t := by rw [Nat.pow_succ]; omega
    rw [h3, ← ih] at h1
    have h4 : (2 : Nat) ^ (t + 1) = 2 * 2 ^ t := by rw [Nat.pow_succ]; omega
    omega
theorem flp_sub {t b : Nat} (h : b.testBit t = true) : 2 ^ t ≤ b ∧ b - 2 ^ t = flp b t := by
  have h1 : (flp b t).testBit t = false := by rw [flp_bit, h]; simp
  have h2 := flp_add t (flp b t) h1
  rw [flp_flp] at h2
  omega
theorem has_bit {b t : Nat} : (b / 2 ^ t % 2 = 1) ↔ b.testBit t = true := by rw [Nat.testBit_eq_decide_div_mod_eq, decide_eq_true_iff]
theorem lob_drop {b t : Nat} (hb : b < 2 ^ 16) (ht : t < 16) (h : b.testBit t = true) : (lob b).filter (fun i => decide (i ≠ t)) = lob (flp b t) := by
  refine asc_nat (List.Pairwise.filter _ (lob_pair b)) (lob_pair _) fun x => ?_
  rw [List.mem_filter, mem_lob hb, mem_lob (flp_lt hb ht), flp_bit, decide_eq_true_iff]
  by_cases e : t = x
  · subst e; simp [h]
  · simp [e, Ne.symm e]
theorem lob_add {b t : Nat} (hb : b < 2 ^ 16) (ht : t < 16) (h : b.testBit t = false) : srtUI ((lob b ++ [t]).map fun n : Nat => (n : Int)) = (lob (flp b t)).map fun n : Nat => (n : Int) := by
  refine (srtUI_uniq ?_ fun k => ?_).symm
  · rw [List.pairwise_map]
    exact (lob_pair _).imp fun h => by omega
  · rw [List.mem_map, List.mem_map]
    constructor
    · rintro ⟨x, hx, rfl⟩
      refine ⟨x, ?_, rfl⟩
      rw [mem_lob (flp_lt hb ht), flp_bit] at hx
      rw [List.mem_append, mem_lob hb, List.mem_singleton]
      by_cases e : t = x
      · exact .inr e.symm
      · simp [e] at hx; exact .inl hx
    · rintro ⟨x, hx, rfl⟩
      refine ⟨x, ?_, rfl⟩
      rw [mem_lob (flp_lt hb ht), flp_bit]
      rw [List.mem_append, mem_lob hb, List.mem_singleton] at hx
      rcases hx with hx | hx
      · have e : t ≠ x := fun e => by subst e; rw [h] at hx; cases hx
        simp [hx, e]
      · subst hx; simp [h]
/-! ### webs -/
abbrev Lots := List (List (List Nat))
def isLet (ls : Lots) (b t : Nat) : Bool := (ls.getD t []).any fun l => l.all fun i => b.testBit i
def wsum (ws l : List Nat) : Nat := (l.map fun i => ws.getD i 0).sum
def fin (b : Nat) (s : List Nat) : Nat := s.foldl flp b
def oks (ls : Lots) : Nat → List Nat → Bool
  | _, [] => true
  | b, t :: s => isLet ls b t && oks ls (flp b t) s
def scan : Nat → List Nat → List Nat
  | b, [] => [b]
  | b, t :: s => b :: scan (flp b t) s
theorem fin_snoc (b : Nat) (s : List Nat) (t : Nat) : fin b (s ++ [t]) = flp (fin b s) t := by unfold fin; rw [List.foldl_append]; rfl
theorem oks_app (ls : Lots) : ∀ (b : Nat) (s r : List Nat), oks ls b (s ++ r) = (oks ls b s && oks ls (fin b s) r)
  | b, [], r => by simp [oks, fin]
  | b, t :: s, r => by
    show (isLet ls b t && oks ls (flp b t) (s ++ r)) = (isLet ls b t && oks ls (flp b t) s && oks ls (fin (flp b t) s) r)
    rw [oks_app ls (flp b t) s r, Bool.and_assoc]
theorem oks_snoc (ls : Lots) (b : Nat) (s : List Nat) (t : Nat) : oks ls b (s ++ [t]) = (oks ls b s && isLet ls (fin b s) t) := by
  rw [oks_app]; simp [oks]
theorem scan_snoc : ∀ (b : Nat) (s : List Nat) (t : Nat), scan b (s ++ [t]) = scan b s ++ [flp (fin b s) t]
  | b, [], t => rfl
  | b, u :: s, t => by
    show b :: scan (flp b u) (s ++ [t]) = b :: (scan (flp b u) s ++ [flp (fin (flp b u) s) t])
    rw [scan_snoc]
theorem scan_len : ∀ (b : Nat) (s : List Nat), (scan b s).length = s.length + 1
  | b, [] => rfl
  | b, t :: s => by show (scan (flp b t) s).length + 1 = s.length + 1 + 1; rw [scan_len]
theorem scan_last : ∀ (b : Nat) (s : List Nat), (scan b s).getLast? = some (fin b s)
  | b, [] => rfl
  | b, t :: s => by
    have := scan_last (flp b t) s
    show (b :: scan (flp b t) s).getLast? = some (fin (flp b t) s)
    rw [List.getLast?_cons, this]; rfl
theorem scan_get : ∀ (b : Nat) (s : List Nat) (k : Nat), k ≤ s.length → (scan b s)[k]? = some (fin b (s.take k))
  | b, [], k, h => by have : k = 0 := by simpa using h
                      subst this; rfl
  | b, t :: s, 0, h => rfl
  | b, t :: s, k + 1, h => by
    show (scan (flp b t) s)[k]? = _
    rw [scan_get _ s k (by simpa using h)]; rfl
theorem fin_rev : ∀ (b : Nat) (s : List Nat), fin (fin b s) s.reverse = b
  | b, [] => rfl
  | b, t :: s => by
    rw [List.reverse_cons, fin_snoc]
    show flp (fin (fin (flp b t) s) s.reverse) t = b
    rw [fin_rev, flp_flp]
theorem scan_rev : ∀ (b : Nat) (s : List Nat), scan (fin b s) s.reverse = (scan b s).reverse
  | b, [] => rfl
  | b, t :: s => by
    rw [List.reverse_cons, scan_snoc]
    show scan (fin (flp b t) s) s.reverse ++ [flp (fin (fin (flp b t) s) s.reverse) t] = (b :: scan (flp b t) s).reverse
    rw [scan_rev, fin_rev, flp_flp, List.reverse_cons]
theorem fin_lt {n : Nat} : ∀ (b : Nat) (s : List Nat), b < 2 ^ n → (∀ t ∈ s, t < n) → fin b s < 2 ^ n
  | b, [], h, _ => h
  | b, t :: s, h, hs => fin_lt (flp b t) s (flp_lt h (hs t (by simp))) fun u hu => hs u (by simp [hu])
theorem scan_lt {n : Nat} : ∀ (b : Nat) (s : List Nat), b < 2 ^ n → (∀ t ∈ s, t < n) → ∀ x ∈ scan b s, x < 2 ^ n
  | b, [], h, _, x, hx => by rw [List.mem_singleton.mp hx]; exact h
  | b, t :: s, h, hs, x, hx => by
    rcases List.mem_cons.mp hx with rfl | hx
    · exact h
    · exact scan_lt (flp b t) s (flp_lt h (hs t (by simp))) (fun u hu => hs u (by simp [hu])) x hx
/-- a web: names, weights, lots; no thing stands in a lot of its own -/
structure Wb (n : Nat) (ns : List Str) (ws : List Nat) (ls : Lots) : Prop where
  hn : n ≤ 16
  n1 : ns.length = n
  w1 : ws.length = n
  l1 : ls.length = n
  wb : ∀ w ∈ ws, w ≤ 1000
  ll : ∀ (t : Nat) (lots : List (List Nat)), ls[t]? = some lots → lots.length ≤ 64 ∧ ∀ l ∈ lots, l.length ≤ 64 ∧ ∀ i ∈ l, i < t
theorem isLet_flp {n : Nat} {ns : List Str} {ws : List Nat} {ls : Lots} (h : Wb n ns ws ls) (b t : Nat) : isLet ls (flp b t) t = isLet ls b t := by
  unfold isLet
  cases q : ls[t]? with
  | none => rw [List.getD_eq_getElem?_getD, q]; rfl
  | some lots =>
    rw [List.getD_eq_getElem?_getD, q]
    have hl := (h.ll t lots q).2
    rw [Bool.eq_iff_iff]
    simp only [Option.getD_some, List.any_eq_true, List.all_eq_true]
    constructor
    · rintro ⟨l, h1, h2⟩
      refine ⟨l, h1, fun i hi => ?_⟩
      have := h2 i hi
      rw [flp_bit] at this
      have := (hl l h1).2 i hi
      have e : t ≠ i := by omega
      simp_all
    · rintro ⟨l, h1, h2⟩
      refine ⟨l, h1, fun i hi => ?_⟩
      have := h2 i hi
      rw [flp_bit]
      have := (hl l h1).2 i hi
      have e : t ≠ i := by omega
      simp_all
theorem oks_rev {n : Nat} {ns : List Str} {ws : List Nat} {ls : Lots} (h : Wb n ns ws ls) : ∀ (b : Nat) (s : List Nat), oks ls b s = true → oks ls (fin b s) s.reverse = true
  | b, [], _ => rfl
  | b, t :: s, hs => by
    have hs' : isLet ls b t = true ∧ oks ls (flp b t) s = true := by simpa [oks] using hs
    rw [List.reverse_cons, oks_snoc]
    show (oks ls (fin (flp b t) s) s.reverse && isLet ls (fin (fin (flp b t) s) s.reverse) t) = true
    rw [oks_rev h (flp b t) s hs'.2, fin_rev, isLet_flp h, hs'.1]; rfl
theorem oks_late {ls : Lots} {b t : Nat} {p q : List Nat} (h : isLet ls (fin b p) t = false) : oks ls b (p ++ t :: q) = false := by
  rw [oks_app]
  show (oks ls b p && (isLet ls (fin b p) t && _)) = false
  rw [h]; simp
/-! ### as data -/
abbrev lotD (l : List Nat) : D := .tup (l.map dn)
abbrev lotsD (l : List (List Nat)) : D := .tup (l.map lotD)
abbrev webD (ns : List Str) (ws : List Nat) (ls : Lots) : D := .ins "Web" ["names", "weights", "lots"] [.tup (ns.map .str), .tup (ws.map dn), .tup (ls.map lotsD)]
abbrev kitD (ns : List Str) (ws : List Nat) (ls : Lots) : D := .dK [.inr "names", .inr "weights", .inr "lots"] [.lst (ns.map .str), .lst (ws.map dn), .lst (ls.map lotsD)]
theorem nats_get {l : List Nat} {i : Nat} {d : D} (h : (l.map dn)[i]? = some d) : ∃ c, d = .int ((c : Nat) : Int) ∧ l[i]? = some c := by
  rw [List.getElem?_map] at h
  cases q : l[i]? with
  | none => rw [q] at h; cases h
  | some c => rw [q] at h; cases h; exact ⟨c, rfl, rfl⟩
theorem lots_get {l : List (List Nat)} {i : Nat} {d : D} (h : (l.map lotD)[i]? = some d) : ∃ c, d = lotD c ∧ l[i]? = some c := by
  rw [List.getElem?_map] at h
  cases q : l[i]? with
  | none => rw [q] at h; cases h
  | some c => rw [q] at h; cases h; exact ⟨c, rfl, rfl⟩
theorem w_n {ns : List Str} {ws : List Nat} {ls : Lots} : dFld "names" (webD ns ws ls) = some (.tup (ns.map .str)) := rfl
theorem w_w {ns : List Str} {ws : List Nat} {ls : Lots} : dFld "weights" (webD ns ws ls) = some (.tup (ws.map dn)) := rfl
theorem w_l {ns : List Str} {ws : List Nat} {ls : Lots} : dFld "lots" (webD ns ws ls) = some (.tup (ls.map lotsD)) := rfl
theorem k_n {ns : List Str} {ws : List Nat} {ls : Lots} : dIxA (kitD ns ws ls) (.str "names") = some (.lst (ns.map .str)) := rfl
theorem k_w {ns : List Str} {ws : List Nat} {ls : Lots} : dIxA (kitD ns ws ls) (.str "weights") = some (.lst (ws.map dn)) := rfl
theorem k_l {ns : List Str} {ws : List Nat} {ls : Lots} : dIxA (kitD ns ws ls) (.str "lots") = some (.lst (ls.map lotsD)) := rfl
end PL
/-! PX2: comprehensions and passes that leave nothing behind. -/
namespace PL
open PySem L2
theorem kLc_pure {α : Type} {own : List Nat} {g : O → M Unit} {c : M Bool} {el : M O} {Q : Kt O} {env env1 env2 : Env} {l : List α} {f : α → D} (p : α → Bool) (h : α → D) (hl : l.length ≤ sizeLine) (hw : WipB own env env1) (hb : BackB own env env1 env2)
    (hs : ∀ a, a ∈ l → ∀ acc, wp (g (.val (f a))) env1 (kLg own c el acc fun acc' e => acc' = (if p a = true then acc ++ [.val (h a)] else acc) ∧ e = env1))
    (k : Q (.ok (.lst (((l.filter p).map h).map .val))) env2) : kLc own g c el Q (.ok (l.map f)) env := by
  refine kLc_ok (fun i acc e => acc = (((l.take i).filter p).map h).map .val ∧ e = env1) (by rw [List.length_map]; exact hl) hw ⟨rfl, rfl⟩ ?_ ?_
  · rintro i d acc e hd ⟨rfl, rfl⟩
    rw [List.getElem?_map] at hd
    cases q : l[i]? with
    | none => rw [q] at hd; cases hd
    | some a =>
      rw [q] at hd
      cases hd
      have := hs a (List.mem_of_getElem? q) ((((l.take i).filter p).map h).map .val)
      rw [snoc_take q, List.filter_append, List.map_append, List.map_append]
      have e2 : ∀ acc : List O, (if p a = true then acc ++ [.val (h a)] else acc) = acc ++ ((List.filter p [a]).map h).map O.val := by
        intro acc
        by_cases z : p a = true
        · rw [if_pos z, List.filter_cons_of_pos z]; rfl
        · rw [if_neg z, List.filter_cons_of_neg z]; simp
      simp only [e2] at this
      exact this
  · rintro os e ⟨rfl, rfl⟩
    rw [List.length_map, List.take_length]
    exact ⟨env2, hb, k⟩
theorem kLc_map {α : Type} {own : List Nat} {g : O → M Unit} {c : M Bool} {el : M O} {Q : Kt O} {env env1 env2 : Env} {l : List α} {f : α → D} (h : α → D) (hl : l.length ≤ sizeLine) (hw : WipB own env env1) (hb : BackB own env env1 env2)
    (hs : ∀ a, a ∈ l → ∀ acc, wp (g (.val (f a))) env1 (kLg own c el acc fun acc' e => acc' = acc ++ [.val (h a)] ∧ e = env1))
    (k : Q (.ok (.lst ((l.map h).map .val))) env2) : kLc own g c el Q (.ok (l.map f)) env :=
  kLc_pure (fun _ => true) h hl hw hb (fun a ha acc => by simp only [if_true]; exact hs a ha acc) (by rw [List.filter_eq_self.mpr (fun _ _ => rfl)]; exact k)
theorem range_dn (n : Nat) : rangeD 0 n = (List.range n).map dn := by
  unfold rangeD
  refine List.map_congr_left fun a _ => ?_
  rw [Int.zero_add]
theorem lot_pd {k : Bool} (l : List Nat) : Pd k 1 (lotD l) := .tup fun d hd => by
  obtain ⟨i, _, rfl⟩ := List.mem_map.mp hd
  exact .int
theorem eq_l0 {n : Nat} {ds : List D} (h : ∀ d ∈ ds, Pd false n d) (hn : n ≤ 60) : dEq (.lst ds) (.lst []) = some (.bl (decide (ds = []))) :=
  (op_eqp (n := n + 1) (m := 1) (.lst h) (.lst fun d h => absurd h List.not_mem_nil) (by omega) (by decide)).trans (some_bl (dec_of ⟨fun h => D.lst.inj h, fun h => by rw [h]⟩))
theorem ne_l0 {n : Nat} {ds : List D} (h : ∀ d ∈ ds, Pd false n d) (hn : n ≤ 60) : dNe (.lst ds) (.lst []) = some (.bl (decide (ds ≠ []))) :=
  (op_nep (n := n + 1) (m := 1) (.lst h) (.lst fun d h => absurd h List.not_mem_nil) (by omega) (by decide)).trans (some_bl (dec_of ⟨fun h e => h (by rw [e]), fun h e => h (D.lst.inj e)⟩))
theorem eq_nl0 {l : List Nat} : dEq (.lst (l.map dn)) (.lst []) = some (.bl (decide (l = []))) :=
  (eq_l0 (n := 0) (fun d hd => by obtain ⟨i, _, rfl⟩ := List.mem_map.mp hd; exact .int) (by decide)).trans (some_bl (dec_of (by rw [List.map_eq_nil_iff])))
theorem ne_ll0 {l : List (List Nat)} : dNe (.lst (l.map lotD)) (.lst []) = some (.bl (decide (l ≠ []))) :=
  (ne_l0 (n := 1) (fun d hd => by obtain ⟨i, _, rfl⟩ := List.mem_map.mp hd; exact lot_pd i) (by decide)).trans (some_bl (dec_of (by rw [Ne, Ne, List.map_eq_nil_iff])))
theorem add_nat1 {a : List Nat} {t : Nat} (h : a.length < sizeLine) : dAdd (.tup (a.map dn)) (.tup [.int (t : Int)]) = some (.tup ((a ++ [t]).map dn)) := by
  rw [List.map_append]; exact x_addt (by rw [List.length_map]; exact h)
theorem all_bits {b : Nat} {l : List Nat} (hb : b < 2 ^ 16) : (l.all fun i => decide (i ∈ lob b)) = l.all fun i => b.testBit i := by
  congr 1; funext i
  rw [Bool.eq_iff_iff, decide_eq_true_iff, mem_lob hb]
theorem web_get {ls : Lots} {t : Nat} (h : t < ls.length) : (ls.map lotsD)[t]? = some (lotsD ls[t]) := by rw [List.getElem?_map, List.getElem?_eq_getElem h]; rfl
theorem isLet_eq {ls : Lots} {b t : Nat} (h : t < ls.length) : isLet ls b t = ls[t].any fun l => l.all fun i => b.testBit i := by
  unfold isLet; rw [List.getD_eq_getElem?_getD, List.getElem?_eq_getElem h]; rfl
theorem filter_ne {α : Type} {p : α → Bool} {l : List α} : decide (¬ l.filter p = []) = l.any p := by
  rw [Bool.eq_iff_iff, decide_eq_true_iff, List.filter_eq_nil_iff, List.any_eq_true]
  simp
theorem nats_at {ws : List Nat} {i : Nat} (h : i < ws.length) : (ws.map dn)[i]? = some (dn (ws.getD i 0)) := by
  rw [List.getElem?_map, List.getD_eq_getElem?_getD, List.getElem?_eq_getElem h]; rfl
theorem sum_cast (l : List Nat) : (l.map fun n : Nat => (n : Int)).sum = ((l.sum : Nat) : Int) := by
  induction l with
  | nil => rfl
  | cons a l ih => rw [List.map_cons, List.sum_cons, List.sum_cons, ih]; omega
theorem sum_nats {l : List Nat} : dSum (.lst (l.map dn)) = some (.int ((l.sum : Nat) : Int)) := by rw [dn_map, sum_ints, sum_cast]
def mx (l : List Nat) : Nat := l.foldl max 0
theorem fold_mx : ∀ (l : List Nat) (a : Nat), (∀ x ∈ l, x ≤ l.foldl max a) ∧ a ≤ l.foldl max a ∧ (l.foldl max a = a ∨ l.foldl max a ∈ l)
  | [], a => ⟨fun x h => absurd h List.not_mem_nil, Nat.le_refl _, .inl rfl⟩
  | b :: l, a => by
    obtain ⟨h1, h2, h3⟩ := fold_mx l (max a b)
    rw [List.foldl_cons]
    refine ⟨fun x hx => ?_, by omega, ?_⟩
    · rcases List.mem_cons.mp hx with rfl | hx
      · omega
      · exact h1 x hx
    · rcases h3 with h3 | h3
      · rw [h3]
        by_cases q : a ≤ b
        · exact .inr (by rw [Nat.max_eq_right q]; simp)
        · exact .inl (Nat.max_eq_left (by omega))
      · exact .inr (List.mem_cons_of_mem _ h3)
theorem mx_mem {l : List Nat} (h : l ≠ []) : mx l ∈ l ∧ ∀ x ∈ l, x ≤ mx l := by
  obtain ⟨h1, h2, h3⟩ := fold_mx l 0
  refine ⟨?_, h1⟩
  rcases h3 with h3 | h3
  · cases l with
    | nil => exact absurd rfl h
    | cons a l =>
      have := h1 a (by simp)
      have e : a = 0 := by unfold mx at *; omega
      have : mx (a :: l) = a := by unfold mx; omega
      rw [this]; simp
  · exact h3
theorem mx_rev (l : List Nat) : mx l.reverse = mx l := by
  by_cases h : l = []
  · subst h; rfl
  · have h' : l.reverse ≠ [] := by simpa using h
    obtain ⟨a1, a2⟩ := mx_mem h
    obtain ⟨b1, b2⟩ := mx_mem h'
    have := a2 _ (List.mem_reverse.mp b1)
    have := b2 _ (List.mem_reverse.mpr a1)
    omega
theorem max_nats {l : List Nat} (h : l ≠ []) : dBest PySem.W.dataLt (.lst (l.map dn)) = some (.int ((mx l : Nat) : Int)) := by
  obtain ⟨a1, a2⟩ := mx_mem h
  rw [dn_map]
  refine max_ints (List.mem_map.mpr ⟨_, a1, rfl⟩) ?_
  intro x hx
  obtain ⟨y, hy, rfl⟩ := List.mem_map.mp hx
  have := a2 y hy
  omega
def ifD (b : Bool) (d : D) : D := if b = true then d else .non
theorem ifD_t {d : D} : ifD true d = d := rfl
theorem ifD_f {d : D} : ifD false d = .non := rfl
theorem x_isnt_n : dIsnt .non .non = some (.bl false) := rfl
theorem x_isnt_l {l : List D} : dIsnt (.lst l) .non = some (.bl true) := rfl
theorem x_isnt_t {l : List D} : dIsnt (.tup l) .non = some (.bl true) := rfl
abbrev bD (b : Nat) : D := lotD (lob b)
abbrev pathD (bs : List Nat) : D := .tup (bs.map bD)
theorem map_snoc {α β : Type} {f : α → β} {l : List α} {a : α} : (l ++ [a]).map f = l.map f ++ [f a] := by rw [List.map_append]; rfl
theorem bits_lt {n b : Nat} (hn : n ≤ 16) (hb : b < 2 ^ n) : b < 2 ^ 16 := Nat.lt_of_lt_of_le hb (Nat.pow_le_pow_right (by decide) hn)
theorem take_ok {ls : Lots} {b : Nat} {s : List Nat} {i : Nat} (h : oks ls b (s.take i) = false) : oks ls b s = false := by
  have := oks_app ls b (s.take i) (s.drop i)
  rw [List.take_append_drop, h] at this
  exact this
theorem range_filter_snoc (p : Nat → Bool) (n : Nat) : (List.range (n + 1)).filter p = (List.range n).filter p ++ if p n = true then [n] else [] := by
  rw [List.range_succ, List.filter_append]
  by_cases h : p n = true
  · rw [if_pos h, List.filter_cons_of_pos h]; rfl
  · rw [if_neg h, List.filter_cons_of_neg h]; rfl
theorem lob_range {b n : Nat} (hn : n ≤ 16) (hb : b < 2 ^ n) : (List.range n).filter (fun i => b.testBit i) = lob b := by
  refine asc_nat (List.Pairwise.filter _ List.pairwise_lt_range) (lob_pair b) fun x => ?_
  rw [mem_lob (bits_lt hn hb), List.mem_filter, List.mem_range]
  refine ⟨fun h => h.2, fun h => ⟨?_, h⟩⟩
  have := Nat.ge_two_pow_of_testBit h
  exact (Nat.pow_lt_pow_iff_right (by decide : 1 < 2)).mp (by omega)
theorem txt_len (sep : Str) (ys : List Str) : (Txt.join sep ys).length ≤ (ys.map (·.length)).sum + ys.length * sep.length := by
  show (Builtin.Str.glued sep ys).length ≤ _
  rw [StrLaws.glued_eq_join]
  exact StrLaws.join_length_le sep ys
theorem sum_ones {ys : List Str} (h : ∀ y ∈ ys, y.length = 1) : (ys.map (·.length)).sum = ys.length := by
  induction ys with
  | nil => rfl
  | cons y ys ih =>
    have h1 := h y (by simp)
    have h2 := ih fun z hz => h z (by simp [hz])
    show y.length + (ys.map (·.length)).sum = ys.length + 1
    omega
theorem signs_one {x y : Str} (h : y ∈ signsOf x) : y.length = 1 := by
  unfold signsOf at h
  obtain ⟨c, _, rfl⟩ := List.mem_map.mp h
  rfl
theorem join_str {sep : Str} {ys : List Str} (h : (ys.map (·.length)).sum + ys.length * sep.length ≤ 16777216) : dJoin sep (.lst (ys.map .str)) = some (.str (Txt.join sep ys)) := by
  unfold dJoin
  dsimp only
  rw [strsD_map]
  exact if_pos h
theorem add_str {x y : Str} (h : x.length + y.length ≤ sizeLine) : dAdd (.str x) (.str y) = some (.str (x ++ y)) := if_pos h
end PL
/-! PX3: sorted(set(..)) of nats and of lots. -/
namespace PL
open PySem L2
def srtN (l : List Nat) : List Nat := (srtUI (l.map fun n : Nat => (n : Int))).map Int.toNat
theorem srtN_eq (l : List Nat) : srtUI (l.map fun n : Nat => (n : Int)) = (srtN l).map fun n : Nat => (n : Int) := by
  unfold srtN
  rw [List.map_map]
  symm
  have : ∀ x ∈ srtUI (l.map fun n : Nat => (n : Int)), ((fun n : Nat => (n : Int)) ∘ Int.toNat) x = x := by
    intro x hx
    obtain ⟨y, hy, rfl⟩ := List.mem_map.mp (mem_srtUI.mp hx)
    rfl
  rw [List.map_congr_left this]
  exact List.map_id' _
theorem mem_srtN {l : List Nat} {x : Nat} : x ∈ srtN l ↔ x ∈ l := by
  rw [← mem_cast (ns := srtN l), ← srtN_eq, mem_srtUI, mem_cast]
theorem srtN_len (l : List Nat) : (srtN l).length ≤ l.length := by
  have h := ddp_len (l.map fun n : Nat => (n : Int))
  unfold srtN srtUI srtI
  rw [List.length_map, List.length_mergeSort]
  rw [List.length_map] at h
  exact h
theorem srtset_nats {l : List Nat} (h : l.length < 4000) : dSrtSet (.lst (l.map dn)) = some (.lst (((srtN l).map dn).map .val)) := by
  have e : dSrtSet (.lst (l.map dn)) = dSrtSetL (l.map dn) := rfl
  rw [e]
  unfold dSrtSetL
  rw [dn_map, intsD_map]
  dsimp only
  rw [if_pos (by rw [List.length_map]; exact h), srtN_eq, dn_map, List.map_map (g := O.val)]
  rfl
def srtL (ls : List (List Nat)) : List (List Nat) := (srtUT (ls.map fun l => l.map fun n : Nat => (n : Int))).map fun l => l.map Int.toNat
theorem mem_srtT' {ls : List (List Nat)} {t : List Int} (h : t ∈ srtUT (ls.map fun l => l.map fun n : Nat => (n : Int))) : ∃ l ∈ ls, t = l.map fun n : Nat => (n : Int) := by
  obtain ⟨l, hl, rfl⟩ := List.mem_map.mp (mem_srtUT.mp h)
  exact ⟨l, hl, rfl⟩
theorem nat_int (l : List Nat) : (l.map fun n : Nat => (n : Int)).map Int.toNat = l := by
  rw [List.map_map]
  have : (Int.toNat ∘ fun n : Nat => (n : Int)) = id := by funext n; rfl
  rw [this, List.map_id]
theorem srtL_eq (ls : List (List Nat)) : srtUT (ls.map fun l => l.map fun n : Nat => (n : Int)) = (srtL ls).map fun l => l.map fun n : Nat => (n : Int) := by
  unfold srtL
  rw [List.map_map]
  symm
  have : ∀ x ∈ srtUT (ls.map fun l => l.map fun n : Nat => (n : Int)), ((fun l : List Nat => l.map fun n : Nat => (n : Int)) ∘ fun l : List Int => l.map Int.toNat) x = x := by
    intro x hx
    obtain ⟨y, hy, rfl⟩ := mem_srtT' hx
    show ((y.map fun n : Nat => (n : Int)).map Int.toNat).map (fun n : Nat => (n : Int)) = _
    rw [nat_int]
  rw [List.map_congr_left this]
  exact List.map_id' _
theorem mem_srtL {ls : List (List Nat)} {x : List Nat} : x ∈ srtL ls ↔ x ∈ ls := by
  constructor
  · intro h
    have : (x.map fun n : Nat => (n : Int)) ∈ srtUT (ls.map fun l => l.map fun n : Nat => (n : Int)) := by
      rw [srtL_eq]; exact List.mem_map.mpr ⟨x, h, rfl⟩
    obtain ⟨y, hy, e⟩ := mem_srtT' this
    have e2 := congrArg (List.map Int.toNat) e
    rw [nat_int, nat_int] at e2
    exact e2 ▸ hy
  · intro h
    have : (x.map fun n : Nat => (n : Int)) ∈ srtUT (ls.map fun l => l.map fun n : Nat => (n : Int)) := mem_srtUT.mpr (List.mem_map.mpr ⟨x, h, rfl⟩)
    rw [srtL_eq] at this
    obtain ⟨y, hy, e⟩ := List.mem_map.mp this
    have e2 := congrArg (List.map Int.toNat) e
    rw [nat_int, nat_int] at e2
    exact e2 ▸ hy
theorem srtL_len (ls : List (List Nat)) : (srtL ls).length ≤ ls.length := by
  have h := ddp_len (ls.map fun l => l.map fun n : Nat => (n : Int))
  unfold srtL srtUT srtT
  rw [List.length_map, List.length_mergeSort]
  rw [List.length_map] at h
  exact h
theorem lots_tints (ls : List (List Nat)) : ls.map lotD = (ls.map fun l => l.map fun n : Nat => (n : Int)).map fun t => D.tup (t.map .int) := by
  rw [List.map_map]
  refine List.map_congr_left fun l _ => ?_
  show D.tup (l.map dn) = _
  rw [dn_map]; rfl
theorem srtset_lots {ls : List (List Nat)} (h0 : ls ≠ []) (h : ls.length < 64) : dSrtSet (.lst (ls.map lotD)) = some (.lst (((srtL ls).map lotD).map .val)) := by
  have e : dSrtSet (.lst (ls.map lotD)) = dSrtSetL (ls.map lotD) := rfl
  rw [e]
  unfold dSrtSetL
  cases ls with
  | nil => exact absurd rfl h0
  | cons l ls =>
    have e1 : intsD ((l :: ls).map lotD) = none := rfl
    rw [e1, lots_tints, tintsD_map]
    dsimp only
    rw [if_pos (by rw [List.length_map]; exact h), srtL_eq, lots_tints, List.map_map (g := O.val)]
    rfl
theorem lot_inj {a b : List Nat} (h : lotD a = lotD b) : a = b := by
  have := D.tup.inj h
  exact List.map_inj_right (f := dn) (fun x y e => by have := D.int.inj e; omega) |>.mp this
theorem ne_lot {a b : List Nat} : dNe (lotD a) (lotD b) = some (.bl (decide (a ≠ b))) :=
  (op_nep (lot_pd a) (lot_pd b)).trans (some_bl (dec_of ⟨fun h e => h (by rw [e]), fun h e => h (lot_inj e)⟩))
theorem eq_lot {a b : List Nat} : dEq (lotD a) (lotD b) = some (.bl (decide (a = b))) :=
  (op_eqp (lot_pd a) (lot_pd b)).trans (some_bl (dec_of ⟨fun h => lot_inj h, fun h => by rw [h]⟩))
theorem listA_l {ds : List D} : dListA (.lst ds) = some (.lst (ds.map .val)) := rfl
theorem listA_t {ds : List D} : dListA (.tup ds) = some (.lst (ds.map .val)) := rfl
theorem max2_nat {a b : Int} : dMax2 (.int a) (.int b) = some (.int (if b > a then b else a)) := rfl
def kitO (ns : List Str) (ws : List Nat) (ls : Lots) : O := .dK [.inr "names", .inr "weights", .inr "lots"] [.lst ((ns.map .str).map .val), .lst ((ws.map dn).map .val), .lst ((ls.map lotsD).map .val)]
theorem kit_er {ns : List Str} {ws : List Nat} {ls : Lots} : (kitO ns ws ls).er = kitD ns ws ls := by
  unfold kitO
  simp only [O.er, O.ers, O.ers_val]
theorem fput_new {c f : Str} {nms : List Str} {os : List O} {o : O} (h : fix nms f = none) (hl : os.length < 1000) : dFPut c f (.ins c nms os) o = some (.ins c (nms ++ [f]) (os ++ [o])) := by
  unfold dFPut
  dsimp only
  rw [if_pos ⟨rfl, hl⟩, h]
theorem erase_map {α β : Type} {f : α → β} : ∀ (l : List α) (j : Nat), (l.map f).eraseIdx j = (l.eraseIdx j).map f
  | [], _ => rfl
  | a :: l, 0 => rfl
  | a :: l, j + 1 => by
    show f a :: (l.map f).eraseIdx j = f a :: (l.eraseIdx j).map f
    rw [erase_map l j]
theorem kix_no {κ : Type} [DecidableEq κ] {k : κ} : ∀ {ks : List κ}, k ∉ ks → kix ks k = none
  | [], _ => rfl
  | j :: ks, h => by
    unfold kix
    rw [if_neg (fun e => h (by rw [e]; simp)), kix_no (fun z => h (List.mem_cons_of_mem _ z))]; rfl
theorem dput_new {ks : List Key} {os : List O} {k : Str} {o : O} (h : (Sum.inr k : Key) ∉ ks) (nd : ks.Nodup) (hl : os.length < sizeLine) : dPutO (.dK ks os) (.str k) o = some (.dK (ks ++ [.inr k]) (os ++ [o])) := by
  have h1 : kix ks (Sum.inr k) = none := kix_no h
  unfold dPutO
  show (if ks.Nodup ∧ os.length < sizeLine then some (O.dK (oPutK ks os (.inr k) o).1 (oPutK ks os (.inr k) o).2) else none) = _
  rw [if_pos ⟨nd, hl⟩]
  unfold oPutK
  rw [h1]
theorem snoc_dn {s : List Nat} {t : Nat} : (s.map dn).map O.val ++ [O.val (.int (t : Int))] = ((s ++ [t]).map dn).map O.val := by rw [map_snoc, map_snoc]
end PL
namespace PL
open PySem L2
/-! ### rows folded, in plain -/
theorem snoc_ind {P : List Nat → Prop} (h0 : P []) (hs : ∀ a x, P a → P (a ++ [x])) (l : List Nat) : P l := by
  have h : ∀ l : List Nat, P l.reverse := fun l => by
    induction l with
    | nil => exact h0
    | cons x r ih => rw [List.reverse_cons]; exact hs _ _ ih
  have := h l.reverse
  rwa [List.reverse_reverse] at this
def psh (s : List Nat) (x : Nat) : List Nat := match s with
  | y :: r => if y = x then r else x :: y :: r
  | [] => [x]
def act (xs s : List Nat) : List Nat := xs.foldl psh s
def fd (xs : List Nat) : List Nat := (act xs []).reverse
/-- no two alike beside one another -/
def Rd : List Nat → Prop
  | [] => True
  | [_] => True
  | x :: y :: r => x ≠ y ∧ Rd (y :: r)
theorem Rd.tail {x : Nat} {r : List Nat} (h : Rd (x :: r)) : Rd r := by
  cases r with
  | nil => exact trivial
  | cons y r => exact h.2
theorem Rd.psh {s : List Nat} (h : Rd s) (x : Nat) : Rd (psh s x) := by
  cases s with
  | nil => exact trivial
  | cons y r =>
    unfold PL.psh
    by_cases e : y = x
    · simp only [if_pos e]; exact h.tail
    · simp only [if_neg e]; exact ⟨fun z => e z.symm, h⟩
theorem psh_psh {s : List Nat} (h : Rd s) (x : Nat) : psh (psh s x) x = s := by
  cases s with
  | nil => simp [psh]
  | cons y r =>
    by_cases e : y = x
    · subst e
      cases r with
      | nil => simp [psh]
      | cons z r =>
        have hz : ¬ z = y := fun w => h.1 w.symm
        simp [psh, hz]
    · simp [psh, e]
theorem Rd.act {s : List Nat} (h : Rd s) (xs : List Nat) : Rd (act xs s) := by
  induction xs generalizing s with
  | nil => exact h
  | cons x xs ih => exact ih (h.psh x)
theorem act_app (a b s : List Nat) : act (a ++ b) s = act b (act a s) := by unfold act; rw [List.foldl_append]
theorem act_snoc (a : List Nat) (x : Nat) (s : List Nat) : act (a ++ [x]) s = psh (act a s) x := by rw [act_app]; rfl
theorem act_cons (a : List Nat) (x : Nat) (s : List Nat) : act (x :: a) s = act a (psh s x) := rfl
theorem fd_snoc (a : List Nat) (x : Nat) : fd (a ++ [x]) = if (act a []).head? = some x then (fd a).dropLast else fd a ++ [x] := by
  unfold fd
  rw [act_snoc]
  cases act a [] with
  | nil => simp [psh]
  | cons y r =>
    by_cases e : y = x
    · subst e; simp [psh]
    · simp [psh, e]
/-- by what comes of a row alone -/
theorem act_fd (xs : List Nat) : ∀ s, Rd s → act (fd xs) s = act xs s := by
  refine snoc_ind (P := fun xs => ∀ s, Rd s → act (fd xs) s = act xs s) (fun s _ => rfl) (fun a x ih s hs => ?_) xs
  · show _ = _
    rw [fd_snoc, act_snoc]
    by_cases e : (act a []).head? = some x
    · rw [if_pos e, ← ih s hs]
      obtain ⟨r, hr⟩ : ∃ r, act a [] = x :: r := by
        cases q : act a [] with
        | nil => rw [q] at e; cases e
        | cons y r => rw [q] at e; cases e; exact ⟨r, rfl⟩
      unfold fd
      rw [hr, List.reverse_cons, List.dropLast_concat, act_snoc, psh_psh (hs.act _)]
    · rw [if_neg e, act_snoc, ih s hs]
theorem act_rev_fd (xs : List Nat) : ∀ s, Rd s → act (fd xs).reverse s = act xs.reverse s := by
  refine snoc_ind (P := fun xs => ∀ s, Rd s → act (fd xs).reverse s = act xs.reverse s) (fun s _ => rfl) (fun a x ih s hs => ?_) xs
  · show _ = _
    rw [fd_snoc, List.reverse_append, List.reverse_singleton, List.singleton_append, act_cons]
    by_cases e : (act a []).head? = some x
    · rw [if_pos e, ← ih _ (hs.psh x)]
      obtain ⟨r, hr⟩ : ∃ r, act a [] = x :: r := by
        cases q : act a [] with
        | nil => rw [q] at e; cases e
        | cons y r => rw [q] at e; cases e; exact ⟨r, rfl⟩
      unfold fd
      rw [hr, List.reverse_cons, List.dropLast_concat, List.reverse_append, List.reverse_reverse, List.reverse_singleton, List.singleton_append, act_cons, psh_psh hs]
    · rw [if_neg e, List.reverse_append, List.reverse_singleton, List.singleton_append, act_cons, ih _ (hs.psh x)]
theorem rd_nil : Rd [] := trivial
theorem fd_eq {a b : List Nat} (h : act a [] = act b []) : fd a = fd b := by unfold fd; rw [h]
theorem fd_app_l (a b : List Nat) : fd (fd a ++ b) = fd (a ++ b) := fd_eq (by rw [act_app, act_app, act_fd a [] rd_nil])
theorem fd_app_r (a b : List Nat) : fd (a ++ fd b) = fd (a ++ b) := fd_eq (by rw [act_app, act_app, act_fd b _ (rd_nil.act a)])
theorem fd_fd (a : List Nat) : fd (fd a) = fd a := fd_eq (act_fd a [] rd_nil)
theorem act_back (xs : List Nat) : ∀ s, Rd s → act (xs ++ xs.reverse) s = s := by
  induction xs with
  | nil => intro s _; rfl
  | cons x xs ih =>
    intro s hs
    rw [List.reverse_cons, List.cons_append, act_cons, ← List.append_assoc, act_snoc, ih _ (hs.psh x), psh_psh hs]
theorem fd_back (xs : List Nat) : fd (xs ++ xs.reverse) = [] := by unfold fd; rw [act_back xs [] rd_nil]; rfl
theorem fd_pair (a b : List Nat) (x : Nat) : fd (a ++ [x, x] ++ b) = fd (a ++ b) := fd_eq (by
  rw [act_app, act_app, act_app]
  show act b (psh (psh (act a []) x) x) = _
  rw [psh_psh (rd_nil.act a)])
/-- a row without pairs, from the other end -/
theorem act_rd : ∀ (xs s : List Nat), Rd xs → (∀ x r y t, xs = x :: r → s = y :: t → y ≠ x) → act xs s = xs.reverse ++ s
  | [], s, _, _ => rfl
  | x :: xs, s, h, hs => by
    have e : psh s x = x :: s := by
      cases s with
      | nil => rfl
      | cons y t => simp [psh, hs x xs y t rfl rfl]
    rw [act_cons, e, act_rd xs (x :: s) h.tail ?_, List.reverse_cons, List.append_assoc]
    · rfl
    · intro z r y t e1 e2
      subst e1
      cases e2
      exact h.1
theorem fd_rd {xs : List Nat} (h : Rd xs) : fd xs = xs := by
  unfold fd
  rw [act_rd xs [] h (fun _ _ _ _ _ e => by cases e), List.append_nil, List.reverse_reverse]
theorem Rd.snoc : ∀ {xs : List Nat} {x : Nat}, Rd xs → (∀ y, xs.getLast? = some y → y ≠ x) → Rd (xs ++ [x])
  | [], x, _, _ => trivial
  | [y], x, _, h => ⟨h y rfl, trivial⟩
  | y :: z :: r, x, h, k => ⟨h.1, Rd.snoc (xs := z :: r) h.2 fun w e => k w (by rw [List.getLast?_cons_cons]; exact e)⟩
theorem Rd.rev : ∀ {xs : List Nat}, Rd xs → Rd xs.reverse
  | [], _ => trivial
  | x :: xs, h => by
    rw [List.reverse_cons]
    refine Rd.snoc (Rd.rev h.tail) fun y e => ?_
    rw [List.getLast?_reverse] at e
    cases xs with
    | nil => cases e
    | cons z r => cases e; exact fun w => h.1 w.symm
theorem rd_fd (xs : List Nat) : Rd (fd xs) := (rd_nil.act xs).rev
theorem fd_rev (xs : List Nat) : fd xs.reverse = (fd xs).reverse := by
  have e : fd xs.reverse = fd (fd xs).reverse := fd_eq (act_rev_fd xs [] rd_nil).symm
  rw [e, fd_rd (rd_fd xs).rev]
theorem fd_len (xs : List Nat) : (fd xs).length ≤ xs.length := by
  have h : ∀ (xs s : List Nat), (act xs s).length ≤ xs.length + s.length := by
    intro xs
    induction xs with
    | nil => intro s; simp [act]
    | cons x xs ih =>
      intro s
      rw [act_cons]
      have h1 := ih (psh s x)
      have h2 : (psh s x).length ≤ s.length + 1 := by
        cases s with
        | nil => simp [psh]
        | cons y r =>
          unfold psh
          dsimp only
          split <;> simp <;> omega
      simp only [List.length_cons]
      omega
  have := h xs []
  unfold fd
  rw [List.length_reverse]
  simpa using this
theorem rd_zip : ∀ {xs : List Nat} {k : Nat} {a b : Nat}, Rd xs → (xs.zip (xs.drop 1))[k]? = some (a, b) → a ≠ b
  | [], k, a, b, _, h => by simp at h
  | [x], k, a, b, _, h => by simp at h
  | x :: y :: r, 0, a, b, h, e => by
    simp at e
    exact e.1 ▸ e.2 ▸ h.1
  | x :: y :: r, k + 1, a, b, h, e => rd_zip (xs := y :: r) h.2 (by simpa using e)
theorem fd_mem {xs : List Nat} {x : Nat} (h : x ∈ fd xs) : x ∈ xs := by
  have key : ∀ (xs s : List Nat) (x : Nat), x ∈ act xs s → x ∈ xs ∨ x ∈ s := by
    intro xs
    induction xs with
    | nil => intro s x h; exact .inr h
    | cons a xs ih =>
      intro s x h
      rw [act_cons] at h
      rcases ih _ _ h with h | h
      · exact .inl (List.mem_cons_of_mem _ h)
      · unfold psh at h
        split at h
        · rename_i y t
          split at h
          · exact .inr (List.mem_cons_of_mem _ h)
          · rcases List.mem_cons.mp h with rfl | h
            · exact .inl (List.mem_cons_self ..)
            · exact .inr h
        · rcases List.mem_cons.mp h with rfl | h
          · exact .inl (List.mem_cons_self ..)
          · exact absurd h List.not_mem_nil
  unfold fd at h
  rcases key xs [] x (List.mem_reverse.mp h) with h | h
  · exact h
  · exact absurd h List.not_mem_nil
theorem snoc_nat {P : List Nat → Prop} (h0 : P []) (hs : ∀ a x, P a → P (a ++ [x])) (l : List Nat) : P l := snoc_ind h0 hs l
/-- a folded run is let, comes to the same, through standings of the run -/
theorem fd_run (ls : Lots) (b : Nat) (xs : List Nat) : oks ls b xs = true → oks ls b (fd xs) = true ∧ fin b (fd xs) = fin b xs ∧ ∀ y ∈ scan b (fd xs), y ∈ scan b xs := by
  refine snoc_ind (P := fun xs => oks ls b xs = true → oks ls b (fd xs) = true ∧ fin b (fd xs) = fin b xs ∧ ∀ y ∈ scan b (fd xs), y ∈ scan b xs) (fun _ => ⟨rfl, rfl, fun y h => h⟩) ?_ xs
  intro a x ih h
  rw [oks_snoc, Bool.and_eq_true] at h
  obtain ⟨i1, i2, i3⟩ := ih h.1
  rw [fd_snoc, fin_snoc, scan_snoc]
  split
  · rename_i hx
    have e : fd a = (fd a).dropLast ++ [x] := by
      unfold fd
      cases q : act a [] with
      | nil => rw [q] at hx; cases hx
      | cons y t =>
        rw [q] at hx
        cases hx
        rw [List.reverse_cons]; simp
    generalize (fd a).dropLast = c at e
    rw [e, oks_snoc, Bool.and_eq_true] at i1
    rw [e, fin_snoc] at i2
    rw [e, scan_snoc] at i3
    refine ⟨i1.1, ?_, fun y hy => ?_⟩
    · rw [← i2, flp_flp]
    · exact List.mem_append.mpr (.inl (i3 y (List.mem_append.mpr (.inl hy))))
  · refine ⟨by rw [oks_snoc, i1, i2, h.2]; rfl, by rw [fin_snoc, i2], fun y hy => ?_⟩
    rw [scan_snoc, i2] at hy
    rcases List.mem_append.mp hy with hy | hy
    · exact List.mem_append.mpr (.inl (i3 y hy))
    · exact List.mem_append.mpr (.inr hy)
theorem notIn_lst {a : Nat} {ns : List Nat} : dNotIn2 (.int (a : Int)) (.lst (ns.map dn)) = some (.bl (decide (a ∉ ns))) := notIn2_nats (a := a) (ns := ns)
theorem fd_idem (a b : List Nat) : fd (fd (a ++ b) ++ b.reverse) = fd a := by
  rw [fd_app_l, List.append_assoc]
  refine fd_eq ?_
  rw [act_app, act_back b _ (rd_nil.act a)]
theorem fd_det (a w c : List Nat) (h : fd a = fd c) : fd (a ++ (w ++ w.reverse)) = fd c := by
  rw [← h]
  refine fd_eq ?_
  rw [act_app, act_back w _ (rd_nil.act a)]
theorem ne_nl0 {l : List Nat} : dNe (.lst (l.map dn)) (.lst []) = some (.bl (decide (l ≠ []))) :=
  (ne_l0 (n := 0) (fun d hd => by obtain ⟨i, _, rfl⟩ := List.mem_map.mp hd; exact .int) (by decide)).trans (some_bl (dec_of (by rw [Ne, Ne, List.map_eq_nil_iff])))
theorem fd_snoc2 {a c : List Nat} (h : fd a = fd c) (x : Nat) : fd (a ++ [x]) = fd (c ++ [x]) := by
  have e : act a [] = act c [] := by
    unfold fd at h
    have := congrArg List.reverse h
    rwa [List.reverse_reverse, List.reverse_reverse] at this
  exact fd_eq (by rw [act_app, act_app, e])
theorem run_back {n : Nat} {ns : List Str} {ws : List Nat} {ls : Lots} (h : Wb n ns ws ls) {b : Nat} {w a : List Nat} (h1 : oks ls b w = true) (h2 : oks ls (fin b w) a = true) : oks ls b (w ++ a ++ a.reverse) = true ∧ fin b (w ++ a ++ a.reverse) = fin b w := by
  have e : ∀ (b : Nat) (x y : List Nat), fin b (x ++ y) = fin (fin b x) y := fun b x y => by unfold fin; rw [List.foldl_append]
  refine ⟨?_, ?_⟩
  · rw [oks_app, oks_app, h1, h2, e, oks_rev h _ _ h2]; rfl
  · rw [e, e, fin_rev]
theorem x_is_l {l : List D} : dIs (.lst l) .non = some (.bl false) := rfl
theorem mx_sub {α : Type} {f : α → Nat} {a c : List α} (h : ∀ y ∈ a, y ∈ c) : mx (a.map f) ≤ mx (c.map f) := by
  by_cases q : a = []
  · subst q; exact Nat.zero_le _
  · obtain ⟨h1, _⟩ := mx_mem (l := a.map f) (by simpa using q)
    obtain ⟨y, hy, e⟩ := List.mem_map.mp h1
    have hc : c.map f ≠ [] := by
      intro z
      rw [List.map_eq_nil_iff] at z
      have := h y hy
      rw [z] at this
      exact absurd this List.not_mem_nil
    rw [← e]
    exact (mx_mem hc).2 _ (List.mem_map.mpr ⟨y, h y hy, rfl⟩)
theorem last_dn {b : Nat} {s : List Nat} : dIx (.lst ((scan b s).map dn)) (.int (-1)) = some (.int ((fin b s : Nat) : Int)) := by rw [ix_lm1, List.getLast?_map, scan_last]; rfl
theorem filt_false {α : Type} {l : List α} : l.filter (fun _ => false) = [] := by rw [List.filter_eq_nil_iff]; intro a _ h; cases h
theorem fin_app (b : Nat) (x y : List Nat) : fin b (x ++ y) = fin (fin b x) y := by unfold fin; rw [List.foldl_append]
theorem scan_ne (b : Nat) (s : List Nat) : scan b s ≠ [] := by intro z; have := scan_len b s; rw [z] at this; cases this
end PL
/-! PW6: the going through list(zip), enumerate, chained compares. -/
namespace PL
open PySem L2
section
variable {α β : Type} {env : Env}
def hLZ (ds : List D) : Option O := match ds with
  | [.tup a, .tup b] => some (.lst (((a.zip b).map fun p => D.tup [p.1, p.2]).map .val))
  | _ => none
theorem e_oLstZip {f : M (List D)} {Q : Kt O} : wp (oLstZip f) env Q = wp f env (kLf hLZ Q) := e_lf
theorem e_hLZ {a b : List D} : hLZ [.tup a, .tup b] = some (.lst (((a.zip b).map fun p => D.tup [p.1, p.2]).map .val)) := nr rfl
theorem x_isi_2i {i : Int} : dIsi (.int i) (.tup [.ty "tuple", .ty "list"]) = some (.bl false) := nr rfl
theorem x_isi_2s {i : Str} : dIsi (.str i) (.tup [.ty "tuple", .ty "list"]) = some (.bl false) := nr rfl
theorem x_isi_2b {i : Bool} : dIsi (.bl i) (.tup [.ty "tuple", .ty "list"]) = some (.bl false) := nr rfl
theorem x_isi_2n : dIsi .non (.tup [.ty "tuple", .ty "list"]) = some (.bl false) := nr rfl
theorem zip_self : ∀ xs : List D, (xs.zip xs).map (fun p => D.tup [p.1, p.2]) = xs.map fun d => D.tup [d, d]
  | [] => rfl
  | x :: xs => by rw [List.zip_cons_cons, List.map_cons, List.map_cons, zip_self]
end
end PL
/-! PX5: sorted of lots. -/
namespace PL
open PySem L2
abbrev lotI (l : List Nat) : List Int := l.map fun n : Nat => (n : Int)
theorem py_lot (l : List Nat) : D.py (lotD l) = some (dTI (lotI l)) := by
  have h := pys_nats l
  have e : (l.map fun n : Nat => PyData.int (n : Int)) = (lotI l).map PyData.int := by rw [List.map_map]; rfl
  rw [e] at h
  show (D.pys (l.map dn)).map PyData.tuple = _
  rw [h]; rfl
theorem pyd_lot (l : List Nat) : D.pyd (lotD l) = dTI (lotI l) := by unfold D.pyd; rw [py_lot]; rfl
theorem pys_lots : ∀ ls : List (List Nat), D.pys (ls.map lotD) = some (ls.map fun l => dTI (lotI l))
  | [] => rfl
  | l :: ls => by
    rw [List.map_cons, D.pys, py_lot, pys_lots ls]; rfl
def leL (a b : List Nat) : Bool := leT (lotI a) (lotI b)
def srtS (ls : List (List Nat)) : List (List Nat) := ls.mergeSort leL
theorem srtS_perm (ls : List (List Nat)) : (srtS ls).Perm ls := List.mergeSort_perm _ _
theorem mem_srtS {ls : List (List Nat)} {l : List Nat} : l ∈ srtS ls ↔ l ∈ ls := (srtS_perm ls).mem_iff
theorem srtS_len (ls : List (List Nat)) : (srtS ls).length = ls.length := (srtS_perm ls).length_eq
theorem alike_lots {ls : List (List Nat)} : sortOk (ls.map fun l => dTI (lotI l)) = true := by
  unfold sortOk
  simp only [Bool.and_eq_true, Bool.or_eq_true, List.all_eq_true, List.mem_map, decide_eq_true_eq]
  refine ⟨⟨?_, .inl ?_⟩, ?_⟩
  · rintro _ ⟨i, _, rfl⟩ _ ⟨j, _, rfl⟩; exact alike_dti _ _
  · rintro _ ⟨i, _, rfl⟩; rfl
  · rintro _ ⟨i, _, rfl⟩; exact dti_depth _
theorem dSrt_lots {ls : List (List Nat)} : dSrt (ls.map lotD) = some ((srtS ls).map lotD) := by
  unfold dSrt
  rw [pys_lots]
  dsimp only
  rw [if_pos alike_lots]
  unfold srtS
  rw [List.map_mergeSort (f := lotD) (r := leL) (s := dSle)]
  intro a _ b _
  show leL a b = PySem.W.dataLe false D.pyd (lotD a) (lotD b)
  unfold leL leT PySem.W.dataLe PySem.W.sortLe
  simp only [pyd_lot, id]
theorem sorted_lots {ls : List (List Nat)} : dSorted (.lst (ls.map lotD)) = some (.lst (((srtS ls).map lotD).map .val)) := by
  show (dSrt (ls.map lotD)).map _ = _
  rw [dSrt_lots]; rfl
theorem sorted_lotsT {ls : List (List Nat)} : dSorted (.tup (ls.map lotD)) = some (.lst (((srtS ls).map lotD).map .val)) := by
  show (dSrt (ls.map lotD)).map _ = _
  rw [dSrt_lots]; rfl
/-- sorted of nats -/
def srtM (l : List Nat) : List Nat := (srtI (lotI l)).map Int.toNat
theorem srtM_eq (l : List Nat) : srtI (lotI l) = lotI (srtM l) := by
  unfold srtM lotI
  rw [List.map_map]
  refine (List.map_id _).symm.trans (List.map_congr_left fun x hx => ?_)
  have : x ∈ l.map fun n : Nat => (n : Int) := (List.mergeSort_perm _ _).mem_iff.mp hx
  obtain ⟨n, _, rfl⟩ := List.mem_map.mp this
  rfl
theorem srtM_perm (l : List Nat) : (srtM l).Perm l := by
  have h : (srtI (lotI l)).Perm (lotI l) := List.mergeSort_perm _ _
  have := h.map Int.toNat
  rw [nat_int] at this
  exact this
theorem sorted_nats {l : List Nat} : dSorted (.lst (l.map dn)) = some (.lst (((srtM l).map dn).map .val)) := by
  rw [dn_map, sorted_ints, srtM_eq, ← dn_map]
end PL
namespace LW
open PySem L2 PL
/-! the text -/
def topS (i : Nat) : Stmt := PySem.Challenge.pw_onlyundone_k65_walks_with_wipes.main.body.getD i (.Pass ⟨0, 0, 0, 0⟩)
abbrev s_unlike : Stmt := topS 1
abbrev N_unlike : List Str := ["things", "thing"]
theorem sc_unlike : FnScope N_unlike ["things"] (defScope s_unlike) := ⟨rfl, rfl, rfl, by decide +kernel, rfl, by decide +kernel, by decide +kernel⟩
noncomputable def b_unlike : M Fl := (sRet (oUnl 1 (iVal (vVar 0))))
noncomputable def m_unlike : Fn := dfn 1 2 [] b_unlike
theorem ok_unlike {P : Program} {w : World} {K : PySem.W.Frag} {mg : Str → Option Value} {base : Heap} (Da : DefAt K mg "unlike" s_unlike) (mz_list : mg "list" = none) : DefOk P w K mg base 1 "unlike" s_unlike ["things"] 1 [] [] m_unlike :=
  def_pl (k := 0) Da sc_unlike rfl (fun _ _ _ _ _ _ _ us h => match us, h with | [_], _ => rfl) (by decide) (by decide) fun _ _ _ _ _ _ _ _ hr =>
   (zs_one (z_ret (po_unl (i := 1) rfl sc_unlike.nd rfl (by rfl) mz_list (it_val (pv_var 0 (L2.pv 0))) (blkOk_by (own := [("thing", 1)]) (N := N_unlike) (sc := defScope s_unlike) (by decide +kernel)) (fun _ _ _ _ _ => L2.pg_name (i := 1) sc_unlike.nd rfl (Or.inl rfl)) (fun _ _ _ _ _ => L2.pv 1))))
abbrev s_lot_of_words : Stmt := topS 2
abbrev N_lot_of_words : List Str := ["things"]
theorem sc_lot_of_words : FnScope N_lot_of_words ["things"] (defScope s_lot_of_words) := ⟨rfl, rfl, rfl, by decide +kernel, rfl, by decide +kernel, by decide +kernel⟩
noncomputable def b_lot_of_words : M Fl := (sRet (om (un dTuple (qm (vm (oNew dSorted (qm (vm (oCall m_unlike [none] (gV (vVar 0) gNl))))))))))
noncomputable def m_lot_of_words : Fn := dfn 1 1 [] b_lot_of_words
theorem ok_lot_of_words {P : Program} {w : World} {K : PySem.W.Frag} {mg : Str → Option Value} {base : Heap} (Da : DefAt K mg "lot_of_words" s_lot_of_words) (d_unlike : DefOk P w K mg base 1 "unlike" s_unlike ["things"] 1 [] [] m_unlike) (mz_sorted : mg "sorted" = none) (mz_tuple : mg "tuple" = none) : DefOk P w K mg base 2 "lot_of_words" s_lot_of_words ["things"] 1 [] [] m_lot_of_words :=
  def_pl (k := 1) Da sc_lot_of_words rfl (fun _ _ _ _ _ _ _ us h => match us, h with | [_], _ => rfl) (by decide) (by decide) fun _ _ _ _ _ _ _ _ hr =>
   (zs_one (z_ret (po_of (pv_callT ca_tuple (by rfl) mz_tuple boot_tuple' (pq_of (pv_of (po_sorted rfl (u65 hr) (by rfl) mz_sorted (pq_of (pv_of (po_callD (io := []) (sh := [none]) d_unlike (hr.mono (by decide)) (by rfl) (takes_of rfl rfl rfl rfl) (pag_v (pv_var 0 (L2.pv 0)) pag_nil)))))))))))
abbrev s_is_within : Stmt := topS 4
abbrev N_is_within : List Str := ["lot", "other", "thing"]
theorem sc_is_within : FnScope N_is_within ["lot", "other"] (defScope s_is_within) := ⟨rfl, rfl, rfl, by decide +kernel, rfl, by decide +kernel, by decide +kernel⟩
noncomputable def b_is_within : M Fl := (sRet (om (bin dEq (qm (vm (oLc [2] (iVal (vVar 0)) (gSet 2) (bm (bin dNotIn2 (qVar 2) (qVar 1))) (om (vVar 2))))) (qm (vm (oLst aNil))))))
noncomputable def m_is_within : Fn := dfn 2 3 [] b_is_within
theorem ok_is_within {P : Program} {w : World} {K : PySem.W.Frag} {mg : Str → Option Value} {base : Heap} (Da : DefAt K mg "is_within" s_is_within) : DefOk P w K mg base 1 "is_within" s_is_within ["lot", "other"] 2 [] [] m_is_within :=
  def_pl (k := 0) Da sc_is_within rfl (fun _ _ _ _ _ _ _ us h => match us, h with | [_, _], _ => rfl) (by decide) (by decide) fun _ _ _ _ _ _ _ _ hr =>
   (zs_one (z_ret (po_of (pv_cmp (od_eq hr.units) (pq_of (pv_of (po_lc (own := [("thing", 2)]) rfl sc_is_within.nd (it_val (pv_var 0 (L2.pv 0))) (blkOk_by (own := [("thing", 2)]) (N := N_is_within) (sc := defScope s_is_within) (by decide +kernel)) (fun _ _ _ _ _ => (gt_name sc_is_within.nd rfl (by first | exact .inl rfl | exact .inr rfl))) (fun _ _ _ _ _ => (pbs_one (pb_cmp (od_nin2 (u65 hr)) (pq_var 2 (L2.pv 2)) (pq_var 1 (L2.pv 1)) rfl))) (fun _ _ _ _ _ => (po_of (pv_var 2 (L2.pv 2)))) (ne_set 2)))) (pq_of (pv_of (po_lst pas_nil))) (nomark _)))))
abbrev s_with_thing : Stmt := topS 5
abbrev N_with_thing : List Str := ["lot", "thing"]
theorem sc_with_thing : FnScope N_with_thing ["lot", "thing"] (defScope s_with_thing) := ⟨rfl, rfl, rfl, by decide +kernel, rfl, by decide +kernel, by decide +kernel⟩
noncomputable def b_with_thing : M Fl := (sRet (oCall m_lot_of_words [none] (gV (bin dAdd (qVar 0) (qm (vTup (aCons (vVar 1) aNil)))) gNl)))
noncomputable def m_with_thing : Fn := dfn 2 2 [] b_with_thing
theorem ok_with_thing {P : Program} {w : World} {K : PySem.W.Frag} {mg : Str → Option Value} {base : Heap} (Da : DefAt K mg "with_thing" s_with_thing) (d_lot_of_words : DefOk P w K mg base 2 "lot_of_words" s_lot_of_words ["things"] 1 [] [] m_lot_of_words) : DefOk P w K mg base 3 "with_thing" s_with_thing ["lot", "thing"] 2 [] [] m_with_thing :=
  def_pl (k := 2) Da sc_with_thing rfl (fun _ _ _ _ _ _ _ us h => match us, h with | [_, _], _ => rfl) (by decide) (by decide) fun _ _ _ _ _ _ _ _ hr =>
   (zs_one (z_ret (po_callD (io := []) (sh := [none]) d_lot_of_words (hr.mono (by decide)) (by rfl) (takes_of rfl rfl rfl rfl) (pag_v (pv_op od_add (pq_var 0 (L2.pv 0)) (pq_of (pv_tup (pas_cons (pv_var 1 (L2.pv 1)) pas_nil)))) pag_nil))))
abbrev s_without_thing : Stmt := topS 6
abbrev N_without_thing : List Str := ["lot", "thing", "other"]
theorem sc_without_thing : FnScope N_without_thing ["lot", "thing"] (defScope s_without_thing) := ⟨rfl, rfl, rfl, by decide +kernel, rfl, by decide +kernel, by decide +kernel⟩
noncomputable def b_without_thing : M Fl := (sRet (om (un dTuple (qm (vm (oLc [2] (iVal (vVar 0)) (gSet 2) (bm (bin dNe (qVar 2) (qVar 1))) (om (vVar 2))))))))
noncomputable def m_without_thing : Fn := dfn 2 3 [] b_without_thing
theorem ok_without_thing {P : Program} {w : World} {K : PySem.W.Frag} {mg : Str → Option Value} {base : Heap} (Da : DefAt K mg "without_thing" s_without_thing) (mz_tuple : mg "tuple" = none) : DefOk P w K mg base 1 "without_thing" s_without_thing ["lot", "thing"] 2 [] [] m_without_thing :=
  def_pl (k := 0) Da sc_without_thing rfl (fun _ _ _ _ _ _ _ us h => match us, h with | [_, _], _ => rfl) (by decide) (by decide) fun _ _ _ _ _ _ _ _ hr =>
   (zs_one (z_ret (po_of (pv_callT ca_tuple (by rfl) mz_tuple boot_tuple' (pq_of (pv_of (po_lc (own := [("other", 2)]) rfl sc_without_thing.nd (it_val (pv_var 0 (L2.pv 0))) (blkOk_by (own := [("other", 2)]) (N := N_without_thing) (sc := defScope s_without_thing) (by decide +kernel)) (fun _ _ _ _ _ => (gt_name sc_without_thing.nd rfl (by first | exact .inl rfl | exact .inr rfl))) (fun _ _ _ _ _ => (pbs_one (pb_cmp (od_ne hr.units) (pq_var 2 (L2.pv 2)) (pq_var 1 (L2.pv 1)) (nomark _)))) (fun _ _ _ _ _ => (po_of (pv_var 2 (L2.pv 2)))) (ne_set 2))))))))
abbrev s_Web____init__ : Stmt := inClass (topS 8) 0
abbrev N_Web____init__ : List Str := ["self", "names", "weights", "lots"]
theorem sc_Web____init__ : FnScope N_Web____init__ ["self", "names", "weights", "lots"] (defScope s_Web____init__) := ⟨rfl, rfl, rfl, by decide +kernel, rfl, by decide +kernel, by decide +kernel⟩
noncomputable def b_Web____init__ : M Fl := (sSeq (sFPut 0 [] "Web" "names" (om (vVar 1)))
  (sSeq (sFPut 0 [] "Web" "weights" (om (vVar 2)))
  (sFPut 0 [] "Web" "lots" (om (vVar 3)))))
noncomputable def m_Web____init__ : Fn := dfn 4 4 [0] b_Web____init__
theorem ok_Web____init__ {P : Program} {w : World} {K : PySem.W.Frag} {mg : Str → Option Value} {base : Heap} (Da : MkAt K mg "Web" "Web.__init__" ["names", "weights", "lots"] s_Web____init__) (k_Web : ClsAt K mg "Web" ["names", "weights", "lots"]) : InitOk P w K mg base 1 "Web" ["names", "weights", "lots"] ["self", "names", "weights", "lots"] 4 m_Web____init__ :=
  init_pl (k := 0) Da sc_Web____init__ rfl (fun _ _ _ _ _ _ us h => match us, h with | [_, _, _, _], _ => rfl) (by decide) fun _ _ _ _ _ _ _ hr =>
   (zs_cons (z_fput (c := "Web") k_Web (by decide) (pl_var 0 (L2.pv 0)) (po_of (pv_var 1 (L2.pv 1))))
    (zs_cons (z_fput (c := "Web") k_Web (by decide) (pl_var 0 (L2.pv 0)) (po_of (pv_var 2 (L2.pv 2))))
    (zs_one (z_fput (c := "Web") k_Web (by decide) (pl_var 0 (L2.pv 0)) (po_of (pv_var 3 (L2.pv 3)))))))
abbrev s_lot_of : Stmt := topS 10
abbrev N_lot_of : List Str := ["things"]
theorem sc_lot_of : FnScope N_lot_of ["things"] (defScope s_lot_of) := ⟨rfl, rfl, rfl, by decide +kernel, rfl, by decide +kernel, by decide +kernel⟩
noncomputable def b_lot_of : M Fl := (sRet (om (un dTuple (qm (vm (oNew dSrtSet (qVar 0)))))))
noncomputable def m_lot_of : Fn := dfn 1 1 [] b_lot_of
theorem ok_lot_of {P : Program} {w : World} {K : PySem.W.Frag} {mg : Str → Option Value} {base : Heap} (Da : DefAt K mg "lot_of" s_lot_of) (mz_set : mg "set" = none) (mz_sorted : mg "sorted" = none) (mz_tuple : mg "tuple" = none) : DefOk P w K mg base 1 "lot_of" s_lot_of ["things"] 1 [] [] m_lot_of :=
  def_pl (k := 0) Da sc_lot_of rfl (fun _ _ _ _ _ _ _ us h => match us, h with | [_], _ => rfl) (by decide) (by decide) fun _ _ _ _ _ _ _ _ hr =>
   (zs_one (z_ret (po_of (pv_callT ca_tuple (by rfl) mz_tuple boot_tuple' (pq_of (pv_of (po_srtset rfl (u65 hr) (by rfl) mz_sorted (by rfl) mz_set (pq_var 0 (L2.pv 0)))))))))
abbrev s_lot_of_lots : Stmt := topS 10
abbrev N_lot_of_lots : List Str := ["things"]
theorem sc_lot_of_lots : FnScope N_lot_of_lots ["things"] (defScope s_lot_of_lots) := ⟨rfl, rfl, rfl, by decide +kernel, rfl, by decide +kernel, by decide +kernel⟩
noncomputable def b_lot_of_lots : M Fl := (sRet (om (un dTuple (qm (vm (oNew dSrtSet (qVar 0)))))))
noncomputable def m_lot_of_lots : Fn := dfn 1 1 [] b_lot_of_lots
theorem ok_lot_of_lots {P : Program} {w : World} {K : PySem.W.Frag} {mg : Str → Option Value} {base : Heap} (Da : DefAt K mg "lot_of_lots" s_lot_of_lots) (mz_set : mg "set" = none) (mz_sorted : mg "sorted" = none) (mz_tuple : mg "tuple" = none) : DefOk P w K mg base 1 "lot_of_lots" s_lot_of_lots ["things"] 1 [] [] m_lot_of_lots :=
  def_pl (k := 0) Da sc_lot_of_lots rfl (fun _ _ _ _ _ _ _ us h => match us, h with | [_], _ => rfl) (by decide) (by decide) fun _ _ _ _ _ _ _ _ hr =>
   (zs_one (z_ret (po_of (pv_callT ca_tuple (by rfl) mz_tuple boot_tuple' (pq_of (pv_of (po_srtset rfl (u65 hr) (by rfl) mz_sorted (by rfl) mz_set (pq_var 0 (L2.pv 0)))))))))
abbrev s_joined : Stmt := topS 12
abbrev N_joined : List Str := ["one", "other"]
theorem sc_joined : FnScope N_joined ["one", "other"] (defScope s_joined) := ⟨rfl, rfl, rfl, by decide +kernel, rfl, by decide +kernel, by decide +kernel⟩
noncomputable def b_joined : M Fl := (sRet (oCall m_lot_of_lots [none] (gV (bin dAdd (qm (vm (oNew dListA (qVar 0)))) (qm (vm (oNew dListA (qVar 1))))) gNl)))
noncomputable def m_joined : Fn := dfn 2 2 [] b_joined
theorem ok_joined {P : Program} {w : World} {K : PySem.W.Frag} {mg : Str → Option Value} {base : Heap} (Da : DefAt K mg "joined" s_joined) (d_lot_of_lots : DefOk P w K mg base 1 "lot_of_lots" s_lot_of_lots ["things"] 1 [] [] m_lot_of_lots) (mz_list : mg "list" = none) : DefOk P w K mg base 2 "joined" s_joined ["one", "other"] 2 [] [] m_joined :=
  def_pl (k := 1) Da sc_joined rfl (fun _ _ _ _ _ _ _ us h => match us, h with | [_, _], _ => rfl) (by decide) (by decide) fun _ _ _ _ _ _ _ _ hr =>
   (zs_one (z_ret (po_callD (io := []) (sh := [none]) d_lot_of_lots (hr.mono (by decide)) (by rfl) (takes_of rfl rfl rfl rfl) (pag_v (pv_op od_add (pq_of (pv_of (po_listA rfl (by rfl) mz_list (pq_var 0 (L2.pv 0))))) (pq_of (pv_of (po_listA rfl (by rfl) mz_list (pq_var 1 (L2.pv 1)))))) pag_nil))))
abbrev s_less_one : Stmt := topS 13
abbrev N_less_one : List Str := ["lot", "thing", "one"]
theorem sc_less_one : FnScope N_less_one ["lot", "thing"] (defScope s_less_one) := ⟨rfl, rfl, rfl, by decide +kernel, rfl, by decide +kernel, by decide +kernel⟩
noncomputable def b_less_one : M Fl := (sRet (om (un dTuple (qm (vm (oLc [2] (iVal (vVar 0)) (gSet 2) (bm (bin dNe (qVar 2) (qVar 1))) (om (vVar 2))))))))
noncomputable def m_less_one : Fn := dfn 2 3 [] b_less_one
theorem ok_less_one {P : Program} {w : World} {K : PySem.W.Frag} {mg : Str → Option Value} {base : Heap} (Da : DefAt K mg "less_one" s_less_one) (mz_tuple : mg "tuple" = none) : DefOk P w K mg base 1 "less_one" s_less_one ["lot", "thing"] 2 [] [] m_less_one :=
  def_pl (k := 0) Da sc_less_one rfl (fun _ _ _ _ _ _ _ us h => match us, h with | [_, _], _ => rfl) (by decide) (by decide) fun _ _ _ _ _ _ _ _ hr =>
   (zs_one (z_ret (po_of (pv_callT ca_tuple (by rfl) mz_tuple boot_tuple' (pq_of (pv_of (po_lc (own := [("one", 2)]) rfl sc_less_one.nd (it_val (pv_var 0 (L2.pv 0))) (blkOk_by (own := [("one", 2)]) (N := N_less_one) (sc := defScope s_less_one) (by decide +kernel)) (fun _ _ _ _ _ => (gt_name sc_less_one.nd rfl (by first | exact .inl rfl | exact .inr rfl))) (fun _ _ _ _ _ => (pbs_one (pb_cmp (od_ne hr.units) (pq_var 2 (L2.pv 2)) (pq_var 1 (L2.pv 1)) (nomark _)))) (fun _ _ _ _ _ => (po_of (pv_var 2 (L2.pv 2)))) (ne_set 2))))))))
abbrev s_is_borne : Stmt := topS 15
abbrev N_is_borne : List Str := ["web", "standing", "thing", "lot"]
theorem sc_is_borne : FnScope N_is_borne ["web", "standing", "thing"] (defScope s_is_borne) := ⟨rfl, rfl, rfl, by decide +kernel, rfl, by decide +kernel, by decide +kernel⟩
noncomputable def b_is_borne : M Fl := (sRet (om (bin dNe (qm (vm (oLc [3] (iVal (bin dIxA (qm (un (dFld "lots") (qVar 0))) (qVar 2))) (gSet 3) (bTru (qm (vm (oCall m_is_within [none, none] (gV (vVar 3) (gV (vVar 1) gNl)))))) (om (vVar 3))))) (qm (vm (oLst aNil))))))
noncomputable def m_is_borne : Fn := dfn 3 4 [] b_is_borne
theorem ok_is_borne {P : Program} {w : World} {K : PySem.W.Frag} {mg : Str → Option Value} {base : Heap} (Da : DefAt K mg "is_borne" s_is_borne) (d_is_within : DefOk P w K mg base 1 "is_within" s_is_within ["lot", "other"] 2 [] [] m_is_within) : DefOk P w K mg base 2 "is_borne" s_is_borne ["web", "standing", "thing"] 3 [] [] m_is_borne :=
  def_pl (k := 1) Da sc_is_borne rfl (fun _ _ _ _ _ _ _ us h => match us, h with | [_, _, _], _ => rfl) (by decide) (by decide) fun _ _ _ _ _ _ _ _ hr =>
   (zs_one (z_ret (po_of (pv_cmp (od_ne hr.units) (pq_of (pv_of (po_lc (own := [("lot", 3)]) rfl sc_is_borne.nd (it_val (pv_ix (ox_sub (u65 hr)) (pq_of (pv_fld (f := "lots") (pq_var 0 (L2.pv 0)))) (pq_var 2 (L2.pv 2)))) (blkOk_by (own := [("lot", 3)]) (N := N_is_borne) (sc := defScope s_is_borne) (by decide +kernel)) (fun _ _ _ _ _ => (gt_name sc_is_borne.nd rfl (by first | exact .inl rfl | exact .inr rfl))) (fun _ _ _ _ _ => (pbs_one (pb_tru (pq_of (pv_of (po_callD (io := []) (sh := [none, none]) d_is_within (hr.mono (by decide)) (by rfl) L2.takes0 (pag_v (pv_var 3 (L2.pv 3)) (pag_v (pv_var 1 (L2.pv 1)) pag_nil)))))))) (fun _ _ _ _ _ => (po_of (pv_var 3 (L2.pv 3)))) (ne_set 3)))) (pq_of (pv_of (po_lst pas_nil))) (nomark _)))))
abbrev s_let_at : Stmt := topS 16
abbrev N_let_at : List Str := ["web", "standing", "thing"]
theorem sc_let_at : FnScope N_let_at ["web", "standing"] (defScope s_let_at) := ⟨rfl, rfl, rfl, by decide +kernel, rfl, by decide +kernel, by decide +kernel⟩
noncomputable def b_let_at : M Fl := (sRet (om (un dTuple (qm (vm (oLc [2] (iR1 (aCons (un dLen (qm (un (dFld "names") (qVar 0)))) aNil)) (gSet 2) (bTru (qm (vm (oCall m_is_borne [none, none, none] (gV (vVar 0) (gV (vVar 1) (gV (vVar 2) gNl))))))) (om (vVar 2))))))))
noncomputable def m_let_at : Fn := dfn 2 3 [] b_let_at
theorem ok_let_at {P : Program} {w : World} {K : PySem.W.Frag} {mg : Str → Option Value} {base : Heap} (Da : DefAt K mg "let_at" s_let_at) (d_is_borne : DefOk P w K mg base 2 "is_borne" s_is_borne ["web", "standing", "thing"] 3 [] [] m_is_borne) (mz_len : mg "len" = none) (mz_range : mg "range" = none) (mz_tuple : mg "tuple" = none) : DefOk P w K mg base 3 "let_at" s_let_at ["web", "standing"] 2 [] [] m_let_at :=
  def_pl (k := 2) Da sc_let_at rfl (fun _ _ _ _ _ _ _ us h => match us, h with | [_, _], _ => rfl) (by decide) (by decide) fun _ _ _ _ _ _ _ _ hr =>
   (zs_one (z_ret (po_of (pv_callT ca_tuple (by rfl) mz_tuple boot_tuple' (pq_of (pv_of (po_lc (own := [("thing", 2)]) rfl sc_let_at.nd (it_range1 (by rfl) mz_range (pas_cons (pv_callB ca_len (by rfl) mz_len boot_len' (pq_of (pv_fld (f := "names") (pq_var 0 (L2.pv 0))))) pas_nil)) (blkOk_by (own := [("thing", 2)]) (N := N_let_at) (sc := defScope s_let_at) (by decide +kernel)) (fun _ _ _ _ _ => (gt_name sc_let_at.nd rfl (by first | exact .inl rfl | exact .inr rfl))) (fun _ _ _ _ _ => (pbs_one (pb_tru (pq_of (pv_of (po_callD (io := []) (sh := [none, none, none]) d_is_borne (hr.mono (by decide)) (by rfl) L2.takes0 (pag_v (pv_var 0 (L2.pv 0)) (pag_v (pv_var 1 (L2.pv 1)) (pag_v (pv_var 2 (L2.pv 2)) pag_nil))))))))) (fun _ _ _ _ _ => (po_of (pv_var 2 (L2.pv 2)))) (ne_set 2))))))))
abbrev s_turned_thing : Stmt := topS 17
abbrev N_turned_thing : List Str := ["standing", "thing"]
theorem sc_turned_thing : FnScope N_turned_thing ["standing", "thing"] (defScope s_turned_thing) := ⟨rfl, rfl, rfl, by decide +kernel, rfl, by decide +kernel, by decide +kernel⟩
noncomputable def b_turned_thing : M Fl := (sRet (mIf (bm (bin dIn2 (qVar 1) (qVar 0))) (oCall m_without_thing [none, none] (gV (vVar 0) (gV (vVar 1) gNl))) (oCall m_with_thing [none, none] (gV (vVar 0) (gV (vVar 1) gNl)))))
noncomputable def m_turned_thing : Fn := dfn 2 2 [] b_turned_thing
theorem ok_turned_thing {P : Program} {w : World} {K : PySem.W.Frag} {mg : Str → Option Value} {base : Heap} (Da : DefAt K mg "turned_thing" s_turned_thing) (d_without_thing : DefOk P w K mg base 1 "without_thing" s_without_thing ["lot", "thing"] 2 [] [] m_without_thing) (d_with_thing : DefOk P w K mg base 3 "with_thing" s_with_thing ["lot", "thing"] 2 [] [] m_with_thing) : DefOk P w K mg base 4 "turned_thing" s_turned_thing ["standing", "thing"] 2 [] [] m_turned_thing :=
  def_pl (k := 3) Da sc_turned_thing rfl (fun _ _ _ _ _ _ _ us h => match us, h with | [_, _], _ => rfl) (by decide) (by decide) fun _ _ _ _ _ _ _ _ hr =>
   (zs_one (z_ret (po_if (pb_cmp (od_in2 (u65 hr)) (pq_var 1 (L2.pv 1)) (pq_var 0 (L2.pv 0)) rfl) (po_callD (io := []) (sh := [none, none]) d_without_thing (hr.mono (by decide)) (by rfl) (takes_of rfl rfl rfl rfl) (pag_v (pv_var 0 (L2.pv 0)) (pag_v (pv_var 1 (L2.pv 1)) pag_nil))) (po_callD (io := []) (sh := [none, none]) d_with_thing (hr.mono (by decide)) (by rfl) (takes_of rfl rfl rfl rfl) (pag_v (pv_var 0 (L2.pv 0)) (pag_v (pv_var 1 (L2.pv 1)) pag_nil))))))
abbrev s_stepped_standings : Stmt := topS 18
abbrev N_stepped_standings : List Str := ["web", "standing", "thing"]
theorem sc_stepped_standings : FnScope N_stepped_standings ["web", "standing", "thing"] (defScope s_stepped_standings) := ⟨rfl, rfl, rfl, by decide +kernel, rfl, by decide +kernel, by decide +kernel⟩
noncomputable def b_stepped_standings : M Fl := (sRet (mIf (bTru (qm (vm (oCall m_is_borne [none, none, none] (gV (vVar 0) (gV (vVar 1) (gV (vVar 2) gNl))))))) (oCall m_turned_thing [none, none] (gV (vVar 1) (gV (vVar 2) gNl))) (om (M.ret .non))))
noncomputable def m_stepped_standings : Fn := dfn 3 3 [] b_stepped_standings
theorem ok_stepped_standings {P : Program} {w : World} {K : PySem.W.Frag} {mg : Str → Option Value} {base : Heap} (Da : DefAt K mg "stepped_standings" s_stepped_standings) (d_is_borne : DefOk P w K mg base 2 "is_borne" s_is_borne ["web", "standing", "thing"] 3 [] [] m_is_borne) (d_turned_thing : DefOk P w K mg base 4 "turned_thing" s_turned_thing ["standing", "thing"] 2 [] [] m_turned_thing) : DefOk P w K mg base 5 "stepped_standings" s_stepped_standings ["web", "standing", "thing"] 3 [] [] m_stepped_standings :=
  def_pl (k := 4) Da sc_stepped_standings rfl (fun _ _ _ _ _ _ _ us h => match us, h with | [_, _, _], _ => rfl) (by decide) (by decide) fun _ _ _ _ _ _ _ _ hr =>
   (zs_one (z_ret (po_if (pb_tru (pq_of (pv_of (po_callD (io := []) (sh := [none, none, none]) d_is_borne (hr.mono (by decide)) (by rfl) (takes_of rfl rfl rfl rfl) (pag_v (pv_var 0 (L2.pv 0)) (pag_v (pv_var 1 (L2.pv 1)) (pag_v (pv_var 2 (L2.pv 2)) pag_nil))))))) (po_callD (io := []) (sh := [none, none]) d_turned_thing (hr.mono (by decide)) (by rfl) (takes_of rfl rfl rfl rfl) (pag_v (pv_var 1 (L2.pv 1)) (pag_v (pv_var 2 (L2.pv 2)) pag_nil))) (po_of pv_non))))
abbrev s_walked : Stmt := topS 20
abbrev N_walked : List Str := ["web", "standing", "steps", "here", "found", "thing"]
theorem sc_walked : FnScope N_walked ["web", "standing", "steps"] (defScope s_walked) := ⟨rfl, rfl, rfl, by decide +kernel, rfl, by decide +kernel, by decide +kernel⟩
noncomputable def b_walked : M Fl := (sSeq (sSet (om (un dTuple (qVar 1))) (gSet 3))
  (sSeq (sSet (oLst (aCons (vVar 3) aNil)) (gSet 4))
  (sSeq (sFor (iVal (vVar 2)) (gSet 5) (sSeq (sSet (om (vm (oCall m_stepped_standings [none, none, none] (gV (vVar 0) (gV (vVar 3) (gV (vVar 5) gNl)))))) (gSet 3))
  (sSeq (sIf (bm (bin dIs (qVar 3) (qm (M.ret .non)))) (sRet (om (M.ret .non))) sNx)
  (sDrop (oAppend 4 [] (om (vVar 3)))))))
  (sRet (om (un dTuple (qVar 4)))))))
noncomputable def m_walked : Fn := dfn 3 6 [] b_walked
theorem ok_walked {P : Program} {w : World} {K : PySem.W.Frag} {mg : Str → Option Value} {base : Heap} (Da : DefAt K mg "walked" s_walked) (d_stepped_standings : DefOk P w K mg base 5 "stepped_standings" s_stepped_standings ["web", "standing", "thing"] 3 [] [] m_stepped_standings) (mz_tuple : mg "tuple" = none) : DefOk P w K mg base 6 "walked" s_walked ["web", "standing", "steps"] 3 [] [] m_walked :=
  def_pl (k := 5) Da sc_walked rfl (fun _ _ _ _ _ _ _ us h => match us, h with | [_, _, _], _ => rfl) (by decide) (by decide) fun _ _ _ _ _ _ _ _ hr =>
   (zs_cons (z_set sc_walked.nd rfl (by first | exact .inl rfl | exact .inr rfl) (po_of (pv_callT ca_tuple (by rfl) mz_tuple boot_tuple' (pq_var 1 (L2.pv 1)))))
    (zs_cons (z_set sc_walked.nd rfl (by first | exact .inl rfl | exact .inr rfl) (po_lst (pas_cons (pv_var 3 (L2.pv 3)) pas_nil)))
    (zs_cons (z_for (passes_of rfl) rfl (it_val (pv_var 2 (L2.pv 2))) (gt_name sc_walked.nd rfl (by first | exact .inl rfl | exact .inr rfl)) (zs_cons (z_set sc_walked.nd rfl (by first | exact .inl rfl | exact .inr rfl) (po_of (pv_of (po_callD (io := []) (sh := [none, none, none]) d_stepped_standings (hr.mono (by decide)) (by rfl) (takes_of rfl rfl rfl rfl) (pag_v (pv_var 0 (L2.pv 0)) (pag_v (pv_var 3 (L2.pv 3)) (pag_v (pv_var 5 (L2.pv 5)) pag_nil)))))))
    (zs_cons (z_if (pb_cmp od_is (pq_var 3 (L2.pv 3)) (pq_of pv_non) (nomark _)) (zs_one (z_ret (po_of pv_non))) zs_nil)
    (zs_one (z_expr (po_append (pl_var 4 (L2.pv 4)) (po_of (pv_var 3 (L2.pv 3)))))))))
    (zs_one (z_ret (po_of (pv_callT ca_tuple (by rfl) mz_tuple boot_tuple' (pq_var 4 (L2.pv 4)))))))))
abbrev s_stepped : Stmt := topS 22
abbrev N_stepped : List Str := ["standing", "thing"]
theorem sc_stepped : FnScope N_stepped ["standing", "thing"] (defScope s_stepped) := ⟨rfl, rfl, rfl, by decide +kernel, rfl, by decide +kernel, by decide +kernel⟩
noncomputable def b_stepped : M Fl := (sRet (mIf (bm (bin dIn2 (qVar 1) (qVar 0))) (oCall m_less_one [none, none] (gV (vVar 0) (gV (vVar 1) gNl))) (oCall m_joined [none, none] (gV (vVar 0) (gV (vTup (aCons (vVar 1) aNil)) gNl)))))
noncomputable def m_stepped : Fn := dfn 2 2 [] b_stepped
theorem ok_stepped {P : Program} {w : World} {K : PySem.W.Frag} {mg : Str → Option Value} {base : Heap} (Da : DefAt K mg "stepped" s_stepped) (d_less_one : DefOk P w K mg base 1 "less_one" s_less_one ["lot", "thing"] 2 [] [] m_less_one) (d_joined : DefOk P w K mg base 2 "joined" s_joined ["one", "other"] 2 [] [] m_joined) : DefOk P w K mg base 3 "stepped" s_stepped ["standing", "thing"] 2 [] [] m_stepped :=
  def_pl (k := 2) Da sc_stepped rfl (fun _ _ _ _ _ _ _ us h => match us, h with | [_, _], _ => rfl) (by decide) (by decide) fun _ _ _ _ _ _ _ _ hr =>
   (zs_one (z_ret (po_if (pb_cmp (od_in2 (u65 hr)) (pq_var 1 (L2.pv 1)) (pq_var 0 (L2.pv 0)) rfl) (po_callD (io := []) (sh := [none, none]) d_less_one (hr.mono (by decide)) (by rfl) (takes_of rfl rfl rfl rfl) (pag_v (pv_var 0 (L2.pv 0)) (pag_v (pv_var 1 (L2.pv 1)) pag_nil))) (po_callD (io := []) (sh := [none, none]) d_joined (hr.mono (by decide)) (by rfl) (takes_of rfl rfl rfl rfl) (pag_v (pv_var 0 (L2.pv 0)) (pag_v (pv_tup (pas_cons (pv_var 1 (L2.pv 1)) pas_nil)) pag_nil))))))
abbrev s_stepped_wipegraph : Stmt := topS 22
abbrev N_stepped_wipegraph : List Str := ["standing", "thing"]
theorem sc_stepped_wipegraph : FnScope N_stepped_wipegraph ["standing", "thing"] (defScope s_stepped_wipegraph) := ⟨rfl, rfl, rfl, by decide +kernel, rfl, by decide +kernel, by decide +kernel⟩
noncomputable def b_stepped_wipegraph : M Fl := (sRet (mIf (bm (bin dIn2 (qVar 1) (qVar 0))) (oCall m_less_one [none, none] (gV (vVar 0) (gV (vVar 1) gNl))) (oCall m_joined [none, none] (gV (vVar 0) (gV (vTup (aCons (vVar 1) aNil)) gNl)))))
noncomputable def m_stepped_wipegraph : Fn := dfn 2 2 [] b_stepped_wipegraph
theorem ok_stepped_wipegraph {P : Program} {w : World} {K : PySem.W.Frag} {mg : Str → Option Value} {base : Heap} (Da : DefAt K mg "stepped_wipegraph" s_stepped_wipegraph) (d_less_one : DefOk P w K mg base 1 "less_one" s_less_one ["lot", "thing"] 2 [] [] m_less_one) (d_joined : DefOk P w K mg base 2 "joined" s_joined ["one", "other"] 2 [] [] m_joined) : DefOk P w K mg base 3 "stepped_wipegraph" s_stepped_wipegraph ["standing", "thing"] 2 [] [] m_stepped_wipegraph :=
  def_pl (k := 2) Da sc_stepped_wipegraph rfl (fun _ _ _ _ _ _ _ us h => match us, h with | [_, _], _ => rfl) (by decide) (by decide) fun _ _ _ _ _ _ _ _ hr =>
   (zs_one (z_ret (po_if (pb_cmp (od_in2 (u65 hr)) (pq_var 1 (L2.pv 1)) (pq_var 0 (L2.pv 0)) rfl) (po_callD (io := []) (sh := [none, none]) d_less_one (hr.mono (by decide)) (by rfl) (takes_of rfl rfl rfl rfl) (pag_v (pv_var 0 (L2.pv 0)) (pag_v (pv_var 1 (L2.pv 1)) pag_nil))) (po_callD (io := []) (sh := [none, none]) d_joined (hr.mono (by decide)) (by rfl) (takes_of rfl rfl rfl rfl) (pag_v (pv_var 0 (L2.pv 0)) (pag_v (pv_tup (pas_cons (pv_var 1 (L2.pv 1)) pas_nil)) pag_nil))))))
abbrev s_behind_event : Stmt := topS 25
abbrev N_behind_event : List Str := ["web", "standing", "event", "thing"]
theorem sc_behind_event : FnScope N_behind_event ["web", "standing", "event"] (defScope s_behind_event) := ⟨rfl, rfl, rfl, by decide +kernel, rfl, by decide +kernel, by decide +kernel⟩
noncomputable def b_behind_event : M Fl := (sSeq (sIf (bm (bin dLt (qVar 2) (qm (M.ret (.int 0))))) (sSeq (sSet (om (bin dSub (qm (un dNeg (qm (M.ret (.int 1))))) (qVar 2))) (gSet 3))
  (sRet (mIf (bm (bin dIn2 (qVar 3) (qVar 1))) (oCall m_less_one [none, none] (gV (vVar 1) (gV (vVar 3) gNl))) (om (M.ret .non))))) sNx)
  (sRet (mIf (bm (bin dIn2 (qVar 2) (qm (vm (oCall m_let_at [none, none] (gV (vVar 0) (gV (vVar 1) gNl))))))) (oCall m_stepped_wipegraph [none, none] (gV (vVar 1) (gV (vVar 2) gNl))) (om (M.ret .non)))))
noncomputable def m_behind_event : Fn := dfn 3 4 [] b_behind_event
theorem ok_behind_event {P : Program} {w : World} {K : PySem.W.Frag} {mg : Str → Option Value} {base : Heap} (Da : DefAt K mg "behind_event" s_behind_event) (d_less_one : DefOk P w K mg base 1 "less_one" s_less_one ["lot", "thing"] 2 [] [] m_less_one) (d_let_at : DefOk P w K mg base 3 "let_at" s_let_at ["web", "standing"] 2 [] [] m_let_at) (d_stepped_wipegraph : DefOk P w K mg base 3 "stepped_wipegraph" s_stepped_wipegraph ["standing", "thing"] 2 [] [] m_stepped_wipegraph) : DefOk P w K mg base 4 "behind_event" s_behind_event ["web", "standing", "event"] 3 [] [] m_behind_event :=
  def_pl (k := 3) Da sc_behind_event rfl (fun _ _ _ _ _ _ _ us h => match us, h with | [_, _, _], _ => rfl) (by decide) (by decide) fun _ _ _ _ _ _ _ _ hr =>
   (zs_cons (z_if (pb_cmp od_lt (pq_var 2 (L2.pv 2)) (pq_of pv_int) (nomark _)) (zs_cons (z_set sc_behind_event.nd rfl (by first | exact .inl rfl | exact .inr rfl) (po_of (pv_op od_sub (pq_of (pv_un ud_neg (pq_of pv_int))) (pq_var 2 (L2.pv 2)))))
    (zs_one (z_ret (po_if (pb_cmp (od_in2 (u65 hr)) (pq_var 3 (L2.pv 3)) (pq_var 1 (L2.pv 1)) rfl) (po_callD (io := []) (sh := [none, none]) d_less_one (hr.mono (by decide)) (by rfl) (takes_of rfl rfl rfl rfl) (pag_v (pv_var 1 (L2.pv 1)) (pag_v (pv_var 3 (L2.pv 3)) pag_nil))) (po_of pv_non))))) zs_nil)
    (zs_one (z_ret (po_if (pb_cmp (od_in2 (u65 hr)) (pq_var 2 (L2.pv 2)) (pq_of (pv_of (po_callD (io := []) (sh := [none, none]) d_let_at (hr.mono (by decide)) (by rfl) (takes_of rfl rfl rfl rfl) (pag_v (pv_var 0 (L2.pv 0)) (pag_v (pv_var 1 (L2.pv 1)) pag_nil))))) rfl) (po_callD (io := []) (sh := [none, none]) d_stepped_wipegraph (hr.mono (by decide)) (by rfl) (takes_of rfl rfl rfl rfl) (pag_v (pv_var 1 (L2.pv 1)) (pag_v (pv_var 2 (L2.pv 2)) pag_nil))) (po_of pv_non)))))
abbrev s_wiped_walk : Stmt := topS 26
abbrev N_wiped_walk : List Str := ["web", "standing", "events", "found", "event", "late"]
theorem sc_wiped_walk : FnScope N_wiped_walk ["web", "standing", "events"] (defScope s_wiped_walk) := ⟨rfl, rfl, rfl, by decide +kernel, rfl, by decide +kernel, by decide +kernel⟩
noncomputable def b_wiped_walk : M Fl := (sSeq (sSet (oLst (aCons (un dTuple (qVar 1)) aNil)) (gSet 3))
  (sSeq (sFor (iVal (vVar 2)) (gSet 4) (sSeq (sSet (om (vm (oCall m_behind_event [none, none, none] (gV (vVar 0) (gV (bin dIxA (qVar 3) (qm (un dNeg (qm (M.ret (.int 1)))))) (gV (vVar 4) gNl)))))) (gSet 5))
  (sSeq (sIf (bm (bin dIs (qVar 5) (qm (M.ret .non)))) (sRet (om (M.ret .non))) sNx)
  (sDrop (oAppend 3 [] (om (vVar 5)))))))
  (sRet (om (un dTuple (qVar 3))))))
noncomputable def m_wiped_walk : Fn := dfn 3 6 [] b_wiped_walk
theorem ok_wiped_walk {P : Program} {w : World} {K : PySem.W.Frag} {mg : Str → Option Value} {base : Heap} (Da : DefAt K mg "wiped_walk" s_wiped_walk) (d_behind_event : DefOk P w K mg base 4 "behind_event" s_behind_event ["web", "standing", "event"] 3 [] [] m_behind_event) (mz_tuple : mg "tuple" = none) : DefOk P w K mg base 5 "wiped_walk" s_wiped_walk ["web", "standing", "events"] 3 [] [] m_wiped_walk :=
  def_pl (k := 4) Da sc_wiped_walk rfl (fun _ _ _ _ _ _ _ us h => match us, h with | [_, _, _], _ => rfl) (by decide) (by decide) fun _ _ _ _ _ _ _ _ hr =>
   (zs_cons (z_set sc_wiped_walk.nd rfl (by first | exact .inl rfl | exact .inr rfl) (po_lst (pas_cons (pv_callT ca_tuple (by rfl) mz_tuple boot_tuple' (pq_var 1 (L2.pv 1))) pas_nil)))
    (zs_cons (z_for (passes_of rfl) rfl (it_val (pv_var 2 (L2.pv 2))) (gt_name sc_wiped_walk.nd rfl (by first | exact .inl rfl | exact .inr rfl)) (zs_cons (z_set sc_wiped_walk.nd rfl (by first | exact .inl rfl | exact .inr rfl) (po_of (pv_of (po_callD (io := []) (sh := [none, none, none]) d_behind_event (hr.mono (by decide)) (by rfl) (takes_of rfl rfl rfl rfl) (pag_v (pv_var 0 (L2.pv 0)) (pag_v (pv_ix (ox_sub (u65 hr)) (pq_var 3 (L2.pv 3)) (pq_of (pv_un ud_neg (pq_of pv_int)))) (pag_v (pv_var 4 (L2.pv 4)) pag_nil)))))))
    (zs_cons (z_if (pb_cmp od_is (pq_var 5 (L2.pv 5)) (pq_of pv_non) (nomark _)) (zs_one (z_ret (po_of pv_non))) zs_nil)
    (zs_one (z_expr (po_append (pl_var 3 (L2.pv 3)) (po_of (pv_var 5 (L2.pv 5)))))))))
    (zs_one (z_ret (po_of (pv_callT ca_tuple (by rfl) mz_tuple boot_tuple' (pq_var 3 (L2.pv 3))))))))
abbrev s_wipes_in : Stmt := topS 27
abbrev N_wipes_in : List Str := ["events", "event"]
theorem sc_wipes_in : FnScope N_wipes_in ["events"] (defScope s_wipes_in) := ⟨rfl, rfl, rfl, by decide +kernel, rfl, by decide +kernel, by decide +kernel⟩
noncomputable def b_wipes_in : M Fl := (sRet (om (un dLen (qm (vm (oLc [1] (iVal (vVar 0)) (gSet 1) (bm (bin dLt (qVar 1) (qm (M.ret (.int 0))))) (om (vVar 1))))))))
noncomputable def m_wipes_in : Fn := dfn 1 2 [] b_wipes_in
theorem ok_wipes_in {P : Program} {w : World} {K : PySem.W.Frag} {mg : Str → Option Value} {base : Heap} (Da : DefAt K mg "wipes_in" s_wipes_in) (mz_len : mg "len" = none) : DefOk P w K mg base 1 "wipes_in" s_wipes_in ["events"] 1 [] [] m_wipes_in :=
  def_pl (k := 0) Da sc_wipes_in rfl (fun _ _ _ _ _ _ _ us h => match us, h with | [_], _ => rfl) (by decide) (by decide) fun _ _ _ _ _ _ _ _ hr =>
   (zs_one (z_ret (po_of (pv_callB ca_len (by rfl) mz_len boot_len' (pq_of (pv_of (po_lc (own := [("event", 1)]) rfl sc_wipes_in.nd (it_val (pv_var 0 (L2.pv 0))) (blkOk_by (own := [("event", 1)]) (N := N_wipes_in) (sc := defScope s_wipes_in) (by decide +kernel)) (fun _ _ _ _ _ => (gt_name sc_wipes_in.nd rfl (by first | exact .inl rfl | exact .inr rfl))) (fun _ _ _ _ _ => (pbs_one (pb_cmp od_lt (pq_var 1 (L2.pv 1)) (pq_of pv_int) (nomark _)))) (fun _ _ _ _ _ => (po_of (pv_var 1 (L2.pv 1)))) (ne_set 1))))))))
abbrev s__law_deal : Stmt := topS 29
abbrev N__law_deal : List Str := ["script", "salt", "farthest", "cells", "mix", "cell"]
theorem sc__law_deal : FnScope N__law_deal ["script", "salt"] (defScope s__law_deal) := ⟨rfl, rfl, rfl, by decide +kernel, rfl, by decide +kernel, by decide +kernel⟩
noncomputable def b__law_deal : M Fl := (sSeq (sSet (om (bin dMul (qm (bin dMul (qm (bin dMul (qm (bin dMul (qm (bin dMul (qm (bin dPow (qm (M.ret (.int 10))) (qm (M.ret (.int 64))))) (qm (bin dPow (qm (M.ret (.int 10))) (qm (M.ret (.int 64))))))) (qm (bin dPow (qm (M.ret (.int 10))) (qm (M.ret (.int 64))))))) (qm (bin dPow (qm (M.ret (.int 10))) (qm (M.ret (.int 64))))))) (qm (bin dPow (qm (M.ret (.int 10))) (qm (M.ret (.int 64))))))) (qm (bin dPow (qm (M.ret (.int 10))) (qm (M.ret (.int 64))))))) (gSet 2))
  (sSeq (sPar 3 4 (aCons (vm (oLc [5] (iVal (vm (oCutA (qVar 0) sN (sP (M.ret (.int 63)))))) (gSet 5) (M.ret true) (om (bin dMod (qm (un dInt (qm (un dAbs (qm (un dInt (qVar 5))))))) (qVar 2))))) (aCons (bin dAdd (qm (M.ret (.int 70001))) (qm (bin dMul (qm (M.ret (.int 7919))) (qVar 1)))) aNil)))
  (sSeq (sFor (iVal (vVar 3)) (gSet 5) (sSet (om (bin dMod (qm (un dInt (qm (bin dAdd (qm (bin dAdd (qm (bin dMul (qVar 4) (qm (M.ret (.int 69621))))) (qm (bin dMod (qm (un dInt (qVar 5))) (qm (M.ret (.int 2147483563))))))) (qm (M.ret (.int 23))))))) (qm (M.ret (.int 2147483647))))) (gSet 4)))
  (sRet (oLstO (oCons (oRev (qm (vm (oLc [5] (iVal (vVar 3)) (gSet 5) (bm (bin dGe (qVar 5) (qm (bin dPow (qm (M.ret (.int 10))) (qm (M.ret (.int 18))))))) (om (vVar 5)))))) (oCons (om (vVar 4)) oNil)))))))
noncomputable def m__law_deal : Fn := dfn 2 6 [] b__law_deal
theorem ok__law_deal {P : Program} {w : World} {K : PySem.W.Frag} {mg : Str → Option Value} {base : Heap} (Da : DefAt K mg "_law_deal" s__law_deal) (mz_abs : mg "abs" = none) (mz_int : mg "int" = none) : DefOk P w K mg base 1 "_law_deal" s__law_deal ["script", "salt"] 2 [] [] m__law_deal :=
  def_pl (k := 0) Da sc__law_deal rfl (fun _ _ _ _ _ _ _ us h => match us, h with | [_, _], _ => rfl) (by decide) (by decide) fun _ _ _ _ _ _ _ _ hr =>
   (zs_cons (z_set sc__law_deal.nd rfl (by first | exact .inl rfl | exact .inr rfl) (po_of (pv_op od_mul (pq_of (pv_op od_mul (pq_of (pv_op od_mul (pq_of (pv_op od_mul (pq_of (pv_op od_mul (pq_of (pv_op od_pow (pq_of pv_int) (pq_of pv_int))) (pq_of (pv_op od_pow (pq_of pv_int) (pq_of pv_int))))) (pq_of (pv_op od_pow (pq_of pv_int) (pq_of pv_int))))) (pq_of (pv_op od_pow (pq_of pv_int) (pq_of pv_int))))) (pq_of (pv_op od_pow (pq_of pv_int) (pq_of pv_int))))) (pq_of (pv_op od_pow (pq_of pv_int) (pq_of pv_int))))))
    (zs_cons (z_par rfl sc__law_deal.nd rfl rfl (by decide) rfl rfl (pas_cons (pv_of (po_lc (own := [("cell", 5)]) rfl sc__law_deal.nd (it_val (pv_of (po_cutA (pq_var 0 (L2.pv 0)) psl_none (psl_some pv_int)))) (blkOk_by (own := [("cell", 5)]) (N := N__law_deal) (sc := defScope s__law_deal) (by decide +kernel)) (fun _ _ _ _ _ => (gt_name sc__law_deal.nd rfl (by first | exact .inl rfl | exact .inr rfl))) (fun _ _ _ _ _ => pbs_nil) (fun _ _ _ _ _ => (po_of (pv_op od_mod (pq_of (pv_callT ca_int (by rfl) mz_int boot_int' (pq_of (pv_callB ca_abs (by rfl) mz_abs boot_abs' (pq_of (pv_callT ca_int (by rfl) mz_int boot_int' (pq_var 5 (L2.pv 5)))))))) (pq_var 2 (L2.pv 2))))) (ne_set 5))) (pas_cons (pv_op od_add (pq_of pv_int) (pq_of (pv_op od_mul (pq_of pv_int) (pq_var 1 (L2.pv 1))))) pas_nil)) rfl)
    (zs_cons (z_for (passes_of rfl) rfl (it_val (pv_var 3 (L2.pv 3))) (gt_name sc__law_deal.nd rfl (by first | exact .inl rfl | exact .inr rfl)) (zs_one (z_set sc__law_deal.nd rfl (by first | exact .inl rfl | exact .inr rfl) (po_of (pv_op od_mod (pq_of (pv_callT ca_int (by rfl) mz_int boot_int' (pq_of (pv_op od_add (pq_of (pv_op od_add (pq_of (pv_op od_mul (pq_var 4 (L2.pv 4)) (pq_of pv_int))) (pq_of (pv_op od_mod (pq_of (pv_callT ca_int (by rfl) mz_int boot_int' (pq_var 5 (L2.pv 5)))) (pq_of pv_int))))) (pq_of pv_int))))) (pq_of pv_int))))))
    (zs_one (z_ret (po_lstO (pao_cons (po_rev (pq_of (pv_of (po_lc (own := [("cell", 5)]) rfl sc__law_deal.nd (it_val (pv_var 3 (L2.pv 3))) (blkOk_by (own := [("cell", 5)]) (N := N__law_deal) (sc := defScope s__law_deal) (by decide +kernel)) (fun _ _ _ _ _ => (gt_name sc__law_deal.nd rfl (by first | exact .inl rfl | exact .inr rfl))) (fun _ _ _ _ _ => (pbs_one (pb_cmp od_ge (pq_var 5 (L2.pv 5)) (pq_of (pv_op od_pow (pq_of pv_int) (pq_of pv_int))) (nomark _)))) (fun _ _ _ _ _ => (po_of (pv_var 5 (L2.pv 5)))) (ne_set 5))))) (pao_cons (po_of (pv_var 4 (L2.pv 4))) pao_nil))))))))
abbrev s__law_any : Stmt := topS 30
abbrev N__law_any : List Str := ["deal", "bound", "rest"]
theorem sc__law_any : FnScope N__law_any ["deal", "bound"] (defScope s__law_any) := ⟨rfl, rfl, rfl, by decide +kernel, rfl, by decide +kernel, by decide +kernel⟩
noncomputable def b__law_any : M Fl := (sSeq (sWhile (bAnd (bm (bin dGt (qm (un dLen (qPl 0 [.ix 0]))) (qm (M.ret (.int 0))))) (bm (bin dEq (qm (bin dIxA (qPl 0 [.ix 0]) (qm (un dNeg (qm (M.ret (.int 1))))))) (qm (M.ret (.int 0)))))) (sDrop (oPop 0 [.ix 0])))
  (sSeq (sIf (bm (bin dGt (qm (un dLen (qPl 0 [.ix 0]))) (qm (M.ret (.int 0))))) (sSeq (sSet (om (un dInt (qm (vm (oPop 0 [.ix 0]))))) (gSet 2))
  (sSeq (sDrop (oAppend 0 [.ix 0] (om (bin dFloor (qVar 2) (qVar 1)))))
  (sRet (om (bin dMod (qVar 2) (qVar 1)))))) sNx)
  (sSeq (sPut 0 [] (om (bin dMod (qm (un dInt (qm (bin dAdd (qm (bin dMul (qPl 0 [.ix 1]) (qm (M.ret (.int 48271))))) (qm (M.ret (.int 31))))))) (qm (M.ret (.int 2147483647))))) (M.ret (.int 1)))
  (sRet (om (bin dMod (qm (un dInt (qm (bin dFloor (qPl 0 [.ix 1]) (qm (M.ret (.int 64))))))) (qVar 1)))))))
noncomputable def m__law_any : Fn := dfn 2 3 [0] b__law_any
theorem ok__law_any {P : Program} {w : World} {K : PySem.W.Frag} {mg : Str → Option Value} {base : Heap} (Da : DefAt K mg "_law_any" s__law_any) (mz_int : mg "int" = none) (mz_len : mg "len" = none) : DefOk P w K mg base 1 "_law_any" s__law_any ["deal", "bound"] 2 [0] [] m__law_any :=
  def_pl (k := 0) Da sc__law_any rfl (fun _ _ _ _ _ _ _ us h => match us, h with | [_, _], _ => rfl) (by decide) (by decide) fun _ _ _ _ _ _ _ _ hr =>
   (zs_cons (z_while (passes_of rfl) (pbw (pbw_and (pb_cmp od_gt (pq_of (pv_callB ca_len (by rfl) mz_len boot_len' (pq_pl (pl_ix (n := 0) (pl_var 0 (L2.pv 0)))))) (pq_of pv_int) (nomark _)) (pbw_and1 (pb_cmp (od_eq hr.units) (pq_of (pv_ix (ox_sub (u65 hr)) (pq_pl (pl_ix (n := 0) (pl_var 0 (L2.pv 0)))) (pq_of (pv_un ud_neg (pq_of pv_int))))) (pq_of pv_int) (nomark _))))) (zs_one (z_expr (po_pop (pl_ix (n := 0) (pl_var 0 (L2.pv 0)))))))
    (zs_cons (z_if (pb_cmp od_gt (pq_of (pv_callB ca_len (by rfl) mz_len boot_len' (pq_pl (pl_ix (n := 0) (pl_var 0 (L2.pv 0)))))) (pq_of pv_int) (nomark _)) (zs_cons (z_set sc__law_any.nd rfl (by first | exact .inl rfl | exact .inr rfl) (po_of (pv_callT ca_int (by rfl) mz_int boot_int' (pq_of (pv_of (po_pop (pl_ix (n := 0) (pl_var 0 (L2.pv 0)))))))))
    (zs_cons (z_expr (po_append (pl_ix (n := 0) (pl_var 0 (L2.pv 0))) (po_of (pv_op od_floor (pq_var 2 (L2.pv 2)) (pq_var 1 (L2.pv 1))))))
    (zs_one (z_ret (po_of (pv_op od_mod (pq_var 2 (L2.pv 2)) (pq_var 1 (L2.pv 1)))))))) zs_nil)
    (zs_cons (z_put (pl_var 0 (L2.pv 0)) (po_of (pv_op od_mod (pq_of (pv_callT ca_int (by rfl) mz_int boot_int' (pq_of (pv_op od_add (pq_of (pv_op od_mul (pq_pl (pl_ix (n := 1) (pl_var 0 (L2.pv 0)))) (pq_of pv_int))) (pq_of pv_int))))) (pq_of pv_int))) pv_int)
    (zs_one (z_ret (po_of (pv_op od_mod (pq_of (pv_callT ca_int (by rfl) mz_int boot_int' (pq_of (pv_op od_floor (pq_pl (pl_ix (n := 1) (pl_var 0 (L2.pv 0)))) (pq_of pv_int))))) (pq_var 1 (L2.pv 1)))))))))
abbrev s__law_of : Stmt := topS 31
abbrev N__law_of : List Str := ["deal", "some"]
theorem sc__law_of : FnScope N__law_of ["deal", "some"] (defScope s__law_of) := ⟨rfl, rfl, rfl, by decide +kernel, rfl, by decide +kernel, by decide +kernel⟩
noncomputable def b__law_of : M Fl := (sRet (om (bin dIxA (qVar 1) (qm (vm (oCall m__law_any [some 0, none] (gP 0 (gV (un dLen (qVar 1)) gNl))))))))
noncomputable def m__law_of : Fn := dfn 2 2 [0] b__law_of
theorem ok__law_of {P : Program} {w : World} {K : PySem.W.Frag} {mg : Str → Option Value} {base : Heap} (Da : DefAt K mg "_law_of" s__law_of) (d__law_any : DefOk P w K mg base 1 "_law_any" s__law_any ["deal", "bound"] 2 [0] [] m__law_any) (mz_len : mg "len" = none) : DefOk P w K mg base 2 "_law_of" s__law_of ["deal", "some"] 2 [0] [] m__law_of :=
  def_pl (k := 1) Da sc__law_of rfl (fun _ _ _ _ _ _ _ us h => match us, h with | [_, _], _ => rfl) (by decide) (by decide) fun _ _ _ _ _ _ _ _ hr =>
   (zs_one (z_ret (po_of (pv_ix (ox_sub (u65 hr)) (pq_var 1 (L2.pv 1)) (pq_of (pv_of (po_callD (io := [0]) (sh := [some 0, none]) d__law_any (hr.mono (by decide)) (by rfl) (takes_of rfl rfl rfl rfl) (pag_p 0 (L2.pv 0) (pag_v (pv_callB ca_len (by rfl) mz_len boot_len' (pq_var 1 (L2.pv 1))) pag_nil)))))))))
abbrev s__law_mixed : Stmt := topS 32
abbrev N__law_mixed : List Str := ["deal", "some", "left", "found", "turn"]
theorem sc__law_mixed : FnScope N__law_mixed ["deal", "some"] (defScope s__law_mixed) := ⟨rfl, rfl, rfl, by decide +kernel, rfl, by decide +kernel, by decide +kernel⟩
noncomputable def b__law_mixed : M Fl := (sSeq (sParO 2 3 (oCons (oNew dListA (qVar 1)) (oCons (oLst aNil) oNil)))
  (sSeq (sFor (iR1 (aCons (un dLen (qVar 1)) aNil)) (gSet 4) (sDrop (oAppend 3 [] (oPopAt 2 [] (vm (oCall m__law_any [some 0, none] (gP 0 (gV (un dLen (qVar 2)) gNl))))))))
  (sRet (oMove 3))))
noncomputable def m__law_mixed : Fn := dfn 2 5 [0] b__law_mixed
theorem ok__law_mixed {P : Program} {w : World} {K : PySem.W.Frag} {mg : Str → Option Value} {base : Heap} (Da : DefAt K mg "_law_mixed" s__law_mixed) (d__law_any : DefOk P w K mg base 1 "_law_any" s__law_any ["deal", "bound"] 2 [0] [] m__law_any) (mz_len : mg "len" = none) (mz_list : mg "list" = none) (mz_range : mg "range" = none) : DefOk P w K mg base 2 "_law_mixed" s__law_mixed ["deal", "some"] 2 [0] [] m__law_mixed :=
  def_pl (k := 1) Da sc__law_mixed rfl (fun _ _ _ _ _ _ _ us h => match us, h with | [_, _], _ => rfl) (by decide) (by decide) fun _ _ _ _ _ _ _ _ hr =>
   (zs_cons (z_parO rfl sc__law_mixed.nd rfl rfl (by decide) rfl rfl (pao_cons (po_listA rfl (by rfl) mz_list (pq_var 1 (L2.pv 1))) (pao_cons (po_lst pas_nil) pao_nil)) rfl)
    (zs_cons (z_for (passes_of rfl) rfl (it_range1 (by rfl) mz_range (pas_cons (pv_callB ca_len (by rfl) mz_len boot_len' (pq_var 1 (L2.pv 1))) pas_nil)) (gt_name sc__law_mixed.nd rfl (by first | exact .inl rfl | exact .inr rfl)) (zs_one (z_expr (po_append (pl_var 3 (L2.pv 3)) (po_popAt (pl_var 2 (L2.pv 2)) (pv_of (po_callD (io := [0]) (sh := [some 0, none]) d__law_any (hr.mono (by decide)) (by rfl) (takes_of rfl rfl rfl rfl) (pag_p 0 (L2.pv 0) (pag_v (pv_callB ca_len (by rfl) mz_len boot_len' (pq_var 2 (L2.pv 2))) pag_nil)))))))))
    (zs_one (z_ret (po_move 3 (L2.pv 3))))))
abbrev s__law_is_kind : Stmt := topS 33
abbrev N__law_is_kind : List Str := ["told", "due"]
theorem sc__law_is_kind : FnScope N__law_is_kind ["told", "due"] (defScope s__law_is_kind) := ⟨rfl, rfl, rfl, by decide +kernel, rfl, by decide +kernel, by decide +kernel⟩
noncomputable def b__law_is_kind : M Fl := (sSeq (sIf (bm (bin dIs (qVar 1) (qm (M.ret .non)))) (sRet (om (bin dIs (qVar 0) (qm (M.ret .non))))) sNx)
  (sSeq (sIf (bOr (bm (bin dIs (qVar 1) (qm (M.ret (.bl true))))) (bm (bin dIs (qVar 1) (qm (M.ret (.bl false)))))) (sRet (mIf (bTru (qVar 1)) (om (bin dIs (qVar 0) (qm (M.ret (.bl true))))) (om (bin dIs (qVar 0) (qm (M.ret (.bl false))))))) sNx)
  (sSeq (sIf (bTru (qm (vCall2 dIsi (aCons (vVar 1) (aCons (M.ret (.ty "str")) aNil))))) (sRet (om (vAnd (vCall2 dIsi (aCons (vVar 0) (aCons (M.ret (.ty "str")) aNil))) (bin dEq (qVar 0) (qVar 1))))) sNx)
  (sRet (om (vAnd (vCall2 dIsi (aCons (vVar 0) (aCons (M.ret (.ty "int")) aNil))) (vAnd (vNot (vCall2 dIsi (aCons (vVar 0) (aCons (M.ret (.ty "bool")) aNil)))) (bin dEq (qVar 0) (qVar 1)))))))))
noncomputable def m__law_is_kind : Fn := dfn 2 2 [] b__law_is_kind
theorem ok__law_is_kind {P : Program} {w : World} {K : PySem.W.Frag} {mg : Str → Option Value} {base : Heap} (Da : DefAt K mg "_law_is_kind" s__law_is_kind) (mz_bool : mg "bool" = none) (mz_int : mg "int" = none) (mz_isinstance : mg "isinstance" = none) (mz_str : mg "str" = none) : DefOk P w K mg base 1 "_law_is_kind" s__law_is_kind ["told", "due"] 2 [] [] m__law_is_kind :=
  def_pl (k := 0) Da sc__law_is_kind rfl (fun _ _ _ _ _ _ _ us h => match us, h with | [_, _], _ => rfl) (by decide) (by decide) fun _ _ _ _ _ _ _ _ hr =>
   (zs_cons (z_if (pb_cmp od_is (pq_var 1 (L2.pv 1)) (pq_of pv_non) (nomark _)) (zs_one (z_ret (po_of (pv_cmp od_is (pq_var 0 (L2.pv 0)) (pq_of pv_non) (nomark _))))) zs_nil)
    (zs_cons (z_if (pbw (pbw_or (pb_cmp od_is (pq_var 1 (L2.pv 1)) (pq_of pv_bl) (nomark _)) (pbw_or1 (pb_cmp od_is (pq_var 1 (L2.pv 1)) (pq_of pv_bl) (nomark _))))) (zs_one (z_ret (po_if (pb_tru (pq_var 1 (L2.pv 1))) (po_of (pv_cmp od_is (pq_var 0 (L2.pv 0)) (pq_of pv_bl) (nomark _))) (po_of (pv_cmp od_is (pq_var 0 (L2.pv 0)) (pq_of pv_bl) (nomark _)))))) zs_nil)
    (zs_cons (z_if (pb_tru (pq_of (pv_isi (by rfl) mz_isinstance (pas_cons (pv_var 1 (L2.pv 1)) (pas_cons (pv_ty (by rfl) mz_str boot_str') pas_nil))))) (zs_one (z_ret (po_of (pv_and (pv_isi (by rfl) mz_isinstance (pas_cons (pv_var 0 (L2.pv 0)) (pas_cons (pv_ty (by rfl) mz_str boot_str') pas_nil))) (pv_one (pv_cmp (od_eq hr.units) (pq_var 0 (L2.pv 0)) (pq_var 1 (L2.pv 1)) (nomark _))))))) zs_nil)
    (zs_one (z_ret (po_of (pv_and (pv_isi (by rfl) mz_isinstance (pas_cons (pv_var 0 (L2.pv 0)) (pas_cons (pv_ty (by rfl) mz_int boot_int') pas_nil))) (pv_and (pv_not (pv_isi (by rfl) mz_isinstance (pas_cons (pv_var 0 (L2.pv 0)) (pas_cons (pv_ty (by rfl) mz_bool boot_bool') pas_nil)))) (pv_one (pv_cmp (od_eq hr.units) (pq_var 0 (L2.pv 0)) (pq_var 1 (L2.pv 1)) (nomark _)))))))))))
abbrev s__law_same : Stmt := topS 34
abbrev N__law_same : List Str := ["told", "due", "todo", "one", "other"]
theorem sc__law_same : FnScope N__law_same ["told", "due"] (defScope s__law_same) := ⟨rfl, rfl, rfl, by decide +kernel, rfl, by decide +kernel, by decide +kernel⟩
noncomputable def b__law_same : M Fl := (sSeq (sSet (oLst (aCons (vTup (aCons (vVar 0) (aCons (vVar 1) aNil))) aNil)) (gSet 2))
  (sSeq (sWhile (bm (bin dGt (qm (un dLen (qVar 2))) (qm (M.ret (.int 0))))) (sSeq (sSet (oPop 2 []) (gTup 2 (gtCons (gSet 3) (gtCons (gSet 4) gtNil))))
  (sIf (bTru (qm (vCall2 dIsi (aCons (vVar 4) (aCons (M.ret (.ty "tuple")) aNil))))) (sSeq (sIf (bOr (bNot (bTru (qm (vCall2 dIsi (aCons (vVar 3) (aCons (M.ret (.ty "tuple")) aNil)))))) (bm (bin dNe (qm (un dLen (qVar 3))) (qm (un dLen (qVar 4)))))) (sRet (om (M.ret (.bl false)))) sNx)
  (sSet (oAdd (qVar 2) (qm (vm (oLstZip (aCons (vVar 3) (aCons (vVar 4) aNil)))))) (gSet 2))) (sIf (bOr (bTru (qm (vCall2 dIsi (aCons (vVar 3) (aCons (vTup (aCons (M.ret (.ty "tuple")) (aCons (M.ret (.ty "list")) aNil))) aNil))))) (bNot (bTru (qm (vm (oCall m__law_is_kind [none, none] (gV (vVar 3) (gV (vVar 4) gNl)))))))) (sRet (om (M.ret (.bl false)))) sNx))))
  (sRet (om (M.ret (.bl true))))))
noncomputable def m__law_same : Fn := dfn 2 5 [] b__law_same
theorem ok__law_same {P : Program} {w : World} {K : PySem.W.Frag} {mg : Str → Option Value} {base : Heap} (Da : DefAt K mg "_law_same" s__law_same) (d__law_is_kind : DefOk P w K mg base 1 "_law_is_kind" s__law_is_kind ["told", "due"] 2 [] [] m__law_is_kind) (mz_isinstance : mg "isinstance" = none) (mz_len : mg "len" = none) (mz_list : mg "list" = none) (mz_tuple : mg "tuple" = none) (mz_zip : mg "zip" = none) : DefOk P w K mg base 2 "_law_same" s__law_same ["told", "due"] 2 [] [] m__law_same :=
  def_pl (k := 1) Da sc__law_same rfl (fun _ _ _ _ _ _ _ us h => match us, h with | [_, _], _ => rfl) (by decide) (by decide) fun _ _ _ _ _ _ _ _ hr =>
   (zs_cons (z_set sc__law_same.nd rfl (by first | exact .inl rfl | exact .inr rfl) (po_lst (pas_cons (pv_tup (pas_cons (pv_var 0 (L2.pv 0)) (pas_cons (pv_var 1 (L2.pv 1)) pas_nil))) pas_nil)))
    (zs_cons (z_while (passes_of rfl) (pb_cmp od_gt (pq_of (pv_callB ca_len (by rfl) mz_len boot_len' (pq_var 2 (L2.pv 2)))) (pq_of pv_int) (nomark _)) (zs_cons (z_asg (po_pop (pl_var 2 (L2.pv 2))) (gt_tup rfl (gts_cons (gt_name sc__law_same.nd rfl (by first | exact .inl rfl | exact .inr rfl)) (gts_cons (gt_name sc__law_same.nd rfl (by first | exact .inl rfl | exact .inr rfl)) gts_nil))))
    (zs_one (z_if (pb_tru (pq_of (pv_isi (by rfl) mz_isinstance (pas_cons (pv_var 4 (L2.pv 4)) (pas_cons (pv_ty (by rfl) mz_tuple boot_tuple') pas_nil))))) (zs_cons (z_if (pbw (pbw_or (pb_not (pb_tru (pq_of (pv_isi (by rfl) mz_isinstance (pas_cons (pv_var 3 (L2.pv 3)) (pas_cons (pv_ty (by rfl) mz_tuple boot_tuple') pas_nil)))))) (pbw_or1 (pb_cmp (od_ne hr.units) (pq_of (pv_callB ca_len (by rfl) mz_len boot_len' (pq_var 3 (L2.pv 3)))) (pq_of (pv_callB ca_len (by rfl) mz_len boot_len' (pq_var 4 (L2.pv 4)))) (nomark _))))) (zs_one (z_ret (po_of pv_bl))) zs_nil)
    (zs_one (z_set sc__law_same.nd rfl (by first | exact .inl rfl | exact .inr rfl) (po_add (pq_var 2 (L2.pv 2)) (pq_of (pv_of (po_lstZip rfl (by rfl) mz_list (by rfl) mz_zip (pas_cons (pv_var 3 (L2.pv 3)) (pas_cons (pv_var 4 (L2.pv 4)) pas_nil))))))))) (zs_one (z_if (pbw (pbw_or (pb_tru (pq_of (pv_isi (by rfl) mz_isinstance (pas_cons (pv_var 3 (L2.pv 3)) (pas_cons (pv_tup (pas_cons (pv_ty (by rfl) mz_tuple boot_tuple') (pas_cons (pv_ty (by rfl) mz_list boot_list') pas_nil))) pas_nil))))) (pbw_or1 (pb_not (pb_tru (pq_of (pv_of (po_callD (io := []) (sh := [none, none]) d__law_is_kind (hr.mono (by decide)) (by rfl) (takes_of rfl rfl rfl rfl) (pag_v (pv_var 3 (L2.pv 3)) (pag_v (pv_var 4 (L2.pv 4)) pag_nil)))))))))) (zs_one (z_ret (po_of pv_bl))) zs_nil))))))
    (zs_one (z_ret (po_of pv_bl)))))
abbrev s__law_all : Stmt := topS 35
abbrev N__law_all : List Str := ["pairs", "told", "due"]
theorem sc__law_all : FnScope N__law_all ["pairs"] (defScope s__law_all) := ⟨rfl, rfl, rfl, by decide +kernel, rfl, by decide +kernel, by decide +kernel⟩
noncomputable def b__law_all : M Fl := (sRet (om (bin dEq (qm (un dLen (qm (vm (oLc [1, 2] (iVal (vVar 0)) (gTup 2 (gtCons (gSet 1) (gtCons (gSet 2) gtNil))) (bNot (bTru (qm (vm (oCall m__law_same [none, none] (gV (vVar 1) (gV (vVar 2) gNl))))))) (om (vVar 1))))))) (qm (M.ret (.int 0))))))
noncomputable def m__law_all : Fn := dfn 1 3 [] b__law_all
theorem ok__law_all {P : Program} {w : World} {K : PySem.W.Frag} {mg : Str → Option Value} {base : Heap} (Da : DefAt K mg "_law_all" s__law_all) (d__law_same : DefOk P w K mg base 2 "_law_same" s__law_same ["told", "due"] 2 [] [] m__law_same) (mz_len : mg "len" = none) : DefOk P w K mg base 3 "_law_all" s__law_all ["pairs"] 1 [] [] m__law_all :=
  def_pl (k := 2) Da sc__law_all rfl (fun _ _ _ _ _ _ _ us h => match us, h with | [_], _ => rfl) (by decide) (by decide) fun _ _ _ _ _ _ _ _ hr =>
   (zs_one (z_ret (po_of (pv_cmp (od_eq hr.units) (pq_of (pv_callB ca_len (by rfl) mz_len boot_len' (pq_of (pv_of (po_lc (own := [("told", 1), ("due", 2)]) rfl sc__law_all.nd (it_val (pv_var 0 (L2.pv 0))) (blkOk_by (own := [("told", 1), ("due", 2)]) (N := N__law_all) (sc := defScope s__law_all) (by decide +kernel)) (fun _ _ _ _ _ => (gt_tup rfl (gts_cons (gt_name sc__law_all.nd rfl (by first | exact .inl rfl | exact .inr rfl)) (gts_cons (gt_name sc__law_all.nd rfl (by first | exact .inl rfl | exact .inr rfl)) gts_nil)))) (fun _ _ _ _ _ => (pbs_one (pb_not (pb_tru (pq_of (pv_of (po_callD (io := []) (sh := [none, none]) d__law_same (hr.mono (by decide)) (by rfl) L2.takes0 (pag_v (pv_var 1 (L2.pv 1)) (pag_v (pv_var 2 (L2.pv 2)) pag_nil))))))))) (fun _ _ _ _ _ => (po_of (pv_var 1 (L2.pv 1)))) (ne_tup (nes_cons (ne_set 1) (nes_cons (ne_set 2) nes_nil)))))))) (pq_of pv_int) (nomark _)))))
abbrev s__law_two : Stmt := topS 37
abbrev N__law_two : List Str := ["many", "found", "turn"]
theorem sc__law_two : FnScope N__law_two ["many"] (defScope s__law_two) := ⟨rfl, rfl, rfl, by decide +kernel, rfl, by decide +kernel, by decide +kernel⟩
noncomputable def b__law_two : M Fl := (sSeq (sSet (om (M.ret (.int 1))) (gSet 1))
  (sSeq (sFor (iR1 (aCons (vVar 0) aNil)) (gSet 2) (sSet (om (bin dMul (qm (M.ret (.int 2))) (qVar 1))) (gSet 1)))
  (sRet (om (vVar 1)))))
noncomputable def m__law_two : Fn := dfn 1 3 [] b__law_two
theorem ok__law_two {P : Program} {w : World} {K : PySem.W.Frag} {mg : Str → Option Value} {base : Heap} (Da : DefAt K mg "_law_two" s__law_two) (mz_range : mg "range" = none) : DefOk P w K mg base 1 "_law_two" s__law_two ["many"] 1 [] [] m__law_two :=
  def_pl (k := 0) Da sc__law_two rfl (fun _ _ _ _ _ _ _ us h => match us, h with | [_], _ => rfl) (by decide) (by decide) fun _ _ _ _ _ _ _ _ hr =>
   (zs_cons (z_set sc__law_two.nd rfl (by first | exact .inl rfl | exact .inr rfl) (po_of pv_int))
    (zs_cons (z_for (passes_of rfl) rfl (it_range1 (by rfl) mz_range (pas_cons (pv_var 0 (L2.pv 0)) pas_nil)) (gt_name sc__law_two.nd rfl (by first | exact .inl rfl | exact .inr rfl)) (zs_one (z_set sc__law_two.nd rfl (by first | exact .inl rfl | exact .inr rfl) (po_of (pv_op od_mul (pq_of pv_int) (pq_var 1 (L2.pv 1)))))))
    (zs_one (z_ret (po_of (pv_var 1 (L2.pv 1)))))))
abbrev s__law_bits : Stmt := topS 36
abbrev N__law_bits : List Str := ["mask", "thing"]
theorem sc__law_bits : FnScope N__law_bits ["mask"] (defScope s__law_bits) := ⟨rfl, rfl, rfl, by decide +kernel, rfl, by decide +kernel, by decide +kernel⟩
noncomputable def b__law_bits : M Fl := (sRet (om (un dTuple (qm (vm (oLc [1] (iR1 (aCons (M.ret (.int 12)) aNil)) (gSet 1) (bm (bin dEq (qm (bin dMod (qm (un dInt (qm (bin dFloor (qVar 0) (qm (vm (oCall m__law_two [none] (gV (vVar 1) gNl)))))))) (qm (M.ret (.int 2))))) (qm (M.ret (.int 1))))) (om (vVar 1))))))))
noncomputable def m__law_bits : Fn := dfn 1 2 [] b__law_bits
theorem ok__law_bits {P : Program} {w : World} {K : PySem.W.Frag} {mg : Str → Option Value} {base : Heap} (Da : DefAt K mg "_law_bits" s__law_bits) (d__law_two : DefOk P w K mg base 1 "_law_two" s__law_two ["many"] 1 [] [] m__law_two) (mz_int : mg "int" = none) (mz_range : mg "range" = none) (mz_tuple : mg "tuple" = none) : DefOk P w K mg base 2 "_law_bits" s__law_bits ["mask"] 1 [] [] m__law_bits :=
  def_pl (k := 1) Da sc__law_bits rfl (fun _ _ _ _ _ _ _ us h => match us, h with | [_], _ => rfl) (by decide) (by decide) fun _ _ _ _ _ _ _ _ hr =>
   (zs_one (z_ret (po_of (pv_callT ca_tuple (by rfl) mz_tuple boot_tuple' (pq_of (pv_of (po_lc (own := [("thing", 1)]) rfl sc__law_bits.nd (it_range1 (by rfl) mz_range (pas_cons pv_int pas_nil)) (blkOk_by (own := [("thing", 1)]) (N := N__law_bits) (sc := defScope s__law_bits) (by decide +kernel)) (fun _ _ _ _ _ => (gt_name sc__law_bits.nd rfl (by first | exact .inl rfl | exact .inr rfl))) (fun _ _ _ _ _ => (pbs_one (pb_cmp (od_eq hr.units) (pq_of (pv_op od_mod (pq_of (pv_callT ca_int (by rfl) mz_int boot_int' (pq_of (pv_op od_floor (pq_var 0 (L2.pv 0)) (pq_of (pv_of (po_callD (io := []) (sh := [none]) d__law_two (hr.mono (by decide)) (by rfl) L2.takes0 (pag_v (pv_var 1 (L2.pv 1)) pag_nil)))))))) (pq_of pv_int))) (pq_of pv_int) (nomark _)))) (fun _ _ _ _ _ => (po_of (pv_var 1 (L2.pv 1)))) (ne_set 1))))))))
abbrev s__law_holds : Stmt := topS 38
abbrev N__law_holds : List Str := ["mask", "lot", "thing"]
theorem sc__law_holds : FnScope N__law_holds ["mask", "lot"] (defScope s__law_holds) := ⟨rfl, rfl, rfl, by decide +kernel, rfl, by decide +kernel, by decide +kernel⟩
noncomputable def b__law_holds : M Fl := (sRet (om (bin dEq (qm (un dLen (qm (vm (oLc [2] (iVal (vVar 1)) (gSet 2) (bm (bin dEq (qm (bin dMod (qm (un dInt (qm (bin dFloor (qVar 0) (qm (vm (oCall m__law_two [none] (gV (vVar 2) gNl)))))))) (qm (M.ret (.int 2))))) (qm (M.ret (.int 0))))) (om (vVar 2))))))) (qm (M.ret (.int 0))))))
noncomputable def m__law_holds : Fn := dfn 2 3 [] b__law_holds
theorem ok__law_holds {P : Program} {w : World} {K : PySem.W.Frag} {mg : Str → Option Value} {base : Heap} (Da : DefAt K mg "_law_holds" s__law_holds) (d__law_two : DefOk P w K mg base 1 "_law_two" s__law_two ["many"] 1 [] [] m__law_two) (mz_int : mg "int" = none) (mz_len : mg "len" = none) : DefOk P w K mg base 2 "_law_holds" s__law_holds ["mask", "lot"] 2 [] [] m__law_holds :=
  def_pl (k := 1) Da sc__law_holds rfl (fun _ _ _ _ _ _ _ us h => match us, h with | [_, _], _ => rfl) (by decide) (by decide) fun _ _ _ _ _ _ _ _ hr =>
   (zs_one (z_ret (po_of (pv_cmp (od_eq hr.units) (pq_of (pv_callB ca_len (by rfl) mz_len boot_len' (pq_of (pv_of (po_lc (own := [("thing", 2)]) rfl sc__law_holds.nd (it_val (pv_var 1 (L2.pv 1))) (blkOk_by (own := [("thing", 2)]) (N := N__law_holds) (sc := defScope s__law_holds) (by decide +kernel)) (fun _ _ _ _ _ => (gt_name sc__law_holds.nd rfl (by first | exact .inl rfl | exact .inr rfl))) (fun _ _ _ _ _ => (pbs_one (pb_cmp (od_eq hr.units) (pq_of (pv_op od_mod (pq_of (pv_callT ca_int (by rfl) mz_int boot_int' (pq_of (pv_op od_floor (pq_var 0 (L2.pv 0)) (pq_of (pv_of (po_callD (io := []) (sh := [none]) d__law_two (hr.mono (by decide)) (by rfl) L2.takes0 (pag_v (pv_var 2 (L2.pv 2)) pag_nil)))))))) (pq_of pv_int))) (pq_of pv_int) (nomark _)))) (fun _ _ _ _ _ => (po_of (pv_var 2 (L2.pv 2)))) (ne_set 2)))))) (pq_of pv_int) (nomark _)))))
abbrev s__law_many : Stmt := topS 39
abbrev N__law_many : List Str := ["frame"]
theorem sc__law_many : FnScope N__law_many ["frame"] (defScope s__law_many) := ⟨rfl, rfl, rfl, by decide +kernel, rfl, by decide +kernel, by decide +kernel⟩
noncomputable def b__law_many : M Fl := (sRet (om (un dLen (qm (bin dIxA (qVar 0) (qm (M.ret (.str "weights"))))))))
noncomputable def m__law_many : Fn := dfn 1 1 [] b__law_many
theorem ok__law_many {P : Program} {w : World} {K : PySem.W.Frag} {mg : Str → Option Value} {base : Heap} (Da : DefAt K mg "_law_many" s__law_many) (mz_len : mg "len" = none) : DefOk P w K mg base 1 "_law_many" s__law_many ["frame"] 1 [] [] m__law_many :=
  def_pl (k := 0) Da sc__law_many rfl (fun _ _ _ _ _ _ _ us h => match us, h with | [_], _ => rfl) (by decide) (by decide) fun _ _ _ _ _ _ _ _ hr =>
   (zs_one (z_ret (po_of (pv_callB ca_len (by rfl) mz_len boot_len' (pq_of (pv_ix (ox_sub (u65 hr)) (pq_var 0 (L2.pv 0)) (pq_of pv_str)))))))
abbrev s__law_frame : Stmt := topS 40
abbrev N__law_frame : List Str := ["weights", "lots", "some"]
theorem sc__law_frame : FnScope N__law_frame ["weights", "lots"] (defScope s__law_frame) := ⟨rfl, rfl, rfl, by decide +kernel, rfl, by decide +kernel, by decide +kernel⟩
noncomputable def b__law_frame : M Fl := (sRet (oDisp ["weights", "lots"] (oCons (oNew dListA (qVar 0)) (oCons (oLc [2] (iVal (vVar 1)) (gSet 2) (M.ret true) (oNew dSorted (qVar 2))) oNil))))
noncomputable def m__law_frame : Fn := dfn 2 3 [] b__law_frame
theorem ok__law_frame {P : Program} {w : World} {K : PySem.W.Frag} {mg : Str → Option Value} {base : Heap} (Da : DefAt K mg "_law_frame" s__law_frame) (mz_list : mg "list" = none) (mz_sorted : mg "sorted" = none) : DefOk P w K mg base 1 "_law_frame" s__law_frame ["weights", "lots"] 2 [] [] m__law_frame :=
  def_pl (k := 0) Da sc__law_frame rfl (fun _ _ _ _ _ _ _ us h => match us, h with | [_, _], _ => rfl) (by decide) (by decide) fun _ _ _ _ _ _ _ _ hr =>
   (zs_one (z_ret (po_disp (pds_cons (po_listA rfl (by rfl) mz_list (pq_var 0 (L2.pv 0))) (pds_cons (po_lc (own := [("some", 2)]) rfl sc__law_frame.nd (it_val (pv_var 1 (L2.pv 1))) (blkOk_by (own := [("some", 2)]) (N := N__law_frame) (sc := defScope s__law_frame) (by decide +kernel)) (fun _ _ _ _ _ => (gt_name sc__law_frame.nd rfl (by first | exact .inl rfl | exact .inr rfl))) (fun _ _ _ _ _ => pbs_nil) (fun _ _ _ _ _ => (po_sorted rfl (u65 hr) (by rfl) mz_sorted (pq_var 2 (L2.pv 2)))) (ne_set 2)) pds_nil)))))
abbrev s__law_letters_of : Stmt := topS 41
abbrev N__law_letters_of : List Str := ["frame", "thing"]
theorem sc__law_letters_of : FnScope N__law_letters_of ["frame"] (defScope s__law_letters_of) := ⟨rfl, rfl, rfl, by decide +kernel, rfl, by decide +kernel, by decide +kernel⟩
noncomputable def b__law_letters_of : M Fl := (sRet (oLc [1] (iR1 (aCons (vm (oCall m__law_many [none] (gV (vVar 0) gNl))) aNil)) (gSet 1) (M.ret true) (om (bin dAdd (qm (M.ret (.str "q"))) (qm (bin dIxA (qm (M.ret (.str "abcdefghijkl"))) (qVar 1)))))))
noncomputable def m__law_letters_of : Fn := dfn 1 2 [] b__law_letters_of
theorem ok__law_letters_of {P : Program} {w : World} {K : PySem.W.Frag} {mg : Str → Option Value} {base : Heap} (Da : DefAt K mg "_law_letters_of" s__law_letters_of) (d__law_many : DefOk P w K mg base 1 "_law_many" s__law_many ["frame"] 1 [] [] m__law_many) (mz_range : mg "range" = none) : DefOk P w K mg base 2 "_law_letters_of" s__law_letters_of ["frame"] 1 [] [] m__law_letters_of :=
  def_pl (k := 1) Da sc__law_letters_of rfl (fun _ _ _ _ _ _ _ us h => match us, h with | [_], _ => rfl) (by decide) (by decide) fun _ _ _ _ _ _ _ _ hr =>
   (zs_one (z_ret (po_lc (own := [("thing", 1)]) rfl sc__law_letters_of.nd (it_range1 (by rfl) mz_range (pas_cons (pv_of (po_callD (io := []) (sh := [none]) d__law_many (hr.mono (by decide)) (by rfl) (takes_of rfl rfl rfl rfl) (pag_v (pv_var 0 (L2.pv 0)) pag_nil))) pas_nil)) (blkOk_by (own := [("thing", 1)]) (N := N__law_letters_of) (sc := defScope s__law_letters_of) (by decide +kernel)) (fun _ _ _ _ _ => (gt_name sc__law_letters_of.nd rfl (by first | exact .inl rfl | exact .inr rfl))) (fun _ _ _ _ _ => pbs_nil) (fun _ _ _ _ _ => (po_of (pv_op od_add (pq_of pv_str) (pq_of (pv_ix (ox_sub (u65 hr)) (pq_of pv_str) (pq_var 1 (L2.pv 1))))))) (ne_set 1))))
abbrev s__law_web : Stmt := topS 42
abbrev N__law_web : List Str := ["frame", "some"]
theorem sc__law_web : FnScope N__law_web ["frame"] (defScope s__law_web) := ⟨rfl, rfl, rfl, by decide +kernel, rfl, by decide +kernel, by decide +kernel⟩
noncomputable def b__law_web : M Fl := (sRet (oMake "Web" 4 m_Web____init__ (aCons (un dTuple (qm (vm (oCall m__law_letters_of [none] (gV (vVar 0) gNl))))) (aCons (un dTuple (qm (bin dIxA (qVar 0) (qm (M.ret (.str "weights")))))) (aCons (un dTuple (qm (vm (oLc [1] (iVal (bin dIxA (qVar 0) (qm (M.ret (.str "lots"))))) (gSet 1) (M.ret true) (om (un dTuple (qVar 1))))))) aNil)))))
noncomputable def m__law_web : Fn := dfn 1 2 [] b__law_web
theorem ok__law_web {P : Program} {w : World} {K : PySem.W.Frag} {mg : Str → Option Value} {base : Heap} (Da : DefAt K mg "_law_web" s__law_web) (d_Web____init__ : InitOk P w K mg base 1 "Web" ["names", "weights", "lots"] ["self", "names", "weights", "lots"] 4 m_Web____init__) (d__law_letters_of : DefOk P w K mg base 2 "_law_letters_of" s__law_letters_of ["frame"] 1 [] [] m__law_letters_of) (mz_tuple : mg "tuple" = none) : DefOk P w K mg base 3 "_law_web" s__law_web ["frame"] 1 [] [] m__law_web :=
  def_pl (k := 2) Da sc__law_web rfl (fun _ _ _ _ _ _ _ us h => match us, h with | [_], _ => rfl) (by decide) (by decide) fun _ _ _ _ _ _ _ _ hr =>
   (zs_one (z_ret (po_make d_Web____init__ (hr.mono (by decide)) (by rfl) (pas_cons (pv_callT ca_tuple (by rfl) mz_tuple boot_tuple' (pq_of (pv_of (po_callD (io := []) (sh := [none]) d__law_letters_of (hr.mono (by decide)) (by rfl) (takes_of rfl rfl rfl rfl) (pag_v (pv_var 0 (L2.pv 0)) pag_nil))))) (pas_cons (pv_callT ca_tuple (by rfl) mz_tuple boot_tuple' (pq_of (pv_ix (ox_sub (u65 hr)) (pq_var 0 (L2.pv 0)) (pq_of pv_str)))) (pas_cons (pv_callT ca_tuple (by rfl) mz_tuple boot_tuple' (pq_of (pv_of (po_lc (own := [("some", 1)]) rfl sc__law_web.nd (it_val (pv_ix (ox_sub (u65 hr)) (pq_var 0 (L2.pv 0)) (pq_of pv_str))) (blkOk_by (own := [("some", 1)]) (N := N__law_web) (sc := defScope s__law_web) (by decide +kernel)) (fun _ _ _ _ _ => (gt_name sc__law_web.nd rfl (by first | exact .inl rfl | exact .inr rfl))) (fun _ _ _ _ _ => pbs_nil) (fun _ _ _ _ _ => (po_of (pv_callT ca_tuple (by rfl) mz_tuple boot_tuple' (pq_var 1 (L2.pv 1))))) (ne_set 1))))) pas_nil))))))
abbrev s__law_drawn_lots : Stmt := topS 43
abbrev N__law_drawn_lots : List Str := ["deal", "thing", "found", "turn", "lot", "inside", "other", "one"]
theorem sc__law_drawn_lots : FnScope N__law_drawn_lots ["deal", "thing"] (defScope s__law_drawn_lots) := ⟨rfl, rfl, rfl, by decide +kernel, rfl, by decide +kernel, by decide +kernel⟩
noncomputable def b__law_drawn_lots : M Fl := (sSeq (sIf (bOr (bm (bin dEq (qVar 1) (qm (M.ret (.int 0))))) (bm (bin dEq (qm (vm (oCall m__law_any [some 0, none] (gP 0 (gV (M.ret (.int 4)) gNl))))) (qm (M.ret (.int 0)))))) (sRet (oLst (aCons (vTup aNil) aNil))) sNx)
  (sSeq (sSet (om (vm (oLst aNil))) (gSet 2))
  (sSeq (sFor (iR1 (aCons (bin dAdd (qm (M.ret (.int 1))) (qm (vm (oCall m__law_any [some 0, none] (gP 0 (gV (M.ret (.int 2)) gNl)))))) aNil)) (gSet 3) (sSeq (sSet (om (un dTuple (qm (vm (oNew dSorted (qm (vm (oCutA (qm (vm (oCall m__law_mixed [some 0, none] (gP 0 (gV (vm (oLstRg (vVar 1))) gNl))))) sN (sP (bin dAdd (qm (M.ret (.int 1))) (qm (vm (oCall m__law_any [some 0, none] (gP 0 (gV (M.ret (.int 2)) gNl))))))))))))))) (gSet 4))
  (sSeq (sSet (om (vm (oLc [6] (iVal (vVar 2)) (gSet 6) (bOr (bm (bin dEq (qm (un dLen (qm (vm (oLc [7] (iVal (vVar 6)) (gSet 7) (bm (bin dNotIn2 (qVar 7) (qVar 4))) (om (vVar 7))))))) (qm (M.ret (.int 0))))) (bm (bin dEq (qm (un dLen (qm (vm (oLc [7] (iVal (vVar 4)) (gSet 7) (bm (bin dNotIn2 (qVar 7) (qVar 6))) (om (vVar 7))))))) (qm (M.ret (.int 0)))))) (om (vVar 6))))) (gSet 5))
  (sSet (om (bin dAdd (qVar 2) (qm (mIf (bm (bin dEq (qm (un dLen (qVar 5))) (qm (M.ret (.int 0))))) (vm (oLst (aCons (vVar 4) aNil))) (vm (oLst aNil)))))) (gSet 2)))))
  (sRet (om (vVar 2))))))
noncomputable def m__law_drawn_lots : Fn := dfn 2 8 [0] b__law_drawn_lots
theorem ok__law_drawn_lots {P : Program} {w : World} {K : PySem.W.Frag} {mg : Str → Option Value} {base : Heap} (Da : DefAt K mg "_law_drawn_lots" s__law_drawn_lots) (d__law_any : DefOk P w K mg base 1 "_law_any" s__law_any ["deal", "bound"] 2 [0] [] m__law_any) (d__law_mixed : DefOk P w K mg base 2 "_law_mixed" s__law_mixed ["deal", "some"] 2 [0] [] m__law_mixed) (mz_len : mg "len" = none) (mz_list : mg "list" = none) (mz_range : mg "range" = none) (mz_sorted : mg "sorted" = none) (mz_tuple : mg "tuple" = none) : DefOk P w K mg base 3 "_law_drawn_lots" s__law_drawn_lots ["deal", "thing"] 2 [0] [] m__law_drawn_lots :=
  def_pl (k := 2) Da sc__law_drawn_lots rfl (fun _ _ _ _ _ _ _ us h => match us, h with | [_, _], _ => rfl) (by decide) (by decide) fun _ _ _ _ _ _ _ _ hr =>
   (zs_cons (z_if (pbw (pbw_or (pb_cmp (od_eq hr.units) (pq_var 1 (L2.pv 1)) (pq_of pv_int) (nomark _)) (pbw_or1 (pb_cmp (od_eq hr.units) (pq_of (pv_of (po_callD (io := [0]) (sh := [some 0, none]) d__law_any (hr.mono (by decide)) (by rfl) (takes_of rfl rfl rfl rfl) (pag_p 0 (L2.pv 0) (pag_v pv_int pag_nil))))) (pq_of pv_int) (nomark _))))) (zs_one (z_ret (po_lst (pas_cons (pv_tup pas_nil) pas_nil)))) zs_nil)
    (zs_cons (z_set sc__law_drawn_lots.nd rfl (by first | exact .inl rfl | exact .inr rfl) (po_of (pv_of (po_lst pas_nil))))
    (zs_cons (z_for (passes_of rfl) rfl (it_range1 (by rfl) mz_range (pas_cons (pv_op od_add (pq_of pv_int) (pq_of (pv_of (po_callD (io := [0]) (sh := [some 0, none]) d__law_any (hr.mono (by decide)) (by rfl) (takes_of rfl rfl rfl rfl) (pag_p 0 (L2.pv 0) (pag_v pv_int pag_nil)))))) pas_nil)) (gt_name sc__law_drawn_lots.nd rfl (by first | exact .inl rfl | exact .inr rfl)) (zs_cons (z_set sc__law_drawn_lots.nd rfl (by first | exact .inl rfl | exact .inr rfl) (po_of (pv_callT ca_tuple (by rfl) mz_tuple boot_tuple' (pq_of (pv_of (po_sorted rfl (u65 hr) (by rfl) mz_sorted (pq_of (pv_of (po_cutA (pq_of (pv_of (po_callD (io := [0]) (sh := [some 0, none]) d__law_mixed (hr.mono (by decide)) (by rfl) (takes_of rfl rfl rfl rfl) (pag_p 0 (L2.pv 0) (pag_v (pv_of (po_lstRg rfl (by rfl) mz_list (by rfl) mz_range (pv_var 1 (L2.pv 1)))) pag_nil))))) psl_none (psl_some (pv_op od_add (pq_of pv_int) (pq_of (pv_of (po_callD (io := [0]) (sh := [some 0, none]) d__law_any (hr.mono (by decide)) (by rfl) (takes_of rfl rfl rfl rfl) (pag_p 0 (L2.pv 0) (pag_v pv_int pag_nil))))))))))))))))
    (zs_cons (z_setLcF (own := [("other", 6)]) rfl sc__law_drawn_lots.nd rfl rfl (sw_true rfl rfl rfl (by decide +kernel)) (it_val (pv_var 2 (L2.pv 2))) (blkOk_by (own := [("other", 6)]) (N := N__law_drawn_lots) (sc := defScope s__law_drawn_lots) (by decide +kernel)) (fun _ _ _ _ _ => (gt_name sc__law_drawn_lots.nd rfl (by first | exact .inl rfl | exact .inr rfl))) (fun _ _ _ _ _ => (pbs_one (pbw (pbw_or (pb_cmp (od_eq hr.units) (pq_of (pv_callB ca_len (by rfl) mz_len boot_len' (pq_of (pv_of (po_lc (own := [("one", 7)]) rfl sc__law_drawn_lots.nd (it_val (pv_var 6 (L2.pv 6))) (blkOk_rel (own := [("one", 7)]) (N := N__law_drawn_lots) (by decide +kernel)) (fun _ _ _ _ _ => (gt_name sc__law_drawn_lots.nd rfl (by first | exact .inl rfl | exact .inr rfl))) (fun _ _ _ _ _ => (pbs_one (pb_cmp (od_nin2 (u65 hr)) (pq_var 7 (L2.pv 7)) (pq_var 4 (L2.pv 4)) rfl))) (fun _ _ _ _ _ => (po_of (pv_var 7 (L2.pv 7)))) (ne_set 7)))))) (pq_of pv_int) (nomark _)) (pbw_or1 (pb_cmp (od_eq hr.units) (pq_of (pv_callB ca_len (by rfl) mz_len boot_len' (pq_of (pv_of (po_lc (own := [("one", 7)]) rfl sc__law_drawn_lots.nd (it_val (pv_var 4 (L2.pv 4))) (blkOk_rel (own := [("one", 7)]) (N := N__law_drawn_lots) (by decide +kernel)) (fun _ _ _ _ _ => (gt_name sc__law_drawn_lots.nd rfl (by first | exact .inl rfl | exact .inr rfl))) (fun _ _ _ _ _ => (pbs_one (pb_cmp (od_nin2 (u65 hr)) (pq_var 7 (L2.pv 7)) (pq_var 6 (L2.pv 6)) rfl))) (fun _ _ _ _ _ => (po_of (pv_var 7 (L2.pv 7)))) (ne_set 7)))))) (pq_of pv_int) (nomark _))))))) (fun _ _ _ _ _ => (po_of (pv_var 6 (L2.pv 6)))) (ne_set 6))
    (zs_one (z_set sc__law_drawn_lots.nd rfl (by first | exact .inl rfl | exact .inr rfl) (po_of (pv_op od_add (pq_var 2 (L2.pv 2)) (pq_of (pv_if (pb_cmp (od_eq hr.units) (pq_of (pv_callB ca_len (by rfl) mz_len boot_len' (pq_var 5 (L2.pv 5)))) (pq_of pv_int) (nomark _)) (pv_of (po_lst (pas_cons (pv_var 4 (L2.pv 4)) pas_nil))) (pv_of (po_lst pas_nil)))))))))))
    (zs_one (z_ret (po_of (pv_var 2 (L2.pv 2))))))))
abbrev s__law_drawn_frame : Stmt := topS 44
abbrev N__law_drawn_frame : List Str := ["deal", "limit", "many", "weights", "thing"]
theorem sc__law_drawn_frame : FnScope N__law_drawn_frame ["deal", "limit"] (defScope s__law_drawn_frame) := ⟨rfl, rfl, rfl, by decide +kernel, rfl, by decide +kernel, by decide +kernel⟩
noncomputable def b__law_drawn_frame : M Fl := (sSeq (sSet (om (bin dAdd (qm (M.ret (.int 3))) (qm (vm (oCall m__law_any [some 0, none] (gP 0 (gV (bin dSub (qVar 1) (qm (M.ret (.int 2)))) gNl))))))) (gSet 2))
  (sSeq (sSet (om (vm (oLc [4] (iR1 (aCons (vVar 2) aNil)) (gSet 4) (M.ret true) (oCall m__law_of [some 0, none] (gP 0 (gV (vm (oLst (aCons (M.ret (.int 1)) (aCons (M.ret (.int 1)) (aCons (M.ret (.int 1)) (aCons (M.ret (.int 2)) (aCons (M.ret (.int 3)) (aCons (M.ret (.int 5)) aNil)))))))) gNl)))))) (gSet 3))
  (sRet (oCall m__law_frame [none, none] (gV (mIf (bm (bin dEq (qm (vm (oCall m__law_any [some 0, none] (gP 0 (gV (M.ret (.int 2)) gNl))))) (qm (M.ret (.int 0))))) (vVar 3) (bin dMul (qm (vm (oLst (aCons (M.ret (.int 1)) aNil)))) (qVar 2))) (gV (vm (oLc [4] (iR1 (aCons (vVar 2) aNil)) (gSet 4) (M.ret true) (oCall m__law_drawn_lots [some 0, none] (gP 0 (gV (vVar 4) gNl))))) gNl))))))
noncomputable def m__law_drawn_frame : Fn := dfn 2 5 [0] b__law_drawn_frame
theorem ok__law_drawn_frame {P : Program} {w : World} {K : PySem.W.Frag} {mg : Str → Option Value} {base : Heap} (Da : DefAt K mg "_law_drawn_frame" s__law_drawn_frame) (d__law_any : DefOk P w K mg base 1 "_law_any" s__law_any ["deal", "bound"] 2 [0] [] m__law_any) (d__law_of : DefOk P w K mg base 2 "_law_of" s__law_of ["deal", "some"] 2 [0] [] m__law_of) (d__law_frame : DefOk P w K mg base 1 "_law_frame" s__law_frame ["weights", "lots"] 2 [] [] m__law_frame) (d__law_drawn_lots : DefOk P w K mg base 3 "_law_drawn_lots" s__law_drawn_lots ["deal", "thing"] 2 [0] [] m__law_drawn_lots) (mz_range : mg "range" = none) : DefOk P w K mg base 4 "_law_drawn_frame" s__law_drawn_frame ["deal", "limit"] 2 [0] [] m__law_drawn_frame :=
  def_pl (k := 3) Da sc__law_drawn_frame rfl (fun _ _ _ _ _ _ _ us h => match us, h with | [_, _], _ => rfl) (by decide) (by decide) fun _ _ _ _ _ _ _ _ hr =>
   (zs_cons (z_set sc__law_drawn_frame.nd rfl (by first | exact .inl rfl | exact .inr rfl) (po_of (pv_op od_add (pq_of pv_int) (pq_of (pv_of (po_callD (io := [0]) (sh := [some 0, none]) d__law_any (hr.mono (by decide)) (by rfl) (takes_of rfl rfl rfl rfl) (pag_p 0 (L2.pv 0) (pag_v (pv_op od_sub (pq_var 1 (L2.pv 1)) (pq_of pv_int)) pag_nil))))))))
    (zs_cons (z_setLcF (own := [("thing", 4)]) rfl sc__law_drawn_frame.nd rfl rfl (sw_true rfl rfl rfl (by decide +kernel)) (it_range1 (by rfl) mz_range (pas_cons (pv_var 2 (L2.pv 2)) pas_nil)) (blkOk_by (own := [("thing", 4)]) (N := N__law_drawn_frame) (sc := defScope s__law_drawn_frame) (by decide +kernel)) (fun _ _ _ _ _ => (gt_name sc__law_drawn_frame.nd rfl (by first | exact .inl rfl | exact .inr rfl))) (fun _ _ _ _ _ => pbs_nil) (fun _ _ _ _ _ => (po_callD (io := [0]) (sh := [some 0, none]) d__law_of (hr.mono (by decide)) (by rfl) L2.takes0 (pag_p 0 (L2.pv 0) (pag_v (pv_of (po_lst (pas_cons pv_int (pas_cons pv_int (pas_cons pv_int (pas_cons pv_int (pas_cons pv_int (pas_cons pv_int pas_nil)))))))) pag_nil)))) (ne_set 4))
    (zs_one (z_ret (po_callD (io := []) (sh := [none, none]) d__law_frame (hr.mono (by decide)) (by rfl) (takes_of rfl rfl rfl rfl) (pag_v (pv_if (pb_cmp (od_eq hr.units) (pq_of (pv_of (po_callD (io := [0]) (sh := [some 0, none]) d__law_any (hr.mono (by decide)) (by rfl) (takes_of rfl rfl rfl rfl) (pag_p 0 (L2.pv 0) (pag_v pv_int pag_nil))))) (pq_of pv_int) (nomark _)) (pv_var 3 (L2.pv 3)) (pv_op od_mul (pq_of (pv_of (po_lst (pas_cons pv_int pas_nil)))) (pq_var 2 (L2.pv 2)))) (pag_v (pv_of (po_lc (own := [("thing", 4)]) rfl sc__law_drawn_frame.nd (it_range1 (by rfl) mz_range (pas_cons (pv_var 2 (L2.pv 2)) pas_nil)) (blkOk_by (own := [("thing", 4)]) (N := N__law_drawn_frame) (sc := defScope s__law_drawn_frame) (by decide +kernel)) (fun _ _ _ _ _ => (gt_name sc__law_drawn_frame.nd rfl (by first | exact .inl rfl | exact .inr rfl))) (fun _ _ _ _ _ => pbs_nil) (fun _ _ _ _ _ => (po_callD (io := [0]) (sh := [some 0, none]) d__law_drawn_lots (hr.mono (by decide)) (by rfl) L2.takes0 (pag_p 0 (L2.pv 0) (pag_v (pv_var 4 (L2.pv 4)) pag_nil)))) (ne_set 4))) pag_nil)))))))
abbrev s__law_row_frame : Stmt := topS 45
abbrev N__law_row_frame : List Str := ["weights", "thing"]
theorem sc__law_row_frame : FnScope N__law_row_frame ["weights"] (defScope s__law_row_frame) := ⟨rfl, rfl, rfl, by decide +kernel, rfl, by decide +kernel, by decide +kernel⟩
noncomputable def b__law_row_frame : M Fl := (sRet (oCall m__law_frame [none, none] (gV (vVar 0) (gV (vm (oLc [1] (iR1 (aCons (un dLen (qVar 0)) aNil)) (gSet 1) (M.ret true) (oLst (aCons (mIf (bm (bin dGt (qVar 1) (qm (M.ret (.int 0))))) (vTup (aCons (bin dSub (qVar 1) (qm (M.ret (.int 1)))) aNil)) (vTup aNil)) aNil)))) gNl))))
noncomputable def m__law_row_frame : Fn := dfn 1 2 [] b__law_row_frame
theorem ok__law_row_frame {P : Program} {w : World} {K : PySem.W.Frag} {mg : Str → Option Value} {base : Heap} (Da : DefAt K mg "_law_row_frame" s__law_row_frame) (d__law_frame : DefOk P w K mg base 1 "_law_frame" s__law_frame ["weights", "lots"] 2 [] [] m__law_frame) (mz_len : mg "len" = none) (mz_range : mg "range" = none) : DefOk P w K mg base 2 "_law_row_frame" s__law_row_frame ["weights"] 1 [] [] m__law_row_frame :=
  def_pl (k := 1) Da sc__law_row_frame rfl (fun _ _ _ _ _ _ _ us h => match us, h with | [_], _ => rfl) (by decide) (by decide) fun _ _ _ _ _ _ _ _ hr =>
   (zs_one (z_ret (po_callD (io := []) (sh := [none, none]) d__law_frame (hr.mono (by decide)) (by rfl) (takes_of rfl rfl rfl rfl) (pag_v (pv_var 0 (L2.pv 0)) (pag_v (pv_of (po_lc (own := [("thing", 1)]) rfl sc__law_row_frame.nd (it_range1 (by rfl) mz_range (pas_cons (pv_callB ca_len (by rfl) mz_len boot_len' (pq_var 0 (L2.pv 0))) pas_nil)) (blkOk_by (own := [("thing", 1)]) (N := N__law_row_frame) (sc := defScope s__law_row_frame) (by decide +kernel)) (fun _ _ _ _ _ => (gt_name sc__law_row_frame.nd rfl (by first | exact .inl rfl | exact .inr rfl))) (fun _ _ _ _ _ => pbs_nil) (fun _ _ _ _ _ => (po_lst (pas_cons (pv_if (pb_cmp od_gt (pq_var 1 (L2.pv 1)) (pq_of pv_int) (nomark _)) (pv_tup (pas_cons (pv_op od_sub (pq_var 1 (L2.pv 1)) (pq_of pv_int)) pas_nil)) (pv_tup pas_nil)) pas_nil))) (ne_set 1))) pag_nil)))))
abbrev s__law_some_frame : Stmt := topS 46
abbrev N__law_some_frame : List Str := ["deal", "limit", "thing"]
theorem sc__law_some_frame : FnScope N__law_some_frame ["deal", "limit"] (defScope s__law_some_frame) := ⟨rfl, rfl, rfl, by decide +kernel, rfl, by decide +kernel, by decide +kernel⟩
noncomputable def b__law_some_frame : M Fl := (sSeq (sIf (bm (bin dGt (qm (vm (oCall m__law_any [some 0, none] (gP 0 (gV (M.ret (.int 3)) gNl))))) (qm (M.ret (.int 0))))) (sRet (oCall m__law_drawn_frame [some 0, none] (gP 0 (gV (vVar 1) gNl)))) sNx)
  (sRet (oCall m__law_row_frame [none] (gV (vm (oLc [2] (iR1 (aCons (bin dAdd (qm (M.ret (.int 3))) (qm (vm (oCall m__law_any [some 0, none] (gP 0 (gV (bin dSub (qVar 1) (qm (M.ret (.int 2)))) gNl)))))) aNil)) (gSet 2) (M.ret true) (oCall m__law_of [some 0, none] (gP 0 (gV (vm (oLst (aCons (M.ret (.int 1)) (aCons (M.ret (.int 1)) (aCons (M.ret (.int 2)) aNil))))) gNl))))) gNl))))
noncomputable def m__law_some_frame : Fn := dfn 2 3 [0] b__law_some_frame
theorem ok__law_some_frame {P : Program} {w : World} {K : PySem.W.Frag} {mg : Str → Option Value} {base : Heap} (Da : DefAt K mg "_law_some_frame" s__law_some_frame) (d__law_any : DefOk P w K mg base 1 "_law_any" s__law_any ["deal", "bound"] 2 [0] [] m__law_any) (d__law_drawn_frame : DefOk P w K mg base 4 "_law_drawn_frame" s__law_drawn_frame ["deal", "limit"] 2 [0] [] m__law_drawn_frame) (d__law_row_frame : DefOk P w K mg base 2 "_law_row_frame" s__law_row_frame ["weights"] 1 [] [] m__law_row_frame) (d__law_of : DefOk P w K mg base 2 "_law_of" s__law_of ["deal", "some"] 2 [0] [] m__law_of) (mz_range : mg "range" = none) : DefOk P w K mg base 5 "_law_some_frame" s__law_some_frame ["deal", "limit"] 2 [0] [] m__law_some_frame :=
  def_pl (k := 4) Da sc__law_some_frame rfl (fun _ _ _ _ _ _ _ us h => match us, h with | [_, _], _ => rfl) (by decide) (by decide) fun _ _ _ _ _ _ _ _ hr =>
   (zs_cons (z_if (pb_cmp od_gt (pq_of (pv_of (po_callD (io := [0]) (sh := [some 0, none]) d__law_any (hr.mono (by decide)) (by rfl) (takes_of rfl rfl rfl rfl) (pag_p 0 (L2.pv 0) (pag_v pv_int pag_nil))))) (pq_of pv_int) (nomark _)) (zs_one (z_ret (po_callD (io := [0]) (sh := [some 0, none]) d__law_drawn_frame (hr.mono (by decide)) (by rfl) (takes_of rfl rfl rfl rfl) (pag_p 0 (L2.pv 0) (pag_v (pv_var 1 (L2.pv 1)) pag_nil))))) zs_nil)
    (zs_one (z_ret (po_callD (io := []) (sh := [none]) d__law_row_frame (hr.mono (by decide)) (by rfl) (takes_of rfl rfl rfl rfl) (pag_v (pv_of (po_lc (own := [("thing", 2)]) rfl sc__law_some_frame.nd (it_range1 (by rfl) mz_range (pas_cons (pv_op od_add (pq_of pv_int) (pq_of (pv_of (po_callD (io := [0]) (sh := [some 0, none]) d__law_any (hr.mono (by decide)) (by rfl) (takes_of rfl rfl rfl rfl) (pag_p 0 (L2.pv 0) (pag_v (pv_op od_sub (pq_var 1 (L2.pv 1)) (pq_of pv_int)) pag_nil)))))) pas_nil)) (blkOk_by (own := [("thing", 2)]) (N := N__law_some_frame) (sc := defScope s__law_some_frame) (by decide +kernel)) (fun _ _ _ _ _ => (gt_name sc__law_some_frame.nd rfl (by first | exact .inl rfl | exact .inr rfl))) (fun _ _ _ _ _ => pbs_nil) (fun _ _ _ _ _ => (po_callD (io := [0]) (sh := [some 0, none]) d__law_of (hr.mono (by decide)) (by rfl) L2.takes0 (pag_p 0 (L2.pv 0) (pag_v (pv_of (po_lst (pas_cons pv_int (pas_cons pv_int (pas_cons pv_int pas_nil))))) pag_nil)))) (ne_set 2))) pag_nil)))))
abbrev s__law_some_mask : Stmt := topS 47
abbrev N__law_some_mask : List Str := ["deal", "frame"]
theorem sc__law_some_mask : FnScope N__law_some_mask ["deal", "frame"] (defScope s__law_some_mask) := ⟨rfl, rfl, rfl, by decide +kernel, rfl, by decide +kernel, by decide +kernel⟩
noncomputable def b__law_some_mask : M Fl := (sRet (oCall m__law_any [some 0, none] (gP 0 (gV (vm (oCall m__law_two [none] (gV (vm (oCall m__law_many [none] (gV (vVar 1) gNl))) gNl))) gNl))))
noncomputable def m__law_some_mask : Fn := dfn 2 2 [0] b__law_some_mask
theorem ok__law_some_mask {P : Program} {w : World} {K : PySem.W.Frag} {mg : Str → Option Value} {base : Heap} (Da : DefAt K mg "_law_some_mask" s__law_some_mask) (d__law_any : DefOk P w K mg base 1 "_law_any" s__law_any ["deal", "bound"] 2 [0] [] m__law_any) (d__law_two : DefOk P w K mg base 1 "_law_two" s__law_two ["many"] 1 [] [] m__law_two) (d__law_many : DefOk P w K mg base 1 "_law_many" s__law_many ["frame"] 1 [] [] m__law_many) : DefOk P w K mg base 2 "_law_some_mask" s__law_some_mask ["deal", "frame"] 2 [0] [] m__law_some_mask :=
  def_pl (k := 1) Da sc__law_some_mask rfl (fun _ _ _ _ _ _ _ us h => match us, h with | [_, _], _ => rfl) (by decide) (by decide) fun _ _ _ _ _ _ _ _ hr =>
   (zs_one (z_ret (po_callD (io := [0]) (sh := [some 0, none]) d__law_any (hr.mono (by decide)) (by rfl) (takes_of rfl rfl rfl rfl) (pag_p 0 (L2.pv 0) (pag_v (pv_of (po_callD (io := []) (sh := [none]) d__law_two (hr.mono (by decide)) (by rfl) (takes_of rfl rfl rfl rfl) (pag_v (pv_of (po_callD (io := []) (sh := [none]) d__law_many (hr.mono (by decide)) (by rfl) (takes_of rfl rfl rfl rfl) (pag_v (pv_var 1 (L2.pv 1)) pag_nil))) pag_nil))) pag_nil)))))
abbrev s__law_borne : Stmt := topS 48
abbrev N__law_borne : List Str := ["frame", "mask", "thing", "lot"]
theorem sc__law_borne : FnScope N__law_borne ["frame", "mask", "thing"] (defScope s__law_borne) := ⟨rfl, rfl, rfl, by decide +kernel, rfl, by decide +kernel, by decide +kernel⟩
noncomputable def b__law_borne : M Fl := (sRet (om (bin dGt (qm (un dLen (qm (vm (oLc [3] (iVal (bin dIxA (qm (bin dIxA (qVar 0) (qm (M.ret (.str "lots"))))) (qVar 2))) (gSet 3) (bTru (qm (vm (oCall m__law_holds [none, none] (gV (vVar 1) (gV (vVar 3) gNl)))))) (om (vVar 3))))))) (qm (M.ret (.int 0))))))
noncomputable def m__law_borne : Fn := dfn 3 4 [] b__law_borne
theorem ok__law_borne {P : Program} {w : World} {K : PySem.W.Frag} {mg : Str → Option Value} {base : Heap} (Da : DefAt K mg "_law_borne" s__law_borne) (d__law_holds : DefOk P w K mg base 2 "_law_holds" s__law_holds ["mask", "lot"] 2 [] [] m__law_holds) (mz_len : mg "len" = none) : DefOk P w K mg base 3 "_law_borne" s__law_borne ["frame", "mask", "thing"] 3 [] [] m__law_borne :=
  def_pl (k := 2) Da sc__law_borne rfl (fun _ _ _ _ _ _ _ us h => match us, h with | [_, _, _], _ => rfl) (by decide) (by decide) fun _ _ _ _ _ _ _ _ hr =>
   (zs_one (z_ret (po_of (pv_cmp od_gt (pq_of (pv_callB ca_len (by rfl) mz_len boot_len' (pq_of (pv_of (po_lc (own := [("lot", 3)]) rfl sc__law_borne.nd (it_val (pv_ix (ox_sub (u65 hr)) (pq_of (pv_ix (ox_sub (u65 hr)) (pq_var 0 (L2.pv 0)) (pq_of pv_str))) (pq_var 2 (L2.pv 2)))) (blkOk_by (own := [("lot", 3)]) (N := N__law_borne) (sc := defScope s__law_borne) (by decide +kernel)) (fun _ _ _ _ _ => (gt_name sc__law_borne.nd rfl (by first | exact .inl rfl | exact .inr rfl))) (fun _ _ _ _ _ => (pbs_one (pb_tru (pq_of (pv_of (po_callD (io := []) (sh := [none, none]) d__law_holds (hr.mono (by decide)) (by rfl) L2.takes0 (pag_v (pv_var 1 (L2.pv 1)) (pag_v (pv_var 3 (L2.pv 3)) pag_nil)))))))) (fun _ _ _ _ _ => (po_of (pv_var 3 (L2.pv 3)))) (ne_set 3)))))) (pq_of pv_int) (nomark _)))))
abbrev s__law_flip : Stmt := topS 49
abbrev N__law_flip : List Str := ["mask", "thing", "two"]
theorem sc__law_flip : FnScope N__law_flip ["mask", "thing"] (defScope s__law_flip) := ⟨rfl, rfl, rfl, by decide +kernel, rfl, by decide +kernel, by decide +kernel⟩
noncomputable def b__law_flip : M Fl := (sSeq (sSet (om (vm (oCall m__law_two [none] (gV (vVar 1) gNl)))) (gSet 2))
  (sRet (mIf (bm (bin dEq (qm (bin dMod (qm (un dInt (qm (bin dFloor (qVar 0) (qVar 2))))) (qm (M.ret (.int 2))))) (qm (M.ret (.int 1))))) (om (bin dSub (qVar 0) (qVar 2))) (om (bin dAdd (qVar 0) (qVar 2))))))
noncomputable def m__law_flip : Fn := dfn 2 3 [] b__law_flip
theorem ok__law_flip {P : Program} {w : World} {K : PySem.W.Frag} {mg : Str → Option Value} {base : Heap} (Da : DefAt K mg "_law_flip" s__law_flip) (d__law_two : DefOk P w K mg base 1 "_law_two" s__law_two ["many"] 1 [] [] m__law_two) (mz_int : mg "int" = none) : DefOk P w K mg base 2 "_law_flip" s__law_flip ["mask", "thing"] 2 [] [] m__law_flip :=
  def_pl (k := 1) Da sc__law_flip rfl (fun _ _ _ _ _ _ _ us h => match us, h with | [_, _], _ => rfl) (by decide) (by decide) fun _ _ _ _ _ _ _ _ hr =>
   (zs_cons (z_set sc__law_flip.nd rfl (by first | exact .inl rfl | exact .inr rfl) (po_of (pv_of (po_callD (io := []) (sh := [none]) d__law_two (hr.mono (by decide)) (by rfl) (takes_of rfl rfl rfl rfl) (pag_v (pv_var 1 (L2.pv 1)) pag_nil)))))
    (zs_one (z_ret (po_if (pb_cmp (od_eq hr.units) (pq_of (pv_op od_mod (pq_of (pv_callT ca_int (by rfl) mz_int boot_int' (pq_of (pv_op od_floor (pq_var 0 (L2.pv 0)) (pq_var 2 (L2.pv 2)))))) (pq_of pv_int))) (pq_of pv_int) (nomark _)) (po_of (pv_op od_sub (pq_var 0 (L2.pv 0)) (pq_var 2 (L2.pv 2)))) (po_of (pv_op od_add (pq_var 0 (L2.pv 0)) (pq_var 2 (L2.pv 2))))))))
abbrev s__law_behind_events : Stmt := topS 50
abbrev N__law_behind_events : List Str := ["frame", "mask", "events", "found", "event", "thing", "stands"]
theorem sc__law_behind_events : FnScope N__law_behind_events ["frame", "mask", "events"] (defScope s__law_behind_events) := ⟨rfl, rfl, rfl, by decide +kernel, rfl, by decide +kernel, by decide +kernel⟩
noncomputable def b__law_behind_events : M Fl := (sSeq (sSet (oLst (aCons (vVar 1) aNil)) (gSet 3))
  (sSeq (sFor (iVal (vVar 2)) (gSet 4) (sSeq (sSet (om (mIf (bm (bin dGe (qVar 4) (qm (M.ret (.int 0))))) (vVar 4) (bin dSub (qm (bin dSub (qm (M.ret (.int 0))) (qm (M.ret (.int 1))))) (qVar 4)))) (gSet 5))
  (sSeq (sSet (om (bin dEq (qm (bin dMod (qm (un dInt (qm (bin dFloor (qm (bin dIxA (qVar 3) (qm (un dNeg (qm (M.ret (.int 1))))))) (qm (vm (oCall m__law_two [none] (gV (vVar 5) gNl)))))))) (qm (M.ret (.int 2))))) (qm (M.ret (.int 1))))) (gSet 6))
  (sSeq (sIf (bOr (bAnd (bm (bin dLt (qVar 4) (qm (M.ret (.int 0))))) (bNot (bTru (qVar 6)))) (bAnd (bm (bin dGe (qVar 4) (qm (M.ret (.int 0))))) (bNot (bTru (qm (vm (oCall m__law_borne [none, none, none] (gV (vVar 0) (gV (bin dIxA (qVar 3) (qm (un dNeg (qm (M.ret (.int 1)))))) (gV (vVar 5) gNl)))))))))) (sRet (om (M.ret .non))) sNx)
  (sDrop (oAppend 3 [] (oCall m__law_flip [none, none] (gV (bin dIxA (qVar 3) (qm (un dNeg (qm (M.ret (.int 1)))))) (gV (vVar 5) gNl)))))))))
  (sRet (oMove 3))))
noncomputable def m__law_behind_events : Fn := dfn 3 7 [] b__law_behind_events
theorem ok__law_behind_events {P : Program} {w : World} {K : PySem.W.Frag} {mg : Str → Option Value} {base : Heap} (Da : DefAt K mg "_law_behind_events" s__law_behind_events) (d__law_two : DefOk P w K mg base 1 "_law_two" s__law_two ["many"] 1 [] [] m__law_two) (d__law_borne : DefOk P w K mg base 3 "_law_borne" s__law_borne ["frame", "mask", "thing"] 3 [] [] m__law_borne) (d__law_flip : DefOk P w K mg base 2 "_law_flip" s__law_flip ["mask", "thing"] 2 [] [] m__law_flip) (mz_int : mg "int" = none) : DefOk P w K mg base 4 "_law_behind_events" s__law_behind_events ["frame", "mask", "events"] 3 [] [] m__law_behind_events :=
  def_pl (k := 3) Da sc__law_behind_events rfl (fun _ _ _ _ _ _ _ us h => match us, h with | [_, _, _], _ => rfl) (by decide) (by decide) fun _ _ _ _ _ _ _ _ hr =>
   (zs_cons (z_set sc__law_behind_events.nd rfl (by first | exact .inl rfl | exact .inr rfl) (po_lst (pas_cons (pv_var 1 (L2.pv 1)) pas_nil)))
    (zs_cons (z_for (passes_of rfl) rfl (it_val (pv_var 2 (L2.pv 2))) (gt_name sc__law_behind_events.nd rfl (by first | exact .inl rfl | exact .inr rfl)) (zs_cons (z_set sc__law_behind_events.nd rfl (by first | exact .inl rfl | exact .inr rfl) (po_of (pv_if (pb_cmp od_ge (pq_var 4 (L2.pv 4)) (pq_of pv_int) (nomark _)) (pv_var 4 (L2.pv 4)) (pv_op od_sub (pq_of (pv_op od_sub (pq_of pv_int) (pq_of pv_int))) (pq_var 4 (L2.pv 4))))))
    (zs_cons (z_set sc__law_behind_events.nd rfl (by first | exact .inl rfl | exact .inr rfl) (po_of (pv_cmp (od_eq hr.units) (pq_of (pv_op od_mod (pq_of (pv_callT ca_int (by rfl) mz_int boot_int' (pq_of (pv_op od_floor (pq_of (pv_ix (ox_sub (u65 hr)) (pq_var 3 (L2.pv 3)) (pq_of (pv_un ud_neg (pq_of pv_int))))) (pq_of (pv_of (po_callD (io := []) (sh := [none]) d__law_two (hr.mono (by decide)) (by rfl) (takes_of rfl rfl rfl rfl) (pag_v (pv_var 5 (L2.pv 5)) pag_nil)))))))) (pq_of pv_int))) (pq_of pv_int) (nomark _))))
    (zs_cons (z_if (pbw (pbw_or (pbw (pbw_and (pb_cmp od_lt (pq_var 4 (L2.pv 4)) (pq_of pv_int) (nomark _)) (pbw_and1 (pb_not (pb_tru (pq_var 6 (L2.pv 6))))))) (pbw_or1 (pbw (pbw_and (pb_cmp od_ge (pq_var 4 (L2.pv 4)) (pq_of pv_int) (nomark _)) (pbw_and1 (pb_not (pb_tru (pq_of (pv_of (po_callD (io := []) (sh := [none, none, none]) d__law_borne (hr.mono (by decide)) (by rfl) (takes_of rfl rfl rfl rfl) (pag_v (pv_var 0 (L2.pv 0)) (pag_v (pv_ix (ox_sub (u65 hr)) (pq_var 3 (L2.pv 3)) (pq_of (pv_un ud_neg (pq_of pv_int)))) (pag_v (pv_var 5 (L2.pv 5)) pag_nil)))))))))))))) (zs_one (z_ret (po_of pv_non))) zs_nil)
    (zs_one (z_expr (po_append (pl_var 3 (L2.pv 3)) (po_callD (io := []) (sh := [none, none]) d__law_flip (hr.mono (by decide)) (by rfl) (takes_of rfl rfl rfl rfl) (pag_v (pv_ix (ox_sub (u65 hr)) (pq_var 3 (L2.pv 3)) (pq_of (pv_un ud_neg (pq_of pv_int)))) (pag_v (pv_var 5 (L2.pv 5)) pag_nil))))))))))
    (zs_one (z_ret (po_move 3 (L2.pv 3))))))
abbrev s__law_events : Stmt := topS 51
abbrev N__law_events : List Str := ["deal", "frame", "mask", "many", "found", "turn", "some", "thing"]
theorem sc__law_events : FnScope N__law_events ["deal", "frame", "mask", "many"] (defScope s__law_events) := ⟨rfl, rfl, rfl, by decide +kernel, rfl, by decide +kernel, by decide +kernel⟩
noncomputable def b__law_events : M Fl := (sSeq (sSet (oLst aNil) (gSet 4))
  (sSeq (sFor (iR1 (aCons (vVar 3) aNil)) (gSet 5) (sSeq (sSet (om (vm (oLc [7] (iR1 (aCons (vm (oCall m__law_many [none] (gV (vVar 1) gNl))) aNil)) (gSet 7) (bTru (qm (vm (oCall m__law_borne [none, none, none] (gV (vVar 1) (gV (vVar 2) (gV (vVar 7) gNl))))))) (om (vVar 7))))) (gSet 6))
  (sSeq (sSet (om (bin dAdd (qm (bin dAdd (qVar 6) (qVar 6))) (qm (vm (oLc [7] (iVal (vm (oCall m__law_bits [none] (gV (vVar 2) gNl)))) (gSet 7) (M.ret true) (om (bin dSub (qm (bin dSub (qm (M.ret (.int 0))) (qm (M.ret (.int 1))))) (qVar 7)))))))) (gSet 6))
  (sSeq (sDrop (oAppend 4 [] (oCall m__law_of [some 0, none] (gP 0 (gV (vVar 6) gNl)))))
  (sSet (om (bin dIxA (qm (vm (oCall m__law_behind_events [none, none, none] (gV (vVar 1) (gV (vVar 2) (gV (vm (oCutA (qVar 4) (sP (un dNeg (qm (M.ret (.int 1))))) sN)) gNl)))))) (qm (un dNeg (qm (M.ret (.int 1))))))) (gSet 2))))))
  (sRet (om (un dTuple (qVar 4))))))
noncomputable def m__law_events : Fn := dfn 4 8 [0] b__law_events
theorem ok__law_events {P : Program} {w : World} {K : PySem.W.Frag} {mg : Str → Option Value} {base : Heap} (Da : DefAt K mg "_law_events" s__law_events) (d__law_many : DefOk P w K mg base 1 "_law_many" s__law_many ["frame"] 1 [] [] m__law_many) (d__law_borne : DefOk P w K mg base 3 "_law_borne" s__law_borne ["frame", "mask", "thing"] 3 [] [] m__law_borne) (d__law_bits : DefOk P w K mg base 2 "_law_bits" s__law_bits ["mask"] 1 [] [] m__law_bits) (d__law_of : DefOk P w K mg base 2 "_law_of" s__law_of ["deal", "some"] 2 [0] [] m__law_of) (d__law_behind_events : DefOk P w K mg base 4 "_law_behind_events" s__law_behind_events ["frame", "mask", "events"] 3 [] [] m__law_behind_events) (mz_range : mg "range" = none) (mz_tuple : mg "tuple" = none) : DefOk P w K mg base 5 "_law_events" s__law_events ["deal", "frame", "mask", "many"] 4 [0] [] m__law_events :=
  def_pl (k := 4) Da sc__law_events rfl (fun _ _ _ _ _ _ _ us h => match us, h with | [_, _, _, _], _ => rfl) (by decide) (by decide) fun _ _ _ _ _ _ _ _ hr =>
   (zs_cons (z_set sc__law_events.nd rfl (by first | exact .inl rfl | exact .inr rfl) (po_lst pas_nil))
    (zs_cons (z_for (passes_of rfl) rfl (it_range1 (by rfl) mz_range (pas_cons (pv_var 3 (L2.pv 3)) pas_nil)) (gt_name sc__law_events.nd rfl (by first | exact .inl rfl | exact .inr rfl)) (zs_cons (z_setLcF (own := [("thing", 7)]) rfl sc__law_events.nd rfl rfl (sw_true rfl rfl rfl (by decide +kernel)) (it_range1 (by rfl) mz_range (pas_cons (pv_of (po_callD (io := []) (sh := [none]) d__law_many (hr.mono (by decide)) (by rfl) (takes_of rfl rfl rfl rfl) (pag_v (pv_var 1 (L2.pv 1)) pag_nil))) pas_nil)) (blkOk_by (own := [("thing", 7)]) (N := N__law_events) (sc := defScope s__law_events) (by decide +kernel)) (fun _ _ _ _ _ => (gt_name sc__law_events.nd rfl (by first | exact .inl rfl | exact .inr rfl))) (fun _ _ _ _ _ => (pbs_one (pb_tru (pq_of (pv_of (po_callD (io := []) (sh := [none, none, none]) d__law_borne (hr.mono (by decide)) (by rfl) L2.takes0 (pag_v (pv_var 1 (L2.pv 1)) (pag_v (pv_var 2 (L2.pv 2)) (pag_v (pv_var 7 (L2.pv 7)) pag_nil))))))))) (fun _ _ _ _ _ => (po_of (pv_var 7 (L2.pv 7)))) (ne_set 7))
    (zs_cons (z_set sc__law_events.nd rfl (by first | exact .inl rfl | exact .inr rfl) (po_of (pv_op od_add (pq_of (pv_op od_add (pq_var 6 (L2.pv 6)) (pq_var 6 (L2.pv 6)))) (pq_of (pv_of (po_lc (own := [("thing", 7)]) rfl sc__law_events.nd (it_val (pv_of (po_callD (io := []) (sh := [none]) d__law_bits (hr.mono (by decide)) (by rfl) (takes_of rfl rfl rfl rfl) (pag_v (pv_var 2 (L2.pv 2)) pag_nil)))) (blkOk_by (own := [("thing", 7)]) (N := N__law_events) (sc := defScope s__law_events) (by decide +kernel)) (fun _ _ _ _ _ => (gt_name sc__law_events.nd rfl (by first | exact .inl rfl | exact .inr rfl))) (fun _ _ _ _ _ => pbs_nil) (fun _ _ _ _ _ => (po_of (pv_op od_sub (pq_of (pv_op od_sub (pq_of pv_int) (pq_of pv_int))) (pq_var 7 (L2.pv 7))))) (ne_set 7)))))))
    (zs_cons (z_expr (po_append (pl_var 4 (L2.pv 4)) (po_callD (io := [0]) (sh := [some 0, none]) d__law_of (hr.mono (by decide)) (by rfl) (takes_of rfl rfl rfl rfl) (pag_p 0 (L2.pv 0) (pag_v (pv_var 6 (L2.pv 6)) pag_nil)))))
    (zs_one (z_set sc__law_events.nd rfl (by first | exact .inl rfl | exact .inr rfl) (po_of (pv_ix (ox_sub (u65 hr)) (pq_of (pv_of (po_callD (io := []) (sh := [none, none, none]) d__law_behind_events (hr.mono (by decide)) (by rfl) (takes_of rfl rfl rfl rfl) (pag_v (pv_var 1 (L2.pv 1)) (pag_v (pv_var 2 (L2.pv 2)) (pag_v (pv_of (po_cutA (pq_var 4 (L2.pv 4)) (psl_some (pv_un ud_neg (pq_of pv_int))) psl_none)) pag_nil)))))) (pq_of (pv_un ud_neg (pq_of pv_int)))))))))))
    (zs_one (z_ret (po_of (pv_callT ca_tuple (by rfl) mz_tuple boot_tuple' (pq_var 4 (L2.pv 4))))))))
abbrev s_law : Stmt := topS 52
abbrev N_law : List Str := ["script", "deal", "pairs", "turn", "frame", "web", "mask", "events", "due", "told", "again", "at", "event", "late", "walk", "steps", "one"]
theorem sc_law : FnScope N_law ["script"] (defScope s_law) := ⟨rfl, rfl, rfl, by decide +kernel, rfl, by decide +kernel, by decide +kernel⟩
noncomputable def b_law : M Fl := (sSeq (sParO 1 2 (oCons (oCall m__law_deal [none, none] (gV (vVar 0) (gV (M.ret (.int 65)) gNl))) (oCons (oLst aNil) oNil)))
  (sSeq (sFor (iR1 (aCons (M.ret (.int 7)) aNil)) (gSet 3) (sSeq (sSet (om (vm (oCall m__law_some_frame [some 1, none] (gP 1 (gV (M.ret (.int 6)) gNl))))) (gSet 4))
  (sSeq (sPar 5 6 (aCons (vm (oCall m__law_web [none] (gV (vVar 4) gNl))) (aCons (vm (oCall m__law_some_mask [some 1, none] (gP 1 (gV (vVar 4) gNl)))) aNil)))
  (sSeq (sSet (om (vm (oCall m__law_events [some 1, none, none, none] (gP 1 (gV (vVar 4) (gV (vVar 6) (gV (vm (oCall m__law_any [some 1, none] (gP 1 (gV (M.ret (.int 25)) gNl)))) gNl))))))) (gSet 7))
  (sSeq (sSet (om (un dTuple (qm (vm (oLc [16] (iVal (vm (oCall m__law_behind_events [none, none, none] (gV (vVar 4) (gV (vVar 6) (gV (vVar 7) gNl)))))) (gSet 16) (M.ret true) (oCall m__law_bits [none] (gV (vVar 16) gNl))))))) (gSet 8))
  (sSeq (sSet (om (mIf (bm (bin dGt (qVar 3) (qm (M.ret (.int 0))))) (vm (oCall m_wiped_walk [none, none, none] (gV (vVar 5) (gV (vm (oCall m__law_bits [none] (gV (vVar 6) gNl))) (gV (vVar 7) gNl))))) (vm (oCall m_wiped_walk [none, none, none] (M.map (ord [2, 1, 0] (.v .non)) (aBoth gNl (gV (vVar 7) (gV (vm (oCall m__law_bits [none] (gV (vVar 6) gNl))) (gV (vVar 5) gNl))))))))) (gSet 9))
  (sSeq (sSet (oAdd (qVar 2) (qm (vm (oLst (aCons (vTup (aCons (vVar 9) (aCons (vVar 8) aNil))) aNil))))) (gSet 2))
  (sSeq (sSet (oAdd (qVar 2) (qm (vm (oLst (aCons (vTup (aCons (mIf (bm (bin dGt (qVar 3) (qm (M.ret (.int 0))))) (vm (oCall m_wipes_in [none] (gV (vVar 7) gNl))) (vm (oCall m_wipes_in [none] (M.map (ord [0] (.v .non)) (aBoth gNl (gV (vVar 7) gNl)))))) (aCons (un dLen (qm (vm (oLc [16] (iVal (vVar 7)) (gSet 16) (bm (bin dLt (qVar 16) (qm (M.ret (.int 0))))) (om (vVar 16)))))) aNil))) aNil))))) (gSet 2))
  (sSeq (sFor (iR1 (aCons (M.ret (.int 6)) aNil)) (gSet 10) (sSeq (sPar 11 12 (aCons (vm (oCall m__law_any [some 1, none] (gP 1 (gV (bin dAdd (qm (un dLen (qVar 7))) (qm (M.ret (.int 1)))) gNl)))) (aCons (bin dSub (qm (vm (oCall m__law_any [some 1, none] (gP 1 (gV (bin dMul (qm (M.ret (.int 2))) (qm (vm (oCall m__law_many [none] (gV (vVar 4) gNl))))) gNl))))) (qm (vm (oCall m__law_many [none] (gV (vVar 4) gNl))))) aNil)))
  (sSeq (sSet (om (bin dAdd (qm (bin dAdd (qm (vm (oCutA (qVar 7) sN (sP (vVar 11))))) (qm (vTup (aCons (vVar 12) aNil))))) (qm (vm (oCutA (qVar 7) (sP (vVar 11)) sN))))) (gSet 13))
  (sSeq (sSet (om (vm (oCall m__law_behind_events [none, none, none] (gV (vVar 4) (gV (vVar 6) (gV (vVar 13) gNl)))))) (gSet 14))
  (sDrop (oAppend 2 [] (om (vTup (aCons (vm (oCall m_wiped_walk [none, none, none] (gV (vVar 5) (gV (vm (oCall m__law_bits [none] (gV (vVar 6) gNl))) (gV (vVar 13) gNl))))) (aCons (mIf (bm (bin dIs (qVar 14) (qm (M.ret .non)))) (M.ret .non) (un dTuple (qm (vm (oLc [16] (iVal (vVar 14)) (gSet 16) (M.ret true) (oCall m__law_bits [none] (gV (vVar 16) gNl))))))) aNil))))))))))
  (sSeq (sSet (om (un dTuple (qm (vm (oLc [16] (iVal (vVar 7)) (gSet 16) (bm (bin dGe (qVar 16) (qm (M.ret (.int 0))))) (om (vVar 16))))))) (gSet 15))
  (sSeq (sSet (oAdd (qVar 2) (qm (vm (oLst (aCons (vTup (aCons (vm (oCall m_wiped_walk [none, none, none] (gV (vVar 5) (gV (vm (oCall m__law_bits [none] (gV (vVar 6) gNl))) (gV (vVar 15) gNl))))) (aCons (vm (oCall m_walked [none, none, none] (gV (vVar 5) (gV (vm (oCall m__law_bits [none] (gV (vVar 6) gNl))) (gV (vVar 15) gNl))))) aNil))) aNil))))) (gSet 2))
  (sSet (oAdd (qVar 2) (qm (vm (oLst (aCons (vTup (aCons (vm (oCall m_wiped_walk [none, none, none] (gV (vVar 5) (gV (vm (oCall m__law_bits [none] (gV (vVar 6) gNl))) (gV (vTup aNil) gNl))))) (aCons (vTup (aCons (vm (oCall m__law_bits [none] (gV (vVar 6) gNl))) aNil)) aNil))) aNil))))) (gSet 2)))))))))))))
  (sSeq (sSet (om (vm (oCall m__law_web [none] (gV (vm (oCall m__law_row_frame [none] (gV (vm (oLst (aCons (M.ret (.int 1)) (aCons (M.ret (.int 1)) (aCons (M.ret (.int 1)) aNil))))) gNl))) gNl)))) (gSet 5))
  (sSeq (sSet (oAdd (qVar 2) (qm (vm (oLst (aCons (vTup (aCons (vm (oCall m_wiped_walk [none, none, none] (gV (vVar 5) (gV (vTup aNil) (gV (vTup (aCons (M.ret (.int 0)) (aCons (M.ret (.int 1)) (aCons (bin dSub (qm (M.ret (.int 0))) (qm (M.ret (.int 1)))) (aCons (M.ret (.int 2)) aNil))))) gNl))))) (aCons (vTup (aCons (vTup aNil) (aCons (vTup (aCons (M.ret (.int 0)) aNil)) (aCons (vTup (aCons (M.ret (.int 0)) (aCons (M.ret (.int 1)) aNil))) (aCons (vTup (aCons (M.ret (.int 1)) aNil)) (aCons (vTup (aCons (M.ret (.int 1)) (aCons (M.ret (.int 2)) aNil))) aNil)))))) aNil))) aNil))))) (gSet 2))
  (sSeq (sSet (oAdd (qVar 2) (qm (vm (oLst (aCons (vTup (aCons (vm (oCall m_wiped_walk [none, none, none] (gV (vVar 5) (gV (vTup aNil) (gV (vTup (aCons (bin dSub (qm (M.ret (.int 0))) (qm (M.ret (.int 1)))) aNil)) gNl))))) (aCons (M.ret .non) aNil))) aNil))))) (gSet 2))
  (sSeq (sSet (oAdd (qVar 2) (qm (vm (oLst (aCons (vTup (aCons (vm (oCall m_wiped_walk [none, none, none] (gV (vVar 5) (gV (vTup (aCons (M.ret (.int 0)) (aCons (M.ret (.int 2)) aNil))) (gV (vTup (aCons (bin dSub (qm (M.ret (.int 0))) (qm (M.ret (.int 3)))) (aCons (M.ret (.int 0)) aNil))) gNl))))) (aCons (vTup (aCons (vTup (aCons (M.ret (.int 0)) (aCons (M.ret (.int 2)) aNil))) (aCons (vTup (aCons (M.ret (.int 0)) aNil)) (aCons (vTup aNil) aNil)))) aNil))) aNil))))) (gSet 2))
  (sRet (oCall m__law_all [none] (gV (bin dAdd (qVar 2) (qm (vm (oLst (aCons (vTup (aCons (vm (oCall m_wipes_in [none] (gV (vTup aNil) gNl))) (aCons (M.ret (.int 0)) aNil))) (aCons (vTup (aCons (vm (oCall m_wipes_in [none] (gV (vTup (aCons (M.ret (.int 0)) (aCons (bin dSub (qm (M.ret (.int 0))) (qm (M.ret (.int 1)))) (aCons (M.ret (.int 2)) (aCons (bin dSub (qm (M.ret (.int 0))) (qm (M.ret (.int 3)))) aNil))))) gNl))) (aCons (M.ret (.int 2)) aNil))) (aCons (vTup (aCons (vm (oCall m_wiped_walk [none, none, none] (gV (vVar 5) (gV (vTup (aCons (M.ret (.int 2)) aNil)) (gV (vTup (aCons (M.ret (.int 2)) aNil)) gNl))))) (aCons (M.ret .non) aNil))) aNil))))))) gNl)))))))))
noncomputable def m_law : Fn := dfn 1 17 [] b_law
theorem ok_law {P : Program} {w : World} {K : PySem.W.Frag} {mg : Str → Option Value} {base : Heap} (Da : DefAt K mg "law" s_law) (d__law_deal : DefOk P w K mg base 1 "_law_deal" s__law_deal ["script", "salt"] 2 [] [] m__law_deal) (d__law_some_frame : DefOk P w K mg base 5 "_law_some_frame" s__law_some_frame ["deal", "limit"] 2 [0] [] m__law_some_frame) (d__law_web : DefOk P w K mg base 3 "_law_web" s__law_web ["frame"] 1 [] [] m__law_web) (d__law_some_mask : DefOk P w K mg base 2 "_law_some_mask" s__law_some_mask ["deal", "frame"] 2 [0] [] m__law_some_mask) (d__law_events : DefOk P w K mg base 5 "_law_events" s__law_events ["deal", "frame", "mask", "many"] 4 [0] [] m__law_events) (d__law_any : DefOk P w K mg base 1 "_law_any" s__law_any ["deal", "bound"] 2 [0] [] m__law_any) (d__law_behind_events : DefOk P w K mg base 4 "_law_behind_events" s__law_behind_events ["frame", "mask", "events"] 3 [] [] m__law_behind_events) (d__law_bits : DefOk P w K mg base 2 "_law_bits" s__law_bits ["mask"] 1 [] [] m__law_bits) (d_wiped_walk : DefOk P w K mg base 5 "wiped_walk" s_wiped_walk ["web", "standing", "events"] 3 [] [] m_wiped_walk) (d_wipes_in : DefOk P w K mg base 1 "wipes_in" s_wipes_in ["events"] 1 [] [] m_wipes_in) (d__law_many : DefOk P w K mg base 1 "_law_many" s__law_many ["frame"] 1 [] [] m__law_many) (d_walked : DefOk P w K mg base 6 "walked" s_walked ["web", "standing", "steps"] 3 [] [] m_walked) (d__law_row_frame : DefOk P w K mg base 2 "_law_row_frame" s__law_row_frame ["weights"] 1 [] [] m__law_row_frame) (d__law_all : DefOk P w K mg base 3 "_law_all" s__law_all ["pairs"] 1 [] [] m__law_all) (mz_len : mg "len" = none) (mz_range : mg "range" = none) (mz_tuple : mg "tuple" = none) : DefOk P w K mg base 7 "law" s_law ["script"] 1 [] [] m_law :=
  def_pl (k := 6) Da sc_law rfl (fun _ _ _ _ _ _ _ us h => match us, h with | [_], _ => rfl) (by decide) (by decide) fun _ _ _ _ _ _ _ _ hr =>
   (zs_cons (z_parO rfl sc_law.nd rfl rfl (by decide) rfl rfl (pao_cons (po_callD (io := []) (sh := [none, none]) d__law_deal (hr.mono (by decide)) (by rfl) (takes_of rfl rfl rfl rfl) (pag_v (pv_var 0 (L2.pv 0)) (pag_v pv_int pag_nil))) (pao_cons (po_lst pas_nil) pao_nil)) rfl)
    (zs_cons (z_for (passes_of rfl) rfl (it_range1 (by rfl) mz_range (pas_cons pv_int pas_nil)) (gt_name sc_law.nd rfl (by first | exact .inl rfl | exact .inr rfl)) (zs_cons (z_set sc_law.nd rfl (by first | exact .inl rfl | exact .inr rfl) (po_of (pv_of (po_callD (io := [0]) (sh := [some 1, none]) d__law_some_frame (hr.mono (by decide)) (by rfl) (takes_of rfl rfl rfl rfl) (pag_p 1 (L2.pv 1) (pag_v pv_int pag_nil))))))
    (zs_cons (z_par rfl sc_law.nd rfl rfl (by decide) rfl rfl (pas_cons (pv_of (po_callD (io := []) (sh := [none]) d__law_web (hr.mono (by decide)) (by rfl) (takes_of rfl rfl rfl rfl) (pag_v (pv_var 4 (L2.pv 4)) pag_nil))) (pas_cons (pv_of (po_callD (io := [0]) (sh := [some 1, none]) d__law_some_mask (hr.mono (by decide)) (by rfl) (takes_of rfl rfl rfl rfl) (pag_p 1 (L2.pv 1) (pag_v (pv_var 4 (L2.pv 4)) pag_nil)))) pas_nil)) rfl)
    (zs_cons (z_set sc_law.nd rfl (by first | exact .inl rfl | exact .inr rfl) (po_of (pv_of (po_callD (io := [0]) (sh := [some 1, none, none, none]) d__law_events (hr.mono (by decide)) (by rfl) (takes_of rfl rfl rfl rfl) (pag_p 1 (L2.pv 1) (pag_v (pv_var 4 (L2.pv 4)) (pag_v (pv_var 6 (L2.pv 6)) (pag_v (pv_of (po_callD (io := [0]) (sh := [some 1, none]) d__law_any (hr.mono (by decide)) (by rfl) (takes_of rfl rfl rfl rfl) (pag_p 1 (L2.pv 1) (pag_v pv_int pag_nil)))) pag_nil))))))))
    (zs_cons (z_set sc_law.nd rfl (by first | exact .inl rfl | exact .inr rfl) (po_of (pv_callT ca_tuple (by rfl) mz_tuple boot_tuple' (pq_of (pv_of (po_lc (own := [("one", 16)]) rfl sc_law.nd (it_val (pv_of (po_callD (io := []) (sh := [none, none, none]) d__law_behind_events (hr.mono (by decide)) (by rfl) (takes_of rfl rfl rfl rfl) (pag_v (pv_var 4 (L2.pv 4)) (pag_v (pv_var 6 (L2.pv 6)) (pag_v (pv_var 7 (L2.pv 7)) pag_nil)))))) (blkOk_by (own := [("one", 16)]) (N := N_law) (sc := defScope s_law) (by decide +kernel)) (fun _ _ _ _ _ => (gt_name sc_law.nd rfl (by first | exact .inl rfl | exact .inr rfl))) (fun _ _ _ _ _ => pbs_nil) (fun _ _ _ _ _ => (po_callD (io := []) (sh := [none]) d__law_bits (hr.mono (by decide)) (by rfl) L2.takes0 (pag_v (pv_var 16 (L2.pv 16)) pag_nil))) (ne_set 16)))))))
    (zs_cons (z_set sc_law.nd rfl (by first | exact .inl rfl | exact .inr rfl) (po_of (pv_if (pb_cmp od_gt (pq_var 3 (L2.pv 3)) (pq_of pv_int) (nomark _)) (pv_of (po_callD (io := []) (sh := [none, none, none]) d_wiped_walk (hr.mono (by decide)) (by rfl) (takes_of rfl rfl rfl rfl) (pag_v (pv_var 5 (L2.pv 5)) (pag_v (pv_of (po_callD (io := []) (sh := [none]) d__law_bits (hr.mono (by decide)) (by rfl) (takes_of rfl rfl rfl rfl) (pag_v (pv_var 6 (L2.pv 6)) pag_nil))) (pag_v (pv_var 7 (L2.pv 7)) pag_nil))))) (pv_of (po_callK0 (io := []) (sh := [none, none, none]) (π := [2, 1, 0]) (ks := ["events", "standing", "web"]) d_wiped_walk (hr.mono (by decide)) (by rfl) (takes_of rfl rfl rfl rfl) (pkg_v (pv_var 7 (L2.pv 7)) (pkg_v (pv_of (po_callD (io := []) (sh := [none]) d__law_bits (hr.mono (by decide)) (by rfl) (takes_of rfl rfl rfl rfl) (pag_v (pv_var 6 (L2.pv 6)) pag_nil))) (pkg_v (pv_var 5 (L2.pv 5)) pkg_nil))) rfl (fun _ _ _ _ _ _ _ us ws h1 h2 => match us, ws, h1, h2 with | [], [_, _, _], _, _ => rfl))))))
    (zs_cons (z_set sc_law.nd rfl (by first | exact .inl rfl | exact .inr rfl) (po_add (pq_var 2 (L2.pv 2)) (pq_of (pv_of (po_lst (pas_cons (pv_tup (pas_cons (pv_var 9 (L2.pv 9)) (pas_cons (pv_var 8 (L2.pv 8)) pas_nil))) pas_nil))))))
    (zs_cons (z_set sc_law.nd rfl (by first | exact .inl rfl | exact .inr rfl) (po_add (pq_var 2 (L2.pv 2)) (pq_of (pv_of (po_lst (pas_cons (pv_tup (pas_cons (pv_if (pb_cmp od_gt (pq_var 3 (L2.pv 3)) (pq_of pv_int) (nomark _)) (pv_of (po_callD (io := []) (sh := [none]) d_wipes_in (hr.mono (by decide)) (by rfl) (takes_of rfl rfl rfl rfl) (pag_v (pv_var 7 (L2.pv 7)) pag_nil))) (pv_of (po_callK0 (io := []) (sh := [none]) (π := [0]) (ks := ["events"]) d_wipes_in (hr.mono (by decide)) (by rfl) (takes_of rfl rfl rfl rfl) (pkg_v (pv_var 7 (L2.pv 7)) pkg_nil) rfl (fun _ _ _ _ _ _ _ us ws h1 h2 => match us, ws, h1, h2 with | [], [_], _, _ => rfl)))) (pas_cons (pv_callB ca_len (by rfl) mz_len boot_len' (pq_of (pv_of (po_lc (own := [("one", 16)]) rfl sc_law.nd (it_val (pv_var 7 (L2.pv 7))) (blkOk_by (own := [("one", 16)]) (N := N_law) (sc := defScope s_law) (by decide +kernel)) (fun _ _ _ _ _ => (gt_name sc_law.nd rfl (by first | exact .inl rfl | exact .inr rfl))) (fun _ _ _ _ _ => (pbs_one (pb_cmp od_lt (pq_var 16 (L2.pv 16)) (pq_of pv_int) (nomark _)))) (fun _ _ _ _ _ => (po_of (pv_var 16 (L2.pv 16)))) (ne_set 16))))) pas_nil))) pas_nil))))))
    (zs_cons (z_for (passes_of rfl) rfl (it_range1 (by rfl) mz_range (pas_cons pv_int pas_nil)) (gt_name sc_law.nd rfl (by first | exact .inl rfl | exact .inr rfl)) (zs_cons (z_par rfl sc_law.nd rfl rfl (by decide) rfl rfl (pas_cons (pv_of (po_callD (io := [0]) (sh := [some 1, none]) d__law_any (hr.mono (by decide)) (by rfl) (takes_of rfl rfl rfl rfl) (pag_p 1 (L2.pv 1) (pag_v (pv_op od_add (pq_of (pv_callB ca_len (by rfl) mz_len boot_len' (pq_var 7 (L2.pv 7)))) (pq_of pv_int)) pag_nil)))) (pas_cons (pv_op od_sub (pq_of (pv_of (po_callD (io := [0]) (sh := [some 1, none]) d__law_any (hr.mono (by decide)) (by rfl) (takes_of rfl rfl rfl rfl) (pag_p 1 (L2.pv 1) (pag_v (pv_op od_mul (pq_of pv_int) (pq_of (pv_of (po_callD (io := []) (sh := [none]) d__law_many (hr.mono (by decide)) (by rfl) (takes_of rfl rfl rfl rfl) (pag_v (pv_var 4 (L2.pv 4)) pag_nil))))) pag_nil))))) (pq_of (pv_of (po_callD (io := []) (sh := [none]) d__law_many (hr.mono (by decide)) (by rfl) (takes_of rfl rfl rfl rfl) (pag_v (pv_var 4 (L2.pv 4)) pag_nil))))) pas_nil)) rfl)
    (zs_cons (z_set sc_law.nd rfl (by first | exact .inl rfl | exact .inr rfl) (po_of (pv_op od_add (pq_of (pv_op od_add (pq_of (pv_of (po_cutA (pq_var 7 (L2.pv 7)) psl_none (psl_some (pv_var 11 (L2.pv 11)))))) (pq_of (pv_tup (pas_cons (pv_var 12 (L2.pv 12)) pas_nil))))) (pq_of (pv_of (po_cutA (pq_var 7 (L2.pv 7)) (psl_some (pv_var 11 (L2.pv 11))) psl_none))))))
    (zs_cons (z_set sc_law.nd rfl (by first | exact .inl rfl | exact .inr rfl) (po_of (pv_of (po_callD (io := []) (sh := [none, none, none]) d__law_behind_events (hr.mono (by decide)) (by rfl) (takes_of rfl rfl rfl rfl) (pag_v (pv_var 4 (L2.pv 4)) (pag_v (pv_var 6 (L2.pv 6)) (pag_v (pv_var 13 (L2.pv 13)) pag_nil)))))))
    (zs_one (z_expr (po_append (pl_var 2 (L2.pv 2)) (po_of (pv_tup (pas_cons (pv_of (po_callD (io := []) (sh := [none, none, none]) d_wiped_walk (hr.mono (by decide)) (by rfl) (takes_of rfl rfl rfl rfl) (pag_v (pv_var 5 (L2.pv 5)) (pag_v (pv_of (po_callD (io := []) (sh := [none]) d__law_bits (hr.mono (by decide)) (by rfl) (takes_of rfl rfl rfl rfl) (pag_v (pv_var 6 (L2.pv 6)) pag_nil))) (pag_v (pv_var 13 (L2.pv 13)) pag_nil))))) (pas_cons (pv_if (pb_cmp od_is (pq_var 14 (L2.pv 14)) (pq_of pv_non) (nomark _)) pv_non (pv_callT ca_tuple (by rfl) mz_tuple boot_tuple' (pq_of (pv_of (po_lc (own := [("one", 16)]) rfl sc_law.nd (it_val (pv_var 14 (L2.pv 14))) (blkOk_by (own := [("one", 16)]) (N := N_law) (sc := defScope s_law) (by decide +kernel)) (fun _ _ _ _ _ => (gt_name sc_law.nd rfl (by first | exact .inl rfl | exact .inr rfl))) (fun _ _ _ _ _ => pbs_nil) (fun _ _ _ _ _ => (po_callD (io := []) (sh := [none]) d__law_bits (hr.mono (by decide)) (by rfl) L2.takes0 (pag_v (pv_var 16 (L2.pv 16)) pag_nil))) (ne_set 16)))))) pas_nil)))))))))))
    (zs_cons (z_set sc_law.nd rfl (by first | exact .inl rfl | exact .inr rfl) (po_of (pv_callT ca_tuple (by rfl) mz_tuple boot_tuple' (pq_of (pv_of (po_lc (own := [("one", 16)]) rfl sc_law.nd (it_val (pv_var 7 (L2.pv 7))) (blkOk_by (own := [("one", 16)]) (N := N_law) (sc := defScope s_law) (by decide +kernel)) (fun _ _ _ _ _ => (gt_name sc_law.nd rfl (by first | exact .inl rfl | exact .inr rfl))) (fun _ _ _ _ _ => (pbs_one (pb_cmp od_ge (pq_var 16 (L2.pv 16)) (pq_of pv_int) (nomark _)))) (fun _ _ _ _ _ => (po_of (pv_var 16 (L2.pv 16)))) (ne_set 16)))))))
    (zs_cons (z_set sc_law.nd rfl (by first | exact .inl rfl | exact .inr rfl) (po_add (pq_var 2 (L2.pv 2)) (pq_of (pv_of (po_lst (pas_cons (pv_tup (pas_cons (pv_of (po_callD (io := []) (sh := [none, none, none]) d_wiped_walk (hr.mono (by decide)) (by rfl) (takes_of rfl rfl rfl rfl) (pag_v (pv_var 5 (L2.pv 5)) (pag_v (pv_of (po_callD (io := []) (sh := [none]) d__law_bits (hr.mono (by decide)) (by rfl) (takes_of rfl rfl rfl rfl) (pag_v (pv_var 6 (L2.pv 6)) pag_nil))) (pag_v (pv_var 15 (L2.pv 15)) pag_nil))))) (pas_cons (pv_of (po_callD (io := []) (sh := [none, none, none]) d_walked (hr.mono (by decide)) (by rfl) (takes_of rfl rfl rfl rfl) (pag_v (pv_var 5 (L2.pv 5)) (pag_v (pv_of (po_callD (io := []) (sh := [none]) d__law_bits (hr.mono (by decide)) (by rfl) (takes_of rfl rfl rfl rfl) (pag_v (pv_var 6 (L2.pv 6)) pag_nil))) (pag_v (pv_var 15 (L2.pv 15)) pag_nil))))) pas_nil))) pas_nil))))))
    (zs_one (z_set sc_law.nd rfl (by first | exact .inl rfl | exact .inr rfl) (po_add (pq_var 2 (L2.pv 2)) (pq_of (pv_of (po_lst (pas_cons (pv_tup (pas_cons (pv_of (po_callD (io := []) (sh := [none, none, none]) d_wiped_walk (hr.mono (by decide)) (by rfl) (takes_of rfl rfl rfl rfl) (pag_v (pv_var 5 (L2.pv 5)) (pag_v (pv_of (po_callD (io := []) (sh := [none]) d__law_bits (hr.mono (by decide)) (by rfl) (takes_of rfl rfl rfl rfl) (pag_v (pv_var 6 (L2.pv 6)) pag_nil))) (pag_v (pv_tup pas_nil) pag_nil))))) (pas_cons (pv_tup (pas_cons (pv_of (po_callD (io := []) (sh := [none]) d__law_bits (hr.mono (by decide)) (by rfl) (takes_of rfl rfl rfl rfl) (pag_v (pv_var 6 (L2.pv 6)) pag_nil))) pas_nil)) pas_nil))) pas_nil))))))))))))))))))
    (zs_cons (z_set sc_law.nd rfl (by first | exact .inl rfl | exact .inr rfl) (po_of (pv_of (po_callD (io := []) (sh := [none]) d__law_web (hr.mono (by decide)) (by rfl) (takes_of rfl rfl rfl rfl) (pag_v (pv_of (po_callD (io := []) (sh := [none]) d__law_row_frame (hr.mono (by decide)) (by rfl) (takes_of rfl rfl rfl rfl) (pag_v (pv_of (po_lst (pas_cons pv_int (pas_cons pv_int (pas_cons pv_int pas_nil))))) pag_nil))) pag_nil)))))
    (zs_cons (z_set sc_law.nd rfl (by first | exact .inl rfl | exact .inr rfl) (po_add (pq_var 2 (L2.pv 2)) (pq_of (pv_of (po_lst (pas_cons (pv_tup (pas_cons (pv_of (po_callD (io := []) (sh := [none, none, none]) d_wiped_walk (hr.mono (by decide)) (by rfl) (takes_of rfl rfl rfl rfl) (pag_v (pv_var 5 (L2.pv 5)) (pag_v (pv_tup pas_nil) (pag_v (pv_tup (pas_cons pv_int (pas_cons pv_int (pas_cons (pv_op od_sub (pq_of pv_int) (pq_of pv_int)) (pas_cons pv_int pas_nil))))) pag_nil))))) (pas_cons (pv_tup (pas_cons (pv_tup pas_nil) (pas_cons (pv_tup (pas_cons pv_int pas_nil)) (pas_cons (pv_tup (pas_cons pv_int (pas_cons pv_int pas_nil))) (pas_cons (pv_tup (pas_cons pv_int pas_nil)) (pas_cons (pv_tup (pas_cons pv_int (pas_cons pv_int pas_nil))) pas_nil)))))) pas_nil))) pas_nil))))))
    (zs_cons (z_set sc_law.nd rfl (by first | exact .inl rfl | exact .inr rfl) (po_add (pq_var 2 (L2.pv 2)) (pq_of (pv_of (po_lst (pas_cons (pv_tup (pas_cons (pv_of (po_callD (io := []) (sh := [none, none, none]) d_wiped_walk (hr.mono (by decide)) (by rfl) (takes_of rfl rfl rfl rfl) (pag_v (pv_var 5 (L2.pv 5)) (pag_v (pv_tup pas_nil) (pag_v (pv_tup (pas_cons (pv_op od_sub (pq_of pv_int) (pq_of pv_int)) pas_nil)) pag_nil))))) (pas_cons pv_non pas_nil))) pas_nil))))))
    (zs_cons (z_set sc_law.nd rfl (by first | exact .inl rfl | exact .inr rfl) (po_add (pq_var 2 (L2.pv 2)) (pq_of (pv_of (po_lst (pas_cons (pv_tup (pas_cons (pv_of (po_callD (io := []) (sh := [none, none, none]) d_wiped_walk (hr.mono (by decide)) (by rfl) (takes_of rfl rfl rfl rfl) (pag_v (pv_var 5 (L2.pv 5)) (pag_v (pv_tup (pas_cons pv_int (pas_cons pv_int pas_nil))) (pag_v (pv_tup (pas_cons (pv_op od_sub (pq_of pv_int) (pq_of pv_int)) (pas_cons pv_int pas_nil))) pag_nil))))) (pas_cons (pv_tup (pas_cons (pv_tup (pas_cons pv_int (pas_cons pv_int pas_nil))) (pas_cons (pv_tup (pas_cons pv_int pas_nil)) (pas_cons (pv_tup pas_nil) pas_nil)))) pas_nil))) pas_nil))))))
    (zs_one (z_ret (po_callD (io := []) (sh := [none]) d__law_all (hr.mono (by decide)) (by rfl) (takes_of rfl rfl rfl rfl) (pag_v (pv_op od_add (pq_var 2 (L2.pv 2)) (pq_of (pv_of (po_lst (pas_cons (pv_tup (pas_cons (pv_of (po_callD (io := []) (sh := [none]) d_wipes_in (hr.mono (by decide)) (by rfl) (takes_of rfl rfl rfl rfl) (pag_v (pv_tup pas_nil) pag_nil))) (pas_cons pv_int pas_nil))) (pas_cons (pv_tup (pas_cons (pv_of (po_callD (io := []) (sh := [none]) d_wipes_in (hr.mono (by decide)) (by rfl) (takes_of rfl rfl rfl rfl) (pag_v (pv_tup (pas_cons pv_int (pas_cons (pv_op od_sub (pq_of pv_int) (pq_of pv_int)) (pas_cons pv_int (pas_cons (pv_op od_sub (pq_of pv_int) (pq_of pv_int)) pas_nil))))) pag_nil))) (pas_cons pv_int pas_nil))) (pas_cons (pv_tup (pas_cons (pv_of (po_callD (io := []) (sh := [none, none, none]) d_wiped_walk (hr.mono (by decide)) (by rfl) (takes_of rfl rfl rfl rfl) (pag_v (pv_var 5 (L2.pv 5)) (pag_v (pv_tup (pas_cons pv_int pas_nil)) (pag_v (pv_tup (pas_cons pv_int pas_nil)) pag_nil))))) (pas_cons pv_non pas_nil))) pas_nil))))))) pag_nil))))))))))
theorem ok_all {P : Program} {w : World} {K : PySem.W.Frag} {mg : Str → Option Value} {base : Heap} (a_unlike : DefAt K mg "unlike" s_unlike) (a_lot_of_words : DefAt K mg "lot_of_words" s_lot_of_words) (a_is_within : DefAt K mg "is_within" s_is_within) (a_with_thing : DefAt K mg "with_thing" s_with_thing) (a_without_thing : DefAt K mg "without_thing" s_without_thing) (a_Web____init__ : MkAt K mg "Web" "Web.__init__" ["names", "weights", "lots"] s_Web____init__) (a_lot_of : DefAt K mg "lot_of" s_lot_of) (a_lot_of_lots : DefAt K mg "lot_of_lots" s_lot_of_lots) (a_joined : DefAt K mg "joined" s_joined) (a_less_one : DefAt K mg "less_one" s_less_one) (a_is_borne : DefAt K mg "is_borne" s_is_borne) (a_let_at : DefAt K mg "let_at" s_let_at) (a_turned_thing : DefAt K mg "turned_thing" s_turned_thing) (a_stepped_standings : DefAt K mg "stepped_standings" s_stepped_standings) (a_walked : DefAt K mg "walked" s_walked) (a_stepped : DefAt K mg "stepped" s_stepped) (a_stepped_wipegraph : DefAt K mg "stepped_wipegraph" s_stepped_wipegraph) (a_behind_event : DefAt K mg "behind_event" s_behind_event) (a_wiped_walk : DefAt K mg "wiped_walk" s_wiped_walk) (a_wipes_in : DefAt K mg "wipes_in" s_wipes_in) (a__law_deal : DefAt K mg "_law_deal" s__law_deal) (a__law_any : DefAt K mg "_law_any" s__law_any) (a__law_of : DefAt K mg "_law_of" s__law_of) (a__law_mixed : DefAt K mg "_law_mixed" s__law_mixed) (a__law_is_kind : DefAt K mg "_law_is_kind" s__law_is_kind) (a__law_same : DefAt K mg "_law_same" s__law_same) (a__law_all : DefAt K mg "_law_all" s__law_all) (a__law_two : DefAt K mg "_law_two" s__law_two) (a__law_bits : DefAt K mg "_law_bits" s__law_bits) (a__law_holds : DefAt K mg "_law_holds" s__law_holds) (a__law_many : DefAt K mg "_law_many" s__law_many) (a__law_frame : DefAt K mg "_law_frame" s__law_frame) (a__law_letters_of : DefAt K mg "_law_letters_of" s__law_letters_of) (a__law_web : DefAt K mg "_law_web" s__law_web) (a__law_drawn_lots : DefAt K mg "_law_drawn_lots" s__law_drawn_lots) (a__law_drawn_frame : DefAt K mg "_law_drawn_frame" s__law_drawn_frame) (a__law_row_frame : DefAt K mg "_law_row_frame" s__law_row_frame) (a__law_some_frame : DefAt K mg "_law_some_frame" s__law_some_frame) (a__law_some_mask : DefAt K mg "_law_some_mask" s__law_some_mask) (a__law_borne : DefAt K mg "_law_borne" s__law_borne) (a__law_flip : DefAt K mg "_law_flip" s__law_flip) (a__law_behind_events : DefAt K mg "_law_behind_events" s__law_behind_events) (a__law_events : DefAt K mg "_law_events" s__law_events) (a_law : DefAt K mg "law" s_law) (mz_abs : mg "abs" = none) (mz_bool : mg "bool" = none) (mz_int : mg "int" = none) (mz_isinstance : mg "isinstance" = none) (mz_len : mg "len" = none) (mz_list : mg "list" = none) (mz_range : mg "range" = none) (mz_set : mg "set" = none) (mz_sorted : mg "sorted" = none) (mz_str : mg "str" = none) (mz_tuple : mg "tuple" = none) (mz_zip : mg "zip" = none) : DefOk P w K mg base 7 "law" s_law ["script"] 1 [] [] m_law := by
  have k_Web := a_Web____init__.cls
  have d_unlike := ok_unlike (P := P) (w := w) (base := base) a_unlike mz_list
  have d_lot_of_words := ok_lot_of_words (P := P) (w := w) (base := base) a_lot_of_words d_unlike mz_sorted mz_tuple
  have d_is_within := ok_is_within (P := P) (w := w) (base := base) a_is_within
  have d_with_thing := ok_with_thing (P := P) (w := w) (base := base) a_with_thing d_lot_of_words
  have d_without_thing := ok_without_thing (P := P) (w := w) (base := base) a_without_thing mz_tuple
  have d_Web____init__ := ok_Web____init__ (P := P) (w := w) (base := base) a_Web____init__ k_Web
  have d_lot_of := ok_lot_of (P := P) (w := w) (base := base) a_lot_of mz_set mz_sorted mz_tuple
  have d_lot_of_lots := ok_lot_of_lots (P := P) (w := w) (base := base) a_lot_of_lots mz_set mz_sorted mz_tuple
  have d_joined := ok_joined (P := P) (w := w) (base := base) a_joined d_lot_of_lots mz_list
  have d_less_one := ok_less_one (P := P) (w := w) (base := base) a_less_one mz_tuple
  have d_is_borne := ok_is_borne (P := P) (w := w) (base := base) a_is_borne d_is_within
  have d_let_at := ok_let_at (P := P) (w := w) (base := base) a_let_at d_is_borne mz_len mz_range mz_tuple
  have d_turned_thing := ok_turned_thing (P := P) (w := w) (base := base) a_turned_thing d_without_thing d_with_thing
  have d_stepped_standings := ok_stepped_standings (P := P) (w := w) (base := base) a_stepped_standings d_is_borne d_turned_thing
  have d_walked := ok_walked (P := P) (w := w) (base := base) a_walked d_stepped_standings mz_tuple
  have d_stepped := ok_stepped (P := P) (w := w) (base := base) a_stepped d_less_one d_joined
  have d_stepped_wipegraph := ok_stepped_wipegraph (P := P) (w := w) (base := base) a_stepped_wipegraph d_less_one d_joined
  have d_behind_event := ok_behind_event (P := P) (w := w) (base := base) a_behind_event d_less_one d_let_at d_stepped_wipegraph
  have d_wiped_walk := ok_wiped_walk (P := P) (w := w) (base := base) a_wiped_walk d_behind_event mz_tuple
  have d_wipes_in := ok_wipes_in (P := P) (w := w) (base := base) a_wipes_in mz_len
  have d__law_deal := ok__law_deal (P := P) (w := w) (base := base) a__law_deal mz_abs mz_int
  have d__law_any := ok__law_any (P := P) (w := w) (base := base) a__law_any mz_int mz_len
  have d__law_of := ok__law_of (P := P) (w := w) (base := base) a__law_of d__law_any mz_len
  have d__law_mixed := ok__law_mixed (P := P) (w := w) (base := base) a__law_mixed d__law_any mz_len mz_list mz_range
  have d__law_is_kind := ok__law_is_kind (P := P) (w := w) (base := base) a__law_is_kind mz_bool mz_int mz_isinstance mz_str
  have d__law_same := ok__law_same (P := P) (w := w) (base := base) a__law_same d__law_is_kind mz_isinstance mz_len mz_list mz_tuple mz_zip
  have d__law_all := ok__law_all (P := P) (w := w) (base := base) a__law_all d__law_same mz_len
  have d__law_two := ok__law_two (P := P) (w := w) (base := base) a__law_two mz_range
  have d__law_bits := ok__law_bits (P := P) (w := w) (base := base) a__law_bits d__law_two mz_int mz_range mz_tuple
  have d__law_holds := ok__law_holds (P := P) (w := w) (base := base) a__law_holds d__law_two mz_int mz_len
  have d__law_many := ok__law_many (P := P) (w := w) (base := base) a__law_many mz_len
  have d__law_frame := ok__law_frame (P := P) (w := w) (base := base) a__law_frame mz_list mz_sorted
  have d__law_letters_of := ok__law_letters_of (P := P) (w := w) (base := base) a__law_letters_of d__law_many mz_range
  have d__law_web := ok__law_web (P := P) (w := w) (base := base) a__law_web d_Web____init__ d__law_letters_of mz_tuple
  have d__law_drawn_lots := ok__law_drawn_lots (P := P) (w := w) (base := base) a__law_drawn_lots d__law_any d__law_mixed mz_len mz_list mz_range mz_sorted mz_tuple
  have d__law_drawn_frame := ok__law_drawn_frame (P := P) (w := w) (base := base) a__law_drawn_frame d__law_any d__law_of d__law_frame d__law_drawn_lots mz_range
  have d__law_row_frame := ok__law_row_frame (P := P) (w := w) (base := base) a__law_row_frame d__law_frame mz_len mz_range
  have d__law_some_frame := ok__law_some_frame (P := P) (w := w) (base := base) a__law_some_frame d__law_any d__law_drawn_frame d__law_row_frame d__law_of mz_range
  have d__law_some_mask := ok__law_some_mask (P := P) (w := w) (base := base) a__law_some_mask d__law_any d__law_two d__law_many
  have d__law_borne := ok__law_borne (P := P) (w := w) (base := base) a__law_borne d__law_holds mz_len
  have d__law_flip := ok__law_flip (P := P) (w := w) (base := base) a__law_flip d__law_two mz_int
  have d__law_behind_events := ok__law_behind_events (P := P) (w := w) (base := base) a__law_behind_events d__law_two d__law_borne d__law_flip mz_int
  have d__law_events := ok__law_events (P := P) (w := w) (base := base) a__law_events d__law_many d__law_borne d__law_bits d__law_of d__law_behind_events mz_range mz_tuple
  exact ok_law a_law d__law_deal d__law_some_frame d__law_web d__law_some_mask d__law_events d__law_any d__law_behind_events d__law_bits d_wiped_walk d_wipes_in d__law_many d_walked d__law_row_frame d__law_all mz_len mz_range mz_tuple
local macro_rules | `(tactic| walk_at "set") => `(tactic| first | exact SetAt.z | (apply SetAt.s; walk_at "set"))
local macro_rules | `(tactic| walk_at "put") => `(tactic| first | exact PutB.nil | (apply PutB.no; walk_at "put") | (apply PutB.so; (walk_at "put"); walk_at "set"))
local macro_rules | `(tactic| walk_at "wip") => `(tactic| first | exact WipB.nil | (apply WipB.cons; (walk_at "wip"); walk_at "set"))
local macro_rules | `(tactic| walk_at "bck") => `(tactic| first | exact BackB.nil rfl | (apply BackB.cons; (walk_at "bck"); (exact rfl); walk_at "set"))
local macro_rules | `(tactic| walk_at "ag") => `(tactic| first | exact AgB.nil | (apply AgB.v; walk_at "ag") | (apply AgB.p; (exact rfl); walk_at "ag"))
local macro_rules | `(tactic| walk_at "rd") => `(tactic| first | with_reducible exact reads_const | exact reads_val rfl | exact reads_lst rfl | exact reads_nil rfl | exact reads_plv rfl | exact reads_pl rfl)
local macro_rules | `(tactic| walk_at "nn") => `(tactic| first | assumption | omega | exact Nat.le_of_ble_eq_true rfl | decide)
local macro_rules | `(tactic| walk_at "op") => `(tactic| first | with_reducible exact op_add _ _ | with_reducible exact op_sub _ _ | with_reducible exact op_eq _ _ | with_reducible exact op_ne _ _ | with_reducible exact op_lt _ _ | with_reducible exact op_le _ _ | with_reducible exact op_gt _ _ | with_reducible exact op_ge _ _ | with_reducible exact op_mod (by walk_at "nn") | with_reducible exact op_floor (by walk_at "nn") (by walk_at "nn") | with_reducible exact op_mul_r (by walk_at "nn") (by walk_at "nn") | with_reducible exact op_mul_l (by walk_at "nn") (by walk_at "nn") | with_reducible exact op_neg _ | with_reducible exact op_int _ | with_reducible exact op_len_l _ | with_reducible exact op_len_t _ | with_reducible exact op_len_n | with_reducible exact op_tup_l _ | with_reducible exact op_tup_t _ | with_reducible exact op_abs _ | with_reducible exact op_pow (by decide) | with_reducible exact op_mul_k (by decide +kernel))
local macro_rules | `(tactic| walk_at "ixn") => `(tactic| first | exact rfl)
local macro_rules | `(tactic| walk_at "rdo") => `(tactic| first | with_reducible exact rev_l _ | with_reducible exact rev_t _ | with_reducible exact list_l _ | with_reducible exact list_t _)
local macro_rules | `(tactic| walk_at "cut") => `(tactic| first | with_reducible exact cut_l _ _ _ | with_reducible exact cut_f _ _ _ | with_reducible exact cut_t _ _ _)
local macro_rules | `(tactic| walk_at "addo") => `(tactic| first | with_reducible exact dAddO_lst (by walk_at "nn"))
local macro_rules | `(tactic| walk_at "w") => `(tactic| first | (with_reducible apply wp_sSeq) | (with_reducible apply wp_sSet) | (with_reducible apply wp_om) | (with_reducible apply wp_bin) | (with_reducible apply wp_qm) | (with_reducible apply wp_ret) | ((with_reducible apply wp_qVar); (exact rfl)) | ((with_reducible apply wp_vVar); (exact rfl)) | ((with_reducible apply wp_gSet); (walk_at "set")) | (with_reducible apply wp_un) | (with_reducible apply wp_vm) | (with_reducible apply wp_oCall) | (with_reducible apply wp_gV) | (with_reducible apply wp_gNl) | ((with_reducible apply wp_gP); (exact rfl)) | (with_reducible apply wp_vTup) | (with_reducible apply wp_aCons) | (with_reducible apply wp_aNil) | (with_reducible apply wp_oLst) | (with_reducible apply wp_sRet) | (with_reducible apply wp_sDrop) | (with_reducible apply wp_sIf) | (with_reducible apply wp_mIf) | (with_reducible apply wp_bm) | (with_reducible apply wp_bTru) | (with_reducible apply wp_bNot) | (with_reducible apply wp_bAnd) | (with_reducible apply wp_bOr) | (with_reducible apply wp_sNx) | ((with_reducible apply wp_oMove); (exact rfl); (walk_at "set")) | ((with_reducible apply wp_vPl); (exact rfl)) | ((with_reducible apply wp_qPl); (exact rfl)) | (with_reducible apply wp_oAdd) | (with_reducible apply wp_oCutA) | (with_reducible apply wp_sN) | (with_reducible apply wp_sP) | (with_reducible apply wp_oRev) | (with_reducible apply wp_oList) | (with_reducible apply wp_sFor) | (with_reducible apply wp_iVal) | (with_reducible apply wp_iR1) | (with_reducible apply wp_iR2) | (with_reducible apply wp_iZip) | ((with_reducible apply wp_iOwn); (exact rfl)) | (with_reducible apply wp_oLc) | (with_reducible apply wp_sPar) | (with_reducible apply wp_sPar3) | (with_reducible apply wp_vAnd) | (with_reducible apply wp_vOr) | (with_reducible apply wp_vNot) | (with_reducible apply wp_vCall2) | ((with_reducible apply wp_oAppend); (exact rfl)) | (with_reducible apply wp_sPut) | ((with_reducible apply wp_gTup); (exact rfl)) | (with_reducible apply wp_gtCons) | (with_reducible apply wp_gtNil) | (with_reducible apply wp_oLstO) | (with_reducible apply wp_oCons) | (with_reducible apply wp_oNil) | (with_reducible apply wp_ord) | (with_reducible apply wp_aBoth) | ((with_reducible apply wp_vFrz); (exact rfl); (exact rfl); (walk_at "set")))
local macro_rules | `(tactic| walk_at "k") => `(tactic| first | (with_reducible apply kSeq_nx) | (with_reducible apply kSet_ok) | (with_reducible apply kTg_ok) | (with_reducible apply kOm_ok) | (with_reducible apply kBin1_ok) | (with_reducible apply kQm_ok) | ((with_reducible apply kBin2_ok); (walk_at "rd"); (walk_at "rd"); (walk_at "op")) | ((with_reducible apply kUn_ok); (walk_at "rd"); (walk_at "op")) | (with_reducible apply kVm_val) | (with_reducible apply kVm_lst) | (with_reducible apply kBm_ok) | (with_reducible apply kIf_t) | (with_reducible apply kIf_f) | (with_reducible apply kNot_t) | (with_reducible apply kNot_f) | (with_reducible apply kNot_d) | (with_reducible apply kG1_ok) | (with_reducible apply kG2_ok) | ((with_reducible apply kCal_ok); (walk_at "ag")) | ((with_reducible apply kBk_ok); (walk_at "put")) | (with_reducible apply kA1_ok) | (with_reducible apply kA2_ok) | ((with_reducible apply kLf_ok); (with_reducible exact hTup_ok (by walk_at "nn"))) | ((with_reducible apply kLf_ok); (with_reducible exact hLst_ok (by walk_at "nn"))) | ((with_reducible apply kLf_ok); (with_reducible exact hIR1_ok (by walk_at "nn"))) | ((with_reducible apply kLf_ok); (with_reducible exact hIR2_ok (by walk_at "nn"))) | (with_reducible apply kRet_ok) | (with_reducible apply kDrop_ok) | (with_reducible apply kSeq_rt) | (with_reducible apply kSeq_bk) | (with_reducible apply kSeq_ct) | (with_reducible apply kFor_ok) | (with_reducible apply kIt_lst) | (with_reducible apply kIt_tup) | (with_reducible apply kCut1_ok) | (with_reducible apply kCut2_ok) | (with_reducible apply kSP_ok) | (with_reducible apply kAdd1_ok) | ((with_reducible apply kPar_ok); (walk_at "set"); (walk_at "set")) | ((with_reducible apply kPar3_ok); (walk_at "set"); (walk_at "set"); (walk_at "set")) | (with_reducible apply kGt_ok) | (with_reducible apply kO1_ok) | (with_reducible apply kO2_ok) | (with_reducible apply kAB_t) | (with_reducible apply kAB_f) | (with_reducible apply kVNot_ok) | (with_reducible apply kLp_nx) | (with_reducible apply kLp_ct) | (with_reducible apply kLp_bk) | (with_reducible apply kLp_rt) | (with_reducible apply kTgB_ok) | (with_reducible apply kLg_ok) | (with_reducible apply kLcd_t) | (with_reducible apply kWh_t) | (with_reducible apply kWh_f) | ((with_reducible apply kLe_ok); (walk_at "wip")) | ((with_reducible apply kDf_nx); (exact rfl)) | ((with_reducible apply kDf_rt); (exact rfl)) | ((with_reducible apply kOrd_ok); (exact rfl)) | (with_reducible apply kBoth1_ok) | (with_reducible apply kBoth2_ok) | ((with_reducible apply kPut1_ok); (exact rfl)) | ((with_reducible apply kPut2_ok); (exact rfl); (exact rfl); (walk_at "ixn"); (exact rfl); (walk_at "set")) | ((with_reducible apply kRd_ok); (walk_at "rd"); (walk_at "rdo")) | ((with_reducible apply kCut3_ok); (walk_at "rd"); (walk_at "cut")) | ((with_reducible apply kLstO_ok); (walk_at "nn")) | ((with_reducible apply kAdd2_ok); (walk_at "rd"); (walk_at "rd"); (walk_at "addo")) | ((with_reducible apply kTru_ok); (walk_at "rd"); (exact rfl)) | with_reducible refine kIf_d (fun _ => ?_) (fun _ => ?_) | with_reducible refine kIf_nd (fun _ => ?_) (fun _ => ?_) | with_reducible refine kAB_d (fun _ => ?_) (fun _ => ?_) | ((with_reducible apply kLcd_d); (walk_at "wip"); (intro _); rotate_left; (intro _); rotate_right) | with_reducible refine kWh_d (fun _ => ?_) (fun _ => ?_))
local macro_rules | `(tactic| walk_at "go") => `(tactic| repeat' (first | walk_at "k" | walk_at "w"))
local macro_rules | `(tactic| walk_at "e") => `(tactic| simp (disch := first | assumption | omega | (simp only [List.length_map, List.length_append, List.length_cons, List.length_nil, e_size]; omega) | decide +kernel) only [↓e_ret, ↓e_rVar, ↓e_peek_val, ↓e_peek_lst, ↓e_peek_nil, ↓e_er_val, ↓e_er_lst, ↓e_er_nil, ↓e_at, ↓e_at0, ↓e_at1, ↓e_put0, ↓e_put1, ↓e_rPl, ↓e_qVar, ↓e_vVar, ↓e_oMove, ↓e_vFrz, ↓e_gSet, ↓e_vPl, ↓e_qPl, ↓e_om, ↓e_kOm, ↓e_vm, ↓e_kVm, ↓e_qm, ↓e_kQm, ↓e_kBin2, ↓e_kBin1, ↓e_bin, ↓e_kUn, ↓e_un, ↓e_kRd, ↓e_oList, ↓e_oRev, ↓e_kBm, ↓e_bm, ↓e_kTru, ↓e_bTru, ↓e_bNot, ↓e_kNot, ↓e_sIf, ↓e_mIf, ↓e_bAnd, ↓e_bOr, ↓e_kIf_t, ↓e_kIf_f, ↓e_kIf, ↓e_vAnd, ↓e_vOr, ↓e_kAB_t, ↓e_kAB_f, ↓e_kAB, ↓e_vNot, ↓e_kVNot, ↓e_aNil, ↓e_aCons, ↓e_kA1, ↓e_kA2, ↓e_kLf, ↓e_vTup, ↓e_oLst, ↓e_iR1, ↓e_iR2, ↓e_iZip, ↓e_vCall2, ↓e_h2, ↓e_hZip_l, ↓e_hZip_t, ↓e_iVal, ↓e_kIt, ↓e_items_l, ↓e_items_t, ↓e_iOwn, ↓e_flat, ↓e_flat0, ↓e_oNil, ↓e_oCons, ↓e_kO1, ↓e_kO2, ↓e_oLstO, ↓e_kLstO, ↓e_sN, ↓e_sP, ↓e_kSP, ↓e_kCut3, ↓e_kCut2, ↓e_kCut1, ↓e_oCutA, ↓e_kAdd2, ↓e_kAdd1, ↓e_oAdd, ↓e_oAppend, ↓e_kApp, ↓e_oPop, ↓e_putE, ↓e_kPut2, ↓e_kPut1, ↓e_sPut, ↓e_sSeq, ↓e_kSeq_nx, ↓e_kSeq_bk, ↓e_kSeq_ct, ↓e_kSeq_rt, ↓e_kSeq_er, ↓e_sNx, ↓e_sRet, ↓e_kRet, ↓e_sDrop, ↓e_kDrop, ↓e_sSet, ↓e_kSet, ↓e_kTg, ↓e_gTup, ↓e_gtNil, ↓e_gtCons, ↓e_kGt, ↓e_sPar, ↓e_kPar, ↓e_sPar3, ↓e_kPar3, ↓e_gNl, ↓e_gV, ↓e_kG1, ↓e_kG2, ↓e_gP, ↓e_kCal, ↓e_oCall, ↓e_kBk, ↓e_pb0, ↓e_pbN, ↓e_pbS, ↓e_ag0, ↓e_agV, ↓e_agP, ↓e_ord, ↓e_kOrd, ↓e_ord0, ↓e_ord1, ↓e_aBoth, ↓e_kBoth1, ↓e_kBoth2, ↓e_kDf_nx, ↓e_kDf_rt, ↓e_kDf_er, ↓e_outs, ↓e_outs0, ↓e_outs1, ↓e_sFor, ↓e_kFor, ↓e_kLp_nx, ↓e_kLp_ct, ↓e_kLp_bk, ↓e_kLp_rt, ↓e_kTgB, ↓e_kWh_t, ↓e_kWh_f, ↓e_kWh, ↓e_oLc, ↓e_kLg, ↓e_kLcd_t, ↓e_kLcd_f, ↓e_kLcd, ↓e_kLe, ↓e_wip0, ↓e_wip1, ↓e_oNew, ↓e_kS1, ↓e_vS1, ↓e_kGt1, ↓e_kGt2, ↓e_kGt3, ↓e_vGet, ↓e_kUl, ↓e_oUnl, ↓e_kMk2, ↓e_kMk, ↓e_oMake, ↓e_atP, ↓e_kNx, ↓e_kFp, ↓e_sFPut, ↓e_kDp2, ↓e_kDp1, ↓e_sDPutP, ↓e_kDi, ↓e_oDisp, ↓e_kPa, ↓e_oPopAt, ↓e_kParO, ↓e_sParO, ↓e_kLr, ↓e_oLstRg, ↓e_oLstZip, ↓e_hLZ, ob_some, gt_some, gtv_some, lsO_some, gtO_some, PL.op_add, PL.op_sub, PL.op_eq, PL.op_ne, PL.op_lt, PL.op_le, PL.op_gt, PL.op_ge, PL.op_neg, PL.op_int, PL.op_len_l, PL.op_len_t, PL.op_tup_l, PL.op_tup_t, PL.op_abs, rev_l, rev_t, list_l, list_t, cut_f, List.getElem?_cons_succ, List.getElem?_cons_zero, List.set_cons_succ, List.set_cons_zero, List.length_cons, List.length_nil, Nat.zero_add, Nat.reduceAdd, Nat.reduceLT, Nat.reduceLeDiff, Option.map_some, Option.bind_some, true_and, and_true, List.mem_cons, List.not_mem_nil, or_false, if_true, if_false, Bool.not_true, Bool.not_false, List.cons_append, List.nil_append, ixN, Nat.reduceEqDiff, Int.reduceLE, Int.reduceLT, Int.reduceToNat, Int.reduceNeg, x_last1, x_drop1, x_last2, x_drop2, x_ixlast, x_ixlast1, x_ixl, x_ixt, x_eql, x_eqt, x_nel, x_net, x_nel0, x_eql0, x_net0, x_eqt0, decide_true, decide_false, List.length_map, Int.toNat_natCast, and_self, Nat.succ_ne_zero, hTup_ok, hLst_ok, ixA_l, ixA_t, ixA_s, in2_nats, notIn2_nats, sorted_ints, sum_ints, keys_ints, unl_ints, Option.getD_some, x_c0, x_c1, x_c2, x_c3, x_c4, x_c5, x_isi_t, x_isi_i, x_isi_s, x_isi_b, x_isi_n, x_isi_ii, x_isi_ib, x_isi_is, x_isi_ss, x_isi_3i, x_isi_3s, x_isi_3b, x_isi_3n, x_is_ni, x_is_nb, x_is_ns, x_is_nt, x_is_nn, x_is_ti, x_is_ts, x_is_tt, x_is_tf, x_is_ft, x_is_ff, x_tru_b, x_ht0, x_hl0, x_ht1, x_hl1, x_ht2, x_hl2, x_ht3, x_hl3, x_ht4, x_hl4, x_ht5, x_hl5, x_ht6, x_hl6, x_cutl1, x_cutl2, x_cutlT0, x_cutlD0, x_cutlT1, x_cutlD1, x_cutlT2, x_cutlD2, x_cutlT3, x_cutlD3, x_cutt1, x_cutt2, x_cuttT0, x_cuttD0, x_cuttT1, x_cuttD1, x_cuttT2, x_cuttD2, x_cuttT3, x_cuttD3, x_eq_str, x_isi_2i, x_isi_2s, x_isi_2b, x_isi_2n, PL.op_mod, PL.op_floor, PL.op_mul_r, PL.op_mul_l, PL.op_pow, PL.op_mul_k, dAddO_lst, x_r1n, x_r1, x_r2, x_addti, x_addli])
theorem op_ix_last {cs : List Int} {c : Int} : dIxA (.lst ((cs ++ [c]).map D.int)) (.int (-1)) = some (.int c) := by
  show L2.atI _ _ = _
  rw [List.map_append]
  exact atI_last _ _
theorem vals_snoc {cs : List Int} {c : Int} : ((cs ++ [c]).map D.int).map O.val = (cs.map D.int).map O.val ++ [O.val (.int c)] := by simp
/-- what the law draws from -/
def Dl (o : O) : Prop := ∃ (cs : List Int) (x : Int), o = .lst [.lst ((cs.map D.int).map .val), .val (.int x)] ∧ cs.length ≤ 63
theorem any_ok {dl : O} {b : Int} (hd : Dl dl) (hb : 0 < b) (hb2 : b < 18446744073709551616) : wpF m__law_any [dl, .val (.int b)] fun r out => ∃ i dl', r = .ok (.val (.int i)) ∧ out = [some dl', none] ∧ 0 ≤ i ∧ i < b ∧ Dl dl' := by
  obtain ⟨cs, x, rfl, hl⟩ := hd
  refine wpF_dfn (env := [some (.lst [.lst ((cs.map D.int).map .val), .val (.int x)]), some (.val (.int b)), none]) rfl ?_
  unfold b__law_any
  refine wp_sSeq (wp.mono (Q := fun r e => r = .ok .nx ∧ ∃ (cs : List Int), cs.length ≤ 63 ∧ e = [some (.lst [.lst ((cs.map D.int).map .val), .val (.int x)]), some (.val (.int b)), none]) ?_ ?_)
  · refine wp_while (fun n e => ∃ (cs : List Int), n = cs.length ∧ cs.length ≤ 63 ∧ e = [some (.lst [.lst ((cs.map D.int).map .val), .val (.int x)]), some (.val (.int b)), none]) _ ⟨cs, rfl, hl, rfl⟩ ?_
    rintro n e ⟨cs, rfl, hl, rfl⟩
    rcases List.eq_nil_or_concat cs with rfl | ⟨cs, c, rfl⟩
    · walk_at "go"
      · rename_i h
        exact absurd h (by decide)
      · exact ⟨rfl, [], by simp, rfl⟩
    · rw [List.concat_eq_append] at hl ⊢
      walk_at "go"
      · refine kBin2_ok (by walk_at "rd") (by walk_at "rd") op_ix_last ?_
        walk_at "go"
        · (with_reducible apply wp_oPop); exact rfl; exact rfl; exact vals_snoc; exact rfl; (walk_at "set")
          walk_at "go"
          exact ⟨cs.length, by simp, cs, rfl, by simp at hl; omega, rfl⟩
        · exact ⟨rfl, cs ++ [c], hl, rfl⟩
      · exact ⟨rfl, cs ++ [c], hl, rfl⟩
  · rintro r e ⟨rfl, cs, hl, rfl⟩
    walk_at "go"
    · rename_i h
      rcases List.eq_nil_or_concat cs with rfl | ⟨cs, c, rfl⟩
      · exact absurd h (by decide)
      · rw [List.concat_eq_append] at hl ⊢
        (with_reducible apply wp_oPop); exact rfl; exact rfl; exact vals_snoc; exact rfl; (walk_at "set")
        walk_at "go"
        (with_reducible apply kApp_ok); exact rfl; exact rfl; rotate_left; exact rfl; (walk_at "set")
        · walk_at "go"
          refine ⟨_, _, rfl, rfl, Int.emod_nonneg _ (by omega), Int.emod_lt_of_pos _ hb, cs ++ [c / b], x, ?_, ?_⟩
          · show O.lst [O.lst (_ ++ _), _] = _
            rw [vals_snoc]
          · simp at hl ⊢; exact hl
        · simp only [List.length_append, List.length_map] at hl ⊢
          exact Nat.lt_of_lt_of_le (show _ < 64 from by simp at hl; omega) (by decide)
    · refine ⟨_, _, rfl, rfl, Int.emod_nonneg _ (by omega), Int.emod_lt_of_pos _ hb, cs, _, rfl, hl⟩
mutual
def dsz : D → Nat
  | .tup xs => 1 + dszs xs
  | _ => 1
def dszs : List D → Nat
  | [] => 0
  | d :: ds => dsz d + dszs ds
end
theorem dszs_app : ∀ a b : List D, dszs (a ++ b) = dszs a + dszs b
  | [], b => by simp [dszs]
  | d :: a, b => by simp only [List.cons_append, dszs, dszs_app a b]; omega
theorem dsz_pos (d : D) : 0 < dsz d := by cases d <;> simp [dsz] <;> omega
theorem dszs_len : ∀ a : List D, a.length ≤ dszs a
  | [] => by simp [dszs]
  | d :: a => by have := dsz_pos d; have := dszs_len a; simp only [List.length_cons, dszs]; omega
/-- what a law may await -/
def Td : Nat → D → Prop
  | n, d => match d with
    | .non => True
    | .bl _ => True
    | .int _ => True
    | .str x => PyData.strOk x = true
    | .tup ds => match n with
      | 0 => False
      | n + 1 => ∀ d ∈ ds, Td n d
    | _ => False
theorem kind_ok {n : Nat} {d : D} (h : Td n d) (hn : ∀ ds, d ≠ .tup ds) : wpF m__law_is_kind [.val d, .val d] fun r out => r = .ok (.val (.bl true)) ∧ out = [none, none] := by
  refine wpF_dfn (env := [some (.val d), some (.val d)]) rfl ?_
  unfold b__law_is_kind
  unfold Td at h
  cases d with
  | non => walk_at "e"
  | bl b => cases b <;> walk_at "e"
  | int i => walk_at "e"
  | str x => walk_at "e"
  | tup ds => exact absurd rfl (hn ds)
  | _ => exact h.elim
def tw (d : D) : D := .tup [d, d]
theorem same_ok {m : Nat} {d0 : D} (h0 : Td m d0) (hs : dsz d0 ≤ 1000000) : wpF m__law_same [.val d0, .val d0] fun r out => r = .ok (.val (.bl true)) ∧ out = [none, none] := by
  refine wpF_dfn (env := [some (.val d0), some (.val d0), none, none, none]) rfl ?_
  unfold b__law_same
  walk_at "e"
  refine wp_while (fun n e => ∃ (ds : List D) (x y : Option O), n = dszs ds ∧ dszs ds ≤ 1000000 ∧ (∀ d ∈ ds, ∃ m, Td m d) ∧ e = [some (.val d0), some (.val d0), some (.lst ((ds.map tw).map .val)), x, y]) _ ⟨[d0], none, none, rfl, ?_, ?_, rfl⟩ ?_
  · simp only [dszs]; omega
  · intro d hd; simp at hd; subst hd; exact ⟨m, h0⟩
  rintro n e ⟨ds, x, y, rfl, hb, ht, rfl⟩
  rcases List.eq_nil_or_concat ds with rfl | ⟨ds, d, rfl⟩
  · walk_at "e"
  rw [List.concat_eq_append] at hb ht ⊢
  obtain ⟨m, hd⟩ := ht d (by simp)
  have ht' : ∀ d ∈ ds, ∃ m, Td m d := fun e he => ht e (by simp [he])
  rw [dszs_app] at hb
  simp only [dszs] at hb
  walk_at "e"
  refine ⟨fun _ => ?_, fun h => by simp at h⟩
  unfold tw
  by_cases hx : ∃ xs, d = .tup xs
  · obtain ⟨xs, rfl⟩ := hx
    simp only [dsz] at hb
    have hl := dszs_len xs
    have hl2 := dszs_len ds
    have hx : ∀ d ∈ xs, ∃ m, Td m d := by
      unfold Td at hd
      cases m with
      | zero => exact hd.elim
      | succ m => exact fun d h => ⟨m, hd d h⟩
    walk_at "e"
    refine ⟨fun h => absurd rfl h, fun _ => ?_⟩
    rw [zip_self, show (List.map (fun d => D.tup [d, d]) ds) = ds.map tw from rfl, show (List.map (fun d => D.tup [d, d]) xs) = xs.map tw from rfl]
    rw [dAddO_lst (by rw [List.length_map, List.length_map, e_size]; omega)]
    walk_at "e"
    refine ⟨_, ?_, ds ++ xs, some (.val (.tup xs)), some (.val (.tup xs)), rfl, ?_, ?_, ?_⟩
    · rw [dszs_app, dszs_app]; simp only [dszs, dsz]; omega
    · rw [dszs_app]; omega
    · intro d h
      rcases List.mem_append.mp h with h | h
      · exact ht' d h
      · exact hx d h
    · rw [show (List.map (fun d => D.tup [d, d]) (ds ++ xs)) = (ds ++ xs).map tw from rfl]; simp only [List.map_append]
  · have hk := kind_ok hd fun xs e => hx ⟨xs, e⟩
    have hp := dsz_pos d
    unfold Td at hd
    have fin : (∃ m, m < dszs (ds ++ [d]) ∧ ∃ ds_1 x y, m = dszs ds_1 ∧ dszs ds_1 ≤ 1000000 ∧ (∀ (d : D), d ∈ ds_1 → ∃ m, Td m d) ∧
        [some (O.val d0), some (O.val d0), some (O.lst (List.map O.val (List.map (fun d => D.tup [d, d]) ds))), some (.val d), some (.val d)] = [some (O.val d0), some (O.val d0), some (O.lst (List.map O.val (List.map (fun d => D.tup [d, d]) ds_1))), x, y]) :=
      ⟨_, by rw [dszs_app]; simp only [dszs]; omega, ds, _, _, rfl, by omega, ht', rfl⟩
    cases d with
    | tup xs => exact absurd ⟨xs, rfl⟩ hx
    | int i =>
      walk_at "e"
      refine wpF.mono hk ?_
      rintro r out ⟨rfl, rfl⟩
      walk_at "e"
      exact fin
    | non =>
      walk_at "e"
      refine wpF.mono hk ?_
      rintro r out ⟨rfl, rfl⟩
      walk_at "e"
      exact fin
    | bl b =>
      walk_at "e"
      refine wpF.mono hk ?_
      rintro r out ⟨rfl, rfl⟩
      walk_at "e"
      exact fin
    | str b =>
      walk_at "e"
      refine wpF.mono hk ?_
      rintro r out ⟨rfl, rfl⟩
      walk_at "e"
      exact fin
    | _ => exact hd.elim
def Good (d : D) : Prop := (∃ m, Td m d) ∧ dsz d ≤ 1000000
theorem all_ok {ds : List D} (h : ∀ d ∈ ds, Good d) (hl : ds.length ≤ 100000) : wpF m__law_all [.val (.lst (ds.map tw))] fun r out => r = .ok (.val (.bl true)) ∧ out = [none] := by
  refine wpF_dfn (env := [some (.val (.lst (ds.map tw))), none, none]) rfl ?_
  unfold b__law_all
  walk_at "e"
  refine kLc_ok (fun i acc e => acc = [] ∧ e = [some (.val (.lst (ds.map tw))), none, none]) (by rw [List.length_map, e_size]; omega) (by walk_at "wip") ⟨rfl, rfl⟩ ?_ ?_
  · rintro i d acc e hd ⟨rfl, rfl⟩
    rw [List.getElem?_map] at hd
    cases q : ds[i]? with
    | none => rw [q] at hd; cases hd
    | some a =>
      rw [q] at hd
      cases hd
      obtain ⟨⟨m, hm⟩, hs⟩ := h a (List.mem_of_getElem? q)
      unfold tw
      walk_at "e"
      refine wpF.mono (same_ok hm hs) ?_
      rintro r out ⟨rfl, rfl⟩
      walk_at "e"
  · rintro os e ⟨rfl, rfl⟩
    refine ⟨_, by walk_at "bck", ?_⟩
    walk_at "e"
theorem two_ok {t : Nat} (ht : t ≤ 1000) : wpF m__law_two [.val (.int (t : Int))] fun r out => r = .ok (.val (.int ((2 ^ t : Nat) : Int))) ∧ out = [none] := by
  refine wpF_dfn (env := [some (.val (.int (t : Int))), none, none]) rfl ?_
  unfold b__law_two
  walk_at "e"
  refine wp_forF (fun i e => ∃ v, e = [some (.val (.int (t : Int))), some (.val (.int ((2 ^ i : Nat) : Int))), v]) _ ⟨none, rfl⟩ ?_ ?_
  · rintro i d e hi ⟨v, rfl⟩
    walk_at "e"
    refine ⟨some (.val d), ?_⟩
    rw [Nat.pow_succ, Nat.mul_comm]; push_cast; rfl
  · rintro e ⟨v, rfl⟩
    walk_at "e"
    rw [range_len]
theorem two_eq {t : Nat} (ht : t ≤ 1000) (Q : Kt O) : wpF m__law_two [.val (.int (t : Int))] Q = Q (.ok (.val (.int ((2 ^ t : Nat) : Int)))) [none] := eqF (two_ok ht) Q
theorem two_pos (t : Nat) : (0 : Int) < ((2 ^ t : Nat) : Int) := by have := Nat.two_pow_pos t; omega
theorem two_lt {t : Nat} (ht : t ≤ 60) : ((2 ^ t : Nat) : Int) < 18446744073709551616 := by have : 2 ^ t ≤ 2 ^ 60 := Nat.pow_le_pow_right (by decide) ht; omega
theorem bit_cast (b t : Nat) : ((b : Int) / ((2 ^ t : Nat) : Int)) % 2 = ((b / 2 ^ t % 2 : Nat) : Int) := by push_cast; rfl
theorem bit1 {b t : Nat} : (((b : Int) / ((2 ^ t : Nat) : Int)) % 2 = 1) ↔ b.testBit t = true := by
  rw [bit_cast, ← has_bit]; omega
theorem bit0 {b t : Nat} : (((b : Int) / ((2 ^ t : Nat) : Int)) % 2 = 0) ↔ b.testBit t = false := by
  rw [bit_cast, ← Bool.not_eq_true, ← has_bit]
  have := Nat.mod_two_eq_zero_or_one (b / 2 ^ t)
  omega
theorem dbit1 {b t : Nat} : decide (((b : Int) / ((2 ^ t : Nat) : Int)) % 2 = 1) = b.testBit t := by
  rw [Bool.eq_iff_iff, decide_eq_true_iff, bit1]
theorem bits_ok {b : Nat} (hb : b < 2 ^ 12) : wpF m__law_bits [.val (.int (b : Int))] fun r out => r = .ok (.val (bD b)) ∧ out = [none] := by
  refine wpF_dfn (env := [some (.val (.int (b : Int))), none]) rfl ?_
  unfold b__law_bits
  walk_at "e"
  rw [range_dn]
  refine kLc_pure (fun i => b.testBit i) dn (by rw [e_size, List.length_range]; omega) (by walk_at "wip") (by walk_at "bck") ?_ ?_
  · intro a ha acc
    have := List.mem_range.mp ha
    have h2 := two_pos a
    have h3 := two_lt (t := a) (by omega)
    walk_at "e"
    rw [two_eq (by omega)]
    walk_at "e"
    rw [bit1]
    cases b.testBit a <;> simp
  · walk_at "e"
    rw [lob_range (by decide) hb]
theorem bits_eq {b : Nat} (hb : b < 2 ^ 12) (Q : Kt O) : wpF m__law_bits [.val (.int (b : Int))] Q = Q (.ok (.val (bD b))) [none] := eqF (bits_ok hb) Q
theorem holds_ok {b : Nat} {l : List Nat} (hl : l.length ≤ 1000) (hi : ∀ i ∈ l, i ≤ 60) : wpF m__law_holds [.val (.int (b : Int)), .val (lotD l)] fun r out => r = .ok (.val (.bl (l.all fun i => b.testBit i))) ∧ out = [none, none] := by
  refine wpF_dfn (env := [some (.val (.int (b : Int))), some (.val (lotD l)), none]) rfl ?_
  unfold b__law_holds
  walk_at "e"
  refine kLc_pure (fun i => !b.testBit i) dn (by rw [e_size]; omega) (by walk_at "wip") (by walk_at "bck") ?_ ?_
  · intro a ha acc
    have := hi a ha
    have h2 := two_pos a
    have h3 := two_lt (t := a) (by omega)
    walk_at "e"
    rw [two_eq (by omega)]
    walk_at "e"
    rw [bit0]
    cases b.testBit a <;> simp
  · walk_at "e"
    congr 4
    rw [Bool.eq_iff_iff, decide_eq_true_iff, List.all_eq_true]
    have e1 : ∀ k : List Nat, ((k.length : Int) = 0) ↔ k = [] := fun k => by rw [← List.length_eq_zero_iff]; omega
    rw [e1, List.filter_eq_nil_iff]
    simp
theorem holds_eq {b : Nat} {l : List Nat} (hl : l.length ≤ 1000) (hi : ∀ i ∈ l, i ≤ 60) (Q : Kt O) : wpF m__law_holds [.val (.int (b : Int)), .val (lotD l)] Q = Q (.ok (.val (.bl (l.all fun i => b.testBit i)))) [none, none] := eqF (holds_ok hl hi) Q
abbrev lotsLD (l : List (List Nat)) : D := .lst (l.map lotD)
abbrev frameD (ws : List Nat) (ls : Lots) : D := .dK [.inr "weights", .inr "lots"] [.lst (ws.map dn), .lst (ls.map lotsLD)]
theorem f_w {ws : List Nat} {ls : Lots} : dIxA (frameD ws ls) (.str "weights") = some (.lst (ws.map dn)) := rfl
theorem f_l {ws : List Nat} {ls : Lots} : dIxA (frameD ws ls) (.str "lots") = some (.lst (ls.map lotsLD)) := rfl
theorem many_ok {ws : List Nat} {ls : Lots} (hw : ws.length ≤ 1000) : wpF m__law_many [.val (frameD ws ls)] fun r out => r = .ok (.val (.int ((ws.length : Nat) : Int))) ∧ out = [none] := by
  refine wpF_dfn (env := [some (.val (frameD ws ls))]) rfl ?_
  unfold b__law_many
  walk_at "e"
  rw [f_w]
  walk_at "e"
theorem many_eq {n : Nat} {ns : List Str} {ws : List Nat} {ls : Lots} (h : Wb n ns ws ls) (Q : Kt O) : wpF m__law_many [.val (frameD ws ls)] Q = Q (.ok (.val (.int (n : Int)))) [none] := by
  have := h.w1
  have := h.hn
  rw [eqF (many_ok (by omega)), h.w1]
theorem frame_get {ls : Lots} {t : Nat} (h : t < ls.length) : (ls.map lotsLD)[t]? = some (lotsLD ls[t]) := by rw [List.getElem?_map, List.getElem?_eq_getElem h]; rfl
theorem len_pos_any {α : Type} {p : α → Bool} {l : List α} : decide (0 < ((l.filter p).length : Int)) = l.any p := by
  rw [← filter_ne, Bool.eq_iff_iff, decide_eq_true_iff, decide_eq_true_iff]
  exact ⟨fun h z => by rw [z] at h; simp at h, fun h => by have := List.length_pos_iff.mpr h; omega⟩
theorem borne_ok {n : Nat} {ns : List Str} {ws : List Nat} {ls : Lots} (h : Wb n ns ws ls) {b t : Nat} (ht : t < n) : wpF m__law_borne [.val (frameD ws ls), .val (.int (b : Int)), .val (.int (t : Int))] fun r out => r = .ok (.val (.bl (isLet ls b t))) ∧ out = [none, none, none] := by
  refine wpF_dfn (env := [some (.val (frameD ws ls)), some (.val (.int (b : Int))), some (.val (.int (t : Int))), none]) rfl ?_
  unfold b__law_borne
  have hl := h.l1
  have hn := h.hn
  walk_at "e"
  rw [f_l]
  walk_at "e"
  rw [frame_get (by omega)]
  walk_at "e"
  obtain ⟨g1, g2⟩ := h.ll t ls[t] (List.getElem?_eq_getElem (by omega))
  refine kLc_pure (fun l => l.all fun i => b.testBit i) lotD (by rw [e_size]; omega) (by walk_at "wip") (by walk_at "bck") ?_ ?_
  · intro a ha acc
    obtain ⟨g3, g4⟩ := g2 a ha
    walk_at "e"
    rw [holds_eq (by omega) (fun i hi => by have := g4 i hi; omega)]
    walk_at "e"
    by_cases q : (a.all fun i => b.testBit i) = true
    · rw [q]; walk_at "e"
    · rw [Bool.not_eq_true] at q; rw [q]; walk_at "e"; simp
  · walk_at "e"
    rw [isLet_eq (by omega), len_pos_any]
theorem borne_eq {n : Nat} {ns : List Str} {ws : List Nat} {ls : Lots} (h : Wb n ns ws ls) {b t : Nat} (ht : t < n) (Q : Kt O) : wpF m__law_borne [.val (frameD ws ls), .val (.int (b : Int)), .val (.int (t : Int))] Q = Q (.ok (.val (.bl (isLet ls b t)))) [none, none, none] := eqF (borne_ok h ht) Q
theorem flip_ok {b t : Nat} (ht : t ≤ 16) : wpF m__law_flip [.val (.int (b : Int)), .val (.int (t : Int))] fun r out => r = .ok (.val (.int ((flp b t : Nat) : Int))) ∧ out = [none, none] := by
  refine wpF_dfn (env := [some (.val (.int (b : Int))), some (.val (.int (t : Int))), none]) rfl ?_
  unfold b__law_flip
  have h2 := two_pos t
  have h3 := two_lt (t := t) (by omega)
  walk_at "e"
  rw [two_eq (by omega)]
  walk_at "e"
  rw [bit1]
  refine ⟨fun q => ?_, fun q => ?_⟩
  · have := flp_sub q
    congr 4
    omega
  · rw [Bool.not_eq_true] at q
    have := flp_add t b q
    congr 4
    omega
theorem flip_eq {b t : Nat} (ht : t ≤ 16) (Q : Kt O) : wpF m__law_flip [.val (.int (b : Int)), .val (.int (t : Int))] Q = Q (.ok (.val (.int ((flp b t : Nat) : Int)))) [none, none] := eqF (flip_ok ht) Q
theorem is_within_ok {l S : List Nat} (hl : l.length ≤ 1000) : wpF m_is_within [.val (lotD l), .val (lotD S)] fun r out => r = .ok (.val (.bl (l.all fun i => decide (i ∈ S)))) ∧ out = [none, none] := by
  refine wpF_dfn (env := [some (.val (lotD l)), some (.val (lotD S)), none]) rfl ?_
  unfold b_is_within
  walk_at "e"
  refine kLc_pure (fun i => decide (i ∉ S)) dn (by rw [e_size]; omega) (by walk_at "wip") (by walk_at "bck") ?_ ?_
  · intro a ha acc
    walk_at "e"
    by_cases h : a ∈ S <;> simp [h]
  · walk_at "e"
    rw [eq_nl0]
    walk_at "e"
    congr 4
    rw [Bool.eq_iff_iff, decide_eq_true_iff, List.filter_eq_nil_iff, List.all_eq_true]
    simp
theorem is_within_eq {l S : List Nat} (hl : l.length ≤ 1000) (Q : Kt O) : wpF m_is_within [.val (lotD l), .val (lotD S)] Q = Q (.ok (.val (.bl (l.all fun i => decide (i ∈ S))))) [none, none] := eqF (is_within_ok hl) Q
theorem lot_of_ok {xs : List Int} (hl : xs.length ≤ 1000) : wpF m_lot_of_words [.val (.tup (xs.map .int))] fun r out => r = .ok (.val (.tup ((srtUI xs).map .int))) ∧ out = [none] := by
  have hu : ∀ Q : Kt O, wpF m_unlike [.val (.tup (xs.map .int))] Q = Q (.ok (.lst (((ddF xs).map .int).map .val))) [none] := by
    refine eqF ?_
    refine wpF_dfn (env := [some (.val (.tup (xs.map .int))), none]) rfl ?_
    unfold b_unlike
    have h2 : xs.length < sizeLine := by rw [e_size]; omega
    walk_at "e"
    exact h2
  refine wpF_dfn (env := [some (.val (.tup (xs.map .int)))]) rfl ?_
  unfold b_lot_of_words
  walk_at "e"
  rw [hu]
  walk_at "e"
  rw [srt_ddF]
theorem with_thing_ok {b t : Nat} (hb : b < 2 ^ 16) (ht : t < 16) (h : b.testBit t = false) : wpF m_with_thing [.val (lotD (lob b)), .val (.int (t : Int))] fun r out => r = .ok (.val (lotD (lob (flp b t)))) ∧ out = [none, none] := by
  refine wpF_dfn (env := [some (.val (lotD (lob b))), some (.val (.int (t : Int)))]) rfl ?_
  unfold b_with_thing
  have hl := lob_len b
  walk_at "e"
  rw [add_nat1 (by rw [e_size]; omega)]
  walk_at "e"
  rw [dn_map, eqF (lot_of_ok (by simp; omega)), lob_add hb ht h, ← dn_map]
  walk_at "e"
theorem without_thing_ok {b t : Nat} (hb : b < 2 ^ 16) (ht : t < 16) (h : b.testBit t = true) : wpF m_without_thing [.val (lotD (lob b)), .val (.int (t : Int))] fun r out => r = .ok (.val (lotD (lob (flp b t)))) ∧ out = [none, none] := by
  refine wpF_dfn (env := [some (.val (lotD (lob b))), some (.val (.int (t : Int))), none]) rfl ?_
  unfold b_without_thing
  have hl := lob_len b
  walk_at "e"
  refine kLc_pure (fun i => decide (i ≠ t)) dn (by rw [e_size]; omega) (by walk_at "wip") (by walk_at "bck") ?_ ?_
  · intro a ha acc
    walk_at "e"
    by_cases h : a = t
    · subst h; simp
    · simp [h]; omega
  · walk_at "e"
    rw [lob_drop hb ht h]
theorem turned_ok {b t : Nat} (hb : b < 2 ^ 16) (ht : t < 16) : wpF m_turned_thing [.val (lotD (lob b)), .val (.int (t : Int))] fun r out => r = .ok (.val (lotD (lob (flp b t)))) ∧ out = [none, none] := by
  refine wpF_dfn (env := [some (.val (lotD (lob b))), some (.val (.int (t : Int)))]) rfl ?_
  unfold b_turned_thing
  walk_at "e"
  refine ⟨fun h => ?_, fun h => ?_⟩
  · rw [mem_lob hb] at h
    rw [eqF (without_thing_ok hb ht h)]
    walk_at "e"
  · rw [mem_lob hb, Bool.not_eq_true] at h
    rw [eqF (with_thing_ok hb ht h)]
    walk_at "e"
theorem is_borne_ok {n : Nat} {ns : List Str} {ws : List Nat} {ls : Lots} (h : Wb n ns ws ls) {b t : Nat} (hb : b < 2 ^ 16) (ht : t < n) : wpF m_is_borne [.val (webD ns ws ls), .val (lotD (lob b)), .val (.int (t : Int))] fun r out => r = .ok (.val (.bl (isLet ls b t))) ∧ out = [none, none, none] := by
  refine wpF_dfn (env := [some (.val (webD ns ws ls)), some (.val (lotD (lob b))), some (.val (.int (t : Int))), none]) rfl ?_
  unfold b_is_borne
  have hl := h.l1
  walk_at "e"
  rw [w_l]
  walk_at "e"
  rw [web_get (by omega)]
  walk_at "e"
  obtain ⟨g1, g2⟩ := h.ll t ls[t] (List.getElem?_eq_getElem (by omega))
  refine kLc_pure (fun l => l.all fun i => b.testBit i) lotD (by rw [e_size]; omega) (by walk_at "wip") (by walk_at "bck") ?_ ?_
  · intro a ha acc
    have := (g2 a ha).1
    walk_at "e"
    rw [is_within_eq (by omega), all_bits hb]
    walk_at "e"
    by_cases q : (a.all fun i => b.testBit i) = true
    · rw [q]; walk_at "e"
    · rw [Bool.not_eq_true] at q; rw [q]; walk_at "e"; simp
  · walk_at "e"
    rw [ne_ll0]
    walk_at "e"
    rw [isLet_eq (by omega), filter_ne]
theorem is_borne_eq {n : Nat} {ns : List Str} {ws : List Nat} {ls : Lots} (h : Wb n ns ws ls) {b t : Nat} (hb : b < 2 ^ 16) (ht : t < n) (Q : Kt O) : wpF m_is_borne [.val (webD ns ws ls), .val (lotD (lob b)), .val (.int (t : Int))] Q = Q (.ok (.val (.bl (isLet ls b t)))) [none, none, none] := eqF (is_borne_ok h hb ht) Q
theorem stepped_ok {n : Nat} {ns : List Str} {ws : List Nat} {ls : Lots} (h : Wb n ns ws ls) {b t : Nat} (hb : b < 2 ^ 16) (ht : t < n) : wpF m_stepped_standings [.val (webD ns ws ls), .val (lotD (lob b)), .val (.int (t : Int))] fun r out => r = .ok (.val (ifD (isLet ls b t) (lotD (lob (flp b t))))) ∧ out = [none, none, none] := by
  refine wpF_dfn (env := [some (.val (webD ns ws ls)), some (.val (lotD (lob b))), some (.val (.int (t : Int)))]) rfl ?_
  unfold b_stepped_standings
  have := h.hn
  walk_at "e"
  rw [is_borne_eq h hb ht]
  walk_at "e"
  cases q : isLet ls b t
  · walk_at "e"; rfl
  · walk_at "e"
    rw [eqF (turned_ok hb (by omega))]
    walk_at "e"; rfl
theorem let_at_ok {n : Nat} {ns : List Str} {ws : List Nat} {ls : Lots} (h : Wb n ns ws ls) {b : Nat} (hb : b < 2 ^ 16) : wpF m_let_at [.val (webD ns ws ls), .val (lotD (lob b))] fun r out => r = .ok (.val (lotD ((List.range n).filter fun t => isLet ls b t))) ∧ out = [none, none] := by
  refine wpF_dfn (env := [some (.val (webD ns ws ls)), some (.val (lotD (lob b))), none]) rfl ?_
  unfold b_let_at
  have := h.hn
  have hl := h.n1
  walk_at "e"
  rw [w_n]
  walk_at "e"
  rw [hl, range_dn]
  refine kLc_pure (fun t => isLet ls b t) dn (by rw [e_size, List.length_range]; omega) (by walk_at "wip") (by walk_at "bck") ?_ ?_
  · intro t ht acc
    have ht := List.mem_range.mp ht
    walk_at "e"
    rw [is_borne_eq h hb ht]
    walk_at "e"
    cases q : isLet ls b t
    · walk_at "e"; simp
    · walk_at "e"
  · walk_at "e"
theorem walked_ok {n : Nat} {ns : List Str} {ws : List Nat} {ls : Lots} (h : Wb n ns ws ls) {b : Nat} {s : List Nat} (hb : b < 2 ^ n) (hs : ∀ t ∈ s, t < n) (hl : s.length ≤ 1000) : wpF m_walked [.val (webD ns ws ls), .val (bD b), .val (lotD s)] fun r out => r = .ok (.val (ifD (oks ls b s) (pathD (scan b s)))) ∧ out = [none, none, none] := by
  refine wpF_dfn (env := [some (.val (webD ns ws ls)), some (.val (bD b)), some (.val (lotD s)), none, none, none]) rfl ?_
  unfold b_walked
  have hn := h.hn
  walk_at "e"
  refine wp_forF (fun i e => oks ls b (s.take i) = true ∧ ∃ v, e = [some (.val (webD ns ws ls)), some (.val (bD b)), some (.val (lotD s)), some (.val (bD (fin b (s.take i)))), some (.lst (((scan b (s.take i)).map bD).map .val)), v]) _ ⟨rfl, none, rfl⟩ ?_ ?_
  · rintro i d e hi ⟨hok, v, rfl⟩
    obtain ⟨t, rfl, ht⟩ := nats_get hi
    have htn := hs t (List.mem_of_getElem? ht)
    have hbi := fin_lt b (s.take i) hb fun u hu => hs u (List.mem_of_mem_take hu)
    have hsn := snoc_take ht
    have hil : i < s.length := by
      rcases Nat.lt_or_ge i s.length with q | q
      · exact q
      · rw [List.getElem?_eq_none q] at ht; cases ht
    have hsl : (scan b (s.take i)).length < sizeLine := by rw [scan_len, List.length_take, e_size]; omega
    walk_at "e"
    rw [eqF (stepped_ok h (bits_lt hn hbi) htn)]
    cases q : isLet ls (fin b (s.take i)) t
    · have : oks ls b s = false := take_ok (i := i + 1) (by rw [hsn, oks_snoc, hok, q]; rfl)
      rw [this, ifD_f, ifD_f]
      walk_at "e"
    · rw [ifD_t]
      rw [hsn, oks_snoc, hok, q, fin_snoc, scan_snoc, map_snoc, map_snoc]
      walk_at "e"
      refine ⟨hsl, rfl, _, rfl⟩
  · rintro e ⟨hok, v, rfl⟩
    rw [List.length_map, List.take_length] at hok ⊢
    rw [hok, ifD_t]
    walk_at "e"
theorem walked_eq {n : Nat} {ns : List Str} {ws : List Nat} {ls : Lots} (h : Wb n ns ws ls) {b : Nat} {s : List Nat} (hb : b < 2 ^ n) (hs : ∀ t ∈ s, t < n) (hl : s.length ≤ 1000) (Q : Kt O) : wpF m_walked [.val (webD ns ws ls), .val (bD b), .val (lotD s)] Q = Q (.ok (.val (ifD (oks ls b s) (pathD (scan b s))))) [none, none, none] := eqF (walked_ok h hb hs hl) Q
def evT (e : Int) : Nat := if e < 0 then (-1 - e).toNat else e.toNat
def evL (ls : Lots) (b : Nat) (e : Int) : Bool := if e < 0 then b.testBit (evT e) else isLet ls b (evT e)
def evs (ls : Lots) : Nat → List Int → Bool
  | _, [] => true
  | b, e :: s => evL ls b e && evs ls (flp b (evT e)) s
abbrev finE (b : Nat) (s : List Int) : Nat := fin b (s.map evT)
abbrev scanE (b : Nat) (s : List Int) : List Nat := scan b (s.map evT)
theorem evs_app (ls : Lots) : ∀ (b : Nat) (s r : List Int), evs ls b (s ++ r) = (evs ls b s && evs ls (finE b s) r)
  | b, [], r => by simp [evs, fin]
  | b, t :: s, r => by
    show (evL ls b t && evs ls (flp b (evT t)) (s ++ r)) = (evL ls b t && evs ls (flp b (evT t)) s && evs ls (finE (flp b (evT t)) s) r)
    rw [evs_app ls _ s r, Bool.and_assoc]
theorem evs_snoc (ls : Lots) (b : Nat) (s : List Int) (t : Int) : evs ls b (s ++ [t]) = (evs ls b s && evL ls (finE b s) t) := by
  rw [evs_app]; simp [evs]
theorem evs_take {ls : Lots} {b : Nat} {s : List Int} {i : Nat} (h : evs ls b (s.take i) = false) : evs ls b s = false := by
  have := evs_app ls b (s.take i) (s.drop i)
  rw [List.take_append_drop, h] at this
  exact this
theorem evs_steps {ls : Lots} : ∀ {b : Nat} {s : List Int}, (∀ e ∈ s, 0 ≤ e) → evs ls b s = oks ls b (s.map evT)
  | b, [], _ => rfl
  | b, e :: s, h => by
    have h1 := h e (by simp)
    show (evL ls b e && evs ls _ s) = (isLet ls b (evT e) && _)
    rw [evs_steps fun x hx => h x (by simp [hx])]
    unfold evL
    rw [if_neg (by omega)]
/-- events of a web of n things -/
def EvB (n : Nat) (e : Int) : Prop := -(n : Int) ≤ e ∧ e < n
theorem EvB.lt {n : Nat} {e : Int} (h : EvB n e) : evT e < n := by
  unfold evT; unfold EvB at h
  split <;> omega
theorem evT_neg {e : Int} (h : e < 0) : -1 - e = ((evT e : Nat) : Int) := by unfold evT; rw [if_pos h]; omega
theorem evT_pos {e : Int} (h : ¬ e < 0) : e = ((evT e : Nat) : Int) := by unfold evT; rw [if_neg h]; omega
abbrev evD (s : List Int) : D := .tup (s.map .int)
theorem evs_get {l : List Int} {i : Nat} {d : D} (h : (l.map D.int)[i]? = some d) : ∃ c, d = .int c ∧ l[i]? = some c := by
  rw [List.getElem?_map] at h
  cases q : l[i]? with
  | none => rw [q] at h; cases h
  | some c => rw [q] at h; cases h; exact ⟨c, rfl, rfl⟩
theorem map_take {α β : Type} {f : α → β} {l : List α} {i : Nat} : (l.take i).map f = (l.map f).take i := by rw [List.map_take]
theorem srtN_add {b t : Nat} (hb : b < 2 ^ 16) (ht : t < 16) (h : b.testBit t = false) : srtN (lob b ++ [t]) = lob (flp b t) := by
  unfold srtN
  rw [lob_add hb ht h, nat_int]
theorem less_one_ok {b t : Nat} (hb : b < 2 ^ 16) (ht : t < 16) (h : b.testBit t = true) : wpF m_less_one [.val (bD b), .val (.int (t : Int))] fun r out => r = .ok (.val (bD (flp b t))) ∧ out = [none, none] := by
  refine wpF_dfn (env := [some (.val (bD b)), some (.val (.int (t : Int))), none]) rfl ?_
  unfold b_less_one
  have hl := lob_len b
  walk_at "e"
  refine kLc_pure (fun i => decide (i ≠ t)) dn (by rw [e_size]; omega) (by walk_at "wip") (by walk_at "bck") ?_ ?_
  · intro a ha acc
    walk_at "e"
    by_cases h : a = t
    · subst h; simp
    · simp [h]; omega
  · walk_at "e"
    rw [lob_drop hb ht h]
theorem joined_ok {b t : Nat} (hb : b < 2 ^ 16) (ht : t < 16) (h : b.testBit t = false) : wpF m_joined [.val (bD b), .val (.tup [.int (t : Int)])] fun r out => r = .ok (.val (bD (flp b t))) ∧ out = [none, none] := by
  refine wpF_dfn (env := [some (.val (bD b)), some (.val (.tup [.int (t : Int)]))]) rfl ?_
  unfold b_joined
  have hl := lob_len b
  have hlo : ∀ l : List Nat, l.length ≤ 1000 → ∀ Q : Kt O, wpF m_lot_of_lots [.val (.lst (l.map dn))] Q = Q (.ok (.val (lotD (srtN l)))) [none] := by
    intro l hl
    refine eqF ?_
    refine wpF_dfn (env := [some (.val (.lst (l.map dn)))]) rfl ?_
    unfold b_lot_of_lots
    walk_at "e"
    rw [srtset_nats (by omega)]
    walk_at "e"
  walk_at "e"
  rw [listA_t]
  walk_at "e"
  rw [listA_t]
  walk_at "e"
  rw [x_addl (by rw [List.length_map, e_size, List.length_singleton]; omega)]
  walk_at "e"
  rw [show List.map dn (lob b) ++ [D.int (t : Int)] = (lob b ++ [t]).map dn by rw [List.map_append]; rfl, hlo _ (by rw [List.length_append, List.length_singleton]; omega), srtN_add hb ht h]
  walk_at "e"
theorem stepped_w_ok {b t : Nat} (hb : b < 2 ^ 16) (ht : t < 16) : wpF m_stepped_wipegraph [.val (bD b), .val (.int (t : Int))] fun r out => r = .ok (.val (bD (flp b t))) ∧ out = [none, none] := by
  refine wpF_dfn (env := [some (.val (bD b)), some (.val (.int (t : Int)))]) rfl ?_
  unfold b_stepped_wipegraph
  walk_at "e"
  refine ⟨fun h => ?_, fun h => ?_⟩
  · rw [mem_lob hb] at h
    rw [eqF (less_one_ok hb ht h)]
    walk_at "e"
  · rw [mem_lob hb, Bool.not_eq_true] at h
    rw [eqF (joined_ok hb ht h)]
    walk_at "e"
theorem behind_event_ok {n : Nat} {ns : List Str} {ws : List Nat} {ls : Lots} (h : Wb n ns ws ls) {b : Nat} {e : Int} (hb : b < 2 ^ n) (he : EvB n e) : wpF m_behind_event [.val (webD ns ws ls), .val (bD b), .val (.int e)] fun r out => r = .ok (.val (ifD (evL ls b e) (bD (flp b (evT e))))) ∧ out = [none, none, none] := by
  refine wpF_dfn (env := [some (.val (webD ns ws ls)), some (.val (bD b)), some (.val (.int e)), none]) rfl ?_
  unfold b_behind_event
  have hn := h.hn
  have hb16 := bits_lt hn hb
  have hlt := he.lt
  by_cases z : e < 0
  · have e1 := evT_neg z
    have e2 : evL ls b e = b.testBit (evT e) := by unfold evL; rw [if_pos z]
    rw [e2]
    walk_at "e"
    simp only [z, true_imp_iff, not_true_eq_false, false_imp_iff, and_true]
    rw [e1]
    walk_at "e"
    rw [mem_lob hb16]
    refine ⟨fun q => ?_, fun q => ?_⟩
    · rw [eqF (less_one_ok hb16 (by omega) q), q, ifD_t]
      walk_at "e"
    · rw [Bool.not_eq_true] at q
      rw [q, ifD_f]
  · have e1 := evT_pos z
    have e2 : evL ls b e = isLet ls b (evT e) := by unfold evL; rw [if_neg z]
    rw [e2]
    generalize evT e = t at *
    subst e1
    walk_at "e"
    rw [eqF (let_at_ok h hb16)]
    walk_at "e"
    have e3 : t ∈ (List.range n).filter (fun t => isLet ls b t) ↔ isLet ls b t = true := by
      rw [List.mem_filter, List.mem_range]
      exact ⟨fun q => q.2, fun q => ⟨hlt, q⟩⟩
    rw [e3]
    refine ⟨fun q => by omega, fun _ => ⟨fun q => ?_, fun q => ?_⟩⟩
    · rw [eqF (stepped_w_ok hb16 (by omega)), q, ifD_t]
      walk_at "e"
    · rw [Bool.not_eq_true] at q
      rw [q, ifD_f]
theorem wiped_walk_ok {n : Nat} {ns : List Str} {ws : List Nat} {ls : Lots} (h : Wb n ns ws ls) {b : Nat} {s : List Int} (hb : b < 2 ^ n) (hs : ∀ e ∈ s, EvB n e) (hl : s.length ≤ 1000) : wpF m_wiped_walk [.val (webD ns ws ls), .val (bD b), .val (evD s)] fun r out => r = .ok (.val (ifD (evs ls b s) (pathD (scanE b s)))) ∧ out = [none, none, none] := by
  refine wpF_dfn (env := [some (.val (webD ns ws ls)), some (.val (bD b)), some (.val (evD s)), none, none, none]) rfl ?_
  unfold b_wiped_walk
  have hn := h.hn
  walk_at "e"
  refine wp_forF (fun i e => evs ls b (s.take i) = true ∧ ∃ u v, e = [some (.val (webD ns ws ls)), some (.val (bD b)), some (.val (evD s)), some (.lst (((scanE b (s.take i)).map bD).map .val)), u, v]) _ ⟨rfl, none, none, rfl⟩ ?_ ?_
  · rintro i d e hi ⟨hok, u, v, rfl⟩
    obtain ⟨t, rfl, ht⟩ := evs_get hi
    have htn := hs t (List.mem_of_getElem? ht)
    have hbi : finE b (s.take i) < 2 ^ n := fin_lt b _ hb fun u hu => by
      obtain ⟨x, hx, rfl⟩ := List.mem_map.mp hu
      exact (hs x (List.mem_of_mem_take hx)).lt
    have hsn := snoc_take ht
    have hsl : (scanE b (s.take i)).length < sizeLine := by rw [scan_len, List.length_map, List.length_take, e_size]; omega
    have hla : dIx (.lst ((scanE b (s.take i)).map bD)) (.int (-1)) = some (bD (finE b (s.take i))) := by rw [ix_lm1, List.getLast?_map, scan_last]; rfl
    walk_at "e"
    rw [hla]
    walk_at "e"
    rw [eqF (behind_event_ok h hbi htn)]
    cases q : evL ls (finE b (s.take i)) t
    · have : evs ls b s = false := evs_take (i := i + 1) (by rw [hsn, evs_snoc, hok, q]; rfl)
      rw [this, ifD_f, ifD_f]
      walk_at "e"
    · rw [ifD_t]
      rw [hsn, evs_snoc, hok, q]
      have e4 : scanE b (s.take i ++ [t]) = scanE b (s.take i) ++ [flp (finE b (s.take i)) (evT t)] := by
        show scan b ((s.take i ++ [t]).map evT) = _
        rw [map_snoc, scan_snoc]
      rw [e4, map_snoc, map_snoc]
      walk_at "e"
      exact ⟨hsl, rfl, _, _, rfl⟩
  · rintro e ⟨hok, u, v, rfl⟩
    rw [List.length_map, List.take_length] at hok ⊢
    rw [hok, ifD_t]
    walk_at "e"
theorem wiped_walk_eq {n : Nat} {ns : List Str} {ws : List Nat} {ls : Lots} (h : Wb n ns ws ls) {b : Nat} {s : List Int} (hb : b < 2 ^ n) (hs : ∀ e ∈ s, EvB n e) (hl : s.length ≤ 1000) (Q : Kt O) : wpF m_wiped_walk [.val (webD ns ws ls), .val (bD b), .val (evD s)] Q = Q (.ok (.val (ifD (evs ls b s) (pathD (scanE b s))))) [none, none, none] := eqF (wiped_walk_ok h hb hs hl) Q
theorem wipes_in_ok {s : List Int} (hl : s.length ≤ 1000) : wpF m_wipes_in [.val (evD s)] fun r out => r = .ok (.val (.int (((s.filter fun e => decide (e < 0)).length : Nat) : Int))) ∧ out = [none] := by
  refine wpF_dfn (env := [some (.val (evD s)), none]) rfl ?_
  unfold b_wipes_in
  walk_at "e"
  refine kLc_pure (fun e : Int => decide (e < 0)) D.int (by rw [e_size]; omega) (by walk_at "wip") (by walk_at "bck") ?_ ?_
  · intro a ha acc
    walk_at "e"
    by_cases h : a < 0
    · simp [h]
    · simp [h]
  · walk_at "e"
def ifO (b : Bool) (o : O) : O := if b = true then o else .val .non
theorem ifO_t {d : O} : ifO true d = d := rfl
theorem ifO_f {d : O} : ifO false d = .val .non := rfl
theorem behind_ok {n : Nat} {ns : List Str} {ws : List Nat} {ls : Lots} (h : Wb n ns ws ls) {b : Nat} {s : List Int} {ev : D} (hev : ev = .tup (s.map .int) ∨ ev = .lst (s.map .int)) (hb : b < 2 ^ n) (hs : ∀ e ∈ s, EvB n e) (hl : s.length ≤ 1000) : wpF m__law_behind_events [.val (frameD ws ls), .val (.int (b : Int)), .val ev] fun r out => r = .ok (ifO (evs ls b s) (.lst (((scanE b s).map dn).map .val))) ∧ out = [none, none, none] := by
  refine wpF_dfn (env := [some (.val (frameD ws ls)), some (.val (.int (b : Int))), some (.val ev), none, none, none, none]) rfl ?_
  unfold b__law_behind_events
  have hn := h.hn
  have hit : ev.items = some (s.map .int) := by rcases hev with rfl | rfl <;> rfl
  walk_at "e"
  rw [hit]
  walk_at "e"
  refine wp_forF (fun i e => evs ls b (s.take i) = true ∧ ∃ u v w, e = [some (.val (frameD ws ls)), some (.val (.int (b : Int))), some (.val ev), some (.lst (((scanE b (s.take i)).map dn).map .val)), u, v, w]) _ ⟨rfl, none, none, none, rfl⟩ ?_ ?_
  · rintro i d e hi ⟨hok, u, v, w, rfl⟩
    obtain ⟨t, rfl, ht⟩ := evs_get hi
    have htn := hs t (List.mem_of_getElem? ht)
    have hbi : finE b (s.take i) < 2 ^ n := fin_lt b _ hb fun u hu => by
      obtain ⟨x, hx, rfl⟩ := List.mem_map.mp hu
      exact (hs x (List.mem_of_mem_take hx)).lt
    have hsn := snoc_take ht
    have hlt := htn.lt
    have hsl : (scanE b (s.take i)).length < sizeLine := by rw [scan_len, List.length_map, List.length_take, e_size]; omega
    have hla : dIx (.lst ((scanE b (s.take i)).map dn)) (.int (-1)) = some (dn (finE b (s.take i))) := by rw [ix_lm1, List.getLast?_map, scan_last]; rfl
    have h2 := two_pos (evT t)
    have h3 := two_lt (t := evT t) (by omega)
    have e4 : scanE b (s.take i ++ [t]) = scanE b (s.take i) ++ [flp (finE b (s.take i)) (evT t)] := by
      show scan b ((s.take i ++ [t]).map evT) = _
      rw [map_snoc, scan_snoc]
    have e5 : (if t ≥ 0 then t else 0 - 1 - t) = ((evT t : Nat) : Int) := by
      by_cases z : t < 0
      · rw [if_neg (by omega), ← evT_neg z]; omega
      · rw [if_pos (by omega)]; exact evT_pos z
    have fail : evL ls (finE b (s.take i)) t = false → evs ls b s = false := fun q => evs_take (i := i + 1) (by rw [hsn, evs_snoc, hok, q]; rfl)
    rw [hsn, evs_snoc, hok, e4, map_snoc, map_snoc]
    by_cases z' : t < 0
    · have e6 : 0 - 1 - t = ((evT t : Nat) : Int) := by rw [← evT_neg z']; omega
      have e7 : evL ls (finE b (s.take i)) t = (finE b (s.take i)).testBit (evT t) := by unfold evL; rw [if_pos z']
      clear e5
      rw [e7] at fail ⊢
      generalize evT t = k at *
      walk_at "e"
      refine ⟨fun z => by omega, fun z => ?_⟩
      rw [hla]
      walk_at "e"
      rw [e6, two_eq (by omega)]
      walk_at "e"
      rw [dbit1]
      refine ⟨fun _ => ?_, fun q => absurd z' q⟩
      cases q : (finE b (s.take i)).testBit k
      · rw [fail q, ifO_f]
        walk_at "e"
      · walk_at "e"
        refine ⟨fun _ => by omega, fun _ => ?_⟩
        rw [hla]
        walk_at "e"
        rw [flip_eq (by omega)]
        walk_at "e"
        exact ⟨hsl, rfl, _, _, _, rfl⟩
    · have e6 := evT_pos z'
      have e7 : evL ls (finE b (s.take i)) t = isLet ls (finE b (s.take i)) (evT t) := by unfold evL; rw [if_neg z']
      clear e5
      rw [e7] at fail ⊢
      generalize evT t = k at *
      subst e6
      walk_at "e"
      refine ⟨fun z => ?_, fun z => by omega⟩
      rw [hla]
      walk_at "e"
      rw [two_eq (by omega)]
      walk_at "e"
      refine ⟨fun z => by omega, fun _ => ⟨fun _ => ?_, fun z => by omega⟩⟩
      rw [hla]
      walk_at "e"
      rw [borne_eq h hlt]
      cases q : isLet ls (finE b (s.take i)) k
      · rw [fail q, ifO_f]
        walk_at "e"
      · walk_at "e"
        rw [hla]
        walk_at "e"
        rw [flip_eq (by omega)]
        walk_at "e"
        exact ⟨hsl, rfl, _, _, _, rfl⟩
  · rintro e ⟨hok, u, v, w, rfl⟩
    rw [List.length_map, List.take_length] at hok ⊢
    rw [hok, ifO_t]
    walk_at "e"
theorem kLc_draw {α : Type} {own : List Nat} {g : O → M Unit} {c : M Bool} {el : M O} {Q : Kt O} {ds : List D} {env : PL.Env} (E E2 : O → PL.Env) (f : α → D) (P : Nat → α → Prop) {dl0 : O} (h0 : WipB own env (E dl0)) (hd0 : Dl dl0) (hl : ds.length ≤ sizeLine)
    (hs : ∀ i d dl acc, ds[i]? = some d → Dl dl → wp (g (.val d)) (E dl) (kLg own c el acc fun acc' e => ∃ a dl', P i a ∧ Dl dl' ∧ acc' = acc ++ [.val (f a)] ∧ e = E dl'))
    (hb : ∀ dl, BackB own env (E dl) (E2 dl)) (k : ∀ (as : List α) dl, as.length = ds.length → (∀ i a, as[i]? = some a → P i a) → Dl dl → Q (.ok (.lst ((as.map f).map .val))) (E2 dl)) : kLc own g c el Q (.ok ds) env := by
  refine kLc_ok (fun i acc e => ∃ (as : List α) (dl : O), acc = (as.map f).map .val ∧ as.length = i ∧ (∀ j a, as[j]? = some a → P j a) ∧ Dl dl ∧ e = E dl) hl h0 ⟨[], dl0, rfl, rfl, fun j a h => by simp at h, hd0, rfl⟩ ?_ ?_
  · rintro i d acc e hd ⟨as, dl, rfl, rfl, hP, hD, rfl⟩
    have := hs as.length d dl ((as.map f).map .val) hd hD
    refine this.mono fun r e q => ?_
    cases r with
    | error x => exact q
    | ok u =>
      refine q.mono fun r e q => ?_
      cases r with
      | error x => exact q
      | ok b =>
        have key : ∀ (acc' : List O) (e : PL.Env), (∃ a dl', P as.length a ∧ Dl dl' ∧ acc' = (as.map f).map O.val ++ [.val (f a)] ∧ e = E dl') → ∃ (bs : List α) (dl : O), acc' = (bs.map f).map .val ∧ bs.length = as.length + 1 ∧ (∀ j a, bs[j]? = some a → P j a) ∧ Dl dl ∧ e = E dl := by
          rintro acc' e ⟨a, dl', h1, h2, rfl, rfl⟩
          refine ⟨as ++ [a], dl', by rw [map_snoc, map_snoc], by simp, fun j b hj => ?_, h2, rfl⟩
          rcases Nat.lt_or_ge j as.length with z | z
          · rw [List.getElem?_append_left z] at hj; exact hP j b hj
          · rw [List.getElem?_append_right z] at hj
            have hz : j - as.length = 0 := by
              rcases Nat.eq_zero_or_pos (j - as.length) with y | y
              · exact y
              · rw [List.getElem?_eq_none (by simp; omega)] at hj; cases hj
            rw [hz] at hj
            cases hj
            have : j = as.length := by omega
            subst this; exact h1
        cases b with
        | false => exact key _ _ q
        | true =>
          refine q.mono fun r e q => ?_
          cases r with
          | error x => exact q
          | ok o => exact key _ _ q
  · rintro os e ⟨as, dl, rfl, h1, h2, h3, rfl⟩
    exact ⟨E2 dl, hb dl, k as dl h1 h2 h3⟩
theorem any_nat {dl : O} {b : Nat} (hd : Dl dl) (hb : 0 < b) (hb2 : b < 18446744073709551616) : wpF m__law_any [dl, .val (.int (b : Int))] fun r out => ∃ (i : Nat) (dl' : O), r = .ok (.val (.int (i : Int))) ∧ out = [some dl', none] ∧ i < b ∧ Dl dl' := by
  refine wpF.mono (any_ok hd (b := (b : Int)) (by omega) (by omega)) ?_
  rintro r out ⟨i, dl', rfl, rfl, h1, h2, h3⟩
  obtain ⟨i, rfl⟩ := Int.eq_ofNat_of_zero_le h1
  exact ⟨i, dl', rfl, rfl, by omega, h3⟩
theorem of_gen {dl : O} {ds : List D} (hd : Dl dl) (h0 : ds ≠ []) (hl : ds.length ≤ 100000) : wpF m__law_of [dl, .val (.lst ds)] fun r out => ∃ d dl', r = .ok (.val d) ∧ d ∈ ds ∧ out = [some dl', none] ∧ Dl dl' := by
  refine wpF_dfn (env := [some dl, some (.val (.lst ds))]) rfl ?_
  unfold b__law_of
  have hp : 0 < ds.length := List.length_pos_iff.mpr h0
  walk_at "e"
  refine wpF.mono (any_nat hd (b := ds.length) hp (by omega)) ?_
  rintro r out ⟨i, dl', rfl, rfl, h2, h3⟩
  walk_at "e"
  rw [List.getElem?_eq_getElem h2]
  walk_at "e"
  exact ⟨_, _, rfl, List.getElem_mem h2, rfl, h3⟩
theorem of_nats {dl : O} {xs : List Nat} (hd : Dl dl) (h0 : xs ≠ []) (hl : xs.length ≤ 100000) : wpF m__law_of [dl, .val (.lst (xs.map dn))] fun r out => ∃ (x : Nat) (dl' : O), r = .ok (.val (.int (x : Int))) ∧ x ∈ xs ∧ out = [some dl', none] ∧ Dl dl' := by
  refine wpF.mono (of_gen hd (by simpa using h0) (by rw [List.length_map]; exact hl)) ?_
  rintro r out ⟨d, dl', rfl, h1, rfl, h3⟩
  obtain ⟨x, hx, rfl⟩ := List.mem_map.mp h1
  exact ⟨x, dl', rfl, hx, rfl, h3⟩
theorem er_perm {α : Type} : ∀ (L : List α) (j : Nat) (h : j < L.length), (L[j] :: L.eraseIdx j).Perm L
  | x :: L, 0, _ => .refl _
  | x :: L, j + 1, h => by
    rw [List.getElem_cons_succ, List.eraseIdx_cons_succ]
    exact (List.Perm.swap x _ _).trans ((er_perm L j (by simpa using h)).cons x)
def dToN : D → Nat
  | .int i => i.toNat
  | _ => 0
theorem perm_dn {ms : List D} {l : List Nat} (h : ms.Perm (l.map dn)) : ∃ xs : List Nat, ms = xs.map dn ∧ xs.Perm l := by
  have e : (l.map dn).map dToN = l := by
    rw [List.map_map]
    exact (List.map_congr_left fun a _ => rfl).trans (List.map_id l)
  refine ⟨ms.map dToN, ?_, by have := h.map dToN; rwa [e] at this⟩
  rw [List.map_map]
  refine (List.map_id ms).symm.trans (List.map_congr_left fun d hd => ?_)
  obtain ⟨n, _, rfl⟩ := List.mem_map.mp (h.mem_iff.mp hd)
  rfl
theorem kLc_drawE {α : Type} {own : List Nat} {g : O → M Unit} {c : M Bool} {el : M O} {Q : Kt O} {ds : List D} {env : PL.Env} (E E2 : O → PL.Env) (f : α → D) (P : Nat → α → Prop) {dl0 : O} (h0 : WipB own env (E dl0)) (hd0 : Dl dl0) (hl : ds.length ≤ sizeLine)
    (hs : ∀ i d dl acc, ds[i]? = some d → Dl dl → wp (g (.val d)) (E dl) (kLg own c el acc fun acc' e => ∃ o a dl', O.er o = f a ∧ P i a ∧ Dl dl' ∧ acc' = acc ++ [o] ∧ e = E dl'))
    (hb : ∀ dl, BackB own env (E dl) (E2 dl)) (k : ∀ (os : List O) (as : List α) dl, as.length = ds.length → os.map O.er = as.map f → (∀ i a, as[i]? = some a → P i a) → Dl dl → Q (.ok (.lst os)) (E2 dl)) : kLc own g c el Q (.ok ds) env := by
  refine kLc_ok (fun i acc e => ∃ (as : List α) (dl : O), acc.map O.er = as.map f ∧ as.length = i ∧ (∀ j a, as[j]? = some a → P j a) ∧ Dl dl ∧ e = E dl) hl h0 ⟨[], dl0, rfl, rfl, fun j a h => by simp at h, hd0, rfl⟩ ?_ ?_
  · rintro i d acc e hd ⟨as, dl, her, rfl, hP, hD, rfl⟩
    have := hs as.length d dl acc hd hD
    refine this.mono fun r e q => ?_
    cases r with
    | error x => exact q
    | ok u =>
      refine q.mono fun r e q => ?_
      cases r with
      | error x => exact q
      | ok b =>
        have key : ∀ (acc' : List O) (e : PL.Env), (∃ o a dl', O.er o = f a ∧ P as.length a ∧ Dl dl' ∧ acc' = acc ++ [o] ∧ e = E dl') → ∃ (bs : List α) (dl : O), acc'.map O.er = bs.map f ∧ bs.length = as.length + 1 ∧ (∀ j a, bs[j]? = some a → P j a) ∧ Dl dl ∧ e = E dl := by
          rintro acc' e ⟨o, a, dl', h0, h1, h2, rfl, rfl⟩
          refine ⟨as ++ [a], dl', by rw [map_snoc, map_snoc, her, h0], by simp, fun j b hj => ?_, h2, rfl⟩
          rcases Nat.lt_or_ge j as.length with z | z
          · rw [List.getElem?_append_left z] at hj; exact hP j b hj
          · rw [List.getElem?_append_right z] at hj
            have hz : j - as.length = 0 := by
              rcases Nat.eq_zero_or_pos (j - as.length) with y | y
              · exact y
              · rw [List.getElem?_eq_none (by simp; omega)] at hj; cases hj
            rw [hz] at hj
            cases hj
            have : j = as.length := by omega
            subst this; exact h1
        cases b with
        | false => exact key _ _ q
        | true =>
          refine q.mono fun r e q => ?_
          cases r with
          | error x => exact q
          | ok o => exact key _ _ q
  · rintro os e ⟨as, dl, h0, h1, h2, h3, rfl⟩
    exact ⟨E2 dl, hb dl, k os as dl h1 h0 h2 h3⟩
theorem mixed_ok {dl : O} {ds : List D} (hd : Dl dl) (hl : ds.length ≤ 100) : wpF m__law_mixed [dl, .val (.lst ds)] fun r out => ∃ (ms : List D) (dl' : O), r = .ok (.lst (ms.map .val)) ∧ ms.Perm ds ∧ out = [some dl', none] ∧ Dl dl' := by
  refine wpF_dfn (env := [some dl, some (.val (.lst ds)), none, none, none]) rfl ?_
  unfold b__law_mixed
  walk_at "e"
  rw [listA_l]
  walk_at "e"
  refine wp_forF (fun i e => ∃ (L F : List D) (dl : O) (v : Option O), Dl dl ∧ L.length + i = ds.length ∧ (F ++ L).Perm ds ∧ e = [some dl, some (.val (.lst ds)), some (.lst (L.map .val)), some (.lst (F.map .val)), v]) _ ⟨ds, [], dl, none, hd, by simp, .refl _, rfl⟩ ?_ ?_
  · rintro i d e hi ⟨L, F, dl, v, hd, h1, h2, rfl⟩
    obtain ⟨rfl, hi⟩ := range_get hi
    have hF : F.length ≤ 100 := by have := h2.length_eq; rw [List.length_append] at this; omega
    walk_at "e"
    refine wpF.mono (any_nat hd (b := L.length) (by omega) (by omega)) ?_
    rintro r out ⟨j, dl', rfl, rfl, h3, h4⟩
    walk_at "e"
    refine ⟨by omega, by omega, ?_⟩
    rw [if_pos (by omega), if_pos (by omega)]
    walk_at "e"
    have hx : (L.map O.val)[j]? = some (.val L[j]) := by rw [List.getElem?_map, List.getElem?_eq_getElem h3]; rfl
    rw [hx]
    walk_at "e"
    refine ⟨by rw [e_size]; omega, L.eraseIdx j, F ++ [L[j]], dl', some (O.val (D.int (i : Int))), h4, ?_, ?_, ?_⟩
    · rw [List.length_eraseIdx_of_lt h3]; omega
    · rw [List.append_assoc]
      exact (List.Perm.append_left F (er_perm L j h3)).trans h2
    · rw [erase_map, map_snoc]
  · rintro e ⟨L, F, dl, v, hd, h1, h2, rfl⟩
    rw [range_len] at h1
    have : L = [] := List.length_eq_zero_iff.mp (by omega)
    subst this
    rw [List.append_nil] at h2
    walk_at "e"
    exact ⟨F, dl, rfl, h2, rfl, hd⟩
theorem drawn_ok {dl : O} {t : Nat} (hd : Dl dl) (ht : t < 16) : wpF m__law_drawn_lots [dl, .val (.int (t : Int))] fun r out => ∃ (o : O) (lots : List (List Nat)) (dl' : O), r = .ok o ∧ o.er = lotsLD lots ∧ lots.length ≤ 2 ∧ (t = 0 → lots = [[]]) ∧ (∀ l ∈ lots, l.length ≤ 64 ∧ ∀ i ∈ l, i < t) ∧ out = [some dl', none] ∧ Dl dl' := by
  refine wpF_dfn (env := [some dl, some (.val (.int (t : Int))), none, none, none, none, none, none]) rfl ?_
  unfold b__law_drawn_lots
  have triv : ∀ dl' : O, Dl dl' → ∃ (o : O) (lots : List (List Nat)) (dl2 : O), (Except.ok (O.lst [O.val (.tup [])]) : Except Ex O) = .ok o ∧ o.er = lotsLD lots ∧ lots.length ≤ 2 ∧ (t = 0 → lots = [[]]) ∧ (∀ l ∈ lots, l.length ≤ 64 ∧ ∀ i ∈ l, i < t) ∧ ([some dl', none] : PL.Env) = [some dl2, none] ∧ Dl dl2 := fun dl' h => ⟨_, [[]], dl', rfl, rfl, by decide, fun _ => rfl, fun l hl => by rw [List.mem_singleton.mp hl]; exact ⟨by decide, fun i hi => absurd hi List.not_mem_nil⟩, rfl, h⟩
  walk_at "e"
  refine ⟨fun h => triv _ hd, fun h => ?_⟩
  have h0 : 0 < t := by omega
  refine wpF.mono (any_nat hd (b := 4) (by decide) (by decide)) ?_
  rintro r out ⟨i, dl1, rfl, rfl, h2, h3⟩
  walk_at "e"
  refine ⟨fun h => triv _ h3, fun h => ?_⟩
  refine wpF.mono (any_nat h3 (b := 2) (by decide) (by decide)) ?_
  rintro r out ⟨i, dl2, rfl, rfl, h4, h5⟩
  walk_at "e"
  have e1 : ((1 : Int) + (i : Int)).toNat = 1 + i := by omega
  rw [e1]
  refine wp_forF (fun k e => ∃ (lots : List (List Nat)) (dl : O) (v1 v2 v3 : Option O), Dl dl ∧ lots.length ≤ k ∧ (∀ l ∈ lots, l.length ≤ 64 ∧ ∀ x ∈ l, x < t) ∧ e = [some dl, some (.val (.int (t : Int))), some (.val (lotsLD lots)), v1, v2, v3, none, none]) _ ⟨[], dl2, none, none, none, h5, by simp, fun r hr => absurd hr List.not_mem_nil, rfl⟩ ?_ ?_
  · rintro k d e hk ⟨lots, dl, v1, v2, v3, hd, hlen, hlots, rfl⟩
    obtain ⟨rfl, hk⟩ := range_get hk
    walk_at "e"
    refine ⟨by omega, by omega, ?_⟩
    refine wpF.mono (mixed_ok hd (by rw [range_len]; omega)) ?_
    rintro r out ⟨ms, dl3, rfl, hp, rfl, h6⟩
    rw [range_dn] at hp
    obtain ⟨xs, rfl, hxp⟩ := perm_dn hp
    walk_at "e"
    refine wpF.mono (any_nat h6 (b := 2) (by decide) (by decide)) ?_
    rintro r out ⟨j, dl4, rfl, rfl, h7, h8⟩
    walk_at "e"
    rw [show (1 : Int) + (j : Int) = ((1 + j : Nat) : Int) by omega, x_cutl1]
    walk_at "e"
    rw [sorted_nats]
    walk_at "e"
    have hlot : ∀ x ∈ srtM (xs.take (1 + j)), x < t := fun x hx => by
      have := hxp.mem_iff.mp (List.mem_of_mem_take ((srtM_perm _).mem_iff.mp hx))
      exact List.mem_range.mp this
    have hlotl : (srtM (xs.take (1 + j))).length ≤ 2 := by rw [(srtM_perm _).length_eq, List.length_take]; omega
    generalize srtM (xs.take (1 + j)) = lot at hlot hlotl
    have e0 : ∀ k : List Nat, ((k.length : Int) = 0) ↔ k = [] := fun k => by rw [← List.length_eq_zero_iff]; omega
    refine kLc_pure (l := lots) (fun m => decide ((m.filter fun i => decide (i ∉ lot)) = []) || decide ((lot.filter fun i => decide (i ∉ m)) = [])) lotD (by rw [e_size]; omega) (by walk_at "wip") (by walk_at "bck") ?_ ?_
    · intro m hm acc
      have := (hlots m hm).1
      walk_at "e"
      refine kLc_pure (l := m) (fun i => decide (i ∉ lot)) dn (by rw [e_size]; omega) (by walk_at "wip") (by walk_at "bck") ?_ ?_
      · intro i hi acc
        walk_at "e"
        by_cases z : i ∈ lot <;> simp [z]
      · walk_at "e"
        rw [e0]
        refine ⟨fun z => ?_, fun z => ?_⟩
        · simp only [z, decide_true, Bool.true_or, if_true, and_self]
        · refine kLc_pure (l := lot) (fun i => decide (i ∉ m)) dn (by rw [e_size]; omega) (by walk_at "wip") (by walk_at "bck") ?_ ?_
          · intro i hi acc
            walk_at "e"
            by_cases z : i ∈ m <;> simp [z]
          · walk_at "e"
            rw [e0]
            refine ⟨fun y => ?_, fun y => ?_⟩
            · simp only [z, y, decide_true, decide_false, Bool.false_or, if_true, and_self]
            · simp only [z, y, decide_true, decide_false, Bool.false_or, if_false, Bool.false_eq_true, and_self]
    · walk_at "e"
      refine ⟨fun _ => ?_, fun _ => ?_⟩
      · have : dAdd (lotsLD lots) (.lst [.tup (lot.map dn)]) = some (lotsLD (lots ++ [lot])) := by
          rw [x_addl (by rw [List.length_map, e_size, List.length_singleton]; omega)]
          show _ = some (D.lst ((lots ++ [lot]).map lotD))
          rw [List.map_append]; rfl
        rw [this]
        walk_at "e"
        refine ⟨lots ++ [lot], dl4, _, _, _, h8, by rw [List.length_append, List.length_singleton]; omega, fun l hl => ?_, rfl⟩
        rcases List.mem_append.mp hl with hl | hl
        · exact hlots l hl
        · rw [List.mem_singleton.mp hl]; exact ⟨by omega, hlot⟩
      · rw [x_addl (by rw [List.length_map, e_size, List.length_nil]; omega), List.append_nil]
        walk_at "e"
        exact ⟨lots, dl4, _, _, _, h8, by omega, hlots, rfl⟩
  · rintro e ⟨lots, dl, v1, v2, v3, hd, hlen, hlots, rfl⟩
    rw [range_len] at hlen
    walk_at "e"
    exact ⟨_, lots, dl, rfl, rfl, by omega, fun z => by omega, hlots, rfl, hd⟩
theorem kLc_er {α : Type} {own : List Nat} {g : O → M Unit} {c : M Bool} {el : M O} {Q : Kt O} {env env1 env2 : PL.Env} {l : List α} {f : α → D} (h : α → D) (hl : l.length ≤ sizeLine) (hw : WipB own env env1) (hb : BackB own env env1 env2)
    (hs : ∀ a, a ∈ l → ∀ acc, wp (g (.val (f a))) env1 (kLg own c el acc fun acc' e => ∃ o, O.er o = h a ∧ acc' = acc ++ [o] ∧ e = env1))
    (k : ∀ os : List O, os.map O.er = l.map h → Q (.ok (.lst os)) env2) : kLc own g c el Q (.ok (l.map f)) env := by
  refine kLc_ok (fun i acc e => acc.map O.er = (l.take i).map h ∧ e = env1) (by rw [List.length_map]; exact hl) hw ⟨rfl, rfl⟩ ?_ ?_
  · rintro i d acc e hd ⟨her, he⟩
    rw [he]
    rw [List.getElem?_map] at hd
    cases q : l[i]? with
    | none => rw [q] at hd; cases hd
    | some a =>
      rw [q] at hd
      cases hd
      have := hs a (List.mem_of_getElem? q) acc
      have key : ∀ (acc' : List O) (e : PL.Env), (∃ o, O.er o = h a ∧ acc' = acc ++ [o] ∧ e = env1) → acc'.map O.er = (l.take (i + 1)).map h ∧ e = env1 := by
        rintro acc' e ⟨o, h1, rfl, rfl⟩
        rw [snoc_take q, map_snoc, map_snoc, her, h1]
        exact ⟨rfl, rfl⟩
      refine this.mono fun r e q => ?_
      cases r with
      | error x => exact q
      | ok u =>
        refine q.mono fun r e q => ?_
        cases r with
        | error x => exact q
        | ok b =>
          cases b with
          | false => exact key _ _ q
          | true =>
            refine q.mono fun r e q => ?_
            cases r with
            | error x => exact q
            | ok o => exact key _ _ q
  · rintro os e ⟨her, rfl⟩
    rw [List.length_map, List.take_length] at her
    exact ⟨env2, hb, k os her⟩
theorem frame_ok {ws : List Nat} {ls : Lots} (h1 : ws.length ≤ 1000) (h2 : ls.length ≤ 1000) : wpF m__law_frame [.val (.lst (ws.map dn)), .val (.lst (ls.map lotsLD))] fun r out => ∃ o : O, r = .ok o ∧ o.er = frameD ws (ls.map srtS) ∧ out = [none, none] := by
  refine wpF_dfn (env := [some (.val (.lst (ws.map dn))), some (.val (.lst (ls.map lotsLD))), none]) rfl ?_
  unfold b__law_frame
  walk_at "e"
  rw [listA_l]
  walk_at "e"
  refine kLc_er (fun l => lotsLD (srtS l)) (by rw [e_size]; omega) (by walk_at "wip") (by walk_at "bck") ?_ ?_
  · intro l hl acc
    walk_at "e"
    rw [sorted_lots]
    walk_at "e"
    refine ⟨_, ?_, rfl⟩
    rw [O.er, O.ers_val]
  · intro os hos
    walk_at "e"
    refine ⟨_, rfl, ?_⟩
    simp only [O.er, O.ers, O.ers_val]
    rw [O.ers_map, hos]
    show _ = D.dK _ [_, D.lst ((ls.map srtS).map lotsLD)]
    rw [List.map_map]
    rfl
/-- what the frames are: n weights, lots of things ahead, the first thing on nothing -/
structure FrB (n : Nat) (ws : List Nat) (ls : Lots) : Prop where
  lo : 3 ≤ n
  hi : n ≤ 6
  w1 : ws.length = n
  l1 : ls.length = n
  wb : ∀ w ∈ ws, w ≤ 5
  z : ls[0]? = some [[]]
  ll : ∀ (t : Nat) (lots : List (List Nat)), ls[t]? = some lots → lots.length ≤ 2 ∧ ∀ l ∈ lots, l.length ≤ 64 ∧ ∀ i ∈ l, i < t
theorem FrB.wbk {n : Nat} {ws : List Nat} {ls : Lots} (h : FrB n ws ls) {ns : List Str} (hn : ns.length = n) : Wb n ns ws ls :=
  ⟨by have := h.hi; omega, hn, h.w1, h.l1, fun w hw => by have := h.wb w hw; omega, fun t lots ht => ⟨by have := (h.ll t lots ht).1; omega, (h.ll t lots ht).2⟩⟩
theorem FrB.borne0 {n : Nat} {ws : List Nat} {ls : Lots} (h : FrB n ws ls) (b : Nat) : isLet ls b 0 = true := by
  unfold isLet
  rw [List.getD_eq_getElem?_getD, h.z]; rfl
theorem FrB.of {n : Nat} {ws : List Nat} {ls : Lots} (lo : 3 ≤ n) (hi : n ≤ 6) (w1 : ws.length = n) (l1 : ls.length = n) (wb : ∀ w ∈ ws, w ≤ 5) (hl : ∀ (t : Nat) (lots : List (List Nat)), ls[t]? = some lots → lots.length ≤ 2 ∧ (t = 0 → lots = [[]]) ∧ ∀ l ∈ lots, l.length ≤ 64 ∧ ∀ i ∈ l, i < t) : FrB n ws (ls.map srtS) := by
  refine ⟨lo, hi, w1, by rw [List.length_map]; exact l1, wb, ?_, fun t lots ht => ?_⟩
  · rw [List.getElem?_map]
    have e : ls[0]? = some ls[0] := List.getElem?_eq_getElem (by omega)
    rw [e, (hl 0 _ e).2.1 rfl]
    decide +kernel
  · rw [List.getElem?_map] at ht
    cases q : ls[t]? with
    | none => rw [q] at ht; cases ht
    | some l =>
      rw [q] at ht
      cases ht
      obtain ⟨h1, _, h3⟩ := hl t l q
      exact ⟨by rw [srtS_len]; exact h1, fun x hx => h3 x (mem_srtS.mp hx)⟩
theorem ones_n {n : Nat} (h : n ≤ 1000) : dMul (.lst [.int 1]) (.int (n : Int)) = some (.lst ((List.replicate n 1).map dn)) := by
  unfold dMul
  dsimp only
  rw [if_pos ⟨by omega, by omega, by rw [e_size]; simp; omega⟩]
  congr 2
  rw [Int.toNat_natCast, List.map_replicate]
  induction n with
  | zero => rfl
  | succ n ih => rw [List.replicate_succ, List.flatten_cons, ih (by omega), List.replicate_succ]; rfl
theorem lots_map {ls : Lots} {os : List O} (h : os.map O.er = ls.map lotsLD) : (O.lst os).er = .lst (ls.map lotsLD) := by rw [O.er, O.ers_map, h]
theorem drawn_frame_ok {dl : O} (hd : Dl dl) : wpF m__law_drawn_frame [dl, .val (.int 6)] fun r out => ∃ (o : O) (n : Nat) (ws : List Nat) (ls : Lots) (dl' : O), r = .ok o ∧ o.er = frameD ws ls ∧ FrB n ws ls ∧ out = [some dl', none] ∧ Dl dl' := by
  refine wpF_dfn (env := [some dl, some (.val (.int 6)), none, none, none]) rfl ?_
  unfold b__law_drawn_frame
  walk_at "e"
  refine wpF.mono (any_nat hd (b := 4) (by decide) (by decide)) ?_
  rintro r out ⟨i, dl1, rfl, rfl, h2, h3⟩
  walk_at "e"
  rw [show (3 : Int) + (i : Int) = ((3 + i : Nat) : Int) by omega]
  have hn : 3 + i ≤ 6 := by omega
  have hlo : 3 ≤ 3 + i := by omega
  generalize 3 + i = n at hn hlo
  walk_at "e"
  refine kLc_draw (fun dl => [some dl, some (.val (.int 6)), some (.val (.int (n : Int))), none, none]) (fun dl => [some dl, some (.val (.int 6)), some (.val (.int (n : Int))), none, none]) dn (fun _ x => x ≤ 5) (by walk_at "wip") h3 (by rw [range_len, e_size]; omega) ?_ (fun dl => by walk_at "bck") ?_
  · intro q d dl acc hq hd
    walk_at "e"
    refine wpF.mono (of_nats (xs := [1, 1, 1, 2, 3, 5]) hd (by decide) (by decide)) ?_
    rintro r out ⟨x, dl4, rfl, h8, rfl, h9⟩
    walk_at "e"
    exact ⟨x, dl4, by simp at h8; omega, h9, rfl, rfl⟩
  · intro ws dl5 hw hP hd5
    rw [range_len] at hw
    walk_at "e"
    refine wpF.mono (any_nat hd5 (b := 2) (by decide) (by decide)) ?_
    rintro r out ⟨k, dl6, rfl, rfl, h8, h9⟩
    walk_at "e"
    refine ⟨fun _ => ?_, fun _ => ?_⟩
    · have hw' := hw
      have hP' : ∀ w ∈ ws, w ≤ 5 := fun w h => by obtain ⟨y, hy⟩ := List.mem_iff_getElem?.mp h; exact hP y w hy
      refine kLc_drawE (fun dl => [some dl, some (.val (.int 6)), some (.val (.int (n : Int))), some (.val (.lst (ws.map dn))), none]) (fun dl => [some dl, some (.val (.int 6)), some (.val (.int (n : Int))), some (.val (.lst (ws.map dn))), none]) lotsLD (fun t lots => lots.length ≤ 2 ∧ (t = 0 → lots = [[]]) ∧ ∀ l ∈ lots, l.length ≤ 64 ∧ ∀ i ∈ l, i < t) (by walk_at "wip") h9 (by rw [range_len, e_size]; omega) ?_ (fun dl => by walk_at "bck") ?_
      · intro q d dl acc hq hd
        obtain ⟨rfl, hq⟩ := range_get hq
        walk_at "e"
        refine wpF.mono (drawn_ok hd (by omega)) ?_
        rintro r out ⟨o, lots, dl4, rfl, h10, h11, h12, h13, rfl, h14⟩
        walk_at "e"
        exact ⟨o, lots, dl4, h10, ⟨h11, h12, h13⟩, h14, rfl, rfl⟩
      · intro os ls dl7 hl her hL hd7
        rw [range_len] at hl
        walk_at "e"
        rw [lots_map her]
        refine wpF.mono (frame_ok (ws := ws) (by omega) (by omega)) ?_
        rintro r out ⟨o, rfl, h10, rfl⟩
        walk_at "e"
        exact ⟨o, n, _, _, _, rfl, h10, FrB.of hlo hn hw' hl hP' hL, rfl, hd7⟩
    · rw [ones_n (by omega)]
      walk_at "e"
      have hw' : (List.replicate n 1).length = n := List.length_replicate
      have hP' : ∀ w ∈ List.replicate n 1, w ≤ 5 := fun w h => by rw [(List.mem_replicate.mp h).2]; decide
      generalize List.replicate n 1 = ws' at hw' hP'
      refine kLc_drawE (fun dl => [some dl, some (.val (.int 6)), some (.val (.int (n : Int))), some (.val (.lst (ws.map dn))), none]) (fun dl => [some dl, some (.val (.int 6)), some (.val (.int (n : Int))), some (.val (.lst (ws.map dn))), none]) lotsLD (fun t lots => lots.length ≤ 2 ∧ (t = 0 → lots = [[]]) ∧ ∀ l ∈ lots, l.length ≤ 64 ∧ ∀ i ∈ l, i < t) (by walk_at "wip") h9 (by rw [range_len, e_size]; omega) ?_ (fun dl => by walk_at "bck") ?_
      · intro q d dl acc hq hd
        obtain ⟨rfl, hq⟩ := range_get hq
        walk_at "e"
        refine wpF.mono (drawn_ok hd (by omega)) ?_
        rintro r out ⟨o, lots, dl4, rfl, h10, h11, h12, h13, rfl, h14⟩
        walk_at "e"
        exact ⟨o, lots, dl4, h10, ⟨h11, h12, h13⟩, h14, rfl, rfl⟩
      · intro os ls dl7 hl her hL hd7
        rw [range_len] at hl
        walk_at "e"
        rw [lots_map her]
        refine wpF.mono (frame_ok (ws := ws') (by omega) (by omega)) ?_
        rintro r out ⟨o, rfl, h10, rfl⟩
        walk_at "e"
        exact ⟨o, n, _, _, _, rfl, h10, FrB.of hlo hn hw' hl hP' hL, rfl, hd7⟩
theorem row_frame_ok {n : Nat} {ws : List Nat} (lo : 3 ≤ n) (hi : n ≤ 6) (hw : ws.length = n) (hP : ∀ w ∈ ws, w ≤ 5) : wpF m__law_row_frame [.val (.lst (ws.map dn))] fun r out => ∃ o : O, r = .ok o ∧ o.er = frameD ws (((List.range n).map fun t => [if 0 < t then [t - 1] else []]).map srtS) ∧ out = [none] := by
  refine wpF_dfn (env := [some (.val (.lst (ws.map dn))), none]) rfl ?_
  unfold b__law_row_frame
  walk_at "e"
  rw [hw, range_dn]
  refine kLc_er (fun t => lotsLD [if 0 < t then [t - 1] else []]) (by rw [List.length_range, e_size]; omega) (by walk_at "wip") (by walk_at "bck") ?_ ?_
  · intro t ht acc
    walk_at "e"
    refine ⟨fun z => ?_, fun z => ?_⟩
    · have z : 0 < t := by omega
      refine ⟨_, ?_, rfl⟩
      rw [if_pos z]
      have : (t : Int) - 1 = ((t - 1 : Nat) : Int) := by omega
      rw [this]; rfl
    · have z : ¬ 0 < t := by omega
      refine ⟨_, ?_, rfl⟩
      rw [if_neg z]; rfl
  · intro os hos
    walk_at "e"
    have her : os.map O.er = ((List.range n).map fun t => [if 0 < t then [t - 1] else []]).map lotsLD := by rw [hos, List.map_map]; rfl
    rw [lots_map her]
    refine wpF.mono (frame_ok (ws := ws) (by omega) (by rw [List.length_map, List.length_range]; omega)) ?_
    rintro r out ⟨o, rfl, h10, rfl⟩
    walk_at "e"
    exact ⟨o, rfl, h10⟩
theorem row_B {n : Nat} {ws : List Nat} (lo : 3 ≤ n) (hi : n ≤ 6) (hw : ws.length = n) (hP : ∀ w ∈ ws, w ≤ 5) : FrB n ws (((List.range n).map fun t => [if 0 < t then [t - 1] else []]).map srtS) := by
  refine FrB.of lo hi hw (by rw [List.length_map, List.length_range]) hP fun t lots ht => ?_
  rw [List.getElem?_map] at ht
  cases q : (List.range n)[t]? with
  | none => rw [q] at ht; cases ht
  | some k =>
    rw [q] at ht
    have hk : k = t := by
      have h2 := (List.getElem?_eq_some_iff.mp q)
      obtain ⟨h2, h3⟩ := h2
      rw [List.getElem_range] at h3
      exact h3.symm
    subst hk
    cases ht
    refine ⟨by simp, fun z => by subst z; rfl, fun l hl => ?_⟩
    rw [List.mem_singleton.mp hl]
    by_cases z : 0 < k
    · rw [if_pos z]
      exact ⟨by simp, fun i hi => by rw [List.mem_singleton.mp hi]; omega⟩
    · rw [if_neg z]
      exact ⟨by simp, fun i hi => absurd hi List.not_mem_nil⟩
theorem some_frame_ok {dl : O} (hd : Dl dl) : wpF m__law_some_frame [dl, .val (.int 6)] fun r out => ∃ (o : O) (n : Nat) (ws : List Nat) (ls : Lots) (dl' : O), r = .ok o ∧ o.er = frameD ws ls ∧ FrB n ws ls ∧ out = [some dl', none] ∧ Dl dl' := by
  refine wpF_dfn (env := [some dl, some (.val (.int 6)), none]) rfl ?_
  unfold b__law_some_frame
  walk_at "e"
  refine wpF.mono (any_nat hd (b := 3) (by decide) (by decide)) ?_
  rintro r out ⟨i, dl1, rfl, rfl, h2, h3⟩
  walk_at "e"
  refine ⟨fun _ => ?_, fun _ => ?_⟩
  · refine wpF.mono (drawn_frame_ok h3) ?_
    rintro r out ⟨o, n, ws, ls, dl2, rfl, h4, h5, rfl, h6⟩
    walk_at "e"
    exact ⟨o, n, ws, ls, dl2, rfl, h4, h5, rfl, h6⟩
  · refine wpF.mono (any_nat h3 (b := 4) (by decide) (by decide)) ?_
    rintro r out ⟨i, dl2, rfl, rfl, h4, h5⟩
    walk_at "e"
    rw [show (3 : Int) + (i : Int) = ((3 + i : Nat) : Int) by omega]
    have hn : 3 + i ≤ 6 := by omega
    have hlo : 3 ≤ 3 + i := by omega
    generalize 3 + i = n at hn hlo
    walk_at "e"
    refine kLc_draw (fun dl => [some dl, some (.val (.int 6)), none]) (fun dl => [some dl, some (.val (.int 6)), none]) dn (fun _ x => x ≤ 5) (by walk_at "wip") h5 (by rw [range_len, e_size]; omega) ?_ (fun dl => by walk_at "bck") ?_
    · intro q d dl acc hq hd
      walk_at "e"
      refine wpF.mono (of_nats (xs := [1, 1, 2]) hd (by decide) (by decide)) ?_
      rintro r out ⟨x, dl4, rfl, h8, rfl, h9⟩
      walk_at "e"
      exact ⟨x, dl4, by simp at h8; omega, h9, rfl, rfl⟩
    · intro ws dl5 hw hP hd5
      rw [range_len] at hw
      have hP' : ∀ w ∈ ws, w ≤ 5 := fun w h => by obtain ⟨y, hy⟩ := List.mem_iff_getElem?.mp h; exact hP y w hy
      walk_at "e"
      refine wpF.mono (row_frame_ok hlo hn hw hP') ?_
      rintro r out ⟨o, rfl, h10, rfl⟩
      walk_at "e"
      exact ⟨o, n, _, _, _, rfl, h10, row_B hlo hn hw hP', rfl, hd5⟩
theorem tw_snoc {ds es : List D} (h : ds.length + es.length ≤ 100000) : dAdd (.lst (ds.map tw)) (.lst (es.map tw)) = some (.lst ((ds ++ es).map tw)) := by
  rw [List.map_append]; exact x_addl (by rw [List.length_map, List.length_map, e_size]; omega)
theorem tw1 {ds : List D} {a : D} (h : ds.length ≤ 90000) : dAdd (.lst (ds.map tw)) (.lst [.tup [a, a]]) = some (.lst ((ds ++ [a]).map tw)) := tw_snoc (es := [a]) (by simp; omega)
theorem tw2 {ds : List D} {a b : D} (h : ds.length ≤ 90000) : dAdd (.lst (ds.map tw)) (.lst [.tup [a, a], .tup [b, b]]) = some (.lst ((ds ++ [a, b]).map tw)) := tw_snoc (es := [a, b]) (by simp; omega)
theorem tw3 {ds : List D} {a b c : D} (h : ds.length ≤ 90000) : dAdd (.lst (ds.map tw)) (.lst [.tup [a, a], .tup [b, b], .tup [c, c]]) = some (.lst ((ds ++ [a, b, c]).map tw)) := tw_snoc (es := [a, b, c]) (by simp; omega)
theorem tw4 {ds : List D} {a b c d : D} (h : ds.length ≤ 90000) : dAdd (.lst (ds.map tw)) (.lst [.tup [a, a], .tup [b, b], .tup [c, c], .tup [d, d]]) = some (.lst ((ds ++ [a, b, c, d]).map tw)) := tw_snoc (es := [a, b, c, d]) (by simp; omega)
theorem dszs_nats (l : List Nat) : dszs (l.map dn) = l.length := by
  induction l with
  | nil => rfl
  | cons y r ih => simp only [List.map_cons, dszs, dsz, ih, List.length_cons]; omega
theorem td_lot (l : List Nat) : Td 1 (lotD l) := by
  unfold Td
  intro d hd
  obtain ⟨x, _, rfl⟩ := List.mem_map.mp hd
  unfold Td; exact trivial
theorem good_lot (l : List Nat) (hl : l.length ≤ 10000) : Good (lotD l) := ⟨⟨1, td_lot l⟩, by simp only [dsz, dszs_nats]; omega⟩
theorem good_lots (ls : List (List Nat)) (hl : ls.length ≤ 2000) (h : ∀ l ∈ ls, l.length ≤ 100) : Good (lotsD ls) := by
  refine ⟨⟨2, ?_⟩, ?_⟩
  · unfold Td
    intro d hd
    obtain ⟨x, _, rfl⟩ := List.mem_map.mp hd
    exact td_lot x
  · have h2 : ∀ ls : List (List Nat), (∀ l ∈ ls, l.length ≤ 100) → dszs (ls.map lotD) ≤ ls.length * 101 := fun ls h => by
      induction ls with
      | nil => simp [dszs]
      | cons y r ih =>
        have := ih fun l hl => h l (List.mem_cons_of_mem _ hl)
        have := h y (List.mem_cons_self ..)
        simp only [List.map_cons, dszs, dsz, dszs_nats, List.length_cons]; omega
    have := h2 ls h
    simp only [dsz]; omega
theorem good_path (bs : List Nat) (hl : bs.length ≤ 2000) : Good (pathD bs) := by
  have := good_lots (bs.map lob) (by rw [List.length_map]; exact hl) fun l hl => by
    obtain ⟨x, _, rfl⟩ := List.mem_map.mp hl
    have := lob_len x
    omega
  rw [show pathD bs = lotsD (bs.map lob) by show D.tup _ = D.tup _; rw [List.map_map]; rfl]
  exact this
theorem good_int (i : Int) : Good (.int i) := ⟨⟨0, by unfold Td; exact trivial⟩, by simp [dsz]⟩
theorem good_non : Good .non := ⟨⟨0, by unfold Td; exact trivial⟩, by simp [dsz]⟩
theorem goods_app {a b : List D} (h : ∀ d ∈ a, Good d) (k : ∀ d ∈ b, Good d) : ∀ d ∈ a ++ b, Good d := fun d hd => (List.mem_append.mp hd).elim (h d) (k d)
theorem goods_cons {a : D} {b : List D} (h : Good a) (k : ∀ d ∈ b, Good d) : ∀ d ∈ a :: b, Good d := fun d hd => (List.mem_cons.mp hd).elim (fun e => e ▸ h) (k d)
theorem goods_nil : ∀ d ∈ ([] : List D), Good d := fun d h => absurd h List.not_mem_nil
theorem walked_lit {n : Nat} {ns : List Str} {ws : List Nat} {ls : Lots} (h : Wb n ns ws ls) {b : Nat} {s S : List Nat} {path : List (List Nat)} (hb : b < 2 ^ n) (hs : ∀ t ∈ s, t < n) (hl : s.length ≤ 1000) (hS : lob b = S) (hp : (scan b s).map lob = path) (ho : oks ls b s = true) (Q : Kt O) : wpF m_walked [.val (webD ns ws ls), .val (lotD S), .val (lotD s)] Q = Q (.ok (.val (lotsD path))) [none, none, none] := by
  have := walked_eq h hb hs hl Q
  rw [ho, ifD_t] at this
  subst hS hp
  rw [show lotsD ((scan b s).map lob) = pathD (scan b s) by show D.tup _ = D.tup _; rw [List.map_map]; rfl]
  exact this
theorem walked_lit0 {n : Nat} {ns : List Str} {ws : List Nat} {ls : Lots} (h : Wb n ns ws ls) {b : Nat} {s S : List Nat} (hb : b < 2 ^ n) (hs : ∀ t ∈ s, t < n) (hl : s.length ≤ 1000) (hS : lob b = S) (ho : oks ls b s = false) (Q : Kt O) : wpF m_walked [.val (webD ns ws ls), .val (lotD S), .val (lotD s)] Q = Q (.ok (.val .non)) [none, none, none] := by
  have := walked_eq h hb hs hl Q
  rw [ho, ifD_f] at this
  subst hS
  exact this
theorem ob_eq {α : Type} {o : Option α} {a : α} {k : α → Prop} (h : o = some a) (hk : k a) : ob (h := ⟨k⟩) o := by rw [h]; exact hk
theorem len_app {α : Type} {a b : List α} {m k : Nat} (h : a.length ≤ m) (g : b.length ≤ k) : (a ++ b).length ≤ m + k := by rw [List.length_append]; omega
def ltr (t : Nat) : Str := ⟨#[("abcdefghijkl" : Str).cps.toList.getD t 0]⟩
theorem ltr_ix {t : Nat} (ht : t < 12) : dIx (.str "abcdefghijkl") (.int (t : Int)) = some (.str (ltr t)) := by
  have h : ∀ t, t < 12 → L2.atI ("abcdefghijkl" : Str).cps.toList ((t : Nat) : Int) = some (("abcdefghijkl" : Str).cps.toList.getD t 0) := by decide +kernel
  show (if ("abcdefghijkl" : Str).length ≤ sizeLine then (L2.atI ("abcdefghijkl" : Str).cps.toList (t : Int)).map fun c => D.str ⟨#[c]⟩ else none) = _
  rw [if_pos (by decide +kernel), h t ht]; rfl
def nms (n : Nat) : List Str := (List.range n).map fun t => "q" ++ ltr t
theorem nms_len (n : Nat) : (nms n).length = n := by unfold nms; rw [List.length_map, List.length_range]
theorem web_init_ok {a b c : D} : wpF m_Web____init__ [.ins "Web" [] [], .val a, .val b, .val c] fun r out => r = .ok (.val .non) ∧ out = [some (.ins "Web" ["names", "weights", "lots"] [.val a, .val b, .val c]), none, none, none] := by
  refine wpF_dfn (env := [some (.ins "Web" [] []), some (.val a), some (.val b), some (.val c)]) rfl ?_
  unfold b_Web____init__
  walk_at "e"
  rw [fput_new (by decide +kernel) (by simp)]
  walk_at "e"
  rw [fput_new (by decide +kernel) (by simp)]
  walk_at "e"
  rw [fput_new (by decide +kernel) (by simp)]
  walk_at "e"
def webO (ns : List Str) (ws : List Nat) (ls : Lots) : O := .ins "Web" ["names", "weights", "lots"] [.val (.tup (ns.map .str)), .val (.tup (ws.map dn)), .val (.tup (ls.map lotsD))]
theorem web_er {ns : List Str} {ws : List Nat} {ls : Lots} : (webO ns ws ls).er = webD ns ws ls := rfl
theorem web_ok {n : Nat} {ws : List Nat} {ls : Lots} (h : FrB n ws ls) : wpF m__law_web [.val (frameD ws ls)] fun r out => r = .ok (webO (nms n) ws ls) ∧ out = [none] := by
  refine wpF_dfn (env := [some (.val (frameD ws ls)), none]) rfl ?_
  unfold b__law_web
  have hw := h.w1
  have hl := h.l1
  have hn := h.hi
  have hlet : wpF m__law_letters_of [.val (frameD ws ls)] fun r out => r = .ok (.lst (((nms n).map .str).map .val)) ∧ out = [none] := by
    refine wpF_dfn (env := [some (.val (frameD ws ls)), none]) rfl ?_
    unfold b__law_letters_of
    walk_at "e"
    rw [many_eq (h.wbk (nms_len n))]
    walk_at "e"
    rw [range_dn]
    refine kLc_map (fun t => .str ("q" ++ ltr t)) (by rw [e_size, List.length_range]; omega) (by walk_at "wip") (by walk_at "bck") ?_ ?_
    · intro t ht acc
      have ht := List.mem_range.mp ht
      walk_at "e"
      rw [ltr_ix (by omega)]
      walk_at "e"
      rw [add_str (by rw [e_size]; show 1 + 1 ≤ _; omega)]
      walk_at "e"
    · walk_at "e"
      unfold nms
      simp only [List.map_map]
      rfl
  walk_at "e"
  rw [eqF hlet]
  walk_at "e"
  rw [f_w]
  walk_at "e"
  rw [f_l]
  walk_at "e"
  refine kLc_map lotsD (by rw [e_size]; omega) (by walk_at "wip") (by walk_at "bck") ?_ ?_
  · intro t ht acc
    walk_at "e"
  · walk_at "e"
    rw [List.map_cons, List.map_cons, List.map_cons, List.map_nil, eqF web_init_ok]
    walk_at "e"
    rfl
theorem some_mask_ok {n : Nat} {ws : List Nat} {ls : Lots} {dl : O} (hd : Dl dl) (h : FrB n ws ls) : wpF m__law_some_mask [dl, .val (frameD ws ls)] fun r out => ∃ (b : Nat) (dl' : O), r = .ok (.val (.int (b : Int))) ∧ b < 2 ^ n ∧ out = [some dl', none] ∧ Dl dl' := by
  refine wpF_dfn (env := [some dl, some (.val (frameD ws ls))]) rfl ?_
  unfold b__law_some_mask
  have hn := h.hi
  walk_at "e"
  rw [many_eq (h.wbk (nms_len n))]
  walk_at "e"
  rw [two_eq (by omega)]
  walk_at "e"
  have h2 := two_lt (t := n) (by omega)
  refine wpF.mono (any_nat hd (b := 2 ^ n) (Nat.two_pow_pos n) (by omega)) ?_
  rintro r out ⟨i, dl2, rfl, rfl, h4, h5⟩
  walk_at "e"
  exact ⟨i, dl2, rfl, h4, rfl, h5⟩
theorem lob_lt {n b i : Nat} (hn : n ≤ 16) (hb : b < 2 ^ n) (h : i ∈ lob b) : i < n := by
  rw [mem_lob (bits_lt hn hb)] at h
  have := Nat.ge_two_pow_of_testBit h
  exact (Nat.pow_lt_pow_iff_right (by decide : 1 < 2)).mp (by omega)
theorem finE_lt {n b : Nat} {s : List Int} (hb : b < 2 ^ n) (hs : ∀ e ∈ s, EvB n e) : finE b s < 2 ^ n := fin_lt b _ hb fun u hu => by
  obtain ⟨x, hx, rfl⟩ := List.mem_map.mp hu
  exact (hs x hx).lt
theorem of_ints {dl : O} {xs : List Int} (hd : Dl dl) (h0 : xs ≠ []) (hl : xs.length ≤ 100000) : wpF m__law_of [dl, .val (.lst (xs.map .int))] fun r out => ∃ (x : Int) (dl' : O), r = .ok (.val (.int x)) ∧ x ∈ xs ∧ out = [some dl', none] ∧ Dl dl' := by
  refine wpF.mono (of_gen hd (by simpa using h0) (by rw [List.length_map]; exact hl)) ?_
  rintro r out ⟨d, dl', rfl, h1, rfl, h3⟩
  obtain ⟨x, hx, rfl⟩ := List.mem_map.mp h1
  exact ⟨x, dl', rfl, hx, rfl, h3⟩
theorem cutL_last {α : Type} (xs : List α) (x : α) : cutL (xs ++ [x]) (some (-1)) none = [x] := by
  unfold cutL
  rw [HT.sIx_none]
  have e : HT.sIx (xs ++ [x]).length 0 (some (-1)) = xs.length := by
    show (if (-1 : Int) < 0 then ((-1 : Int) + ((xs ++ [x]).length : Int)).toNat else min (-1 : Int).toNat (xs ++ [x]).length) = _
    rw [if_pos (by decide), List.length_append, List.length_singleton]; omega
  rw [e, List.drop_left, List.length_append, List.length_singleton, Nat.add_sub_cancel_left]; rfl
theorem events_ok {n many b : Nat} {ws : List Nat} {ls : Lots} {dl : O} (hd : Dl dl) (h : FrB n ws ls) (hb : b < 2 ^ n) (hm : many ≤ 100) : wpF m__law_events [dl, .val (frameD ws ls), .val (.int (b : Int)), .val (.int (many : Int))] fun r out => ∃ (s : List Int) (dl' : O), r = .ok (.val (evD s)) ∧ s.length = many ∧ evs ls b s = true ∧ (∀ e ∈ s, EvB n e) ∧ out = [some dl', none, none, none] ∧ Dl dl' := by
  refine wpF_dfn (env := [some dl, some (.val (frameD ws ls)), some (.val (.int (b : Int))), some (.val (.int (many : Int))), none, none, none, none]) rfl ?_
  unfold b__law_events
  have hn := h.hi
  have hW := h.wbk (nms_len n)
  walk_at "e"
  refine wp_forF (fun i e => ∃ (s : List Int) (dl : O) (u v : Option O), Dl dl ∧ s.length = i ∧ evs ls b s = true ∧ (∀ e ∈ s, EvB n e) ∧ e = [some dl, some (.val (frameD ws ls)), some (.val (.int ((finE b s : Nat) : Int))), some (.val (.int (many : Int))), some (.lst ((s.map D.int).map .val)), u, v, none]) _ ⟨[], dl, none, none, hd, rfl, rfl, fun e he => absurd he List.not_mem_nil, rfl⟩ ?_ ?_
  · rintro i d e hi ⟨s, dl, u, v, hd, hsl, hok, hs, rfl⟩
    obtain ⟨rfl, hi⟩ := range_get hi
    have hfb := finE_lt hb hs
    have hll := lob_len (finE b s)
    walk_at "e"
    rw [many_eq hW]
    walk_at "e"
    rw [range_dn]
    refine kLc_pure (fun t => isLet ls (finE b s) t) dn (by rw [e_size, List.length_range]; omega) (by walk_at "wip") (by walk_at "bck") ?_ ?_
    · intro t ht acc
      have ht := List.mem_range.mp ht
      walk_at "e"
      rw [borne_eq hW ht]
      walk_at "e"
      cases q : isLet ls (finE b s) t
      · walk_at "e"; simp
      · walk_at "e"
    · have hfl : ((List.range n).filter fun t => isLet ls (finE b s) t).length ≤ n := Nat.le_trans (List.length_filter_le _ _) (by rw [List.length_range]; exact Nat.le_refl _)
      walk_at "e"
      rw [bits_eq (Nat.lt_of_lt_of_le hfb (Nat.pow_le_pow_right (by decide) (by omega)))]
      walk_at "e"
      refine kLc_map (fun t => .int (0 - 1 - (t : Int))) (by rw [e_size]; omega) (by walk_at "wip") (by walk_at "bck") ?_ ?_
      · intro t ht acc
        walk_at "e"
      · walk_at "e"
        rw [x_addl (by rw [List.length_map, List.length_append, List.length_map, e_size]; omega)]
        walk_at "e"
        generalize hE : ((List.range n).filter fun t => isLet ls (finE b s) t) = L at hfl
        have hxs : (L ++ L).map dn ++ (lob (finE b s)).map (fun t : Nat => D.int (0 - 1 - (t : Int))) = ((L ++ L).map (fun t : Nat => (t : Int)) ++ (lob (finE b s)).map (fun t : Nat => 0 - 1 - (t : Int))).map D.int := by
          rw [List.map_append (f := D.int), List.map_map, List.map_map]; rfl
        rw [hxs]
        refine wpF.mono (of_ints hd ?_ ?_) ?_
        · intro z
          have h0 : (0 : Nat) ∈ L := by rw [← hE, List.mem_filter, List.mem_range]; exact ⟨by have := h.lo; omega, h.borne0 _⟩
          have : ((0 : Nat) : Int) ∈ (L ++ L).map (fun t : Nat => (t : Int)) ++ (lob (finE b s)).map (fun t : Nat => 0 - 1 - (t : Int)) := List.mem_append_left _ (List.mem_map.mpr ⟨0, List.mem_append_left _ h0, rfl⟩)
          rw [z] at this
          exact absurd this List.not_mem_nil
        · simp only [List.length_append, List.length_map]; omega
        rintro r out ⟨ev, dl2, rfl, hev, rfl, hd2⟩
        have hE2 : EvB n ev ∧ evL ls (finE b s) ev = true := by
          rcases List.mem_append.mp hev with z | z
          · obtain ⟨t, ht, rfl⟩ := List.mem_map.mp z
            have ht : t ∈ L := by rcases List.mem_append.mp ht with y | y <;> exact y
            rw [← hE, List.mem_filter, List.mem_range] at ht
            refine ⟨⟨by omega, by omega⟩, ?_⟩
            unfold evL evT
            rw [if_neg (by omega), if_neg (by omega), Int.toNat_natCast]
            exact ht.2
          · obtain ⟨t, ht, rfl⟩ := List.mem_map.mp z
            have h1 := lob_lt (by omega) hfb ht
            refine ⟨⟨by omega, by omega⟩, ?_⟩
            unfold evL evT
            rw [if_pos (by omega), if_pos (by omega)]
            rw [mem_lob (bits_lt (by omega) hfb)] at ht
            rw [show ((-1 : Int) - (0 - 1 - (t : Int))).toNat = t by omega]
            exact ht
        walk_at "e"
        refine ⟨by rw [e_size]; omega, ?_⟩
        have hsn : (s.map D.int).map O.val ++ [O.val (D.int ev)] = ((s ++ [ev]).map D.int).map O.val := by rw [map_snoc, map_snoc]
        have hcut : dCutO (.lst ((s ++ [ev]).map D.int)) (some (-1)) none = some (.lst (([ev].map D.int).map .val)) := by
          show some (O.lst ((cutL ((s ++ [ev]).map D.int) (some (-1)) none).map .val)) = _
          rw [map_snoc, cutL_last]; rfl
        rw [hsn]
        walk_at "e"
        rw [hcut]
        walk_at "e"
        have hb1 := eqF (behind_ok hW (s := [ev]) (.inr rfl) hfb (fun e he => by rw [List.mem_singleton.mp he]; exact hE2.1) (by simp))
        have hev1 : evs ls (finE b s) [ev] = true := by simp [evs, hE2.2]
        rw [hev1, ifO_t] at hb1
        rw [show D.lst (List.map D.int [ev]) = D.lst ([ev].map .int) from rfl, hb1]
        have hla : dIx (.lst ((scanE (finE b s) [ev]).map dn)) (.int (-1)) = some (dn (flp (finE b s) (evT ev))) := rfl
        walk_at "e"
        rw [hla]
        walk_at "e"
        have hfe : finE b (s ++ [ev]) = flp (finE b s) (evT ev) := by
          show fin b ((s ++ [ev]).map evT) = _
          rw [map_snoc, fin_snoc]
        rw [← hfe]
        refine ⟨s ++ [ev], dl2, _, _, hd2, by simp [hsl], by rw [evs_snoc, hok, hE2.2]; rfl, fun e he => ?_, rfl⟩
        rcases List.mem_append.mp he with y | y
        · exact hs e y
        · rw [List.mem_singleton.mp y]; exact hE2.1
  · rintro e ⟨s, dl, u, v, hd, hsl, hok, hs, rfl⟩
    rw [range_len] at hsl
    walk_at "e"
    exact ⟨s, dl, rfl, hsl, hok, hs, rfl, hd⟩
theorem len_le {α : Type} {l : List α} {n : Nat} (h : l.length ≤ n) (hn : n ≤ 1000 := by decide) : l.length ≤ sizeLine := Nat.le_trans (Nat.le_trans h hn) (by decide)
theorem get_ints {ns : List Int} {i : Nat} {d : D} (h : (ns.map D.int)[i]? = some d) : ∃ c, d = .int c ∧ ns[i]? = some c := by
  rw [List.getElem?_map] at h
  cases q : ns[i]? with
  | none => rw [q] at h; cases h
  | some c => rw [q] at h; exact ⟨c, (Option.some.inj h).symm, rfl⟩
theorem deal_ok {ns : List Int} {salt : Int} (hn : ns.length ≤ 63) : wpF m__law_deal [.val (.frl (ns.map D.int)), .val (.int salt)] fun r out => ∃ dl, r = .ok dl ∧ out = [none, none] ∧ Dl dl := by
  refine wpF_dfn (env := [some (.val (.frl (ns.map D.int))), some (.val (.int salt)), none, none, none, none]) rfl ?_
  unfold b__law_deal
  walk_at "go"
  rw [show (some (63 : Int)) = some ((63 : Nat) : Int) from rfl, cutL_take, List.take_of_length_le (by rw [List.length_map]; omega)]
  have hw : (0 : Int) < 10 ^ Int.toNat 64 * 10 ^ Int.toNat 64 * 10 ^ Int.toNat 64 * 10 ^ Int.toNat 64 * 10 ^ Int.toNat 64 * 10 ^ Int.toNat 64 := by decide +kernel
  generalize (10 : Int) ^ Int.toNat 64 * 10 ^ Int.toNat 64 * 10 ^ Int.toNat 64 * 10 ^ Int.toNat 64 * 10 ^ Int.toNat 64 * 10 ^ Int.toNat 64 = w at hw ⊢
  refine kLc_ok (fun i acc e => ∃ cs : List Int, acc = (cs.map D.int).map .val ∧ cs.length = i ∧ e = [some (O.val (D.frl (ns.map D.int))), some (O.val (D.int salt)), some (O.val (D.int w)), none, none, none]) (len_le (n := 63) (by rw [List.length_map]; exact hn)) (by walk_at "wip") ⟨[], rfl, rfl, rfl⟩ ?_ ?_
  · rintro i d acc e hd ⟨cs, rfl, hi, rfl⟩
    obtain ⟨c, rfl, hc⟩ := get_ints hd
    walk_at "go"
    exact ⟨cs ++ [(if c < 0 then -c else c) % w], by simp, by simp [hi], rfl⟩
  rintro os e ⟨cs0, rfl, hi, rfl⟩
  rw [List.length_map] at hi
  refine ⟨_, by walk_at "bck", ?_⟩
  walk_at "go"
  refine wp_forF (fun i e => ∃ m o : Int, ∃ x, e = [some (O.val (D.frl (ns.map D.int))), some (O.val (D.int salt)), some (O.val (D.int w)), some (O.val (D.lst (cs0.map D.int))), some (O.val (D.int m)), x]) _ ⟨_, 0, _, rfl⟩ ?_ ?_
  · rintro i d e hd ⟨m, o, x, rfl⟩
    obtain ⟨c, rfl, hc⟩ := get_ints hd
    walk_at "go"
    exact ⟨_, 0, _, rfl⟩
  rintro e ⟨m, o, x, rfl⟩
  walk_at "go"
  refine kLc_ok (fun i acc e => ∃ cs : List Int, acc = (cs.map D.int).map .val ∧ cs.length ≤ i ∧ e = [some (O.val (D.frl (ns.map D.int))), some (O.val (D.int salt)), some (O.val (D.int w)), some (O.val (D.lst (cs0.map D.int))), some (O.val (D.int m)), none]) (len_le (n := 63) (by rw [List.length_map]; omega)) (by walk_at "wip") ⟨[], rfl, Nat.le_refl _, rfl⟩ ?_ ?_
  · rintro i d acc e hd ⟨cs, rfl, hi, rfl⟩
    obtain ⟨c, rfl, hc⟩ := get_ints hd
    walk_at "go"
    · exact ⟨cs ++ [c], by simp, by simp; exact hi, rfl⟩
    · exact ⟨cs, rfl, by omega, rfl⟩
  rintro os e ⟨cs2, rfl, hi2, rfl⟩
  rw [List.length_map] at hi2
  refine ⟨_, by walk_at "bck", ?_⟩
  walk_at "go"
  rw [← List.map_reverse]
  refine ⟨_, rfl, rfl, cs2.reverse, m, rfl, by simp; omega⟩
theorem tws {ds : List D} {a : D} : ds.map tw ++ [.tup [a, a]] = (ds ++ [a]).map tw := map_snoc.symm
theorem twsV {ds : List D} {a : D} : (ds.map tw).map O.val ++ [O.val (.tup [a, a])] = ((ds ++ [a]).map tw).map O.val := by rw [map_snoc, map_snoc]; rfl
def duD (ls : Lots) (b : Nat) (s : List Int) : D := ifD (evs ls b s) (pathD (scanE b s))
theorem good_du {ls : Lots} {b : Nat} {s : List Int} (h : s.length ≤ 1000) : Good (duD ls b s) := by
  unfold duD ifD
  split
  · exact good_path _ (by rw [scan_len, List.length_map]; omega)
  · exact good_non
noncomputable def S9 : M Fl := (sSet (om (mIf (bm (bin dGt (qVar 3) (qm (M.ret (.int 0))))) (vm (oCall m_wiped_walk [none, none, none] (gV (vVar 5) (gV (vm (oCall m__law_bits [none] (gV (vVar 6) gNl))) (gV (vVar 7) gNl))))) (vm (oCall m_wiped_walk [none, none, none] (M.map (ord [2, 1, 0] (.v .non)) (aBoth gNl (gV (vVar 7) (gV (vm (oCall m__law_bits [none] (gV (vVar 6) gNl))) (gV (vVar 5) gNl))))))))) (gSet 9))
theorem S9_def : S9 = (sSet (om (mIf (bm (bin dGt (qVar 3) (qm (M.ret (.int 0))))) (vm (oCall m_wiped_walk [none, none, none] (gV (vVar 5) (gV (vm (oCall m__law_bits [none] (gV (vVar 6) gNl))) (gV (vVar 7) gNl))))) (vm (oCall m_wiped_walk [none, none, none] (M.map (ord [2, 1, 0] (.v .non)) (aBoth gNl (gV (vVar 7) (gV (vm (oCall m__law_bits [none] (gV (vVar 6) gNl))) (gV (vVar 5) gNl))))))))) (gSet 9)) := rfl
noncomputable def S2 : M Fl := (sSet (oAdd (qVar 2) (qm (vm (oLst (aCons (vTup (aCons (mIf (bm (bin dGt (qVar 3) (qm (M.ret (.int 0))))) (vm (oCall m_wipes_in [none] (gV (vVar 7) gNl))) (vm (oCall m_wipes_in [none] (M.map (ord [0] (.v .non)) (aBoth gNl (gV (vVar 7) gNl)))))) (aCons (un dLen (qm (vm (oLc [16] (iVal (vVar 7)) (gSet 16) (bm (bin dLt (qVar 16) (qm (M.ret (.int 0))))) (om (vVar 16)))))) aNil))) aNil))))) (gSet 2))
theorem S2_def : S2 = (sSet (oAdd (qVar 2) (qm (vm (oLst (aCons (vTup (aCons (mIf (bm (bin dGt (qVar 3) (qm (M.ret (.int 0))))) (vm (oCall m_wipes_in [none] (gV (vVar 7) gNl))) (vm (oCall m_wipes_in [none] (M.map (ord [0] (.v .non)) (aBoth gNl (gV (vVar 7) gNl)))))) (aCons (un dLen (qm (vm (oLc [16] (iVal (vVar 7)) (gSet 16) (bm (bin dLt (qVar 16) (qm (M.ret (.int 0))))) (om (vVar 16)))))) aNil))) aNil))))) (gSet 2)) := rfl
theorem S9_ok {i n b : Nat} {ws : List Nat} {ls : Lots} {s : List Int} (h : FrB n ws ls) (hb : b < 2 ^ n) (hs : ∀ e ∈ s, EvB n e) (hl : s.length ≤ 1000) {x0 x1 x2 x8 x9 x10 x11 x12 x13 x14 x15 x16 : Option O} :
    wp S9 [x0, x1, x2, some (.val (.int (i : Int))), some (.val (frameD ws ls)), some (.val (webD (nms n) ws ls)), some (.val (.int (b : Int))), some (.val (evD s)), x8, x9, x10, x11, x12, x13, x14, x15, x16] fun r e => r = .ok .nx ∧ e = [x0, x1, x2, some (.val (.int (i : Int))), some (.val (frameD ws ls)), some (.val (webD (nms n) ws ls)), some (.val (.int (b : Int))), some (.val (evD s)), x8, some (.val (duD ls b s)), x10, x11, x12, x13, x14, x15, x16] := by
  have hW := h.wbk (nms_len n)
  have hn := h.hi
  have hb12 : b < 2 ^ 12 := Nat.lt_of_lt_of_le hb (Nat.pow_le_pow_right (by decide) (by omega))
  rw [S9_def]
  walk_at "e"
  refine ⟨fun _ => ?_, fun _ => ?_⟩
  · rw [bits_eq hb12]
    walk_at "e"
    rw [wiped_walk_eq hW hb hs hl]
    walk_at "e"
    rfl
  · rw [bits_eq hb12]
    walk_at "e"
    rw [wiped_walk_eq hW hb hs hl]
    walk_at "e"
    rfl
abbrev nW (s : List Int) : D := .int (((s.filter fun e => decide (e < 0)).length : Nat) : Int)
theorem S2_ok {i : Nat} {s : List Int} {ds : List D} (hl : s.length ≤ 1000) (hds : ds.length ≤ 90000) {x0 x1 x4 x5 x6 x8 x9 x10 x11 x12 x13 x14 x15 : Option O} :
    wp S2 [x0, x1, some (.lst ((ds.map tw).map .val)), some (.val (.int (i : Int))), x4, x5, x6, some (.val (evD s)), x8, x9, x10, x11, x12, x13, x14, x15, none] fun r e => r = .ok .nx ∧ e = [x0, x1, some (.lst (((ds ++ [nW s]).map tw).map .val)), some (.val (.int (i : Int))), x4, x5, x6, some (.val (evD s)), x8, x9, x10, x11, x12, x13, x14, x15, none] := by
  rw [S2_def]
  walk_at "e"
  have fin : (ds ++ [nW s]).map tw = ds.map tw ++ [.tup [nW s, nW s]] := map_snoc
  refine ⟨fun _ => ?_, fun _ => ?_⟩
  · rw [eqF (wipes_in_ok hl)]
    walk_at "e"
    refine kLc_pure (fun e : Int => decide (e < 0)) D.int (by rw [e_size]; omega) (by walk_at "wip") (by walk_at "bck") ?_ ?_
    · intro a ha acc
      walk_at "e"
      by_cases h : a < 0 <;> simp [h]
    · walk_at "e"
      rw [fin]
  · rw [eqF (wipes_in_ok hl)]
    walk_at "e"
    refine kLc_pure (fun e : Int => decide (e < 0)) D.int (by rw [e_size]; omega) (by walk_at "wip") (by walk_at "bck") ?_ ?_
    · intro a ha acc
      walk_at "e"
      by_cases h : a < 0 <;> simp [h]
    · walk_at "e"
      rw [fin]
theorem ww_lit {n : Nat} {ns : List Str} {ws : List Nat} {ls : Lots} (h : Wb n ns ws ls) {b : Nat} {s : List Int} {S : List Nat} {path : List (List Nat)} (hb : b < 2 ^ n) (hs : ∀ e ∈ s, EvB n e) (hl : s.length ≤ 1000) (hS : lob b = S) (hp : (scanE b s).map lob = path) (ho : evs ls b s = true) (Q : Kt O) : wpF m_wiped_walk [.val (webD ns ws ls), .val (lotD S), .val (evD s)] Q = Q (.ok (.val (lotsD path))) [none, none, none] := by
  have := wiped_walk_eq h hb hs hl Q
  rw [ho, ifD_t] at this
  subst hS hp
  rw [show lotsD ((scanE b s).map lob) = pathD (scanE b s) by show D.tup _ = D.tup _; rw [List.map_map]; rfl]
  exact this
theorem ww_lit0 {n : Nat} {ns : List Str} {ws : List Nat} {ls : Lots} (h : Wb n ns ws ls) {b : Nat} {s : List Int} {S : List Nat} (hb : b < 2 ^ n) (hs : ∀ e ∈ s, EvB n e) (hl : s.length ≤ 1000) (hS : lob b = S) (ho : evs ls b s = false) (Q : Kt O) : wpF m_wiped_walk [.val (webD ns ws ls), .val (lotD S), .val (evD s)] Q = Q (.ok (.val .non)) [none, none, none] := by
  have := wiped_walk_eq h hb hs hl Q
  rw [ho, ifD_f] at this
  subst hS
  exact this
theorem evb_all {n : Nat} {s : List Int} (h : (s.all fun e => decide (-(n : Int) ≤ e) && decide (e < n)) = true) : ∀ e ∈ s, EvB n e := fun e he => by
  have := List.all_eq_true.mp h e he
  simp only [Bool.and_eq_true, decide_eq_true_eq] at this
  exact this
theorem law_holds : ∀ ns : List Int, ns.length ≤ 63 → ∃ out, m_law [.val (.frl (ns.map D.int))] = some (.ok (.val (.bl true)), out) := by
  intro ns hn
  suffices h : wpF m_law [.val (.frl (ns.map D.int))] fun r out => r = .ok (.val (.bl true)) by
    obtain ⟨r, out, h1, rfl⟩ := h
    exact ⟨out, h1⟩
  refine wpF_dfn (env := [some (.val (.frl (ns.map D.int))), none, none, none, none, none, none, none, none, none, none, none, none, none, none, none, none]) rfl ?_
  unfold b_law
  rw [← S9_def, ← S2_def]
  walk_at "e"
  refine wpF.mono (deal_ok hn) ?_
  rintro r out ⟨dl, rfl, rfl, hd⟩
  walk_at "e"
  have SC : ∃ sc : Option O, sc = some (.val (.frl (ns.map D.int))) := ⟨_, rfl⟩
  obtain ⟨sc, hsc⟩ := SC
  rw [← hsc]
  refine wp_forF (fun i e => ∃ (ds : List D) (dl : O) (x3 x4 x5 x6 x7 x8 x9 x10 x11 x12 x13 x14 x15 : Option O), Dl dl ∧ (∀ d ∈ ds, Good d) ∧ ds.length ≤ 20 * i ∧ e = [sc, some dl, some (.lst ((ds.map tw).map .val)), x3, x4, x5, x6, x7, x8, x9, x10, x11, x12, x13, x14, x15, none]) _ ⟨[], dl, none, none, none, none, none, none, none, none, none, none, none, none, none, hd, fun d h => absurd h List.not_mem_nil, Nat.le_refl _, rfl⟩ ?_ ?_
  · rintro i d e hi ⟨ds, dl, x3, x4, x5, x6, x7, x8, x9, x10, x11, x12, x13, x14, x15, hd, hg, hlen, rfl⟩
    obtain ⟨e1, hlt⟩ := range_get hi
    subst e1
    clear hi
    have hlt9 : i < 7 := hlt
    walk_at "e"
    refine wpF.mono (some_frame_ok hd) ?_
    rintro r out ⟨o, n, ws, ls, dl, rfl, her, hF, rfl, hd⟩
    have hW := hF.wbk (nms_len n)
    have hn6 := hF.hi
    walk_at "e"
    rw [her, eqF (web_ok hF)]
    walk_at "e"
    rw [web_er]
    refine wpF.mono (some_mask_ok hd hF) ?_
    rintro r out ⟨b, dl, rfl, hb, rfl, hd⟩
    walk_at "e"
    refine wpF.mono (any_nat hd (b := 25) (by decide) (by decide)) ?_
    rintro r out ⟨many, dl, rfl, rfl, h2, hd⟩
    walk_at "e"
    refine wpF.mono (events_ok hd hF hb (many := many) (by omega)) ?_
    rintro r out ⟨s, dl, rfl, hsl, hok, hs, rfl, hd⟩
    have hb12 : b < 2 ^ 12 := Nat.lt_of_lt_of_le hb (Nat.pow_le_pow_right (by decide) (by omega))
    walk_at "e"
    rw [eqF (behind_ok hW (s := s) (.inl rfl) hb hs (by omega)), hok, ifO_t]
    walk_at "e"
    have hsc2 : ∀ x ∈ scanE b s, x < 2 ^ 12 := fun x hx => Nat.lt_of_lt_of_le (scan_lt b _ hb (fun u hu => by
      obtain ⟨y, hy, rfl⟩ := List.mem_map.mp hu
      exact (hs y hy).lt) x hx) (Nat.pow_le_pow_right (by decide) (by omega))
    have hscl : (scanE b s).length ≤ 100 := by rw [scan_len, List.length_map]; omega
    refine kLc_map bD (by rw [e_size]; omega) (by walk_at "wip") (by walk_at "bck") ?_ ?_
    · intro a ha acc
      walk_at "e"
      rw [bits_eq (hsc2 a ha)]
      walk_at "e"
    · walk_at "e"
      have hww : ∀ (s : List Int), s.length ≤ 1000 → (∀ e ∈ s, EvB n e) → ∀ Q : Kt O, wpF m_wiped_walk [.val (webD (nms n) ws ls), .val (bD b), .val (evD s)] Q = Q (.ok (.val (duD ls b s))) [none, none, none] := fun s h1 h2 Q => wiped_walk_eq hW hb h2 h1 Q
      have hdu : duD ls b s = .tup ((scanE b s).map bD) := by unfold duD; rw [hok, ifD_t]
      refine wp.mono (S9_ok hF hb hs (by omega)) ?_
      rintro r e ⟨rfl, rfl⟩
      rw [hdu]
      have hg1 : Good (.tup ((scanE b s).map bD)) := good_path _ (by omega)
      generalize D.tup ((scanE b s).map bD) = p1 at hg1
      walk_at "e"
      rw [tws]
      refine wp.mono (S2_ok (ds := ds ++ [p1]) (by omega) (by simp; omega)) ?_
      rintro r e ⟨rfl, rfl⟩
      walk_at "e"
      have hg2 : Good (nW s) := good_int _
      generalize nW s = p2 at hg2
      refine wp_forF (fun k e => ∃ (es : List D) (dl : O) (y10 y11 y12 y13 y14 : Option O), Dl dl ∧ (∀ d ∈ es, Good d) ∧ es.length ≤ ds.length + 2 + k ∧ e = [sc, some dl, some (.lst ((es.map tw).map .val)), some (.val (.int (i : Int))), some (.val (frameD ws ls)), some (.val (webD (nms n) ws ls)), some (.val (.int (b : Int))), some (.val (evD s)), some (.val p1), some (.val p1), y10, y11, y12, y13, y14, x15, none]) _ ⟨ds ++ [p1] ++ [p2], dl, _, _, _, _, _, hd, ?_, ?_, rfl⟩ ?_ ?_
      · exact goods_app (goods_app hg (goods_cons hg1 goods_nil)) (goods_cons hg2 goods_nil)
      · simp only [List.length_append, List.length_singleton]; omega
      · rintro k d e hk ⟨es, dl, y10, y11, y12, y13, y14, hd, hge, hel, rfl⟩
        obtain ⟨rfl, hk⟩ := range_get hk
        walk_at "e"
        rw [show (s.length : Int) + 1 = ((s.length + 1 : Nat) : Int) by omega]
        refine wpF.mono (any_nat hd (b := s.length + 1) (by omega) (by omega)) ?_
        rintro r out ⟨at_, dl, rfl, rfl, h3, hd⟩
        walk_at "e"
        rw [many_eq hW]
        walk_at "e"
        rw [show (2 : Int) * (n : Int) = ((2 * n : Nat) : Int) by omega]
        refine wpF.mono (any_nat hd (b := 2 * n) (by have := hF.lo; omega) (by omega)) ?_
        rintro r out ⟨v, dl, rfl, rfl, h4, hd⟩
        walk_at "e"
        rw [many_eq hW]
        walk_at "e"
        have hev : EvB n ((v : Int) - (n : Int)) := ⟨by omega, by omega⟩
        generalize (v : Int) - (n : Int) = ev at hev
        have htk : (s.take at_).length ≤ 25 := by rw [List.length_take]; omega
        have hdk : (s.drop at_).length ≤ 25 := by rw [List.length_drop]; omega
        rw [x_addt (by rw [List.length_map, e_size, List.length_singleton]; omega)]
        walk_at "e"
        rw [show (s.take at_).map D.int ++ [D.int ev] = (s.take at_ ++ [ev]).map D.int from map_snoc.symm]
        rw [x_addti (by rw [List.length_append, List.length_singleton]; omega)]
        have hlate : ∀ e ∈ s.take at_ ++ [ev] ++ s.drop at_, EvB n e := fun e he => by
          rcases List.mem_append.mp he with y | y
          · rcases List.mem_append.mp y with y | y
            · exact hs e (List.mem_of_mem_take y)
            · rw [List.mem_singleton.mp y]; exact hev
          · exact hs e (List.mem_of_mem_drop y)
        have hlatel : (s.take at_ ++ [ev] ++ s.drop at_).length ≤ 60 := by rw [List.length_append, List.length_append, List.length_singleton]; omega
        generalize s.take at_ ++ [ev] ++ s.drop at_ = late at hlate hlatel
        walk_at "e"
        rw [eqF (behind_ok hW (s := late) (.inl rfl) hb hlate (by omega))]
        have hg3 : Good (duD ls b late) := good_du (by omega)
        have hsl3 : es.length < sizeLine := by rw [e_size]; omega
        cases q : evs ls b late
        · have hdu3 : duD ls b late = .non := by unfold duD; rw [q, ifD_f]
          rw [ifO_f]
          walk_at "e"
          rw [bits_eq hb12]
          walk_at "e"
          rw [hww late (by omega) hlate, hdu3]
          walk_at "e"
          rw [twsV]
          refine ⟨hsl3, es ++ [.non], dl, _, _, _, _, _, hd, goods_app hge (goods_cons good_non goods_nil), by rw [List.length_append, List.length_singleton]; omega, rfl⟩
        · have hdu3 : duD ls b late = .tup ((scanE b late).map bD) := by unfold duD; rw [q, ifD_t]
          have hsc3 : ∀ x ∈ scanE b late, x < 2 ^ 12 := fun x hx => Nat.lt_of_lt_of_le (scan_lt b _ hb (fun u hu => by
            obtain ⟨y, hy, rfl⟩ := List.mem_map.mp hu
            exact (hlate y hy).lt) x hx) (Nat.pow_le_pow_right (by decide) (by omega))
          have hscl3 : (scanE b late).length ≤ 100 := by rw [scan_len, List.length_map]; omega
          rw [ifO_t]
          walk_at "e"
          rw [bits_eq hb12]
          walk_at "e"
          rw [hww late (by omega) hlate]
          walk_at "e"
          rw [x_is_l]
          walk_at "e"
          refine kLc_map bD (by rw [e_size]; omega) (by walk_at "wip") (by walk_at "bck") ?_ ?_
          · intro a ha acc
            walk_at "e"
            rw [bits_eq (hsc3 a ha)]
            walk_at "e"
          · walk_at "e"
            rw [← hdu3, twsV]
            refine ⟨hsl3, es ++ [duD ls b late], dl, _, _, _, _, _, hd, goods_app hge (goods_cons hg3 goods_nil), by rw [List.length_append, List.length_singleton]; omega, rfl⟩
      · rintro e ⟨es, dl, y10, y11, y12, y13, y14, hd, hge, hel, rfl⟩
        rw [range_len] at hel
        walk_at "e"
        refine kLc_pure (l := s) (fun e : Int => decide (0 ≤ e)) D.int (by rw [e_size]; omega) (by walk_at "wip") (by walk_at "bck") ?_ ?_
        · intro a ha acc
          walk_at "e"
          by_cases h : 0 ≤ a <;> simp [h]
        · have hst : ∀ e ∈ s.filter (fun e => decide (0 ≤ e)), 0 ≤ e := fun e he => of_decide_eq_true (List.mem_filter.mp he).2
          have hst2 : ∀ e ∈ s.filter (fun e => decide (0 ≤ e)), EvB n e := fun e he => hs e (List.mem_filter.mp he).1
          have hstl : (s.filter (fun e => decide (0 ≤ e))).length ≤ 60 := Nat.le_trans (List.length_filter_le _ _) (by omega)
          generalize s.filter (fun e => decide (0 ≤ e)) = st at hst hst2 hstl
          have hst3 : D.tup (st.map D.int) = lotD (st.map evT) := by
            show D.tup _ = D.tup _
            rw [List.map_map]
            congr 1
            refine List.map_congr_left fun e he => ?_
            have := hst e he
            show D.int e = D.int _
            exact congrArg _ (evT_pos (by omega))
          have hdu4 : duD ls b st = ifD (oks ls b (st.map evT)) (pathD (scan b (st.map evT))) := by unfold duD; rw [evs_steps hst]
          walk_at "e"
          rw [bits_eq hb12]
          walk_at "e"
          rw [hww st (by omega) hst2]
          walk_at "e"
          rw [bits_eq hb12]
          walk_at "e"
          rw [hst3, walked_eq hW hb (fun t ht => by
            obtain ⟨e, he, rfl⟩ := List.mem_map.mp ht
            exact (hst2 e he).lt) (by rw [List.length_map]; omega), ← hdu4]
          walk_at "e"
          rw [tws, bits_eq hb12]
          walk_at "e"
          have hw0 := hww [] (by simp) (fun e he => absurd he List.not_mem_nil)
          have hdu0 : duD ls b [] = .tup [bD b] := rfl
          rw [hdu0] at hw0
          rw [show D.tup [] = evD [] from rfl, hw0]
          walk_at "e"
          rw [bits_eq hb12]
          walk_at "e"
          rw [tws]
          have hg5 : Good (D.tup [bD b]) := good_path [b] (by simp)
          have hg4 : Good (duD ls b st) := good_du (by omega)
          refine ⟨es ++ [duD ls b st] ++ [.tup [bD b]], dl, _, _, _, _, _, _, _, _, _, _, _, _, _, hd, goods_app (goods_app hge (goods_cons hg4 goods_nil)) (goods_cons hg5 goods_nil), ?_, rfl⟩
          simp only [List.length_append, List.length_singleton]; omega
  · rintro e ⟨ds, dl, x3, x4, x5, x6, x7, x8, x9, x10, x11, x12, x13, x14, x15, hd, hg, hlen, rfl⟩
    rw [range_len] at hlen
    walk_at "e"
    have hF3 := row_B (n := 3) (ws := [1, 1, 1]) (by decide) (by decide) rfl (by decide)
    refine wpF.mono (row_frame_ok (n := 3) (ws := [1, 1, 1]) (by decide) (by decide) rfl (by decide)) ?_
    rintro r out ⟨o, rfl, her, rfl⟩
    have hls : (((List.range 3).map fun t => [if 0 < t then [t - 1] else []]).map srtS) = ([[[]], [[0]], [[1]]] : Lots) := by decide +kernel
    rw [hls] at her hF3
    walk_at "e"
    rw [her, eqF (web_ok hF3)]
    walk_at "e"
    have hW := hF3.wbk (nms_len 3)
    rw [web_er]
    have h1 : ∀ Q, wpF m_wiped_walk [.val (webD (nms 3) [1, 1, 1] [[[]], [[0]], [[1]]]), .val (.tup []), .val (.tup [.int 0, .int 1, .int (0 - 1), .int 2])] Q = Q (.ok (.val (.tup [.tup [], .tup [.int 0], .tup [.int 0, .int 1], .tup [.int 1], .tup [.int 1, .int 2]]))) [none, none, none] :=
      fun Q => ww_lit hW (b := 0) (s := [0, 1, 0 - 1, 2]) (S := []) (path := [[], [0], [0, 1], [1], [1, 2]]) (by decide) (evb_all (by decide)) (by decide) (by decide +kernel) (by decide +kernel) (by decide +kernel) Q
    have h2 : ∀ Q, wpF m_wiped_walk [.val (webD (nms 3) [1, 1, 1] [[[]], [[0]], [[1]]]), .val (.tup []), .val (.tup [.int (0 - 1)])] Q = Q (.ok (.val .non)) [none, none, none] :=
      fun Q => ww_lit0 hW (b := 0) (s := [0 - 1]) (S := []) (by decide) (evb_all (by decide)) (by decide) (by decide +kernel) (by decide +kernel) Q
    have h3 : ∀ Q, wpF m_wiped_walk [.val (webD (nms 3) [1, 1, 1] [[[]], [[0]], [[1]]]), .val (.tup [.int 0, .int 2]), .val (.tup [.int (0 - 3), .int 0])] Q = Q (.ok (.val (.tup [.tup [.int 0, .int 2], .tup [.int 0], .tup []]))) [none, none, none] :=
      fun Q => ww_lit hW (b := 5) (s := [0 - 3, 0]) (S := [0, 2]) (path := [[0, 2], [0], []]) (by decide) (evb_all (by decide)) (by decide) (by decide +kernel) (by decide +kernel) (by decide +kernel) Q
    have h4 : ∀ Q, wpF m_wiped_walk [.val (webD (nms 3) [1, 1, 1] [[[]], [[0]], [[1]]]), .val (.tup [.int 2]), .val (.tup [.int 2])] Q = Q (.ok (.val .non)) [none, none, none] :=
      fun Q => ww_lit0 hW (b := 4) (s := [2]) (S := [2]) (by decide) (evb_all (by decide)) (by decide) (by decide +kernel) (by decide +kernel) Q
    have h5 : ∀ Q, wpF m_wipes_in [.val (.tup [])] Q = Q (.ok (.val (.int 0))) [none] := fun Q => eqF (wipes_in_ok (s := []) (by decide)) Q
    have h6 : ∀ Q, wpF m_wipes_in [.val (.tup [.int 0, .int (0 - 1), .int 2, .int (0 - 3)])] Q = Q (.ok (.val (.int 2))) [none] := fun Q => eqF (wipes_in_ok (s := [0, 0 - 1, 2, 0 - 3]) (by decide)) Q
    rw [h1]
    walk_at "e"
    rw [tws, h2]
    walk_at "e"
    rw [tws, h3]
    walk_at "e"
    rw [tws, h5]
    walk_at "e"
    rw [h6]
    walk_at "e"
    rw [h4]
    walk_at "e"
    have g1 : Good (D.tup [D.tup [], D.tup [D.int 0], D.tup [D.int 0, D.int 1], D.tup [D.int 1], D.tup [D.int 1, D.int 2]]) := good_lots [[], [0], [0, 1], [1], [1, 2]] (by decide) (by decide)
    have g2 : Good (D.tup [D.tup [D.int 0, D.int 2], D.tup [D.int 0], D.tup []]) := good_lots [[0, 2], [0], []] (by decide) (by decide)
    have ga := goods_app (goods_app (goods_app (goods_app hg (goods_cons g1 goods_nil)) (goods_cons good_non goods_nil)) (goods_cons g2 goods_nil)) (goods_cons (good_int 0) (goods_cons (good_int 2) (goods_cons good_non goods_nil)))
    rw [tw3 (by simp only [List.length_append, List.length_singleton]; omega)]
    walk_at "e"
    rw [eqF (all_ok ga (by simp only [List.length_append, List.length_cons, List.length_nil]; omega))]
    walk_at "e"
end LW
open PySem PySem.W PyProof.Rows
set_option maxHeartbeats 0 in
theorem PySem.Challenge.cw_onlyundone_k65_walks_with_wipes_holds : PySem.Challenge.rw_onlyundone_k65_walks_with_wipes.Holds := by
  w_on; o_law; k_head; (case hw => w_witness2)
  k_fill
  refine L2.walk_of (l := PySem.Challenge.rw_onlyundone_k65_walks_with_wipes) (n := 63) (k := 7) (x := "script") (CX := fun w => L2.CX PySem.Challenge.rw_onlyundone_k65_walks_with_wipes.prog w) (sp := fun w => PL.spTrue _ 63) rfl (by decide) rfl ⟨rfl, by decide, by decide⟩ (fun w h Y => PySem.W.kIn_of Y) ?F
    (fun _ _ a ns hl _ hS => PL.sp_true_of hl hS) (fun _ _ _ _ _ h => PL.no_end h)
  case F =>
    intro w mg fa h KX G hmg
    refine' PL.law_end (m := LW.m_law) (by decide) KX G hmg (fun _ _ _ _ _ _ _ _ => rfl) LW.law_holds (fun base => LW.ok_all (PL.defAt_mk "unlike" KX G ?a0 ?l0 ?c0 ?k0) (PL.defAt_mk "lot_of" KX G ?a1 ?l1 ?c1 ?k1) (PL.defAt_mk "is_within" KX G ?a2 ?l2 ?c2 ?k2) (PL.defAt_mk "with_thing" KX G ?a3 ?l3 ?c3 ?k3) (PL.defAt_mk "without_thing" KX G ?a4 ?l4 ?c4 ?k4) (PL.mkAt_mk KX G ?a5 ?b5 ?i5 ?l5 ?c5 ?k5 ?m5 ?n5 ?p5 ?h5 ?o5 ?s5 (PL.na_cons ?f5_0 (PL.na_cons ?f5_1 (PL.na_cons ?f5_2 PL.na_nil)))) (PL.defAt_mk "lot_of" KX G ?a6 ?l6 ?c6 ?k6) (PL.defAt_mk "lot_of" KX G ?a7 ?l7 ?c7 ?k7) (PL.defAt_mk "joined" KX G ?a8 ?l8 ?c8 ?k8) (PL.defAt_mk "less_one" KX G ?a9 ?l9 ?c9 ?k9) (PL.defAt_mk "is_borne" KX G ?a10 ?l10 ?c10 ?k10) (PL.defAt_mk "let_at" KX G ?a11 ?l11 ?c11 ?k11) (PL.defAt_mk "turned_thing" KX G ?a12 ?l12 ?c12 ?k12) (PL.defAt_mk "stepped" KX G ?a13 ?l13 ?c13 ?k13) (PL.defAt_mk "walked" KX G ?a14 ?l14 ?c14 ?k14) (PL.defAt_mk "stepped" KX G ?a15 ?l15 ?c15 ?k15) (PL.defAt_mk "stepped" KX G ?a16 ?l16 ?c16 ?k16) (PL.defAt_mk "behind_event" KX G ?a17 ?l17 ?c17 ?k17) (PL.defAt_mk "wiped_walk" KX G ?a18 ?l18 ?c18 ?k18) (PL.defAt_mk "wipes_in" KX G ?a19 ?l19 ?c19 ?k19) (PL.defAt_mk "_law_deal" KX G ?a20 ?l20 ?c20 ?k20) (PL.defAt_mk "_law_any" KX G ?a21 ?l21 ?c21 ?k21) (PL.defAt_mk "_law_of" KX G ?a22 ?l22 ?c22 ?k22) (PL.defAt_mk "_law_mixed" KX G ?a23 ?l23 ?c23 ?k23) (PL.defAt_mk "_law_is_kind" KX G ?a24 ?l24 ?c24 ?k24) (PL.defAt_mk "_law_same" KX G ?a25 ?l25 ?c25 ?k25) (PL.defAt_mk "_law_all" KX G ?a26 ?l26 ?c26 ?k26) (PL.defAt_mk "_law_two" KX G ?a27 ?l27 ?c27 ?k27) (PL.defAt_mk "_law_bits" KX G ?a28 ?l28 ?c28 ?k28) (PL.defAt_mk "_law_holds" KX G ?a29 ?l29 ?c29 ?k29) (PL.defAt_mk "_law_many" KX G ?a30 ?l30 ?c30 ?k30) (PL.defAt_mk "_law_frame" KX G ?a31 ?l31 ?c31 ?k31) (PL.defAt_mk "_law_letters_of" KX G ?a32 ?l32 ?c32 ?k32) (PL.defAt_mk "_law_web" KX G ?a33 ?l33 ?c33 ?k33) (PL.defAt_mk "_law_drawn_lots" KX G ?a34 ?l34 ?c34 ?k34) (PL.defAt_mk "_law_drawn_frame" KX G ?a35 ?l35 ?c35 ?k35) (PL.defAt_mk "_law_row_frame" KX G ?a36 ?l36 ?c36 ?k36) (PL.defAt_mk "_law_some_frame" KX G ?a37 ?l37 ?c37 ?k37) (PL.defAt_mk "_law_some_mask" KX G ?a38 ?l38 ?c38 ?k38) (PL.defAt_mk "_law_borne" KX G ?a39 ?l39 ?c39 ?k39) (PL.defAt_mk "_law_flip" KX G ?a40 ?l40 ?c40 ?k40) (PL.defAt_mk "_law_behind_events" KX G ?a41 ?l41 ?c41 ?k41) (PL.defAt_mk "_law_events" KX G ?a42 ?l42 ?c42 ?k42) (PL.defAt_mk "law" KX G ?a43 ?l43 ?c43 ?k43) (PySem.W.mg_none_of KX G ?z0) (PySem.W.mg_none_of KX G ?z1) (PySem.W.mg_none_of KX G ?z2) (PySem.W.mg_none_of KX G ?z3) (PySem.W.mg_none_of KX G ?z4) (PySem.W.mg_none_of KX G ?z5) (PySem.W.mg_none_of KX G ?z6) (PySem.W.mg_none_of KX G ?z7) (PySem.W.mg_none_of KX G ?z8) (PySem.W.mg_none_of KX G ?z9) (PySem.W.mg_none_of KX G ?z10) (PySem.W.mg_none_of KX G ?z11) )
    (case a0 => k_is); (case l0 => k_is); (case c0 => k_is); (case k0 => k_is)
    (case a1 => k_is); (case l1 => k_is); (case c1 => k_is); (case k1 => k_is)
    (case a2 => k_is); (case l2 => k_is); (case c2 => k_is); (case k2 => k_is)
    (case a3 => k_is); (case l3 => k_is); (case c3 => k_is); (case k3 => k_is)
    (case a4 => k_is); (case l4 => k_is); (case c4 => k_is); (case k4 => k_is)
    (case a5 => k_is); (case b5 => k_is); (case i5 => k_is); (case l5 => k_is); (case c5 => k_is); (case k5 => k_is); (case m5 => k_is); (case n5 => k_is); (case p5 => k_is); (case h5 => k_is); (case o5 => k_is); (case s5 => k_is); (case f5_0 => k_is); (case f5_1 => k_is); (case f5_2 => k_is)
    (case a6 => k_is); (case l6 => k_is); (case c6 => k_is); (case k6 => k_is)
    (case a7 => k_is); (case l7 => k_is); (case c7 => k_is); (case k7 => k_is)
    (case a8 => k_is); (case l8 => k_is); (case c8 => k_is); (case k8 => k_is)
    (case a9 => k_is); (case l9 => k_is); (case c9 => k_is); (case k9 => k_is)
    (case a10 => k_is); (case l10 => k_is); (case c10 => k_is); (case k10 => k_is)
    (case a11 => k_is); (case l11 => k_is); (case c11 => k_is); (case k11 => k_is)
    (case a12 => k_is); (case l12 => k_is); (case c12 => k_is); (case k12 => k_is)
    (case a13 => k_is); (case l13 => k_is); (case c13 => k_is); (case k13 => k_is)
    (case a14 => k_is); (case l14 => k_is); (case c14 => k_is); (case k14 => k_is)
    (case a15 => k_is); (case l15 => k_is); (case c15 => k_is); (case k15 => k_is)
    (case a16 => k_is); (case l16 => k_is); (case c16 => k_is); (case k16 => k_is)
    (case a17 => k_is); (case l17 => k_is); (case c17 => k_is); (case k17 => k_is)
    (case a18 => k_is); (case l18 => k_is); (case c18 => k_is); (case k18 => k_is)
    (case a19 => k_is); (case l19 => k_is); (case c19 => k_is); (case k19 => k_is)
    (case a20 => k_is); (case l20 => k_is); (case c20 => k_is); (case k20 => k_is)
    (case a21 => k_is); (case l21 => k_is); (case c21 => k_is); (case k21 => k_is)
    (case a22 => k_is); (case l22 => k_is); (case c22 => k_is); (case k22 => k_is)
    (case a23 => k_is); (case l23 => k_is); (case c23 => k_is); (case k23 => k_is)
    (case a24 => k_is); (case l24 => k_is); (case c24 => k_is); (case k24 => k_is)
    (case a25 => k_is); (case l25 => k_is); (case c25 => k_is); (case k25 => k_is)
    (case a26 => k_is); (case l26 => k_is); (case c26 => k_is); (case k26 => k_is)
    (case a27 => k_is); (case l27 => k_is); (case c27 => k_is); (case k27 => k_is)
    (case a28 => k_is); (case l28 => k_is); (case c28 => k_is); (case k28 => k_is)
    (case a29 => k_is); (case l29 => k_is); (case c29 => k_is); (case k29 => k_is)
    (case a30 => k_is); (case l30 => k_is); (case c30 => k_is); (case k30 => k_is)
    (case a31 => k_is); (case l31 => k_is); (case c31 => k_is); (case k31 => k_is)
    (case a32 => k_is); (case l32 => k_is); (case c32 => k_is); (case k32 => k_is)
    (case a33 => k_is); (case l33 => k_is); (case c33 => k_is); (case k33 => k_is)
    (case a34 => k_is); (case l34 => k_is); (case c34 => k_is); (case k34 => k_is)
    (case a35 => k_is); (case l35 => k_is); (case c35 => k_is); (case k35 => k_is)
    (case a36 => k_is); (case l36 => k_is); (case c36 => k_is); (case k36 => k_is)
    (case a37 => k_is); (case l37 => k_is); (case c37 => k_is); (case k37 => k_is)
    (case a38 => k_is); (case l38 => k_is); (case c38 => k_is); (case k38 => k_is)
    (case a39 => k_is); (case l39 => k_is); (case c39 => k_is); (case k39 => k_is)
    (case a40 => k_is); (case l40 => k_is); (case c40 => k_is); (case k40 => k_is)
    (case a41 => k_is); (case l41 => k_is); (case c41 => k_is); (case k41 => k_is)
    (case a42 => k_is); (case l42 => k_is); (case c42 => k_is); (case k42 => k_is)
    (case a43 => k_is); (case l43 => k_is); (case c43 => k_is); (case k43 => k_is)
    (case z0 => k_is); (case z1 => k_is); (case z2 => k_is); (case z3 => k_is); (case z4 => k_is); (case z5 => k_is); (case z6 => k_is); (case z7 => k_is); (case z8 => k_is); (case z9 => k_is); (case z10 => k_is); (case z11 => k_is)
