import PyProof.Rows.All
import HandS.ForMost
import HandS.Wide
import HandS.TupAny
import HandS.Style
import HandS.IsInst
import KE.GoesMore
import PySem.Challenge.RW_sortes_k02_decoding
set_option Elab.async false
set_option linter.all false
set_option maxRecDepth 100000
set_option maxRecDepth 100000
/-! MI, part 1: plain data D, stores of mutable objects, how they lie in the abstract heap. -/
namespace MI
open PySem PySem.Spec PyProof.Rows L2

/-- plain data; loc n is the n-th mutable object of the store -/
inductive D where
  | non
  | bl (b : Bool)
  | int (i : Int)
  | str (x : Str)
  | tup (xs : List D)
  | lst (xs : List D)
  | ro (xs : List D)
  | dK (kvs : List (Key × D))
  | dT (kvs : List (List Key × D))
  | ins (c : Nat) (fs : List (Str × D))
  | loc (n : Nat)
  | lck (d : D)

abbrev Sto := List D
abbrev Ev := List (Option D)

/-- l: where the mutable objects of the store lie; z: addresses set aside (nothing immutable lies there) -/
structure Io where
  l : List Addr
  z : List Addr
def Io.out (ι : Io) (a : Addr) : Prop := ¬ a ∈ ι.l ∧ ¬ a ∈ ι.z
section
variable (K : PySem.W.Frag) (C : Nat → Addr) (H : Hp) (ι : Io)
def KTup (a : Addr) (xs : List V) : Prop := ∃ (o : Obj) (its : Array Value) (n : Nat), K.lookup a = some o ∧ o.cls = .type "tuple" ∧ o.data = .seq its n ∧ its.size ≤ sizeLine ∧ Vals xs its.toList
def KLst (a : Addr) (xs : List V) : Prop := ∃ (o : Obj) (its : Array Value) (n : Nat), K.lookup a = some o ∧ o.cls = .type "list" ∧ o.dict = none ∧ o.data = .seq its n ∧ its.size ≤ sizeLine ∧ Vals xs its.toList
def TupAt (a : Addr) (xs : List V) : Prop := (Rd H a (.tup xs) ∧ ι.out a) ∨ KTup K a xs
def LstAt (a : Addr) (xs : List V) : Prop := (Rd H a (.lst xs) ∧ ι.out a) ∨ KLst K a xs

mutual
def Rep : D → V → Prop
  | .non, v => v = .non
  | .bl b, v => v = .bl b
  | .int i, v => v = .int i
  | .str x, v => v = .str x
  | .tup xs, v => ∃ a vs, v = .ref a ∧ TupAt K H ι a vs ∧ Reps xs vs
  | .lst xs, v => ∃ a vs, v = .ref a ∧ H a = some (.lst vs) ∧ ι.out a ∧ Reps xs vs
  | .ro xs, v => ∃ a vs, v = .ref a ∧ LstAt K H ι a vs ∧ Reps xs vs
  | .dK kvs, v => ∃ a kw, v = .ref a ∧ H a = some (.dK kw) ∧ ι.out a ∧ RepK kvs kw
  | .dT kvs, v => ∃ a kw, v = .ref a ∧ H a = some (.dT kw) ∧ ι.out a ∧ RepT kvs kw
  | .ins c fs, v => ∃ a dx kw, v = .ref a ∧ H a = some (.ins (C c) dx kw) ∧ ι.out a ∧ RepF fs kw
  | .loc n, v => ∃ a, v = .ref a ∧ ι.l[n]? = some a
  | .lck _, _ => False
def Reps : List D → List V → Prop
  | [], vs => vs = []
  | d :: ds, vs => ∃ v r, vs = v :: r ∧ Rep d v ∧ Reps ds r
def RepK : List (Key × D) → List (Key × V) → Prop
  | [], kw => kw = []
  | (k, d) :: r, kw => ∃ v s, kw = (k, v) :: s ∧ Rep d v ∧ RepK r s
def RepT : List (List Key × D) → List (List Key × V) → Prop
  | [], kw => kw = []
  | (k, d) :: r, kw => ∃ v s, kw = (k, v) :: s ∧ Rep d v ∧ RepT r s
def RepF : List (Str × D) → List (Str × V) → Prop
  | [], kw => kw = []
  | (k, d) :: r, kw => ∃ v s, kw = (k, v) :: s ∧ Rep d v ∧ RepF r s
end
/-- what stands at a mutable object's address -/
def RepO : D → HO → Prop
  | .lst xs, .lst vs => Reps K C H ι xs vs
  | .dK kvs, .dK kw => RepK K C H ι kvs kw
  | .dT kvs, .dT kw => RepT K C H ι kvs kw
  | .ins c fs, .ins c' _ kw => c' = C c ∧ RepF K C H ι fs kw
  | .lck (.dK kvs), .frz _ (.dK kw) => RepK K C H ι kvs kw
  | .lck (.dT kvs), .frz _ (.dT kw) => RepT K C H ι kvs kw
  | _, _ => False
end

/-! locations below n -/
mutual
def Cl (n : Nat) : D → Prop
  | .non => True
  | .bl _ => True
  | .int _ => True
  | .str _ => True
  | .tup xs => Cls' n xs
  | .lst xs => Cls' n xs
  | .ro xs => Cls' n xs
  | .dK kvs => ClK n kvs
  | .dT kvs => ClT n kvs
  | .ins _ fs => ClF n fs
  | .loc m => m < n
  | .lck d => Cl n d
def Cls' (n : Nat) : List D → Prop
  | [] => True
  | d :: r => Cl n d ∧ Cls' n r
def ClK (n : Nat) : List (Key × D) → Prop
  | [] => True
  | (_, d) :: r => Cl n d ∧ ClK n r
def ClT (n : Nat) : List (List Key × D) → Prop
  | [] => True
  | (_, d) :: r => Cl n d ∧ ClT n r
def ClF (n : Nat) : List (Str × D) → Prop
  | [] => True
  | (_, d) :: r => Cl n d ∧ ClF n r
end
theorem Cls'_iff {n : Nat} : ∀ {xs : List D}, Cls' n xs ↔ ∀ d ∈ xs, Cl n d
  | [] => by simp [Cls']
  | d :: r => by simp [Cls', Cls'_iff (xs := r)]
theorem ClK_iff {n : Nat} : ∀ {xs : List (Key × D)}, ClK n xs ↔ ∀ d ∈ xs, Cl n d.2
  | [] => by simp [ClK]
  | (k, d) :: r => by simp [ClK, ClK_iff (xs := r)]
theorem ClT_iff {n : Nat} : ∀ {xs : List (List Key × D)}, ClT n xs ↔ ∀ d ∈ xs, Cl n d.2
  | [] => by simp [ClT]
  | (k, d) :: r => by simp [ClT, ClT_iff (xs := r)]
theorem ClF_iff {n : Nat} : ∀ {xs : List (Str × D)}, ClF n xs ↔ ∀ d ∈ xs, Cl n d.2
  | [] => by simp [ClF]
  | (k, d) :: r => by simp [ClF, ClF_iff (xs := r)]

/-! ### what stays -/
structure Kp (H : Hp) (ι : Io) (H' : Hp) (ι' : Io) : Prop where
  pre : ι.l <+: ι'.l
  keep : ∀ a o, H a = some o → ι.out a → H' a = some o ∧ ι'.out a
theorem Kp.get {H H' : Hp} {ι ι' : Io} (e : Kp H ι H' ι') {n : Nat} {a : Addr} (h : ι.l[n]? = some a) : ι'.l[n]? = some a := by
  obtain ⟨r, e1⟩ := e.pre
  rw [← e1, List.getElem?_append_left (List.getElem?_eq_some_iff.mp h).1]
  exact h
theorem Kp.rd {H H' : Hp} {ι ι' : Io} (e : Kp H ι H' ι') {a : Addr} {u : HO} (h : Rd H a u) (n : ι.out a) : Rd H' a u ∧ ι'.out a := by
  rcases h with h | ⟨o, h⟩
  · exact ⟨.inl (e.keep _ _ h n).1, (e.keep _ _ h n).2⟩
  · exact ⟨.inr ⟨o, (e.keep _ _ h n).1⟩, (e.keep _ _ h n).2⟩
structure Ext (H : Hp) (ι : Io) (H' : Hp) (ι' : Io) : Prop extends Kp H ι H' ι' where
  zeq : ι'.z = ι.z
  hid : ∀ a ∈ ι.z, H' a = H a
theorem Ext.refl (H : Hp) (ι : Io) : Ext H ι H ι := ⟨⟨List.prefix_refl _, fun _ _ h n => ⟨h, n⟩⟩, rfl, fun _ _ => rfl⟩
theorem Ext.trans {H H1 H2 : Hp} {ι ι1 ι2 : Io} (a : Ext H ι H1 ι1) (b : Ext H1 ι1 H2 ι2) : Ext H ι H2 ι2 :=
  ⟨⟨a.pre.trans b.pre, fun c o h n => let ⟨h1, n1⟩ := a.keep c o h n; b.keep c o h1 n1⟩, b.zeq.trans a.zeq, fun c hc => (b.hid c (by rw [a.zeq]; exact hc)).trans (a.hid c hc)⟩
section
variable {K : PySem.W.Frag} {C : Nat → Addr} {H H' : Hp} {ι ι' : Io}
theorem TupAt.kp (e : Kp H ι H' ι') {a : Addr} {xs : List V} (h : TupAt K H ι a xs) : TupAt K H' ι' a xs := by
  rcases h with ⟨h, n⟩ | h
  · exact .inl (e.rd h n)
  · exact .inr h
theorem LstAt.kp (e : Kp H ι H' ι') {a : Addr} {xs : List V} (h : LstAt K H ι a xs) : LstAt K H' ι' a xs := by
  rcases h with ⟨h, n⟩ | h
  · exact .inl (e.rd h n)
  · exact .inr h
theorem TupAt.sq {a : Addr} {xs : List V} (h : TupAt K H ι a xs) : SqT K H a xs := by
  rcases h with ⟨h, _⟩ | h
  · exact .inl h
  · exact .inr h
theorem LstAt.sq {a : Addr} {xs : List V} (h : LstAt K H ι a xs) : SqL K H a xs := by
  rcases h with ⟨h, _⟩ | h
  · exact .inl h
  · exact .inr h
mutual
theorem Rep.kp (e : Kp H ι H' ι') : ∀ {d : D} {v : V}, Rep K C H ι d v → Rep K C H' ι' d v
  | .non, _, h => h
  | .bl _, _, h => h
  | .int _, _, h => h
  | .str _, _, h => h
  | .tup xs, v, h => by
    simp only [Rep] at h ⊢
    obtain ⟨a, vs, e1, h1, h2⟩ := h
    exact ⟨a, vs, e1, h1.kp e, Reps.kp e h2⟩
  | .lst xs, v, h => by
    simp only [Rep] at h ⊢
    obtain ⟨a, vs, e1, h1, n, h2⟩ := h
    exact ⟨a, vs, e1, (e.keep _ _ h1 n).1, (e.keep _ _ h1 n).2, Reps.kp e h2⟩
  | .ro xs, v, h => by
    simp only [Rep] at h ⊢
    obtain ⟨a, vs, e1, h1, h2⟩ := h
    exact ⟨a, vs, e1, h1.kp e, Reps.kp e h2⟩
  | .dK kvs, v, h => by
    simp only [Rep] at h ⊢
    obtain ⟨a, kw, e1, h1, n, h2⟩ := h
    exact ⟨a, kw, e1, (e.keep _ _ h1 n).1, (e.keep _ _ h1 n).2, RepK.kp e h2⟩
  | .dT kvs, v, h => by
    simp only [Rep] at h ⊢
    obtain ⟨a, kw, e1, h1, n, h2⟩ := h
    exact ⟨a, kw, e1, (e.keep _ _ h1 n).1, (e.keep _ _ h1 n).2, RepT.kp e h2⟩
  | .ins c fs, v, h => by
    simp only [Rep] at h ⊢
    obtain ⟨a, dx, kw, e1, h1, n, h2⟩ := h
    exact ⟨a, dx, kw, e1, (e.keep _ _ h1 n).1, (e.keep _ _ h1 n).2, RepF.kp e h2⟩
  | .loc n, v, h => by
    simp only [Rep] at h ⊢
    obtain ⟨a, e1, h1⟩ := h
    exact ⟨a, e1, e.get h1⟩
  | .lck _, _, h => by simp only [Rep] at h
theorem Reps.kp (e : Kp H ι H' ι') : ∀ {ds : List D} {vs : List V}, Reps K C H ι ds vs → Reps K C H' ι' ds vs
  | [], _, h => by simpa only [Reps] using h
  | d :: ds, vs, h => by
    simp only [Reps] at h ⊢
    obtain ⟨v, r, e1, h1, h2⟩ := h
    exact ⟨v, r, e1, h1.kp e, Reps.kp e h2⟩
theorem RepK.kp (e : Kp H ι H' ι') : ∀ {ds : List (Key × D)} {vs : List (Key × V)}, RepK K C H ι ds vs → RepK K C H' ι' ds vs
  | [], _, h => by simpa only [RepK] using h
  | (k, d) :: ds, vs, h => by
    simp only [RepK] at h ⊢
    obtain ⟨v, r, e1, h1, h2⟩ := h
    exact ⟨v, r, e1, h1.kp e, RepK.kp e h2⟩
theorem RepT.kp (e : Kp H ι H' ι') : ∀ {ds : List (List Key × D)} {vs : List (List Key × V)}, RepT K C H ι ds vs → RepT K C H' ι' ds vs
  | [], _, h => by simpa only [RepT] using h
  | (k, d) :: ds, vs, h => by
    simp only [RepT] at h ⊢
    obtain ⟨v, r, e1, h1, h2⟩ := h
    exact ⟨v, r, e1, h1.kp e, RepT.kp e h2⟩
theorem RepF.kp (e : Kp H ι H' ι') : ∀ {ds : List (Str × D)} {vs : List (Str × V)}, RepF K C H ι ds vs → RepF K C H' ι' ds vs
  | [], _, h => by simpa only [RepF] using h
  | (k, d) :: ds, vs, h => by
    simp only [RepF] at h ⊢
    obtain ⟨v, r, e1, h1, h2⟩ := h
    exact ⟨v, r, e1, h1.kp e, RepF.kp e h2⟩
end
theorem RepO.kp (e : Kp H ι H' ι') : ∀ {d : D} {o : HO}, RepO K C H ι d o → RepO K C H' ι' d o := by
  intro d o h
  unfold RepO at h ⊢
  split at h
  · exact Reps.kp e h
  · exact RepK.kp e h
  · exact RepT.kp e h
  · exact ⟨h.1, RepF.kp e h.2⟩
  · exact RepK.kp e h
  · exact RepT.kp e h
  · exact h.elim


theorem Rep.mono (e : Ext H ι H' ι') {d : D} {v : V} (h : Rep K C H ι d v) : Rep K C H' ι' d v := h.kp e.toKp
theorem Reps.mono (e : Ext H ι H' ι') {d : List D} {v : List V} (h : Reps K C H ι d v) : Reps K C H' ι' d v := h.kp e.toKp
theorem RepO.mono (e : Ext H ι H' ι') {d : D} {v : HO} (h : RepO K C H ι d v) : RepO K C H' ι' d v := h.kp e.toKp
theorem Reps.length : ∀ {ds : List D} {vs : List V}, Reps K C H ι ds vs → ds.length = vs.length
  | [], _, h => by simp only [Reps] at h; subst h; rfl
  | d :: ds, vs, h => by
    simp only [Reps] at h
    obtain ⟨v, r, rfl, _, h2⟩ := h
    simp [h2.length]
theorem Reps.get : ∀ {ds : List D} {vs : List V} {i : Nat} {d : D}, Reps K C H ι ds vs → ds[i]? = some d → ∃ v, vs[i]? = some v ∧ Rep K C H ι d v
  | [], _, _, _, _, h => by simp at h
  | d :: ds, vs, 0, x, h, e => by
    simp only [Reps] at h
    obtain ⟨v, r, rfl, h1, _⟩ := h
    simp at e; subst e
    exact ⟨v, rfl, h1⟩
  | d :: ds, vs, i + 1, x, h, e => by
    simp only [Reps] at h
    obtain ⟨v, r, rfl, _, h2⟩ := h
    obtain ⟨v', h3, h4⟩ := h2.get (i := i) (by simpa using e)
    exact ⟨v', by simpa using h3, h4⟩
theorem Reps.append : ∀ {ds es : List D} {vs ws : List V}, Reps K C H ι ds vs → Reps K C H ι es ws → Reps K C H ι (ds ++ es) (vs ++ ws)
  | [], _, _, _, h, h' => by simp only [Reps] at h; subst h; simpa using h'
  | d :: ds, es, vs, ws, h, h' => by
    simp only [Reps, List.cons_append] at h ⊢
    obtain ⟨v, r, rfl, h1, h2⟩ := h
    exact ⟨v, r ++ ws, rfl, h1, h2.append h'⟩
theorem Reps.one {d : D} {v : V} (h : Rep K C H ι d v) : Reps K C H ι [d] [v] := by
  simp only [Reps]; exact ⟨v, [], rfl, h, rfl⟩
theorem Reps.nil : Reps K C H ι [] [] := by simp only [Reps]
theorem Reps.cons {d : D} {v : V} {ds : List D} {vs : List V} (h : Rep K C H ι d v) (h' : Reps K C H ι ds vs) : Reps K C H ι (d :: ds) (v :: vs) := by
  simp only [Reps]; exact ⟨v, vs, rfl, h, h'⟩
theorem Reps.nil_iff {vs : List V} : Reps K C H ι [] vs ↔ vs = [] := by simp only [Reps]
theorem Reps.cons_iff {d : D} {ds : List D} {vs : List V} : Reps K C H ι (d :: ds) vs ↔ ∃ v r, vs = v :: r ∧ Rep K C H ι d v ∧ Reps K C H ι ds r := by simp only [Reps]
theorem Reps.take : ∀ {ds : List D} {vs : List V} (n : Nat), Reps K C H ι ds vs → Reps K C H ι (ds.take n) (vs.take n)
  | _, _, 0, _ => by simpa using Reps.nil
  | [], vs, n + 1, h => by simp only [Reps] at h; subst h; simpa using Reps.nil
  | d :: ds, vs, n + 1, h => by
    obtain ⟨v, r, rfl, h1, h2⟩ := Reps.cons_iff.mp h
    simpa using Reps.cons h1 (h2.take n)
theorem Reps.drop : ∀ {ds : List D} {vs : List V} (n : Nat), Reps K C H ι ds vs → Reps K C H ι (ds.drop n) (vs.drop n)
  | _, _, 0, h => by simpa using h
  | [], vs, n + 1, h => by simp only [Reps] at h; subst h; simpa using Reps.nil
  | d :: ds, vs, n + 1, h => by
    obtain ⟨v, r, rfl, h1, h2⟩ := Reps.cons_iff.mp h
    simpa using h2.drop n
theorem Reps.reverse : ∀ {ds : List D} {vs : List V}, Reps K C H ι ds vs → Reps K C H ι ds.reverse vs.reverse
  | [], vs, h => by simp only [Reps] at h; subst h; simpa using Reps.nil
  | d :: ds, vs, h => by
    obtain ⟨v, r, rfl, h1, h2⟩ := Reps.cons_iff.mp h
    simpa using Reps.append h2.reverse (Reps.one h1)
theorem Reps.set {d : D} {v : V} (h1 : Rep K C H ι d v) : ∀ {ds : List D} {vs : List V} (n : Nat), Reps K C H ι ds vs → Reps K C H ι (ds.set n d) (vs.set n v)
  | [], vs, _, h => by simp only [Reps] at h; subst h; simpa using Reps.nil
  | x :: ds, vs, 0, h => by
    obtain ⟨u, r, rfl, _, h2⟩ := Reps.cons_iff.mp h
    simpa using Reps.cons h1 h2
  | x :: ds, vs, n + 1, h => by
    obtain ⟨u, r, rfl, h0, h2⟩ := Reps.cons_iff.mp h
    simpa using Reps.cons h0 (Reps.set h1 n h2)
theorem Reps.eraseIdx : ∀ {ds : List D} {vs : List V} (n : Nat), Reps K C H ι ds vs → Reps K C H ι (ds.eraseIdx n) (vs.eraseIdx n)
  | [], vs, _, h => by simp only [Reps] at h; subst h; simpa using Reps.nil
  | x :: ds, vs, 0, h => by
    obtain ⟨u, r, rfl, _, h2⟩ := Reps.cons_iff.mp h
    simpa using h2
  | x :: ds, vs, n + 1, h => by
    obtain ⟨u, r, rfl, h0, h2⟩ := Reps.cons_iff.mp h
    simpa using Reps.cons h0 (Reps.eraseIdx n h2)
theorem Reps.dropLast {ds : List D} {vs : List V} (h : Reps K C H ι ds vs) : Reps K C H ι ds.dropLast vs.dropLast := by
  rw [List.dropLast_eq_take, List.dropLast_eq_take, h.length]
  exact h.take _
theorem Reps.replicate : ∀ (n : Nat) {ds : List D} {vs : List V}, Reps K C H ι ds vs → Reps K C H ι (List.replicate n ds).flatten (List.replicate n vs).flatten
  | 0, _, _, _ => by simpa using Reps.nil
  | n + 1, _, _, h => by
    simp only [List.replicate_succ, List.flatten_cons]
    exact h.append (Reps.replicate n h)
theorem Reps.ints {vs : List V} : ∀ {ns : List Int}, Reps K C H ι (ns.map D.int) vs ↔ vs = ns.map V.int
  | [] => by simp [Reps]
  | n :: ns => by
    simp only [List.map_cons, Reps.cons_iff, Rep]
    constructor
    · rintro ⟨v, r, rfl, rfl, h⟩
      rw [Reps.ints.mp h]
    · rintro rfl
      exact ⟨_, _, rfl, rfl, Reps.ints.mpr rfl⟩
end

/-! ### the store -/
structure Sim (K : PySem.W.Frag) (C : Nat → Addr) (H : Hp) (ι : Io) (st : Sto) : Prop where
  len : ι.l.length = st.length
  nd : ι.l.Nodup
  zin : ∀ a ∈ ι.z, (∃ o, H a = some o) ∧ a ∉ ι.l
  at_ : ∀ (n : Nat) (d : D) (a : Addr), st[n]? = some d → ι.l[n]? = some a → ∃ o, H a = some o ∧ RepO K C H ι d o
section
variable {K : PySem.W.Frag} {C : Nat → Addr} {H H' : Hp} {ι ι' : Io} {st st' : Sto}
theorem Sim.mem (S : Sim K C H ι st) {a : Addr} (h : a ∈ ι.l) : ∃ o, H a = some o := by
  obtain ⟨n, hn, e⟩ := List.mem_iff_getElem.mp h
  have h1 : ι.l[n]? = some a := by rw [List.getElem?_eq_getElem hn, e]
  have h2 : n < st.length := by rw [← S.len]; exact hn
  obtain ⟨o, h3, _⟩ := S.at_ n st[n] a (List.getElem?_eq_getElem h2) h1
  exact ⟨o, h3⟩
theorem Sim.fresh (S : Sim K C H ι st) {a : Addr} (h : H a = none) : ι.out a := by
  refine ⟨fun m => ?_, fun m => ?_⟩
  · obtain ⟨o, e⟩ := S.mem m
    rw [h] at e; cases e
  · obtain ⟨⟨o, e⟩, _⟩ := S.zin a m
    rw [h] at e; cases e
theorem Sim.addr (S : Sim K C H ι st) {n : Nat} {d : D} (h : st[n]? = some d) : ∃ a o, ι.l[n]? = some a ∧ H a = some o ∧ RepO K C H ι d o := by
  have hn : n < ι.l.length := by rw [S.len]; exact (List.getElem?_eq_some_iff.mp h).1
  have e : ι.l[n]? = some ι.l[n] := List.getElem?_eq_getElem hn
  obtain ⟨o, h1, h2⟩ := S.at_ n d _ h e
  exact ⟨_, o, e, h1, h2⟩
theorem nodup_get {l : List Addr} (h : l.Nodup) {i j : Nat} {a : Addr} (e1 : l[i]? = some a) (e2 : l[j]? = some a) : i = j := by
  obtain ⟨h1, e1⟩ := List.getElem?_eq_some_iff.mp e1
  obtain ⟨h2, e2⟩ := List.getElem?_eq_some_iff.mp e2
  exact (List.getElem_inj h).mp (e1.trans e2.symm)
/-- a fresh immutable object -/
theorem Sim.imm (S : Sim K C H ι st) {p : Addr} {o : HO} (h : H p = none) : Ext H ι (upd H p o) ι ∧ Sim K C (upd H p o) ι st := by
  have np := S.fresh h
  have hz : ∀ a ∈ ι.z, upd H p o a = H a := fun a ha => upd_ne fun z => np.2 (z ▸ ha)
  have e : Ext H ι (upd H p o) ι := ⟨⟨List.prefix_refl _, fun a u h1 n => ⟨by rw [upd_ne (ne_of_none h1 h)]; exact h1, n⟩⟩, rfl, hz⟩
  refine ⟨e, S.len, S.nd, fun a ha => ⟨by rw [hz a ha]; exact (S.zin a ha).1, (S.zin a ha).2⟩, fun n d a h1 h2 => ?_⟩
  obtain ⟨u, h3, h4⟩ := S.at_ n d a h1 h2
  exact ⟨u, by rw [upd_ne (ne_of_none h3 h)]; exact h3, h4.mono e⟩
/-- a fresh mutable object -/
theorem Sim.new (S : Sim K C H ι st) {p : Addr} {o : HO} {d : D} (h : H p = none) (r : RepO K C H ι d o) : Ext H ι (upd H p o) ⟨ι.l ++ [p], ι.z⟩ ∧ Sim K C (upd H p o) ⟨ι.l ++ [p], ι.z⟩ (st ++ [d]) := by
  have np := S.fresh h
  have hz : ∀ a ∈ ι.z, upd H p o a = H a := fun a ha => upd_ne fun z => np.2 (z ▸ ha)
  have e : Ext H ι (upd H p o) ⟨ι.l ++ [p], ι.z⟩ := by
    refine ⟨⟨List.prefix_append _ _, fun a u h1 n => ⟨by rw [upd_ne (ne_of_none h1 h)]; exact h1, ?_, n.2⟩⟩, rfl, hz⟩
    show a ∉ ι.l ++ [p]
    rw [List.mem_append, List.mem_singleton]
    rintro (q | q)
    · exact n.1 q
    · exact ne_of_none h1 h q
  refine ⟨e, by simp [S.len], ?_, fun a ha => ⟨by rw [hz a ha]; exact (S.zin a ha).1, ?_⟩, fun n x a h1 h2 => ?_⟩
  · show (ι.l ++ [p]).Nodup
    rw [List.nodup_append]
    exact ⟨S.nd, by simp, by rintro a ha b hb rfl; simp at hb; subst hb; exact np.1 ha⟩
  · show a ∉ ι.l ++ [p]
    rw [List.mem_append, List.mem_singleton]
    rintro (q | q)
    · exact (S.zin a ha).2 q
    · exact np.2 (q ▸ ha)
  · have h2 : (ι.l ++ [p])[n]? = some a := h2
    by_cases hn : n < st.length
    · rw [List.getElem?_append_left hn] at h1
      rw [List.getElem?_append_left (by rw [S.len]; exact hn)] at h2
      obtain ⟨u, h3, h4⟩ := S.at_ n x a h1 h2
      exact ⟨u, by rw [upd_ne (ne_of_none h3 h)]; exact h3, h4.mono e⟩
    · have hl : n = st.length := by
        have := (List.getElem?_eq_some_iff.mp h1).1
        simp at this; omega
      subst hl
      rw [List.getElem?_append_right (Nat.le_refl _)] at h1
      rw [← S.len, List.getElem?_append_right (Nat.le_refl _)] at h2
      simp at h1 h2
      subst h1 h2
      exact ⟨o, upd_same, r.mono e⟩
/-- a mutable object changes -/
theorem Sim.write (S : Sim K C H ι st) {n : Nat} {a : Addr} {o : HO} {d : D} (h : ι.l[n]? = some a) (r : RepO K C H ι d o) : Ext H ι (upd H a o) ι ∧ Sim K C (upd H a o) ι (st.set n d) := by
  have ha : a ∈ ι.l := List.mem_of_getElem? h
  have hz : ∀ b ∈ ι.z, upd H a o b = H b := fun b hb => upd_ne fun z => (S.zin b hb).2 (z ▸ ha)
  have e : Ext H ι (upd H a o) ι := ⟨⟨List.prefix_refl _, fun b u h1 m => ⟨by rw [upd_ne (fun z => m.1 (by rw [z]; exact ha))]; exact h1, m⟩⟩, rfl, hz⟩
  refine ⟨e, by simp [S.len], S.nd, fun b hb => ⟨by rw [hz b hb]; exact (S.zin b hb).1, (S.zin b hb).2⟩, fun k x b h1 h2 => ?_⟩
  by_cases hk : k = n
  · subst hk
    rw [h] at h2; cases h2
    have hl : k < st.length := by rw [← S.len]; exact (List.getElem?_eq_some_iff.mp h).1
    rw [List.getElem?_set_self hl] at h1; cases h1
    exact ⟨o, upd_same, r.mono e⟩
  · rw [List.getElem?_set_ne (Ne.symm hk)] at h1
    obtain ⟨u, h3, h4⟩ := S.at_ k x b h1 h2
    have nb : b ≠ a := fun z => hk (nodup_get S.nd h2 (by rw [z]; exact h))
    exact ⟨u, by rw [upd_ne nb]; exact h3, h4.mono e⟩

/-- a fresh address set aside -/
theorem Sim.hide (S : Sim K C H ι st) {p : Addr} {o : HO} (h : H p = none) : Kp H ι (upd H p o) ⟨ι.l, p :: ι.z⟩ ∧ Sim K C (upd H p o) ⟨ι.l, p :: ι.z⟩ st := by
  have np := S.fresh h
  have e : Kp H ι (upd H p o) ⟨ι.l, p :: ι.z⟩ := by
    refine ⟨List.prefix_refl _, fun a u h1 n => ⟨by rw [upd_ne (ne_of_none h1 h)]; exact h1, n.1, ?_⟩⟩
    show ¬ a ∈ p :: ι.z
    rw [List.mem_cons]
    rintro (q | q)
    · exact ne_of_none h1 h q
    · exact n.2 q
  refine ⟨e, S.len, S.nd, fun a ha => ?_, fun n d a h1 h2 => ?_⟩
  · have ha : a ∈ p :: ι.z := ha
    rcases List.mem_cons.mp ha with rfl | ha
    · exact ⟨⟨o, upd_same⟩, np.1⟩
    · have na : a ≠ p := fun z => np.2 (by rw [← z]; exact ha)
      exact ⟨by rw [upd_ne na]; exact (S.zin a ha).1, (S.zin a ha).2⟩
  · obtain ⟨u, h3, h4⟩ := S.at_ n d a h1 h2
    exact ⟨u, by rw [upd_ne (ne_of_none h3 h)]; exact h3, h4.kp e⟩
theorem Kp.show (p : Addr) (l z : List Addr) : Kp H ⟨l, p :: z⟩ H ⟨l, z⟩ := ⟨List.prefix_refl _, fun _ _ h n => ⟨h, n.1, fun q => n.2 (List.mem_cons_of_mem _ q)⟩⟩
theorem Sim.show {p : Addr} {l z : List Addr} (S : Sim K C H ⟨l, p :: z⟩ st) : Sim K C H ⟨l, z⟩ st :=
  ⟨S.len, S.nd, fun a ha => S.zin a (List.mem_cons_of_mem _ ha), fun n d a h1 h2 => let ⟨o, h3, h4⟩ := S.at_ n d a h1 h2; ⟨o, h3, h4.kp (.show p l z)⟩⟩
/-- what is set aside is written -/
theorem Sim.side (S : Sim K C H ι st) {p : Addr} {o : HO} (h : p ∈ ι.z) : Kp H ι (upd H p o) ι ∧ Sim K C (upd H p o) ι st := by
  have e : Kp H ι (upd H p o) ι := ⟨List.prefix_refl _, fun a u h1 n => ⟨by rw [upd_ne (fun z => n.2 (by rw [z]; exact h))]; exact h1, n⟩⟩
  refine ⟨e, S.len, S.nd, fun a ha => ⟨?_, (S.zin a ha).2⟩, fun n d a h1 h2 => ?_⟩
  · by_cases z : a = p
    · subst z; exact ⟨o, upd_same⟩
    · rw [upd_ne z]; exact (S.zin a ha).1
  · obtain ⟨u, h3, h4⟩ := S.at_ n d a h1 h2
    have na : a ≠ p := fun z => (S.zin p h).2 (by rw [← z]; exact List.mem_of_getElem? h2)
    exact ⟨u, by rw [upd_ne na]; exact h3, h4.kp e⟩
/-! ### closed -/
mutual
theorem Rep.cl : ∀ {d : D} {v : V}, Rep K C H ι d v → Cl ι.l.length d
  | .non, _, _ => by simp [Cl]
  | .bl _, _, _ => by simp [Cl]
  | .int _, _, _ => by simp [Cl]
  | .str _, _, _ => by simp [Cl]
  | .tup xs, v, h => by
    simp only [Rep] at h
    obtain ⟨_, _, _, _, h2⟩ := h
    simpa [Cl] using Reps.cl h2
  | .lst xs, v, h => by
    simp only [Rep] at h
    obtain ⟨_, _, _, _, _, h2⟩ := h
    simpa [Cl] using Reps.cl h2
  | .ro xs, v, h => by
    simp only [Rep] at h
    obtain ⟨_, _, _, _, h2⟩ := h
    simpa [Cl] using Reps.cl h2
  | .dK kvs, v, h => by
    simp only [Rep] at h
    obtain ⟨_, _, _, _, _, h2⟩ := h
    simpa [Cl] using RepK.cl h2
  | .dT kvs, v, h => by
    simp only [Rep] at h
    obtain ⟨_, _, _, _, _, h2⟩ := h
    simpa [Cl] using RepT.cl h2
  | .ins c fs, v, h => by
    simp only [Rep] at h
    obtain ⟨_, _, _, _, _, _, h2⟩ := h
    simpa [Cl] using RepF.cl h2
  | .loc n, v, h => by
    simp only [Rep] at h
    obtain ⟨_, _, h1⟩ := h
    simpa [Cl] using (List.getElem?_eq_some_iff.mp h1).1
  | .lck _, _, h => by simp only [Rep] at h
theorem Reps.cl : ∀ {ds : List D} {vs : List V}, Reps K C H ι ds vs → Cls' ι.l.length ds
  | [], _, h => by simp [Cls']
  | d :: ds, vs, h => by
    simp only [Reps] at h
    obtain ⟨v, r, e1, h1, h2⟩ := h
    simp only [Cls']
    exact ⟨h1.cl, h2.cl⟩
theorem RepK.cl : ∀ {ds : List (Key × D)} {vs : List (Key × V)}, RepK K C H ι ds vs → ClK ι.l.length ds
  | [], _, h => by simp [ClK]
  | (k, d) :: ds, vs, h => by
    simp only [RepK] at h
    obtain ⟨v, r, e1, h1, h2⟩ := h
    simp only [ClK]
    exact ⟨h1.cl, h2.cl⟩
theorem RepT.cl : ∀ {ds : List (List Key × D)} {vs : List (List Key × V)}, RepT K C H ι ds vs → ClT ι.l.length ds
  | [], _, h => by simp [ClT]
  | (k, d) :: ds, vs, h => by
    simp only [RepT] at h
    obtain ⟨v, r, e1, h1, h2⟩ := h
    simp only [ClT]
    exact ⟨h1.cl, h2.cl⟩
theorem RepF.cl : ∀ {ds : List (Str × D)} {vs : List (Str × V)}, RepF K C H ι ds vs → ClF ι.l.length ds
  | [], _, h => by simp [ClF]
  | (k, d) :: ds, vs, h => by
    simp only [RepF] at h
    obtain ⟨v, r, e1, h1, h2⟩ := h
    simp only [ClF]
    exact ⟨h1.cl, h2.cl⟩
end
theorem RepO.cl {d : D} {o : HO} (h : RepO K C H ι d o) : Cl ι.l.length d := by
  unfold RepO at h
  split at h
  · simpa [Cl] using Reps.cl h
  · simpa [Cl] using RepK.cl h
  · simpa [Cl] using RepT.cl h
  · simpa [Cl] using RepF.cl h.2
  · simpa [Cl] using RepK.cl h
  · simpa [Cl] using RepT.cl h
  · exact h.elim
theorem Sim.cl (S : Sim K C H ι st) : ∀ d ∈ st, Cl st.length d := fun d hd => by
  obtain ⟨n, hn, rfl⟩ := List.mem_iff_getElem.mp hd
  obtain ⟨a, o, _, _, r⟩ := S.addr (List.getElem?_eq_getElem hn)
  rw [← S.len]
  exact r.cl
/-! ### forgetting the newest mutable objects -/
def Io.take (ι : Io) (k : Nat) : Io := ⟨ι.l.take k, ι.z⟩
theorem Io.out.take {k : Nat} {a : Addr} (h : ι.out a) : (ι.take k).out a := ⟨fun z => h.1 (List.mem_of_mem_take z), h.2⟩
mutual
theorem Rep.cut {k : Nat} : ∀ {d : D} {v : V}, Rep K C H ι d v → Cl k d → Rep K C H (ι.take k) d v
  | .non, _, h, _ => h
  | .bl _, _, h, _ => h
  | .int _, _, h, _ => h
  | .str _, _, h, _ => h
  | .tup xs, v, h, c => by
    simp only [Rep] at h ⊢
    obtain ⟨a, vs, e1, h1, h2⟩ := h
    refine ⟨a, vs, e1, ?_, Reps.cut h2 (by simpa [Cl] using c)⟩
    rcases h1 with ⟨h1, n⟩ | h1
    · exact .inl ⟨h1, n.take⟩
    · exact .inr h1
  | .lst xs, v, h, c => by
    simp only [Rep] at h ⊢
    obtain ⟨a, vs, e1, h1, n, h2⟩ := h
    exact ⟨a, vs, e1, h1, n.take, Reps.cut h2 (by simpa [Cl] using c)⟩
  | .ro xs, v, h, c => by
    simp only [Rep] at h ⊢
    obtain ⟨a, vs, e1, h1, h2⟩ := h
    refine ⟨a, vs, e1, ?_, Reps.cut h2 (by simpa [Cl] using c)⟩
    rcases h1 with ⟨h1, n⟩ | h1
    · exact .inl ⟨h1, n.take⟩
    · exact .inr h1
  | .dK kvs, v, h, c => by
    simp only [Rep] at h ⊢
    obtain ⟨a, kw, e1, h1, n, h2⟩ := h
    exact ⟨a, kw, e1, h1, n.take, RepK.cut h2 (by simpa [Cl] using c)⟩
  | .dT kvs, v, h, c => by
    simp only [Rep] at h ⊢
    obtain ⟨a, kw, e1, h1, n, h2⟩ := h
    exact ⟨a, kw, e1, h1, n.take, RepT.cut h2 (by simpa [Cl] using c)⟩
  | .ins c fs, v, h, cl => by
    simp only [Rep] at h ⊢
    obtain ⟨a, dx, kw, e1, h1, n, h2⟩ := h
    exact ⟨a, dx, kw, e1, h1, n.take, RepF.cut h2 (by simpa [Cl] using cl)⟩
  | .loc n, v, h, c => by
    simp only [Rep] at h ⊢
    obtain ⟨a, e1, h1⟩ := h
    exact ⟨a, e1, by show (ι.l.take k)[n]? = some a; rw [List.getElem?_take_of_lt (by simpa [Cl] using c)]; exact h1⟩
  | .lck _, _, h, _ => by simp only [Rep] at h
theorem Reps.cut {k : Nat} : ∀ {ds : List D} {vs : List V}, Reps K C H ι ds vs → Cls' k ds → Reps K C H (ι.take k) ds vs
  | [], _, h, _ => by simpa only [Reps] using h
  | d :: ds, vs, h, c => by
    simp only [Reps, Cls'] at h c ⊢
    obtain ⟨v, r, e1, h1, h2⟩ := h
    exact ⟨v, r, e1, h1.cut c.1, Reps.cut h2 c.2⟩
theorem RepK.cut {k : Nat} : ∀ {ds : List (Key × D)} {vs : List (Key × V)}, RepK K C H ι ds vs → ClK k ds → RepK K C H (ι.take k) ds vs
  | [], _, h, _ => by simpa only [RepK] using h
  | (_, d) :: ds, vs, h, c => by
    simp only [RepK, ClK] at h c ⊢
    obtain ⟨v, r, e1, h1, h2⟩ := h
    exact ⟨v, r, e1, h1.cut c.1, RepK.cut h2 c.2⟩
theorem RepT.cut {k : Nat} : ∀ {ds : List (List Key × D)} {vs : List (List Key × V)}, RepT K C H ι ds vs → ClT k ds → RepT K C H (ι.take k) ds vs
  | [], _, h, _ => by simpa only [RepT] using h
  | (_, d) :: ds, vs, h, c => by
    simp only [RepT, ClT] at h c ⊢
    obtain ⟨v, r, e1, h1, h2⟩ := h
    exact ⟨v, r, e1, h1.cut c.1, RepT.cut h2 c.2⟩
theorem RepF.cut {k : Nat} : ∀ {ds : List (Str × D)} {vs : List (Str × V)}, RepF K C H ι ds vs → ClF k ds → RepF K C H (ι.take k) ds vs
  | [], _, h, _ => by simpa only [RepF] using h
  | (_, d) :: ds, vs, h, c => by
    simp only [RepF, ClF] at h c ⊢
    obtain ⟨v, r, e1, h1, h2⟩ := h
    exact ⟨v, r, e1, h1.cut c.1, RepF.cut h2 c.2⟩
end
theorem RepO.cut {k : Nat} {d : D} {o : HO} (h : RepO K C H ι d o) (c : Cl k d) : RepO K C H (ι.take k) d o := by
  unfold RepO at h ⊢
  split at h
  · exact Reps.cut h (by simpa [Cl] using c)
  · exact RepK.cut h (by simpa [Cl] using c)
  · exact RepT.cut h (by simpa [Cl] using c)
  · exact ⟨h.1, RepF.cut h.2 (by simpa [Cl] using c)⟩
  · exact RepK.cut h (by simpa [Cl] using c)
  · exact RepT.cut h (by simpa [Cl] using c)
  · exact h.elim
theorem Sim.cut (S : Sim K C H ι st) {k : Nat} (c : ∀ d ∈ st.take k, Cl k d) : Sim K C H (ι.take k) (st.take k) := by
  refine ⟨by simp [Io.take, S.len], S.nd.sublist (List.take_sublist _ _), fun a ha => ⟨(S.zin a ha).1, fun z => (S.zin a ha).2 (List.mem_of_mem_take z)⟩, fun n d a h1 h2 => ?_⟩
  have h2 : (ι.l.take k)[n]? = some a := h2
  have hd : d ∈ st.take k := List.mem_of_getElem? h1
  have hn : n < k := by
    have := (List.getElem?_eq_some_iff.mp h1).1
    rw [List.length_take] at this; omega
  rw [List.getElem?_take_of_lt hn] at h1 h2
  obtain ⟨o, h3, h4⟩ := S.at_ n d a h1 h2
  exact ⟨o, h3, h4.cut (c d hd)⟩
/-- the content of an object, itself now immutable -/
theorem Sim.frz (S : Sim K C H ι st) {k n : Nat} {d : D} {v : V} (hk : k ≤ n) (h : Rep K C H ι (.loc n) v) (hd : st[n]? = some d) (c : Cl k d)
    (hl : ∀ x, d ≠ .lck x) : Rep K C H (ι.take k) d v := by
  simp only [Rep] at h
  obtain ⟨a, rfl, ha⟩ := h
  obtain ⟨o, h1, h2⟩ := S.at_ n d a hd ha
  have na : a ∉ ι.l.take k := fun z => by
    obtain ⟨m, hm, e⟩ := List.mem_iff_getElem.mp z
    rw [List.length_take] at hm
    rw [List.getElem_take] at e
    have := nodup_get S.nd (i := m) (j := n) (a := a) (by rw [List.getElem?_eq_getElem (by omega), e]) ha
    omega
  have na : (ι.take k).out a := ⟨na, fun z => (S.zin a z).2 (List.mem_of_getElem? ha)⟩
  have h3 := h2.cut c
  unfold RepO at h3
  split at h3
  · simp only [Rep]; exact ⟨a, _, rfl, h1, na, h3⟩
  · simp only [Rep]; exact ⟨a, _, rfl, h1, na, h3⟩
  · simp only [Rep]; exact ⟨a, _, rfl, h1, na, h3⟩
  · obtain ⟨rfl, h3⟩ := h3
    simp only [Rep]; exact ⟨a, _, _, rfl, h1, na, h3⟩
  · exact absurd rfl (hl _)
  · exact absurd rfl (hl _)
  · exact h3.elim
end
end MI

set_option maxRecDepth 100000
/-! MI, part 2: a small language and what it asks (a predicate transformer over plain data). -/
namespace MI
open PySem PySem.Spec PyProof.Rows L2

abbrev Kd := D → Sto → Prop
abbrev Fn := List D → Sto → Kd → Prop
abbrev Fns := Nat → Fn

inductive BOp where | add | sub | mul | fdiv | mod | pow deriving DecidableEq
inductive COp where | eq | ne | lt | le | gt | ge | isIn | notIn | is_ | isnt deriving DecidableEq
inductive Blt where | len | int | list | tuple | sum | max2 | min2 | any | all | sorted | str | isTuple | isInt | isBool | isStr | isList | set | dict deriving DecidableEq
inductive Mth where | append | pop0 | pop1 | extend | index | get1 | get2 | dpop2 | update | join deriving DecidableEq

mutual
inductive SE where
  | var (i : Nat)
  | con (d : D)
  | bin (o : BOp) (m : Bool) (a b : SE)
  | neg (a : SE)
  | cmp (o : COp) (a b : SE)
  | chain (o o' : COp) (a b c : SE)
  | land (a b : SE)
  | lor (a b : SE)
  | lnot (a : SE)
  | ifx (t : SB) (a b : SE)
  | tup (es : List SE)
  | lst (m : Bool) (es : List SE)
  | idx (a i : SE)
  | slc (m : Bool) (a : SE) (lo hi : Option SE)
  | rev (m : Bool) (a : SE)
  | call (f : Nat) (es : List SE)
  | blt (b : Blt) (m : Bool) (es : List SE)
  | mth (b : Mth) (o : SE) (es : List SE)
  | lc (m : Bool) (elt : SE) (tg : ST) (it : SI) (c : Option SB) (own : List Nat)
  | lc2 (m : Bool) (elt : SE) (tg : ST) (it : SI) (c : Option SB) (tg1 : ST) (it1 : SI) (c1 : Option SB) (own own1 : List Nat)
  | fld (o : SE) (f : Str)
inductive SB where
  | val (e : SE)
  | land (a b : SB)
  | lor (a b : SB)
  | lnot (a : SB)
  | cmp (o : COp) (a b : SE)
  | chain (o o' : COp) (a b c : SE)
inductive ST where
  | nm (i : Nat)
  | tup (ts : List ST)
  | sub (o i : SE)
inductive SI where
  | seq (e : SE)
  | rng1 (a : SE)
  | rng2 (a b : SE)
  | rng3 (a b c : SE)
  | enum (e : SE)
end

inductive SS where
  | set (t : ST) (e : SE)
  | par (i j : Nat) (a b : SE)
  | aug (i : Nat) (o : BOp) (e : SE)
  | augS (o i : SE) (op : BOp) (e : SE)
  | expr (e : SE)
  | ret (e : SE)
  | ite (c : SB) (a b : List SS)
  | for_ (t : ST) (it : SI) (b : List SS)
  | while_ (c : SB) (b : List SS)
  | pass
  | brk
  | cont
  | never

/-! ### reading data -/
def asL (st : Sto) : D → Option (List D)
  | .lst xs => some xs
  | .loc n => match st[n]? with
    | some (.lst xs) => some xs
    | _ => none
  | _ => none
def asR (st : Sto) : D → Option (List D)
  | .ro xs => some xs
  | d => asL st d
def asSeq (st : Sto) : D → Option (List D)
  | .tup xs => some xs
  | d => asR st d
def ints? : List D → Option (List Int)
  | [] => some []
  | .int i :: r => (ints? r).map (i :: ·)
  | _ => none
def bls? : List D → Option (List Bool)
  | [] => some []
  | .bl i :: r => (bls? r).map (i :: ·)
  | _ => none
def strs? : List D → Option (List Str)
  | [] => some []
  | .str i :: r => (strs? r).map (i :: ·)
  | _ => none
mutual
/-- data without mutable parts (their content read) -/
def toPy (st : Sto) : D → Option PyData
  | .non => some .none
  | .bl b => some (.bool b)
  | .int i => some (.int i)
  | .str x => some (.str x)
  | .tup xs => (toPys st xs).map .tuple
  | .lst xs => (toPys st xs).map .list
  | .ro xs => (toPys st xs).map .list
  | _ => none
def toPys (st : Sto) : List D → Option (List PyData)
  | [] => some []
  | d :: r => match toPy st d, toPys st r with
    | some x, some y => some (x :: y)
    | _, _ => none
end
/-- one level of a mutable list -/
def toPyL (st : Sto) : D → Option PyData
  | .loc n => match st[n]? with
    | some (.lst xs) => (toPys st xs).map .list
    | _ => none
  | d => toPy st d
def flat : D → Bool
  | .non => true
  | .bl _ => true
  | .int _ => true
  | .str _ => true
  | _ => false
/-- == of flat data -/
def eqF : D → D → Bool
  | .non, .non => true
  | .bl a, .bl b => a == b
  | .bl a, .int b => (if a then 1 else 0) == b
  | .int a, .bl b => a == (if b then 1 else 0)
  | .int a, .int b => a == b
  | .str a, .str b => a == b
  | _, _ => false

/-- a fresh list: mutable, or from now on only read -/
def new (m : Bool) (d : D) (st : Sto) (Q : Kd) : Prop := if m = true then Q (.loc st.length) (st ++ [d]) else Q d st
def opt {α : Type} (o : Option α) (k : α → Prop) : Prop := match o with
  | some x => k x
  | none => False

def binD (m : Bool) (o : BOp) (x y : D) (st : Sto) (Q : Kd) : Prop :=
  match o, x, y with
  | .add, .int i, .int j => Q (.int (i + j)) st
  | .add, .int i, .bl b => Q (.int (i + b2i b)) st
  | .add, .str i, .str j => i.length + j.length ≤ sizeLine ∧ Q (.str (i ++ j)) st
  | .add, .tup xs, .tup ys => xs.length + ys.length ≤ sizeLine ∧ Q (.tup (xs ++ ys)) st
  | .add, x, y => opt (asL st x) fun xs => opt (asL st y) fun ys => xs.length + ys.length ≤ sizeLine ∧ new m (.lst (xs ++ ys)) st Q
  | .sub, .int i, .int j => Q (.int (i - j)) st
  | .mul, .int i, .int j => CMulW i j ∧ Q (.int (i * j)) st
  | .mul, x, .int k => opt (asL st x) fun xs => -(2 ^ 63) ≤ k ∧ k < 2 ^ 63 ∧ xs.length * k.toNat ≤ sizeLine ∧ new m (.lst (List.replicate k.toNat xs).flatten) st Q
  | .fdiv, .int i, .int j => CDivW i j ∧ Q (.int (i / j)) st
  | .mod, .int i, .int j => 0 < j ∧ Q (.int (i % j)) st
  | .pow, .int i, .int j => CPow i j ∧ Q (.int (i ^ j.toNat)) st
  | _, _, _ => False
/-- name op= e: a number alone -/
def augD (o : BOp) (x y : D) (st : Sto) (Q : Kd) : Prop :=
  match o, x, y with
  | .add, .int i, .int j => Q (.int (i + j)) st
  | .sub, .int i, .int j => Q (.int (i - j)) st
  | .fdiv, .int i, .int j => CDiv i j ∧ Q (.int (i / j)) st
  | _, _, _ => False
def cmpD (o : COp) (x y : D) (st : Sto) (Q : Bool → Sto → Prop) : Prop :=
  match o with
  | .eq => match x, y with
    | .int i, .int j => Q (i == j) st
    | .str i, .str j => Q (i == j) st
    | x, y => opt (toPyL st x) fun d => opt (toPyL st y) fun e => SeqAt.shaped d = true ∧ SeqAt.shaped e = true ∧ Q (PyData.eqv d e) st
  | .ne => match x, y with
    | .int i, .int j => Q (!(i == j)) st
    | .str i, .str j => Q (!(i == j)) st
    | x, y => opt (toPyL st x) fun d => opt (toPyL st y) fun e => SeqAt.shaped d = true ∧ SeqAt.shaped e = true ∧ Q (!PyData.eqv d e) st
  | .lt => match x, y with
    | .int i, .int j => Q (decide (i < j)) st
    | _, _ => False
  | .le => match x, y with
    | .int i, .int j => Q (decide (i ≤ j)) st
    | _, _ => False
  | .gt => match x, y with
    | .int i, .int j => Q (decide (j < i)) st
    | _, _ => False
  | .ge => match x, y with
    | .int i, .int j => Q (decide (j ≤ i)) st
    | _, _ => False
  | .isIn => opt (asSeq st y) fun ys => flat x = true ∧ ys.all flat = true ∧ Q (ys.any fun z => eqF z x) st
  | .notIn => opt (asSeq st y) fun ys => flat x = true ∧ ys.all flat = true ∧ Q (!ys.any fun z => eqF z x) st
  | .is_ => match y, x with
    | .non, .non => Q true st
    | .non, _ => Q false st
    | .bl b, .bl a => Q (a == b) st
    | _, _ => False
  | .isnt => match y, x with
    | .non, .non => Q false st
    | .non, _ => Q true st
    | .bl b, .bl a => Q (!(a == b)) st
    | _, _ => False
def truD (x : D) (st : Sto) (Q : Bool → Sto → Prop) : Prop :=
  match x with
  | .non => Q false st
  | .bl b => Q b st
  | .int i => Q (i != 0) st
  | .str y => y.length ≤ sizeLine ∧ Q ((y.length : Int) != 0) st
  | d => opt (asSeq st d) fun xs => Q (!xs.isEmpty) st
def idxD (x y : D) (st : Sto) (Q : Kd) : Prop :=
  match x, y with
  | .str z, .int i => z.length ≤ sizeLine ∧ opt (atI z.cps.toList i) fun c => Q (.str ⟨#[c]⟩) st
  | x, .int i => opt (asSeq st x) fun xs => opt (atI xs i) fun d => Q d st
  | _, _ => False
/-- xs[i] of a mutable list -/
def idxL (x y : D) (st : Sto) (Q : Kd) : Prop :=
  match x, y with
  | .loc n, .int k => match st[n]? with
    | some (.lst xs) => opt (atI xs k) fun d => Q d st
    | _ => False
  | _, _ => False
/-- the items of a slice -/
def cutD (xs : List D) (lo hi : Option Int) : List D := (xs.drop (HT.sIx xs.length 0 lo)).take (HT.sIx xs.length xs.length hi - HT.sIx xs.length 0 lo)
def slcD (m : Bool) (x : D) (lo hi : Option Int) (st : Sto) (Q : Kd) : Prop :=
  match x with
  | .tup xs => Q (.tup (cutD xs lo hi)) st
  | d => opt (asR st d) fun xs => new m (.lst (cutD xs lo hi)) st Q
def revD (m : Bool) (x : D) (st : Sto) (Q : Kd) : Prop :=
  match x with
  | .tup xs => Q (.tup xs.reverse) st
  | d => opt (asR st d) fun xs => new m (.lst xs.reverse) st Q
def setD (o i v : D) (st : Sto) (Q : Sto → Prop) : Prop :=
  match o, i with
  | .loc n, .int k => match st[n]? with
    | some (.lst xs) => opt (ixN xs.length k) fun j => Q (st.set n (.lst (xs.set j v)))
    | _ => False
  | _, _ => False
def lenD (st : Sto) : D → Option Nat
  | .str z => if z.length ≤ sizeLine then some z.length else none
  | d => (asSeq st d).map List.length
def bltD (b : Blt) (m : Bool) (vs : List D) (st : Sto) (Q : Kd) : Prop :=
  match b, vs with
  | .len, [d] => opt (lenD st d) fun n => Q (.int n) st
  | .int, [.int i] => Q (.int i) st
  | .int, [.bl k] => Q (.int (if k then 1 else 0)) st
  | .list, [d] => opt (asSeq st d) fun xs => new m (.lst xs) st Q
  | .tuple, [d] => opt (asSeq st d) fun xs => Q (.tup xs) st
  | .sum, [d] => opt (asR st d) fun xs => opt (ints? xs) fun ns => Q (.int ns.sum) st
  | .max2, [.int i, .int j] => Q (.int (if j > i then j else i)) st
  | .min2, [.int i, .int j] => Q (.int (if j < i then j else i)) st
  | .any, [d] => opt (asR st d) fun xs => opt (bls? xs) fun bs => Q (.bl (bs.any id)) st
  | .all, [d] => opt (asR st d) fun xs => opt (bls? xs) fun bs => Q (.bl (bs.all id)) st
  | .isTuple, [d] => (match d with | .tup _ => Q (.bl true) st | .non => Q (.bl false) st | .bl _ => Q (.bl false) st | .int _ => Q (.bl false) st | .str _ => Q (.bl false) st | _ => False)
  | .isInt, [d] => (match d with | .tup _ => Q (.bl false) st | .non => Q (.bl false) st | .bl _ => Q (.bl true) st | .int _ => Q (.bl true) st | .str _ => Q (.bl false) st | _ => False)
  | .isBool, [d] => (match d with | .tup _ => Q (.bl false) st | .non => Q (.bl false) st | .bl _ => Q (.bl true) st | .int _ => Q (.bl false) st | .str _ => Q (.bl false) st | _ => False)
  | .isStr, [d] => (match d with | .tup _ => Q (.bl false) st | .non => Q (.bl false) st | .bl _ => Q (.bl false) st | .int _ => Q (.bl false) st | .str _ => Q (.bl true) st | _ => False)
  | _, _ => False
def mthD (b : Mth) (o : D) (vs : List D) (st : Sto) (Q : Kd) : Prop :=
  match b, o, vs with
  | .append, .loc n, [v] => (match st[n]? with
    | some (.lst xs) => xs.length < sizeLine ∧ Q .non (st.set n (.lst (xs ++ [v])))
    | _ => False)
  | .pop0, .loc n, [] => (match st[n]? with
    | some (.lst xs) => opt (xs[xs.length - 1]?) fun v => Q v (st.set n (.lst xs.dropLast))
    | _ => False)
  | .pop1, .loc n, [.int i] => (match st[n]? with
    | some (.lst xs) => -(2 ^ 63) ≤ i ∧ i < 2 ^ 63 ∧ opt (seqIndex? i xs.length) fun k => opt (xs[k]?) fun v => Q v (st.set n (.lst (xs.eraseIdx k)))
    | _ => False)
  | .extend, .loc n, [d] => (match st[n]? with
    | some (.lst xs) => d ≠ .loc n ∧ opt (asL st d) fun ys => xs.length + ys.length ≤ sizeLine ∧ Q .non (st.set n (.lst (xs ++ ys)))
    | _ => False)
  | _, _, _ => False

/-- what the receiver of a method must be -/
def recv (b : Mth) (x : D) (st : Sto) : Prop :=
  match b, x with
  | .append, .loc n => (match st[n]? with | some (.lst _) => True | _ => False)
  | .pop0, .loc n => (match st[n]? with | some (.lst _) => True | _ => False)
  | .pop1, .loc n => (match st[n]? with | some (.lst _) => True | _ => False)
  | .extend, .loc n => (match st[n]? with | some (.lst _) => True | _ => False)
  | _, _ => False

/-! ### loops -/
structure EndsD where
  nx : Ev → Sto → Prop
  rt : Kd
  bk : Ev → Sto → Prop
  ct : Ev → Sto → Prop
/-- what is walked: the items, and what must stay -/
structure Its where
  items : List D
  keep : Sto → Prop
def forW (asg : D → Ev → Sto → (Ev → Sto → Prop) → Prop) (body : EndsD → Ev → Sto → Prop) (keep : Sto → Prop) (X : EndsD) : List D → Ev → Sto → Prop
  | [], env, st => keep st ∧ X.nx env st
  | x :: xs, env, st => keep st ∧ asg x env st fun env' st' => body { X with nx := forW asg body keep X xs, ct := forW asg body keep X xs, bk := X.nx } env' st'
def whileW (c : Ev → Sto → (Bool → Sto → Prop) → Prop) (body : EndsD → Ev → Sto → Prop) (X : EndsD) : Nat → Ev → Sto → Prop
  | 0, _, _ => False
  | n + 1, env, st => c env st fun b st' => if b = true then body { X with nx := whileW c body X n, ct := whileW c body X n, bk := X.nx } env st' else X.nx env st'
def wipeE (env : Ev) : List Nat → Ev
  | [] => env
  | v :: vs => (wipeE env vs).set v none
/-- the loop of a comprehension -/
def lcW (asg : D → Sto → (Ev → Sto → Prop) → Prop) (test : Ev → Sto → (Bool → Sto → Prop) → Prop) (elt : Ev → Sto → Kd → Prop) (keep : Sto → Prop) (Q : List D → Sto → Prop) : List D → List D → Sto → Prop
  | [], acc, st => keep st ∧ Q acc st
  | x :: xs, acc, st => keep st ∧ asg x st fun env' st' => test env' st' fun b st2 =>
      if b = true then elt env' st2 fun d st3 => acc.length < sizeLine ∧ lcW asg test elt keep Q xs (acc ++ [d]) st3 else lcW asg test elt keep Q xs acc st2
/-- the outer loop of two: inner is the second clause's whole loop over acc -/
def lcW2 (asg : D → Sto → (Ev → Sto → Prop) → Prop) (test : Ev → Sto → (Bool → Sto → Prop) → Prop) (inner : Ev → List D → Sto → (List D → Sto → Prop) → Prop) (keep : Sto → Prop) (Q : List D → Sto → Prop) : List D → List D → Sto → Prop
  | [], acc, st => keep st ∧ Q acc st
  | x :: xs, acc, st => keep st ∧ asg x st fun env' st' => test env' st' fun b st2 =>
      if b = true then inner env' acc st2 (lcW2 asg test inner keep Q xs) else lcW2 asg test inner keep Q xs acc st2
def rngL (lo : Int) (n : Nat) (c : Int) : List D := (List.range n).map fun i => .int (lo + (i : Nat) * c)
def enumF : Nat → List D → List D
  | _, [] => []
  | i, x :: r => .tup [.int (i : Nat), x] :: enumF (i + 1) r
abbrev enumL (xs : List D) : List D := enumF 0 xs

variable (Φ : Fns)
set_option maxHeartbeats 2000000
mutual
def wE : SE → Ev → Sto → Kd → Prop
  | .var i, env, st, Q => (match env[i]? with
    | some (some d) => Q d st
    | _ => False)
  | .con d, _, st, Q => Q d st
  | .bin o m a b, env, st, Q => wE a env st fun x s1 => wE b env s1 fun y s2 => binD m o x y s2 Q
  | .neg a, env, st, Q => wE a env st fun x s1 => (match x with
    | .int i => Q (.int (-i)) s1
    | _ => False)
  | .cmp o a b, env, st, Q => wE a env st fun x s1 => wE b env s1 fun y s2 => cmpD o x y s2 fun c s3 => Q (.bl c) s3
  | .chain o o' a b c, env, st, Q => wE a env st fun x s1 => wE b env s1 fun y s2 => cmpD o x y s2 fun k s3 =>
      if k = true then wE c env s3 fun z s4 => cmpD o' y z s4 fun k' s5 => Q (.bl k') s5 else Q (.bl false) s3
  | .land a b, env, st, Q => wE a env st fun x s1 => (match x with
    | .bl c => if c = true then wE b env s1 Q else Q (.bl false) s1
    | _ => False)
  | .lor a b, env, st, Q => wE a env st fun x s1 => (match x with
    | .bl c => if c = true then Q (.bl true) s1 else wE b env s1 Q
    | _ => False)
  | .lnot a, env, st, Q => wE a env st fun x s1 => (match x with
    | .bl c => Q (.bl (!c)) s1
    | _ => False)
  | .ifx t a b, env, st, Q => wT t env st fun c s1 => if c = true then wE a env s1 Q else wE b env s1 Q
  | .tup es, env, st, Q => wEs es env st fun xs s1 => xs.length ≤ sizeLine ∧ Q (.tup xs) s1
  | .lst m es, env, st, Q => wEs es env st fun xs s1 => xs.length ≤ sizeLine ∧ new m (.lst xs) s1 Q
  | .idx a i, env, st, Q => wE a env st fun x s1 => wE i env s1 fun y s2 => idxD x y s2 Q
  | .slc m a lo hi, env, st, Q => wE a env st fun x s1 => wO lo env s1 fun l s2 => wO hi env s2 fun u s3 => slcD m x l u s3 Q
  | .rev m a, env, st, Q => wE a env st fun x s1 => revD m x s1 Q
  | .call f es, env, st, Q => wEs es env st fun xs s1 => Φ f xs s1 Q
  | .blt b m es, env, st, Q => wEs es env st fun xs s1 => bltD b m xs s1 Q
  | .mth b o es, env, st, Q => wE o env st fun x s1 => recv b x s1 ∧ wEs es env s1 fun xs s2 => mthD b x xs s2 Q
  | .lc m elt tg it c own, env, st, Q => wI it env st fun J s1 =>
      lcW (fun x s K => wG tg x (wipeE env own) s K) (fun e s K => wC c e s K) (fun e s K => wE elt e s K) J.keep (fun acc s2 => new m (.lst acc) s2 Q) J.items [] s1
  | .lc2 m elt tg it c tg1 it1 c1 own own1, env, st, Q => wI it env st fun J s1 =>
      lcW2 (fun x s K => wG tg x (wipeE env own) s K) (fun e s K => wC c e s K)
        (fun e acc s K => wI it1 e s fun J1 s' => lcW (fun x s K => wG tg1 x (wipeE e own1) s K) (fun e s K => wC c1 e s K) (fun e s K => wE elt e s K) J1.keep K J1.items acc s')
        J.keep (fun acc s2 => new m (.lst acc) s2 Q) J.items [] s1
  | .fld o f, env, st, Q => wE o env st fun x s1 => (match x with
    | .ins _ fs => opt (fs.lookup f) fun d => Q d s1
    | .loc n => (match s1[n]? with
      | some (.ins _ fs) => opt (fs.lookup f) fun d => Q d s1
      | _ => False)
    | _ => False)
def wEs : List SE → Ev → Sto → (List D → Sto → Prop) → Prop
  | [], _, st, Q => Q [] st
  | e :: es, env, st, Q => wE e env st fun x s1 => wEs es env s1 fun xs s2 => Q (x :: xs) s2
def wO : Option SE → Ev → Sto → (Option Int → Sto → Prop) → Prop
  | none, _, st, Q => Q none st
  | some e, env, st, Q => wE e env st fun x s1 => (match x with
    | .int i => Q (some i) s1
    | _ => False)
def wC : Option SB → Ev → Sto → (Bool → Sto → Prop) → Prop
  | none, _, st, Q => Q true st
  | some e, env, st, Q => wT e env st Q
/-- as a test -/
def wT : SB → Ev → Sto → (Bool → Sto → Prop) → Prop
  | .land a b, env, st, Q => wT a env st fun c s1 => if c = true then wT b env s1 Q else Q false s1
  | .lor a b, env, st, Q => wT a env st fun c s1 => if c = true then Q true s1 else wT b env s1 Q
  | .lnot a, env, st, Q => wT a env st fun c s1 => Q (!c) s1
  | .cmp o a b, env, st, Q => wE a env st fun x s1 => wE b env s1 fun y s2 => cmpD o x y s2 Q
  | .chain o o' a b c, env, st, Q => wE a env st fun x s1 => wE b env s1 fun y s2 => cmpD o x y s2 fun k s3 =>
      if k = true then wE c env s3 fun z s4 => cmpD o' y z s4 Q else Q false s3
  | .val e, env, st, Q => wE e env st fun x s1 => truD x s1 Q
def wI : SI → Ev → Sto → (Its → Sto → Prop) → Prop
  | .seq e, env, st, R => wE e env st fun x s1 => opt (asSeq s1 x) fun xs => R ⟨xs, fun s => asSeq s x = some xs⟩ s1
  | .rng1 a, env, st, R => wE a env st fun x s1 => (match x with
    | .int j => -(2 ^ 62) ≤ j ∧ j < 2 ^ 62 ∧ R ⟨rngL 0 j.toNat 1, fun _ => True⟩ s1
    | _ => False)
  | .rng2 a b, env, st, R => wE a env st fun x s1 => wE b env s1 fun y s2 => (match x, y with
    | .int i, .int j => (-(2 ^ 62) ≤ i ∧ i < 2 ^ 62 ∧ -(2 ^ 62) ≤ j ∧ j < 2 ^ 62) ∧ R ⟨rngL i (j - i).toNat 1, fun _ => True⟩ s2
    | _, _ => False)
  | .rng3 a b c, env, st, R => wE a env st fun x s1 => wE b env s1 fun y s2 => wE c env s2 fun z s3 => (match x, y, z with
    | .int i, .int j, .int k => ∃ n, RgC i j k n ∧ R ⟨rngL i n k, fun _ => True⟩ s3
    | _, _, _ => False)
  | .enum e, env, st, R => wE e env st fun x s1 => opt (asSeq s1 x) fun xs => R ⟨enumL xs, fun s => asSeq s x = some xs⟩ s1
def wG : ST → D → Ev → Sto → (Ev → Sto → Prop) → Prop
  | .nm i, d, env, st, Q => Q (env.set i (some d)) st
  | .tup ts, d, env, st, Q => (match d with
    | .tup xs => xs.length = ts.length ∧ wGs ts xs env st Q
    | _ => False)
  | .sub o i, d, env, st, Q => wE o env st fun x s1 => wE i env s1 fun y s2 => setD x y d s2 fun s3 => Q env s3
def wGs : List ST → List D → Ev → Sto → (Ev → Sto → Prop) → Prop
  | [], xs, env, st, Q => xs = [] ∧ Q env st
  | t :: ts, xs, env, st, Q => (match xs with
    | [] => False
    | x :: r => wG t x env st fun e1 s1 => wGs ts r e1 s1 Q)
end
mutual
def wS : SS → EndsD → Ev → Sto → Prop
  | .set t e, X, env, st => wE Φ e env st fun x s1 => wG Φ t x env s1 X.nx
  | .par i j a b, X, env, st => wE Φ a env st fun x s1 => wE Φ b env s1 fun y s2 => X.nx ((env.set i (some x)).set j (some y)) s2
  | .aug i o e, X, env, st => (match env[i]? with
    | some (some x) => wE Φ e env st fun y s1 => augD o x y s1 fun z s2 => X.nx (env.set i (some z)) s2
    | _ => False)
  | .augS o i op e, X, env, st => wE Φ o env st fun x s1 => wE Φ i env s1 fun y s2 => idxL x y s2 fun z s3 => wE Φ e env s3 fun v s4 => augD op z v s4 fun r s5 => setD x y r s5 fun s6 => X.nx env s6
  | .expr e, X, env, st => wE Φ e env st fun _ s1 => X.nx env s1
  | .ret e, X, env, st => wE Φ e env st X.rt
  | .ite c a b, X, env, st => wT Φ c env st fun k s1 => if k = true then wSs a X env s1 else wSs b X env s1
  | .for_ t it b, X, env, st => wI Φ it env st fun J s1 => forW (fun x e s K => wG Φ t x e s K) (fun X' e s => wSs b X' e s) J.keep X J.items env s1
  | .while_ c b, X, env, st => ∃ n, whileW (fun e s K => wT Φ c e s K) (fun X' e s => wSs b X' e s) X n env st
  | .pass, X, env, st => X.nx env st
  | .brk, X, env, st => X.bk env st
  | .cont, X, env, st => X.ct env st
  | .never, _, _, _ => False
def wSs : List SS → EndsD → Ev → Sto → Prop
  | [], X, env, st => X.nx env st
  | s :: r, X, env, st => wS s { X with nx := wSs r X } env st
end
end MI


set_option maxRecDepth 100000
/-! MI, part 3: what is asked grows with what is wanted. -/
namespace MI
open PySem PySem.Spec PyProof.Rows L2

def MonoFn (φ : Fn) : Prop := ∀ vs st (Q Q' : Kd), (∀ d s, Q d s → Q' d s) → φ vs st Q → φ vs st Q'
theorem opt_mono {α : Type} {o : Option α} {k k' : α → Prop} (h : ∀ x, k x → k' x) : opt o k → opt o k' := by
  cases o with
  | none => exact id
  | some x => exact h x
section
variable {Q Q' : Kd} (hQ : ∀ d s, Q d s → Q' d s)
include hQ
theorem new_mono {m : Bool} {d : D} {st : Sto} : new m d st Q → new m d st Q' := by
  unfold new; split
  · exact hQ _ _
  · exact hQ _ _
theorem binD_mono {m : Bool} {o : BOp} {x y : D} {st : Sto} : binD m o x y st Q → binD m o x y st Q' := by
  unfold binD
  split
  · exact hQ _ _
  · exact hQ _ _
  · exact fun h => ⟨h.1, hQ _ _ h.2⟩
  · exact fun h => ⟨h.1, hQ _ _ h.2⟩
  · exact opt_mono fun _ => opt_mono fun _ h => ⟨h.1, new_mono hQ h.2⟩
  · exact hQ _ _
  · exact fun h => ⟨h.1, hQ _ _ h.2⟩
  · exact opt_mono fun _ h => ⟨h.1, h.2.1, h.2.2.1, new_mono hQ h.2.2.2⟩
  · exact fun h => ⟨h.1, hQ _ _ h.2⟩
  · exact fun h => ⟨h.1, hQ _ _ h.2⟩
  · exact fun h => ⟨h.1, hQ _ _ h.2⟩
  · exact id
theorem augD_mono {o : BOp} {x y : D} {st : Sto} : augD o x y st Q → augD o x y st Q' := by
  unfold augD
  split
  · exact hQ _ _
  · exact hQ _ _
  · exact fun h => ⟨h.1, hQ _ _ h.2⟩
  · exact id
theorem idxD_mono {x y : D} {st : Sto} : idxD x y st Q → idxD x y st Q' := by
  unfold idxD
  split
  · exact fun h => ⟨h.1, opt_mono (fun _ => hQ _ _) h.2⟩
  · exact opt_mono fun _ => opt_mono fun _ => hQ _ _
  · exact id
theorem idxL_mono {x y : D} {st : Sto} : idxL x y st Q → idxL x y st Q' := by
  unfold idxL
  split
  · split
    · exact opt_mono fun _ => hQ _ _
    · exact id
  · exact id
theorem slcD_mono {m : Bool} {x : D} {lo hi : Option Int} {st : Sto} : slcD m x lo hi st Q → slcD m x lo hi st Q' := by
  unfold slcD
  split
  · exact hQ _ _
  · exact opt_mono fun _ => new_mono hQ
theorem revD_mono {m : Bool} {x : D} {st : Sto} : revD m x st Q → revD m x st Q' := by
  unfold revD
  split
  · exact hQ _ _
  · exact opt_mono fun _ => new_mono hQ
theorem bltD_mono {b : Blt} {m : Bool} {vs : List D} {st : Sto} : bltD b m vs st Q → bltD b m vs st Q' := by
  unfold bltD
  split
  · exact opt_mono fun _ => hQ _ _
  · exact hQ _ _
  · exact hQ _ _
  · exact opt_mono fun _ => new_mono hQ
  · exact opt_mono fun _ => hQ _ _
  · exact opt_mono fun _ => opt_mono fun _ => hQ _ _
  · exact hQ _ _
  · exact hQ _ _
  · exact opt_mono fun _ => opt_mono fun _ => hQ _ _
  · exact opt_mono fun _ => opt_mono fun _ => hQ _ _
  · split <;> first | exact hQ _ _ | exact id
  · split <;> first | exact hQ _ _ | exact id
  · split <;> first | exact hQ _ _ | exact id
  · split <;> first | exact hQ _ _ | exact id
  · exact id
theorem mthD_mono {b : Mth} {o : D} {vs : List D} {st : Sto} : mthD b o vs st Q → mthD b o vs st Q' := by
  unfold mthD
  split
  · split
    · exact fun h => ⟨h.1, hQ _ _ h.2⟩
    · exact id
  · split
    · exact opt_mono fun _ => hQ _ _
    · exact id
  · split
    · exact fun h => ⟨h.1, h.2.1, opt_mono (fun _ => opt_mono fun _ => hQ _ _) h.2.2⟩
    · exact id
  · split
    · exact fun h => ⟨h.1, opt_mono (fun _ q => ⟨q.1, hQ _ _ q.2⟩) h.2⟩
    · exact id
  · exact id
end
theorem cmpD_mono {Q Q' : Bool → Sto → Prop} (hQ : ∀ d s, Q d s → Q' d s) {o : COp} {x y : D} {st : Sto} : cmpD o x y st Q → cmpD o x y st Q' := by
  unfold cmpD
  split
  · split
    · exact hQ _ _
    · exact hQ _ _
    · exact opt_mono fun _ => opt_mono fun _ h => ⟨h.1, h.2.1, hQ _ _ h.2.2⟩
  · split
    · exact hQ _ _
    · exact hQ _ _
    · exact opt_mono fun _ => opt_mono fun _ h => ⟨h.1, h.2.1, hQ _ _ h.2.2⟩
  · split <;> first | exact hQ _ _ | exact id
  · split <;> first | exact hQ _ _ | exact id
  · split <;> first | exact hQ _ _ | exact id
  · split <;> first | exact hQ _ _ | exact id
  · exact opt_mono fun _ h => ⟨h.1, h.2.1, hQ _ _ h.2.2⟩
  · exact opt_mono fun _ h => ⟨h.1, h.2.1, hQ _ _ h.2.2⟩
  · split <;> first | exact hQ _ _ | exact id
  · split <;> first | exact hQ _ _ | exact id
theorem truD_mono {Q Q' : Bool → Sto → Prop} (hQ : ∀ d s, Q d s → Q' d s) {x : D} {st : Sto} : truD x st Q → truD x st Q' := by
  unfold truD
  split
  · exact hQ _ _
  · exact hQ _ _
  · exact hQ _ _
  · exact fun h => ⟨h.1, hQ _ _ h.2⟩
  · exact opt_mono fun _ => hQ _ _
theorem setD_mono {Q Q' : Sto → Prop} (hQ : ∀ s, Q s → Q' s) {o i v : D} {st : Sto} : setD o i v st Q → setD o i v st Q' := by
  unfold setD
  split
  · split
    · exact opt_mono fun _ => hQ _
    · exact id
  · exact id

theorem ite_mono {b : Bool} {A A' B B' : Prop} (h1 : A → A') (h2 : B → B') : (if b = true then A else B) → (if b = true then A' else B') := by
  cases b with
  | true => simpa using h1
  | false => simpa using h2
theorem lcW_mono {asg asg' : D → Sto → (Ev → Sto → Prop) → Prop} {test test' : Ev → Sto → (Bool → Sto → Prop) → Prop} {elt elt' : Ev → Sto → Kd → Prop} {keep : Sto → Prop} {Q Q' : List D → Sto → Prop}
    (ha : ∀ x s K K', (∀ e s, K e s → K' e s) → asg x s K → asg' x s K') (ht : ∀ e s K K', (∀ b s, K b s → K' b s) → test e s K → test' e s K') (he : ∀ e s (K K' : Kd), (∀ b s, K b s → K' b s) → elt e s K → elt' e s K')
    (hQ : ∀ l s, Q l s → Q' l s) : ∀ (xs acc : List D) (st : Sto), lcW asg test elt keep Q xs acc st → lcW asg' test' elt' keep Q' xs acc st
  | [], _, _, h => ⟨h.1, hQ _ _ h.2⟩
  | x :: xs, acc, st, h => ⟨h.1, ha _ _ _ _ (fun _ _ => ht _ _ _ _ fun b s2 => ite_mono (he _ _ _ _ fun _ _ q => ⟨q.1, lcW_mono ha ht he hQ _ _ _ q.2⟩) (lcW_mono ha ht he hQ _ _ _)) h.2⟩
theorem lcW2_mono {asg asg' : D → Sto → (Ev → Sto → Prop) → Prop} {test test' : Ev → Sto → (Bool → Sto → Prop) → Prop} {inner inner' : Ev → List D → Sto → (List D → Sto → Prop) → Prop} {keep : Sto → Prop} {Q Q' : List D → Sto → Prop}
    (ha : ∀ x s K K', (∀ e s, K e s → K' e s) → asg x s K → asg' x s K') (ht : ∀ e s K K', (∀ b s, K b s → K' b s) → test e s K → test' e s K') (he : ∀ e a s K K', (∀ b s, K b s → K' b s) → inner e a s K → inner' e a s K')
    (hQ : ∀ l s, Q l s → Q' l s) : ∀ (xs acc : List D) (st : Sto), lcW2 asg test inner keep Q xs acc st → lcW2 asg' test' inner' keep Q' xs acc st
  | [], _, _, h => ⟨h.1, hQ _ _ h.2⟩
  | x :: xs, acc, st, h => ⟨h.1, ha _ _ _ _ (fun _ _ => ht _ _ _ _ fun b s2 => ite_mono (he _ _ _ _ _ fun _ _ => lcW2_mono ha ht he hQ _ _ _) (lcW2_mono ha ht he hQ _ _ _)) h.2⟩

section
variable {Φ : Fns} (hΦ : ∀ f, MonoFn (Φ f))
include hΦ
set_option maxHeartbeats 2000000
mutual
theorem wE_mono : ∀ (e : SE) (env : Ev) (st : Sto) (Q Q' : Kd), (∀ d s, Q d s → Q' d s) → wE Φ e env st Q → wE Φ e env st Q'
  | .var i, env, st, Q, Q', hQ, h => by
    simp only [wE] at h ⊢
    split at h
    · exact hQ _ _ h
    · exact h
  | .con d, env, st, Q, Q', hQ, h => hQ _ _ h
  | .bin o m a b, env, st, Q, Q', hQ, h => wE_mono a env st _ _ (fun _ s1 => wE_mono b env s1 _ _ fun _ _ => binD_mono hQ) h
  | .neg a, env, st, Q, Q', hQ, h => wE_mono a env st _ _ (fun x s1 q => by
      cases x <;> first | exact hQ _ _ q | exact q) h
  | .cmp o a b, env, st, Q, Q', hQ, h => wE_mono a env st _ _ (fun _ s1 => wE_mono b env s1 _ _ fun _ _ => cmpD_mono fun _ _ => hQ _ _) h
  | .chain o o' a b c, env, st, Q, Q', hQ, h => wE_mono a env st _ _ (fun _ s1 => wE_mono b env s1 _ _ fun _ _ => cmpD_mono fun _ s3 => ite_mono (wE_mono c env s3 _ _ fun _ _ => cmpD_mono fun _ _ => hQ _ _) (hQ _ _)) h
  | .land a b, env, st, Q, Q', hQ, h => wE_mono a env st _ _ (fun x s1 q => by
      cases x with
      | bl c => exact ite_mono (wE_mono b env s1 _ _ hQ) (hQ _ _) q
      | _ => exact q) h
  | .lor a b, env, st, Q, Q', hQ, h => wE_mono a env st _ _ (fun x s1 q => by
      cases x with
      | bl c => exact ite_mono (hQ _ _) (wE_mono b env s1 _ _ hQ) q
      | _ => exact q) h
  | .lnot a, env, st, Q, Q', hQ, h => wE_mono a env st _ _ (fun x s1 q => by
      cases x <;> first | exact hQ _ _ q | exact q) h
  | .ifx t a b, env, st, Q, Q', hQ, h => wT_mono t env st _ _ (fun _ s1 => ite_mono (wE_mono a env s1 _ _ hQ) (wE_mono b env s1 _ _ hQ)) h
  | .tup es, env, st, Q, Q', hQ, h => wEs_mono es env st _ _ (fun _ _ q => ⟨q.1, hQ _ _ q.2⟩) h
  | .lst m es, env, st, Q, Q', hQ, h => wEs_mono es env st _ _ (fun _ _ q => ⟨q.1, new_mono hQ q.2⟩) h
  | .idx a i, env, st, Q, Q', hQ, h => wE_mono a env st _ _ (fun _ s1 => wE_mono i env s1 _ _ fun _ _ => idxD_mono hQ) h
  | .slc m a lo hi, env, st, Q, Q', hQ, h => wE_mono a env st _ _ (fun _ s1 => wO_mono lo env s1 _ _ fun _ s2 => wO_mono hi env s2 _ _ fun _ _ => slcD_mono hQ) h
  | .rev m a, env, st, Q, Q', hQ, h => wE_mono a env st _ _ (fun _ _ => revD_mono hQ) h
  | .call f es, env, st, Q, Q', hQ, h => wEs_mono es env st _ _ (fun _ _ => hΦ f _ _ _ _ hQ) h
  | .blt b m es, env, st, Q, Q', hQ, h => wEs_mono es env st _ _ (fun _ _ => bltD_mono hQ) h
  | .mth b o es, env, st, Q, Q', hQ, h => wE_mono o env st _ _ (fun _ s1 q => ⟨q.1, wEs_mono es env s1 _ _ (fun _ _ => mthD_mono hQ) q.2⟩) h
  | .lc m elt tg it c own, env, st, Q, Q', hQ, h => wI_mono it env st _ _ (fun J s1 =>
      lcW_mono (fun x s K K' hK => wG_mono tg x _ s K K' hK) (fun e s K K' hK => wC_mono c e s K K' hK) (fun e s K K' hK => wE_mono elt e s K K' hK) (fun _ _ => new_mono hQ) _ _ _) h
  | .lc2 m elt tg it c tg1 it1 c1 own own1, env, st, Q, Q', hQ, h => wI_mono it env st _ _ (fun J s1 =>
      lcW2_mono (fun x s K K' hK => wG_mono tg x _ s K K' hK) (fun e s K K' hK => wC_mono c e s K K' hK)
        (fun e a s K K' hK => wI_mono it1 e s
          (fun J1 s' => lcW (fun x s K => wG Φ tg1 x (wipeE e own1) s K) (fun e s K => wC Φ c1 e s K) (fun e s K => wE Φ elt e s K) J1.keep K J1.items a s')
          (fun J1 s' => lcW (fun x s K => wG Φ tg1 x (wipeE e own1) s K) (fun e s K => wC Φ c1 e s K) (fun e s K => wE Φ elt e s K) J1.keep K' J1.items a s')
          fun J1 s' => lcW_mono (fun x s K K' hK => wG_mono tg1 x _ s K K' hK) (fun e s K K' hK => wC_mono c1 e s K K' hK) (fun e s K K' hK => wE_mono elt e s K K' hK) hK _ _ _)
        (fun _ _ => new_mono hQ) _ _ _) h
  | .fld o f, env, st, Q, Q', hQ, h => wE_mono o env st _ _ (fun x s1 q => by
      cases x with
      | ins _ fs => exact opt_mono (fun _ => hQ _ _) q
      | loc n =>
        simp only at q ⊢
        split at q
        · exact opt_mono (fun _ => hQ _ _) q
        · exact q
      | _ => exact q) h
theorem wEs_mono : ∀ (es : List SE) (env : Ev) (st : Sto) (Q Q' : List D → Sto → Prop), (∀ d s, Q d s → Q' d s) → wEs Φ es env st Q → wEs Φ es env st Q'
  | [], env, st, Q, Q', hQ, h => hQ _ _ h
  | e :: es, env, st, Q, Q', hQ, h => wE_mono e env st _ _ (fun _ s1 => wEs_mono es env s1 _ _ fun _ _ => hQ _ _) h
theorem wO_mono : ∀ (o : Option SE) (env : Ev) (st : Sto) (Q Q' : Option Int → Sto → Prop), (∀ d s, Q d s → Q' d s) → wO Φ o env st Q → wO Φ o env st Q'
  | none, env, st, Q, Q', hQ, h => hQ _ _ h
  | some e, env, st, Q, Q', hQ, h => wE_mono e env st _ _ (fun x s1 q => by
      cases x <;> first | exact hQ _ _ q | exact q) h
theorem wC_mono : ∀ (o : Option SB) (env : Ev) (st : Sto) (Q Q' : Bool → Sto → Prop), (∀ d s, Q d s → Q' d s) → wC Φ o env st Q → wC Φ o env st Q'
  | none, env, st, Q, Q', hQ, h => hQ _ _ h
  | some e, env, st, Q, Q', hQ, h => wT_mono e env st _ _ hQ h
theorem wT_mono : ∀ (e : SB) (env : Ev) (st : Sto) (Q Q' : Bool → Sto → Prop), (∀ d s, Q d s → Q' d s) → wT Φ e env st Q → wT Φ e env st Q'
  | .land a b, env, st, Q, Q', hQ, h => wT_mono a env st _ _ (fun _ s1 => ite_mono (wT_mono b env s1 _ _ hQ) (hQ _ _)) h
  | .lor a b, env, st, Q, Q', hQ, h => wT_mono a env st _ _ (fun _ s1 => ite_mono (hQ _ _) (wT_mono b env s1 _ _ hQ)) h
  | .lnot a, env, st, Q, Q', hQ, h => wT_mono a env st _ _ (fun _ _ => hQ _ _) h
  | .cmp o a b, env, st, Q, Q', hQ, h => wE_mono a env st _ _ (fun _ s1 => wE_mono b env s1 _ _ fun _ _ => cmpD_mono hQ) h
  | .chain o o' a b c, env, st, Q, Q', hQ, h => wE_mono a env st _ _ (fun _ s1 => wE_mono b env s1 _ _ fun _ _ => cmpD_mono fun _ s3 => ite_mono (wE_mono c env s3 _ _ fun _ _ => cmpD_mono hQ) (hQ _ _)) h
  | .val e, env, st, Q, Q', hQ, h => wE_mono e env st _ _ (fun _ _ => truD_mono hQ) h
theorem wI_mono : ∀ (i : SI) (env : Ev) (st : Sto) (Q Q' : Its → Sto → Prop), (∀ d s, Q d s → Q' d s) → wI Φ i env st Q → wI Φ i env st Q'
  | .seq e, env, st, Q, Q', hQ, h => wE_mono e env st _ _ (fun _ _ => opt_mono fun _ => hQ _ _) h
  | .rng1 a, env, st, Q, Q', hQ, h => wE_mono a env st _ _ (fun x s1 q => by
      cases x <;> first | exact ⟨q.1, q.2.1, hQ _ _ q.2.2⟩ | exact q) h
  | .rng2 a b, env, st, Q, Q', hQ, h => wE_mono a env st _ _ (fun x s1 => wE_mono b env s1 _ _ fun y s2 q => by
      split at q
      · exact ⟨q.1, hQ _ _ q.2⟩
      · exact q) h
  | .rng3 a b c, env, st, Q, Q', hQ, h => wE_mono a env st _ _ (fun x s1 => wE_mono b env s1 _ _ fun y s2 => wE_mono c env s2 _ _ fun z s3 q => by
      split at q
      · obtain ⟨n, q1, q2⟩ := q
        exact ⟨n, q1, hQ _ _ q2⟩
      · exact q) h
  | .enum e, env, st, Q, Q', hQ, h => wE_mono e env st _ _ (fun _ _ => opt_mono fun _ => hQ _ _) h
theorem wG_mono : ∀ (t : ST) (d : D) (env : Ev) (st : Sto) (Q Q' : Ev → Sto → Prop), (∀ d s, Q d s → Q' d s) → wG Φ t d env st Q → wG Φ t d env st Q'
  | .nm i, d, env, st, Q, Q', hQ, h => hQ _ _ h
  | .tup ts, d, env, st, Q, Q', hQ, h => by
    cases d with
    | tup xs =>
      simp only [wG] at h ⊢
      exact ⟨h.1, wGs_mono ts xs env st _ _ hQ h.2⟩
    | _ => simp only [wG] at h
  | .sub o i, d, env, st, Q, Q', hQ, h => wE_mono o env st _ _ (fun _ s1 => wE_mono i env s1 _ _ fun _ _ => setD_mono fun _ => hQ _ _) h
theorem wGs_mono : ∀ (t : List ST) (d : List D) (env : Ev) (st : Sto) (Q Q' : Ev → Sto → Prop), (∀ d s, Q d s → Q' d s) → wGs Φ t d env st Q → wGs Φ t d env st Q'
  | [], d, env, st, Q, Q', hQ, h => ⟨h.1, hQ _ _ h.2⟩
  | t :: ts, d, env, st, Q, Q', hQ, h => by
    cases d with
    | nil => simp only [wGs] at h
    | cons x r =>
      simp only [wGs] at h ⊢
      exact wG_mono t x env st _ _ (fun e1 s1 => wGs_mono ts r e1 s1 _ _ hQ) h
end

structure EndsD.Le (X Y : EndsD) : Prop where
  nx : ∀ e s, X.nx e s → Y.nx e s
  rt : ∀ d s, X.rt d s → Y.rt d s
  bk : ∀ e s, X.bk e s → Y.bk e s
  ct : ∀ e s, X.ct e s → Y.ct e s
omit hΦ in
theorem forW_mono {asg : D → Ev → Sto → (Ev → Sto → Prop) → Prop} {body : EndsD → Ev → Sto → Prop} {keep : Sto → Prop}
    (ha : ∀ x e s K K', (∀ e s, K e s → K' e s) → asg x e s K → asg x e s K') (hb : ∀ X Y e s, EndsD.Le X Y → body X e s → body Y e s) {X Y : EndsD} (hX : EndsD.Le X Y) :
    ∀ (xs : List D) (env : Ev) (st : Sto), forW asg body keep X xs env st → forW asg body keep Y xs env st
  | [], _, _, h => ⟨h.1, hX.nx _ _ h.2⟩
  | x :: xs, _, _, h => ⟨h.1, ha _ _ _ _ _ (fun _ _ => hb { X with nx := forW asg body keep X xs, ct := forW asg body keep X xs, bk := X.nx } { Y with nx := forW asg body keep Y xs, ct := forW asg body keep Y xs, bk := Y.nx } _ _ ⟨forW_mono ha hb hX xs, hX.rt, hX.nx, forW_mono ha hb hX xs⟩) h.2⟩
omit hΦ in
theorem whileW_mono {c : Ev → Sto → (Bool → Sto → Prop) → Prop} {body : EndsD → Ev → Sto → Prop}
    (hc : ∀ e s K K', (∀ b s, K b s → K' b s) → c e s K → c e s K') (hb : ∀ X Y e s, EndsD.Le X Y → body X e s → body Y e s) {X Y : EndsD} (hX : EndsD.Le X Y) :
    ∀ (n : Nat) (env : Ev) (st : Sto), whileW c body X n env st → whileW c body Y n env st
  | 0, _, _, h => h
  | n + 1, _, _, h => hc _ _ _ _ (fun _ _ => ite_mono (hb { X with nx := whileW c body X n, ct := whileW c body X n, bk := X.nx } { Y with nx := whileW c body Y n, ct := whileW c body Y n, bk := Y.nx } _ _ ⟨whileW_mono hc hb hX n, hX.rt, hX.nx, whileW_mono hc hb hX n⟩) (hX.nx _ _)) h
mutual
theorem wS_mono : ∀ (s : SS) (X Y : EndsD) (env : Ev) (st : Sto), EndsD.Le X Y → wS Φ s X env st → wS Φ s Y env st
  | .set t e, X, Y, env, st, hX, h => wE_mono hΦ e env st _ _ (fun _ s1 => wG_mono hΦ t _ env s1 _ _ hX.nx) h
  | .par i j a b, X, Y, env, st, hX, h => wE_mono hΦ a env st _ _ (fun _ s1 => wE_mono hΦ b env s1 _ _ fun _ _ => hX.nx _ _) h
  | .aug i o e, X, Y, env, st, hX, h => by
    simp only [wS] at h ⊢
    split at h
    · exact wE_mono hΦ e env st _ _ (fun _ s1 => augD_mono fun _ _ => hX.nx _ _) h
    · exact h
  | .augS o i op e, X, Y, env, st, hX, h => wE_mono hΦ o env st _ _ (fun _ s1 => wE_mono hΦ i env s1 _ _ fun _ s2 => idxL_mono fun _ s3 => wE_mono hΦ e env s3 _ _ fun _ s4 => augD_mono fun _ s5 => setD_mono fun _ => hX.nx _ _) h
  | .expr e, X, Y, env, st, hX, h => wE_mono hΦ e env st _ _ (fun _ s1 => hX.nx _ _) h
  | .ret e, X, Y, env, st, hX, h => wE_mono hΦ e env st _ _ hX.rt h
  | .ite c a b, X, Y, env, st, hX, h => wT_mono hΦ c env st _ _ (fun _ s1 => ite_mono (wSs_mono a X Y env s1 hX) (wSs_mono b X Y env s1 hX)) h
  | .for_ t it b, X, Y, env, st, hX, h => wI_mono hΦ it env st _ _ (fun J s1 => forW_mono (fun x e s K K' hK => wG_mono hΦ t x e s K K' hK) (fun X Y e s hX => wSs_mono b X Y e s hX) hX _ _ _) h
  | .while_ c b, X, Y, env, st, hX, h => by
    obtain ⟨n, h⟩ := h
    exact ⟨n, whileW_mono (fun e s K K' hK => wT_mono hΦ c e s K K' hK) (fun X Y e s hX => wSs_mono b X Y e s hX) hX _ _ _ h⟩
  | .pass, X, Y, env, st, hX, h => hX.nx _ _ h
  | .brk, X, Y, env, st, hX, h => hX.bk _ _ h
  | .cont, X, Y, env, st, hX, h => hX.ct _ _ h
  | .never, X, Y, env, st, hX, h => h
theorem wSs_mono : ∀ (l : List SS) (X Y : EndsD) (env : Ev) (st : Sto), EndsD.Le X Y → wSs Φ l X env st → wSs Φ l Y env st
  | [], X, Y, env, st, hX, h => hX.nx _ _ h
  | s :: r, X, Y, env, st, hX, h => wS_mono s { X with nx := wSs Φ r X } { Y with nx := wSs Φ r Y } env st ⟨fun e s => wSs_mono r X Y e s hX, hX.rt, hX.bk, hX.ct⟩ h
end
end
end MI

set_option maxRecDepth 100000
/-! MI, part 4: the operators over the hand layer's rules. -/
namespace MI
open PySem PySem.Spec PyProof.Rows L2

def Post (K : PySem.W.Frag) (C : Nat → Addr) (H : Hp) (ι : Io) (Q : VK) : Kd := fun d st' => ∀ v H' ι', Ext H ι H' ι' → Sim K C H' ι' st' → Rep K C H' ι' d v → Q v H'
def PostB (K : PySem.W.Frag) (C : Nat → Addr) (H : Hp) (ι : Io) (Q : Bool → Hp → Prop) : Bool → Sto → Prop := fun b st' => ∀ H' ι', Ext H ι H' ι' → Sim K C H' ι' st' → Q b H'

section
variable {K : PySem.W.Frag} {C : Nat → Addr} {H H' : Hp} {ι ι' : Io} {st st' : Sto}

theorem Post.here {Q : VK} {d : D} {v : V} (p : Post K C H ι Q d st) (S : Sim K C H ι st) (r : Rep K C H ι d v) : Q v H := p v H ι (.refl _ _) S r
theorem PostB.here {Q : Bool → Hp → Prop} {b : Bool} (p : PostB K C H ι Q b st) (S : Sim K C H ι st) : Q b H := p H ι (.refl _ _) S
theorem rep_int {i : Int} : Rep K C H ι (.int i) (.int i) := by simp only [Rep]
theorem rep_bl {i : Bool} : Rep K C H ι (.bl i) (.bl i) := by simp only [Rep]
theorem rep_str {i : Str} : Rep K C H ι (.str i) (.str i) := by simp only [Rep]
theorem rep_non : Rep K C H ι .non .non := by simp only [Rep]
theorem opt_some {α : Type} {o : Option α} {k : α → Prop} (h : opt o k) : ∃ x, o = some x ∧ k x := by
  cases o with
  | none => exact h.elim
  | some x => exact ⟨x, rfl, h⟩

/-- a fresh list comes -/
theorem new_ok {m : Bool} {xs : List D} {vs : List V} {Q : VK} (S : Sim K C H ι st) (r : Reps K C H ι xs vs) (h : new m (.lst xs) st (Post K C H ι Q)) : ∀ p, H p = none → Q (.ref p) (upd H p (.lst vs)) := by
  intro p hp
  unfold new at h
  split at h
  · obtain ⟨e, S'⟩ := S.new (d := .lst xs) (o := .lst vs) hp (by simpa only [RepO] using r)
    exact h _ _ _ e S' (by simp only [Rep]; exact ⟨p, rfl, by rw [← S.len, List.getElem?_append_right (Nat.le_refl _)]; simp⟩)
  · obtain ⟨e, S'⟩ := S.imm (o := .lst vs) hp
    exact h _ _ _ e S' (by simp only [Rep]; exact ⟨p, vs, rfl, upd_same, S.fresh hp, r.mono e⟩)
theorem tup_new {xs : List D} {vs : List V} {Q : VK} (S : Sim K C H ι st) (r : Reps K C H ι xs vs) (h : Post K C H ι Q (.tup xs) st) : ∀ p, H p = none → Q (.ref p) (upd H p (.tup vs)) := by
  intro p hp
  obtain ⟨e, S'⟩ := S.imm (o := .tup vs) hp
  exact h _ _ _ e S' (by simp only [Rep]; exact ⟨p, vs, rfl, .inl ⟨.inl upd_same, S.fresh hp⟩, r.mono e⟩)
theorem asL_ok {d : D} {v : V} {xs : List D} (S : Sim K C H ι st) (r : Rep K C H ι d v) (h : asL st d = some xs) : ∃ a vs, v = .ref a ∧ H a = some (.lst vs) ∧ Reps K C H ι xs vs := by
  unfold asL at h
  split at h
  · cases h
    simp only [Rep] at r
    obtain ⟨a, vs, e, h1, _, h2⟩ := r
    exact ⟨a, vs, e, h1, h2⟩
  · rename_i n
    split at h
    · rename_i ys hn
      cases h
      simp only [Rep] at r
      obtain ⟨a, rfl, ha⟩ := r
      obtain ⟨o, h1, h2⟩ := S.at_ _ _ _ hn ha
      unfold RepO at h2
      split at h2
      · rename_i e; cases e; exact ⟨a, _, rfl, h1, h2⟩
      all_goals first | (rename_i e; cases e) | exact h2.elim
    · cases h
  · cases h
theorem asR_ok {d : D} {v : V} {xs : List D} (S : Sim K C H ι st) (r : Rep K C H ι d v) (h : asR st d = some xs) : ∃ a vs, v = .ref a ∧ SqL K H a vs ∧ Reps K C H ι xs vs := by
  unfold asR at h
  split at h
  · cases h
    simp only [Rep] at r
    obtain ⟨a, vs, e, h1, h2⟩ := r
    exact ⟨a, vs, e, h1.sq, h2⟩
  · obtain ⟨a, vs, e, h1, h2⟩ := asL_ok S r h
    exact ⟨a, vs, e, .of h1, h2⟩
theorem tup_ok {v : V} {xs : List D} (r : Rep K C H ι (.tup xs) v) : ∃ a vs, v = .ref a ∧ SqT K H a vs ∧ Reps K C H ι xs vs := by
  simp only [Rep] at r
  obtain ⟨a, vs, e, h1, h2⟩ := r
  exact ⟨a, vs, e, h1.sq, h2⟩
theorem asSeq_ok {d : D} {v : V} {xs : List D} (S : Sim K C H ι st) (r : Rep K C H ι d v) (h : asSeq st d = some xs) : ∃ a vs, v = .ref a ∧ (SqL K H a vs ∨ SqT K H a vs) ∧ Reps K C H ι xs vs := by
  unfold asSeq at h
  split at h
  · cases h
    obtain ⟨a, vs, e, h1, h2⟩ := tup_ok r
    exact ⟨a, vs, e, .inr h1, h2⟩
  · obtain ⟨a, vs, e, h1, h2⟩ := asR_ok S r h
    exact ⟨a, vs, e, .inl h1, h2⟩
theorem ints?_ok : ∀ {xs : List D} {ns : List Int}, ints? xs = some ns → xs = ns.map .int
  | [], ns, h => by simp [ints?] at h; subst h; rfl
  | x :: r, ns, h => by
    unfold ints? at h
    split at h
    · rename_i e; cases e
    · rename_i i r' e
      cases e
      cases q : ints? r with
      | none => rw [q] at h; cases h
      | some ms => rw [q] at h; cases h; rw [ints?_ok q]; rfl
    · cases h
theorem bls?_ok : ∀ {xs : List D} {ns : List Bool}, bls? xs = some ns → xs = ns.map .bl
  | [], ns, h => by simp [bls?] at h; subst h; rfl
  | x :: r, ns, h => by
    unfold bls? at h
    split at h
    · rename_i e; cases e
    · rename_i i r' e
      cases e
      cases q : bls? r with
      | none => rw [q] at h; cases h
      | some ms => rw [q] at h; cases h; rw [bls?_ok q]; rfl
    · cases h
theorem Reps.bls {vs : List V} : ∀ {ns : List Bool}, Reps K C H ι (ns.map D.bl) vs ↔ vs = ns.map V.bl
  | [] => by simp [Reps]
  | n :: ns => by
    simp only [List.map_cons, Reps.cons_iff, Rep]
    constructor
    · rintro ⟨v, r, rfl, rfl, h⟩
      rw [Reps.bls.mp h]
    · rintro rfl
      exact ⟨_, _, rfl, rfl, Reps.bls.mpr rfl⟩

/-! ### data as a whole -/
mutual
theorem toPy_ok : ∀ {d : D} {v : V} {p : PyData}, Rep K C H ι d v → toPy st d = some p → Dp K H v p
  | .non, v, p, r, h => by simp only [Rep] at r; simp only [toPy] at h; cases h; subst r; exact .non
  | .bl _, v, p, r, h => by simp only [Rep] at r; simp only [toPy] at h; cases h; subst r; exact .bl _
  | .int _, v, p, r, h => by simp only [Rep] at r; simp only [toPy] at h; cases h; subst r; exact .int _
  | .str _, v, p, r, h => by simp only [Rep] at r; simp only [toPy] at h; cases h; subst r; exact .str _
  | .tup xs, v, p, r, h => by
    obtain ⟨a, vs, rfl, h1, h2⟩ := tup_ok r
    simp only [toPy] at h
    cases q : toPys st xs with
    | none => rw [q] at h; cases h
    | some ps => rw [q] at h; cases h; exact .tup h1 (toPys_ok h2 q)
  | .lst xs, v, p, r, h => by
    simp only [Rep] at r
    obtain ⟨a, vs, rfl, h1, _, h2⟩ := r
    simp only [toPy] at h
    cases q : toPys st xs with
    | none => rw [q] at h; cases h
    | some ps => rw [q] at h; cases h; exact .lst (.of h1) (toPys_ok h2 q)
  | .ro xs, v, p, r, h => by
    simp only [Rep] at r
    obtain ⟨a, vs, rfl, h1, h2⟩ := r
    simp only [toPy] at h
    cases q : toPys st xs with
    | none => rw [q] at h; cases h
    | some ps => rw [q] at h; cases h; exact .lst h1.sq (toPys_ok h2 q)
  | .dK _, _, _, _, h => by simp [toPy] at h
  | .dT _, _, _, _, h => by simp [toPy] at h
  | .ins _ _, _, _, _, h => by simp [toPy] at h
  | .loc _, _, _, _, h => by simp [toPy] at h
  | .lck _, _, _, _, h => by simp [toPy] at h
theorem toPys_ok : ∀ {ds : List D} {vs : List V} {ps : List PyData}, Reps K C H ι ds vs → toPys st ds = some ps → DpAll K H vs ps
  | [], vs, ps, r, h => by simp only [Reps] at r; simp only [toPys] at h; cases h; subst r; exact .nil
  | d :: ds, vs, ps, r, h => by
    obtain ⟨v, rr, rfl, h1, h2⟩ := Reps.cons_iff.mp r
    simp only [toPys] at h
    split at h
    · rename_i x y e1 e2
      cases h
      exact .cons (toPy_ok h1 e1) (toPys_ok h2 e2)
    · cases h
end
theorem toPyL_ok {d : D} {v : V} {p : PyData} (S : Sim K C H ι st) (r : Rep K C H ι d v) (h : toPyL st d = some p) : Dp K H v p := by
  unfold toPyL at h
  split at h
  · rename_i n
    split at h
    · rename_i xs hn
      cases q : toPys st xs with
      | none => rw [q] at h; cases h
      | some ps =>
        rw [q] at h; cases h
        obtain ⟨a, vs, rfl, h1, h2⟩ := asL_ok S r (show asL st (.loc n) = some xs by simp only [asL, hn])
        exact .lst (.of h1) (toPys_ok h2 q)
    · cases h
  · exact toPy_ok r h

theorem flat_ok {d : D} {v : V} (r : Rep K C H ι d v) (h : flat d = true) : flatV v = true := by
  cases d <;> simp only [Rep] at r <;> first | (subst r; rfl) | cases h
theorem flats_ok : ∀ {ds : List D} {vs : List V}, Reps K C H ι ds vs → ds.all flat = true → vs.all flatV = true
  | [], vs, r, _ => by simp only [Reps] at r; subst r; rfl
  | d :: ds, vs, r, h => by
    obtain ⟨v, rr, rfl, h1, h2⟩ := Reps.cons_iff.mp r
    rw [List.all_cons, Bool.and_eq_true] at h ⊢
    exact ⟨flat_ok h1 h.1, flats_ok h2 h.2⟩
theorem eqF_ok {d e : D} {v u : V} (r : Rep K C H ι d v) (r' : Rep K C H ι e u) (h : flat d = true) (h' : flat e = true) : eqF d e = eqV v u := by
  cases d <;> simp only [Rep] at r <;> first | (subst r; cases e <;> simp only [Rep] at r' <;> first | (subst r'; rfl) | (cases h'; done)) | (cases h; done)
theorem Rep.non_eq {d : D} (r : Rep K C H ι d .non) : d = .non := by
  cases d <;> simp only [Rep] at r <;> first | rfl | (cases r; done) | (obtain ⟨_, _, e, _⟩ := r; cases e; done) | (obtain ⟨_, e, _⟩ := r; cases e; done) | (obtain ⟨_, _, _, e, _⟩ := r; cases e; done)
theorem anyF_ok {x : D} {v : V} (rx : Rep K C H ι x v) (fx : flat x = true) : ∀ {ds : List D} {vs : List V}, Reps K C H ι ds vs → ds.all flat = true → (ds.any fun z => eqF z x) = inV v vs
  | [], vs, r, _ => by simp only [Reps] at r; subst r; rfl
  | d :: ds, vs, r, h => by
    obtain ⟨u, rr, rfl, h1, h2⟩ := Reps.cons_iff.mp r
    rw [List.all_cons, Bool.and_eq_true] at h
    unfold inV
    rw [List.any_cons, List.any_cons, eqF_ok h1 rx h.1 fx, anyF_ok rx fx h2 h.2]
    rfl
end

/-! ### operators -/
def BOp.py : BOp → Operator
  | .add => .Add | .sub => .Sub | .mul => .Mult | .fdiv => .FloorDiv | .mod => .Mod | .pow => .Pow
def COp.py : COp → CmpOp
  | .eq => .Eq | .ne => .NotEq | .lt => .Lt | .le => .LtE | .gt => .Gt | .ge => .GtE | .isIn => .In | .notIn => .NotIn | .is_ => .Is | .isnt => .IsNot

section
variable {X : Cx} {C : Nat → Addr}
/-- two values in, by what they are -/
def rD2 (K : PySem.W.Frag) (C : Nat → Addr) (f : D → D → Sto → Kd → Prop) : R2 := fun x y H Q => ∃ ι st d e, Sim K C H ι st ∧ Rep K C H ι d x ∧ Rep K C H ι e y ∧ f d e st (Post K C H ι Q)
theorem OpR.imp {f : Value → Value → Sem Value} {r r' : R2} (h : OpR X f r) (i : ∀ x y H Q, r' x y H Q → r x y H Q) : OpR X f r' :=
  fun pins s σ H x y v u Q I rx ry q => h pins s σ H x y v u Q I rx ry (i _ _ _ _ q)
theorem cmulw {i j : Int} (h : CMulW i j) : CMulW i j := h

theorem bin_ok (m : Bool) (o : BOp) : OpR X (binaryOp o.py) (rD2 X.K C (binD m o)) := by
  intro pins s σ H x y v u Q I rx ry h
  obtain ⟨ι, st, d, e, S, rd, re, h⟩ := h
  unfold binD at h
  split at h
  · simp only [Rep] at rd re; subst rd re
    exact op_add pins s σ H _ _ v u Q I rx ry ⟨_, _, rfl, rfl, h.here S rep_int⟩
  · simp only [Rep] at rd re; subst rd re
    exact op_add_ib pins s σ H _ _ v u Q I rx ry ⟨_, _, rfl, rfl, h.here S rep_int⟩
  · simp only [Rep] at rd re; subst rd re
    exact op_add_str pins s σ H _ _ v u Q I rx ry ⟨_, _, rfl, rfl, h.1, h.2.here S rep_str⟩
  · obtain ⟨a, vs, rfl, h1, h2⟩ := tup_ok rd
    obtain ⟨b, ws, rfl, h3, h4⟩ := tup_ok re
    have hl := h2.length
    have hl' := h4.length
    refine op_catA pins s σ H _ _ v u Q I rx ry ⟨a, b, vs, ws, rfl, rfl, h1, h3, by omega, fun z => ?_, fun _ z => ?_, fun _ _ => tup_new S (h2.append h4) h.2⟩
    · subst z
      cases (show _ = [] from List.length_eq_zero_iff.mp hl)
      exact h.2.here S (by simpa using re)
    · subst z
      cases (show _ = [] from List.length_eq_zero_iff.mp hl')
      exact h.2.here S (by simpa using rd)
  · obtain ⟨xs, e1, h⟩ := opt_some h
    obtain ⟨ys, e2, hz, h⟩ := opt_some h
    obtain ⟨a, vs, rfl, h1, h2⟩ := asL_ok S rd e1
    obtain ⟨b, ws, rfl, h3, h4⟩ := asL_ok S re e2
    have hl := h2.length
    have hl' := h4.length
    exact op_cat pins s σ H _ _ v u Q I rx ry ⟨a, b, vs, ws, rfl, rfl, h1, h3, by omega, new_ok S (h2.append h4) h⟩
  · simp only [Rep] at rd re; subst rd re
    exact op_sub pins s σ H _ _ v u Q I rx ry ⟨_, _, rfl, rfl, h.here S rep_int⟩
  · simp only [Rep] at rd re; subst rd re
    exact op_mulW pins s σ H _ _ v u Q I rx ry ⟨_, _, rfl, rfl, h.1, h.2.here S rep_int⟩
  · obtain ⟨xs, e1, h0, h00, hz, h⟩ := opt_some h
    obtain ⟨a, vs, rfl, h1, h2⟩ := asL_ok S rd e1
    simp only [Rep] at re; subst re
    have hl := h2.length
    exact op_rep pins s σ H _ _ v u Q I rx ry ⟨a, _, vs, rfl, rfl, h1, h0, h00, by rw [← hl]; exact hz, new_ok S (h2.replicate _) h⟩
  · simp only [Rep] at rd re; subst rd re
    exact op_fdivW pins s σ H _ _ v u Q I rx ry ⟨_, _, rfl, rfl, h.1, h.2.here S rep_int⟩
  · simp only [Rep] at rd re; subst rd re
    exact op_mod pins s σ H _ _ v u Q I rx ry ⟨_, _, rfl, rfl, h.1, h.2.here S rep_int⟩
  · simp only [Rep] at rd re; subst rd re
    exact op_pow pins s σ H _ _ v u Q I rx ry ⟨_, _, rfl, rfl, h.1, h.2.here S rep_int⟩
  · exact h.elim
theorem aug_ok (o : BOp) : OpR X (inplaceOp o.py) (rD2 X.K C (augD o)) := by
  intro pins s σ H x y v u Q I rx ry h
  obtain ⟨ι, st, d, e, S, rd, re, h⟩ := h
  unfold augD at h
  split at h
  · simp only [Rep] at rd re; subst rd re
    exact iop_add pins s σ H _ _ v u Q I rx ry ⟨_, _, rfl, rfl, h.here S rep_int⟩
  · simp only [Rep] at rd re; subst rd re
    exact iop_sub pins s σ H _ _ v u Q I rx ry ⟨_, _, rfl, rfl, h.here S rep_int⟩
  · simp only [Rep] at rd re; subst rd re
    exact iop_fdiv pins s σ H _ _ v u Q I rx ry ⟨_, _, rfl, rfl, h.1, h.2.here S rep_int⟩
  · exact h.elim
def rDB (K : PySem.W.Frag) (C : Nat → Addr) (f : D → D → Sto → (Bool → Sto → Prop) → Prop) : R2 := fun x y H Q => ∃ ι st d e, Sim K C H ι st ∧ Rep K C H ι d x ∧ Rep K C H ι e y ∧ f d e st (PostB K C H ι fun b H' => Q (.bl b) H')
theorem cmp_ok (hu : X.A.units + 64 < cLine) (o : COp) : OpR X (compareOp o.py) (rDB X.K C (cmpD o)) := by
  intro pins s σ H x y v u Q I rx ry h
  obtain ⟨ι, st, d, e, S, rd, re, h⟩ := h
  unfold cmpD at h
  split at h
  · split at h
    · simp only [Rep] at rd re; subst rd re
      exact op_eq pins s σ H _ _ v u Q I rx ry ⟨rfl, by rw [dec_int]; exact h.here S⟩
    · simp only [Rep] at rd re; subst rd re
      exact op_eq pins s σ H _ _ v u Q I rx ry ⟨rfl, by rw [dec_str]; exact h.here S⟩
    · obtain ⟨p, e1, h⟩ := opt_some h
      obtain ⟨q, e2, h1, h2, h⟩ := opt_some h
      exact op_eqD hu pins s σ H _ _ v u Q I rx ry ⟨p, q, toPyL_ok S rd e1, toPyL_ok S re e2, h1, h2, h.here S⟩
  · split at h
    · simp only [Rep] at rd re; subst rd re
      exact op_ne pins s σ H _ _ v u Q I rx ry ⟨rfl, by rw [dec_int]; exact h.here S⟩
    · simp only [Rep] at rd re; subst rd re
      exact op_ne pins s σ H _ _ v u Q I rx ry ⟨rfl, by rw [dec_str]; exact h.here S⟩
    · obtain ⟨p, e1, h⟩ := opt_some h
      obtain ⟨q, e2, h1, h2, h⟩ := opt_some h
      exact op_neD hu pins s σ H _ _ v u Q I rx ry ⟨p, q, toPyL_ok S rd e1, toPyL_ok S re e2, h1, h2, h.here S⟩
  · split at h
    · simp only [Rep] at rd re; subst rd re
      exact op_lt pins s σ H _ _ v u Q I rx ry ⟨_, _, rfl, rfl, h.here S⟩
    · exact h.elim
  · split at h
    · simp only [Rep] at rd re; subst rd re
      exact op_le pins s σ H _ _ v u Q I rx ry ⟨_, _, rfl, rfl, h.here S⟩
    · exact h.elim
  · split at h
    · simp only [Rep] at rd re; subst rd re
      exact op_gt pins s σ H _ _ v u Q I rx ry ⟨_, _, rfl, rfl, h.here S⟩
    · exact h.elim
  · split at h
    · simp only [Rep] at rd re; subst rd re
      exact op_ge pins s σ H _ _ v u Q I rx ry ⟨_, _, rfl, rfl, h.here S⟩
    · exact h.elim
  · obtain ⟨ys, e1, h1, h2, h⟩ := opt_some h
    obtain ⟨a, vs, rfl, hs, hr⟩ := asSeq_ok S re e1
    refine op_in_seq pins s σ H _ _ v u Q I rx ry ⟨a, vs, rfl, hs, flat_ok rd h1, flats_ok hr h2, ?_⟩
    rw [if_neg Bool.false_ne_true, ← anyF_ok rd h1 hr h2]
    exact h.here S
  · obtain ⟨ys, e1, h1, h2, h⟩ := opt_some h
    obtain ⟨a, vs, rfl, hs, hr⟩ := asSeq_ok S re e1
    refine op_notIn_seq pins s σ H _ _ v u Q I rx ry ⟨a, vs, rfl, hs, flat_ok rd h1, flats_ok hr h2, ?_⟩
    rw [if_pos rfl, ← anyF_ok rd h1 hr h2]
    exact h.here S
  · split at h
    · simp only [Rep] at rd re; subst rd re
      exact op_isN pins s σ H _ _ v u Q I rx ry ⟨rfl, by rw [decide_eq_true rfl]; exact h.here S⟩
    · rename_i hd
      simp only [Rep] at re; subst re
      refine op_isN pins s σ H _ _ v u Q I rx ry ⟨rfl, ?_⟩
      rw [decide_eq_false]
      · exact h.here S
      · rintro rfl
        exact hd rd.non_eq
    · simp only [Rep] at rd re; subst rd re
      exact op_isBl pins s σ H _ _ v u Q I rx ry ⟨_, _, rfl, rfl, by rw [← Bool.beq_eq_decide_eq]; exact h.here S⟩
    · exact h.elim
  · split at h
    · simp only [Rep] at rd re; subst rd re
      exact op_notN pins s σ H _ _ v u Q I rx ry ⟨rfl, by rw [decide_eq_true rfl]; exact h.here S⟩
    · rename_i hd
      simp only [Rep] at re; subst re
      refine op_notN pins s σ H _ _ v u Q I rx ry ⟨rfl, ?_⟩
      rw [decide_eq_false]
      · exact h.here S
      · rintro rfl
        exact hd rd.non_eq
    · simp only [Rep] at rd re; subst rd re
      exact op_notBl pins s σ H _ _ v u Q I rx ry ⟨_, _, rfl, rfl, by rw [← Bool.beq_eq_decide_eq]; exact h.here S⟩
    · exact h.elim
end
end MI

set_option maxRecDepth 100000
/-! MI, part 5: subscripts, slices, truth, built-ins, methods over the hand layer's rules. -/
namespace MI
open PySem PySem.Spec PyProof.Rows L2

/-! ### t[::-1] of a tuple -/
section
variable {prog : Program} {w : World} {A : Around} {E : Value → Shared → Prop} {s : Shared}
theorem adjust_rev (n : Nat) : Builtin.Slice.sliceAdjust none none (-1) (n : Int) = ((n : Int) - 1, -1) := by
  unfold Builtin.Slice.sliceAdjust
  simp
theorem places_rev (n : Nat) : Builtin.Slice.slicePlaces ((n : Int) - 1) (-1) (-1) = n := by
  unfold Builtin.Slice.slicePlaces
  have h1 : ¬ ((-1 : Int) > 0) := by omega
  have e : - (-1 : Int) = 1 := rfl
  simp only [h1, if_false, e, Int.ediv_one]
  split <;> omega
theorem sliceApplied_rev {sl : Addr} {vl vu vs : Value} {n : Nat} {Q : Int × Int × Nat → Shared → Prop} (hs : s.heap.IsSliceOf sl vl vu vs) (pl : IsPart vl none) (pu : IsPart vu none) (ps : IsPart vs (some (-1)))
    (h : Q (((n : Int) - 1), -1, n) s) : wpAny (model prog w) A (Builtin.Slice.sliceApplied (.ref sl) (pure (n : Int))) Q E s := by
  obtain ⟨os, hos, hcs, hds⟩ := id hs
  unfold Builtin.Slice.sliceApplied Builtin.Slice.sliceFields
  refine wpAny_bind (wpAny_bind (wpAny_field hos hds (x := vl) rfl (wpAny_bind (wpAny_field hos hds (x := vu) rfl (wpAny_bind (wpAny_field hos hds (x := vs) rfl (wpAny_pure ?_)))))))
  refine wpAny_bind (HT.slicePart_ ps ?_)
  show wpAny _ _ (if ((-1 : Int) == 0) = true then _ else _) _ _ s
  rw [if_neg (by decide)]
  refine wpAny_bind (HT.slicePart_ pl (wpAny_bind (HT.slicePart_ pu (wpAny_bind (wpAny_pure ?_)))))
  show wpAny _ _ (match Builtin.Slice.sliceAdjust none none (-1) (n : Int) with | (lo, hi) => pure (lo, (-1 : Int), Builtin.Slice.slicePlaces lo hi (-1))) _ _ s
  rw [adjust_rev n]
  show wpAny _ _ (pure ((n : Int) - 1, (-1 : Int), Builtin.Slice.slicePlaces ((n : Int) - 1) (-1) (-1))) _ _ s
  rw [places_rev]
  exact wpAny_pure h
theorem filterMap_rev (xs : List Value) : ∀ k : Nat, k ≤ xs.length → ((List.range k).filterMap fun (m : Nat) => xs[xs.length - 1 - m]?) = (xs.reverse).take k
  | 0, _ => rfl
  | k + 1, h => by
    rw [List.range_succ, List.filterMap_append, filterMap_rev xs k (by omega), List.take_add_one]
    congr 1
    rw [List.getElem?_reverse (by omega)]
    rw [List.getElem?_eq_getElem (by omega)]
    simp only [List.filterMap_cons, List.filterMap_nil, Option.toList]
    rw [List.getElem?_eq_getElem (by omega)]
theorem pick_rev (xs : Array Value) : ((List.range xs.size).filterMap fun (m : Nat) => xs[(((xs.size : Nat) : Int) - 1 + (m : Int) * (-1)).toNat]?).toArray = xs.toList.reverse.toArray := by
  congr 1
  have e := filterMap_rev xs.toList xs.size (by simp)
  rw [List.take_of_length_le (by simp)] at e
  rw [← e]
  have he : ∀ (l : List Nat), (∀ m ∈ l, m < xs.size) → (l.filterMap fun (m : Nat) => xs[(((xs.size : Nat) : Int) - 1 + (m : Int) * (-1)).toNat]?) = l.filterMap fun (m : Nat) => xs.toList[xs.toList.length - 1 - m]? := by
    intro l
    induction l with
    | nil => intro _; rfl
    | cons a l ih =>
      intro h
      have ha := h a List.mem_cons_self
      have e1 : (((xs.size : Nat) : Int) - 1 + (a : Int) * (-1)).toNat = xs.toList.length - 1 - a := by
        rw [Array.length_toList]; omega
      rw [List.filterMap_cons, List.filterMap_cons, ih fun m hm => h m (List.mem_cons_of_mem _ hm), e1, Array.getElem?_toList]
  exact he _ fun m hm => List.mem_range.mp hm
theorem getItem_tuple_rev {t sl : Addr} {items : Array Value} {vl vu vs : Value} {Q : Value → Shared → Prop} (ht : IsTup s.heap t items) (hs : s.heap.IsSliceOf sl vl vu vs) (pl : IsPart vl none) (pu : IsPart vu none) (ps : IsPart vs (some (-1)))
    (h : Q (.ref s.heap.objs.size) { s with heap := s.heap.push { cls := .type "tuple", data := .seq items.toList.reverse.toArray } })
    (hsz : items.size ≤ sizeLine) : wpAny (model prog w) A (getItem (.ref t) (.ref sl)) Q E s := by
  have htake : sizeOk (.seq items.toList.reverse.toArray) := by
    show items.toList.reverse.toArray.size ≤ sizeLine
    rw [List.size_toArray, List.length_reverse, Array.length_toList]
    exact hsz
  obtain ⟨os, hos, hcs, hds⟩ := id hs
  have hTs : s.TypeIs (.ref sl) "slice" := ⟨os, hos, hcs⟩
  unfold getItem
  try with_reducible refine wpAny_holding ?_
  first | refine wpAny_bind (wpAny_pure ?_) | skip
  refine wpAny_bind (wpAny_sequenceKey ht.typeIs (by decide) ?_)
  refine wpAny_bind (wpAny_callSpecial?_slot (name := Str.ofString "__getitem__") ht.typeIs PyProof.Rows.slot_tuple_getitem
    (wpAny_call_entry PyProof.Rows.slot_tuple_getitem ht.typeIs entry_tuple_getitem ?_ (args_tuple_getitem _ _)))
  show wpAny _ _ (Builtin.Tuple.tupleItemsOf (.ref t) >>= _) _ _ s
  refine wpAny_bind (tupleItemsOf_ ht ?_)
  refine wpAny_bind (wpAny_typeOf hTs ?_)
  rw [if_pos (by decide)]
  refine wpAny_bind (sliceApplied_rev hs pl pu ps ?_)
  have hno : ¬ (((((items.size : Nat) : Int) - 1) == 0 && (-1 : Int) == 1 && items.size == items.size) = true) := by
    intro q
    rw [Bool.and_eq_true, Bool.and_eq_true] at q
    exact absurd q.1.2 (by decide)
  show wpAny _ _ (if ((((items.size : Nat) : Int) - 1) == 0 && (-1 : Int) == 1 && items.size == items.size) = true then _ else _) _ _ s
  rw [if_neg hno, pick_rev]
  first
    | exact wpAny_bind (m := Builtin.Tuple.tupleExact _) (wpAny_newObj_type (wpAny_pure ⟨_, rfl, wpAny_pure h⟩) htake)
    | exact wpAny_bind (m := Builtin.Tuple.tupleExact _) (wpAny_newObj_type (wpAny_bind (wpAny_pure (wpAny_pure ⟨_, rfl, wpAny_pure h⟩))) htake)
    | exact wpAny_bind (wpAny_bind (m := Builtin.Tuple.tupleExact _) (wpAny_newObj_type (wpAny_pure (wpAny_pure ⟨_, rfl, wpAny_pure h⟩)) htake))
    | exact wpAny_bind (wpAny_bind (m := Builtin.Tuple.tupleExact _) (wpAny_newObj_type (wpAny_pure ⟨_, rfl, wpAny_pure h⟩) htake))
end

section
variable {X : Cx} {C : Nat → Addr}
/-! ### a[::-1] -/
def tRevA (K : PySem.W.Frag) (te : TE) : TE := fun σ H Q => te σ H fun x H1 => ∃ a xs, x = .ref a ∧ ((SqL K H1 a xs ∧ ∀ p, H1 p = none → Q (.ref p) (upd H1 p (.lst xs.reverse))) ∨ (SqT K H1 a xs ∧ ∀ p, H1 p = none → Q (.ref p) (upd H1 p (.tup xs.reverse))))
theorem pe_revA {e : Expr} {te : TE} {k : Nat} {p1 p2 p3 pos : Pos} (he : PE X e te) : PE X (.Subscript e (.Slice none none (some (.UnaryOp .USub (.Constant (.int 1) k p1) p2)) p3) pos) (tRevA X.K te) := by
  refine ⟨fun pins s σ H Q I h => ?_⟩
  refine Subscript_ (thn (he.run pins s σ H _ I h) fun v s1 ⟨x, H1, I1, r1, q1⟩ => ?_)
  obtain ⟨a, xs, ex, hx⟩ := q1
  subst ex
  cases r1
  have hst : PO X (some (.UnaryOp .USub (.Constant (.int 1) k p1) p2)) (tPart (tUn (rU fun i => .int (-i)) (tC (.int 1)))) := po_some (pe_un un_neg pe_int)
  refine wpAny_Slice (thn (po_none.run pins s1 σ H1 (fun o H2 => o = none ∧ H2 = H1) I1 ⟨rfl, rfl⟩) fun vl s2 ⟨l, H2, I2, pl, el, e2⟩ => ?_)
  subst el e2
  refine thn (po_none.run pins s2 σ H2 (fun o H3 => o = none ∧ H3 = H2) I2 ⟨rfl, rfl⟩) fun vu s3 ⟨u, H3, I3, pu, eu, e3⟩ => ?_
  subst eu e3
  refine thn (hst.run pins s3 σ H3 (fun o H4 => o = some (-1) ∧ H4 = H3) I3 ⟨1, rfl, -1, rfl, rfl, rfl⟩) fun vs s4 ⟨o, H4, I4, ps, eo, e4⟩ => ?_
  subst eo e4
  have I5 : Inv X pins σ H4 { s4 with heap := s4.heap.push { cls := .type "slice", data := .fields #[vl, vu, vs] } } := I4.kept (t' := s4.toks) fun b ob q => Heap.get?_push_of_some _ q
  show wpAny (model X.prog X.w) X.A (subscriptTail e (.Slice none none (some (.UnaryOp .USub (.Constant (.int 1) k p1) p2)) p3) (.ref a) (.ref s4.heap.objs.size)) (EP X pins σ Q) X.xe { s4 with heap := s4.heap.push { cls := .type "slice", data := .fields #[vl, vu, vs] } }
  rcases hx with ⟨hx, q⟩ | ⟨hx, q⟩
  · obtain ⟨its, r, ht, hz⟩ := I5.list hx
    have hlen := r.length
    refine tail_any (ops := [.ref a, .ref s4.heap.objs.size]) ht.isList.typeIs (PySem.slot_list_getitem.lookup) ?_ (by with_unfolding_all rfl)
    refine wpAny_getItem_list_slice ht.isList (Heap.IsSliceOf.new _ vl vu vs) pl pu ps (by decide) ?_ (by rw [List.size_toArray]; omega)
    rw [PySem.W.krv_pick]
    refine ⟨.ref _, _, I5.laid (t' := s4.toks) (o := .lst xs.reverse) (fun b ob q => Heap.get?_push_of_some _ q) (Nat.le_refl _) ?_, rfl, q _ (I5.hok.fresh (Nat.le_refl _))⟩
    exact ⟨by rw [List.length_reverse]; exact hz, _, 0, r.reverse, Heap.get?_push_size _ rfl⟩
  · obtain ⟨its, r, ht, hz⟩ := I5.tuple hx
    have hlen := r.length
    refine tail_any (ops := [.ref a, .ref s4.heap.objs.size]) ht.typeIs (PyProof.Rows.slot_tuple_getitem.lookup) ?_ (by with_unfolding_all rfl)
    refine getItem_tuple_rev ht (Heap.IsSliceOf.new _ vl vu vs) pl pu ps ?_ (by rw [List.size_toArray]; omega)
    refine ⟨.ref _, _, I5.laid (t' := s4.toks) (o := .tup xs.reverse) (fun b ob q => Heap.get?_push_of_some _ q) (Nat.le_refl _) ?_, rfl, q _ (I5.hok.fresh (Nat.le_refl _))⟩
    exact ⟨by rw [List.length_reverse]; exact hz, _, r.reverse, IsTup.new _ _⟩

/-! ### subscripts, slices -/
theorem atI_rep {K : PySem.W.Frag} {H : Hp} {ι : Io} {xs : List D} {vs : List V} {i : Int} {d : D} (r : Reps K C H ι xs vs) (h : atI xs i = some d) : ∃ v, atI vs i = some v ∧ Rep K C H ι d v := by
  unfold atI at h ⊢
  rw [← r.length]
  cases q : ixN xs.length i with
  | none => rw [q] at h; cases h
  | some j =>
    rw [q] at h
    exact r.get (i := j) h
theorem idx_ok : IxR X (rD2 X.K C idxD) := by
  intro value slice pins s σ H x y v u Q I rx ry h hs
  obtain ⟨ι, st, d, e, S, rd, re, h⟩ := h
  unfold idxD at h
  split at h
  · simp only [Rep] at rd re; subst rd re
    obtain ⟨c, e1, h2⟩ := opt_some h.2
    exact ix_str value slice pins s σ H _ _ v u Q I rx ry ⟨_, _, c, rfl, rfl, h.1, e1, h2.here S rep_str⟩ hs
  · simp only [Rep] at re; subst re
    obtain ⟨xs, e1, h⟩ := opt_some h
    obtain ⟨d', e2, h⟩ := opt_some h
    obtain ⟨a, vs, rfl, hq, hr⟩ := asSeq_ok S rd e1
    obtain ⟨w, e3, rw'⟩ := atI_rep hr e2
    rcases hq with hq | hq
    · exact ix_list value slice pins s σ H _ _ v u Q I rx ry ⟨a, vs, _, w, rfl, rfl, hq, e3, h.here S rw'⟩ hs
    · exact ix_tup value slice pins s σ H _ _ v u Q I rx ry ⟨a, vs, _, w, rfl, rfl, hq, e3, h.here S rw'⟩ hs
  · exact h.elim
theorem cut_rep {K : PySem.W.Frag} {H : Hp} {ι : Io} {xs : List D} {vs : List V} (lo hi : Option Int) (r : Reps K C H ι xs vs) : Reps K C H ι (cutD xs lo hi) (cutV vs lo hi) := by
  unfold cutD cutV
  rw [r.length]
  exact (r.drop _).take _
def rSlD (K : PySem.W.Frag) (C : Nat → Addr) (m : Bool) : V → Option Int → Option Int → Hp → VK → Prop := fun x lo hi H Q => ∃ ι st d, Sim K C H ι st ∧ Rep K C H ι d x ∧ slcD m d lo hi st (Post K C H ι Q)
theorem slc_ok (m : Bool) : SlR X (rSlD X.K C m) := by
  intro pins s σ H x v vl vu lo hi sl Q I rx hs pl pu h
  obtain ⟨ι, st, d, S, rd, h⟩ := h
  unfold slcD at h
  split at h
  · obtain ⟨a, vs, rfl, h1, h2⟩ := tup_ok rd
    refine sl_tupA pins s σ H _ v vl vu lo hi sl Q I rx hs pl pu ⟨a, vs, rfl, h1, fun z => ?_, fun _ => tup_new S (cut_rep lo hi h2) h⟩
    rename_i xs
    have e : cutD xs lo hi = xs := by
      unfold cutD
      rw [h2.length, z.1, z.2, List.drop_zero, Nat.sub_zero, List.take_of_length_le (Nat.le_of_eq h2.length)]
    rw [e] at h
    exact h.here S rd
  · obtain ⟨xs, e1, h⟩ := opt_some h
    obtain ⟨a, vs, rfl, h1, h2⟩ := asR_ok S rd e1
    exact sl_list pins s σ H _ v vl vu lo hi sl Q I rx hs pl pu ⟨a, vs, rfl, h1, new_ok S (cut_rep lo hi h2) h⟩
/-- xs[i] = v -/
def rSetD (K : PySem.W.Frag) (C : Nat → Addr) : V → V → V → Hp → (Hp → Prop) → Prop := fun o i v H Q => ∃ ι st d e f, Sim K C H ι st ∧ Rep K C H ι d o ∧ Rep K C H ι e i ∧ Rep K C H ι f v ∧ setD d e f st fun st' => ∀ H' ι', Ext H ι H' ι' → Sim K C H' ι' st' → Q H'
theorem loc_lst {K : PySem.W.Frag} {H : Hp} {ι : Io} {st : Sto} {n : Nat} {v : V} {xs : List D} (S : Sim K C H ι st) (r : Rep K C H ι (.loc n) v) (h : st[n]? = some (.lst xs)) : ∃ a vs, v = .ref a ∧ ι.l[n]? = some a ∧ H a = some (.lst vs) ∧ Reps K C H ι xs vs := by
  simp only [Rep] at r
  obtain ⟨a, rfl, ha⟩ := r
  obtain ⟨o, h1, h2⟩ := S.at_ _ _ _ h ha
  unfold RepO at h2
  split at h2
  · rename_i e; cases e; exact ⟨a, _, rfl, ha, h1, h2⟩
  all_goals first | (rename_i e; cases e; done) | exact h2.elim
theorem ixN_lt {n : Nat} {i : Int} {j : Nat} (h : ixN n i = some j) : j < n := (ixN_seq h).2.1
theorem set_ok : PSet X (rSetD X.K C) := by
  intro pins s σ H o i v ov iv u Q I ro ri rv h
  obtain ⟨ι, st, d, e, f, S, rd, re, rf, h⟩ := h
  unfold setD at h
  split at h
  · simp only [Rep] at re; subst re
    split at h
    · rename_i n k _ xs hn
      obtain ⟨j, e1, h⟩ := opt_some h
      obtain ⟨a, vs, rfl, ha, h1, h2⟩ := loc_lst S rd hn
      refine set_list pins s σ H _ _ v ov iv u Q I ro ri rv ⟨a, vs, k, j, rfl, rfl, h1, by rw [← h2.length]; exact e1, ?_⟩
      obtain ⟨ex, S'⟩ := S.write (d := .lst (xs.set j f)) (o := .lst (vs.set j v)) ha (by simpa only [RepO] using Reps.set rf j h2)
      exact h _ _ ex S'
    · exact h.elim
  · exact h.elim
/-! ### truth -/
theorem tru_okD : TruR X (fun x H Q => ∃ ι st d, Sim X.K C H ι st ∧ Rep X.K C H ι d x ∧ truD d st (PostB X.K C H ι Q)) := by
  intro pins s σ H x v Q I rx h
  obtain ⟨ι, st, d, S, rd, h⟩ := h
  unfold truD at h
  split at h
  · simp only [Rep] at rd; subst rd
    exact tru_ok pins s σ H _ v Q I rx ⟨false, rfl, h.here S⟩
  · simp only [Rep] at rd; subst rd
    exact tru_ok pins s σ H _ v Q I rx ⟨_, rfl, h.here S⟩
  · simp only [Rep] at rd; subst rd
    exact tru_ok pins s σ H _ v Q I rx ⟨_, rfl, h.here S⟩
  · simp only [Rep] at rd; subst rd
    exact tru_ok pins s σ H _ v Q I rx ⟨_, ⟨h.1, rfl⟩, h.2.here S⟩
  · obtain ⟨xs, e1, h⟩ := opt_some h
    obtain ⟨a, vs, rfl, hq, hr⟩ := asSeq_ok S rd e1
    have e : (!xs.isEmpty) = !vs.isEmpty := by
      have := hr.length
      cases xs <;> cases vs <;> first | rfl | (simp at this)
    rcases hq with hq | hq
    · exact tru_ok pins s σ H _ v Q I rx ⟨_, .inl ⟨vs, hq, e⟩, h.here S⟩
    · exact tru_ok pins s σ H _ v Q I rx ⟨_, .inr (.inl ⟨vs, hq, e⟩), h.here S⟩
/-! ### built-ins -/
def rBl (K : PySem.W.Frag) (C : Nat → Addr) (b : Blt) (m : Bool) : List V → Hp → VK → Prop := fun vs H Q => ∃ ι st ds, Sim K C H ι st ∧ Reps K C H ι ds vs ∧ bltD b m ds st (Post K C H ι Q)
theorem reps1 {K : PySem.W.Frag} {H : Hp} {ι : Io} {d : D} {vs : List V} (r : Reps K C H ι [d] vs) : ∃ v, vs = [v] ∧ Rep K C H ι d v := by
  obtain ⟨v, r', rfl, h1, h2⟩ := Reps.cons_iff.mp r
  rw [Reps.nil_iff] at h2; subst h2
  exact ⟨v, rfl, h1⟩
theorem reps2 {K : PySem.W.Frag} {H : Hp} {ι : Io} {d e : D} {vs : List V} (r : Reps K C H ι [d, e] vs) : ∃ v u, vs = [v, u] ∧ Rep K C H ι d v ∧ Rep K C H ι e u := by
  obtain ⟨v, r', rfl, h1, h2⟩ := Reps.cons_iff.mp r
  obtain ⟨u, rfl, h3⟩ := reps1 h2
  exact ⟨v, u, rfl, h1, h3⟩
theorem len_ok (m : Bool) : CallR X (.builtin "len") (rBl X.K C .len m) := by
  intro pins s σ H xs us Q I r h
  obtain ⟨ι, st, ds, S, rs, h⟩ := h
  unfold bltD at h
  split at h
  case h_1 d hb =>
    obtain ⟨v, rfl, rd⟩ := reps1 rs
    obtain ⟨n, e1, h⟩ := opt_some h
    unfold lenD at e1
    split at e1
    · simp only [Rep] at rd; subst rd
      split at e1
      · cases e1
        exact call_len_str pins s σ H _ us Q I r ⟨_, rfl, by assumption, h.here S rep_int⟩
      · cases e1
    · cases e : asSeq st d with
      | none => rw [e] at e1; cases e1
      | some ys =>
        rw [e] at e1; cases e1
        obtain ⟨a, vs, rfl, hq, hr⟩ := asSeq_ok S rd e
        exact call_len_seq pins s σ H _ us Q I r ⟨a, vs, rfl, hq, by rw [← hr.length]; exact h.here S rep_int⟩
  all_goals first | exact h.elim | (rename_i z; cases z; done) | (rename_i z _; cases z; done)
theorem int_ok (m : Bool) : CallR X (.type "int") (rBl X.K C .int m) := by
  intro pins s σ H xs us Q I r h
  obtain ⟨ι, st, ds, S, rs, h⟩ := h
  unfold bltD at h
  split at h
  case h_2 d hb =>
    obtain ⟨v, rfl, rd⟩ := reps1 rs
    simp only [Rep] at rd; subst rd
    exact call_int1 pins s σ H _ us Q I r (.inl ⟨_, rfl, h.here S rep_int⟩)
  case h_3 d hb =>
    obtain ⟨v, rfl, rd⟩ := reps1 rs
    simp only [Rep] at rd; subst rd
    exact call_int1 pins s σ H _ us Q I r (.inr ⟨_, rfl, h.here S rep_int⟩)
  all_goals first | exact h.elim | (rename_i z; cases z; done) | (rename_i z _; cases z; done)
theorem list_ok (m : Bool) : CallR X (.type "list") (rBl X.K C .list m) := by
  intro pins s σ H xs us Q I r h
  obtain ⟨ι, st, ds, S, rs, h⟩ := h
  unfold bltD at h
  split at h
  case h_4 d hb =>
    obtain ⟨v, rfl, rd⟩ := reps1 rs
    obtain ⟨ys, e1, h⟩ := opt_some h
    obtain ⟨a, vs, rfl, hq, hr⟩ := asSeq_ok S rd e1
    exact call_list_of pins s σ H _ us Q I r ⟨a, vs, rfl, hq, new_ok S hr h⟩
  all_goals first | exact h.elim | (rename_i z; cases z; done) | (rename_i z _; cases z; done)
theorem tuple_ok (m : Bool) : CallR X (.type "tuple") (rBl X.K C .tuple m) := by
  intro pins s σ H xs us Q I r h
  obtain ⟨ι, st, ds, S, rs, h⟩ := h
  unfold bltD at h
  split at h
  case h_5 d hb =>
    obtain ⟨v, rfl, rd⟩ := reps1 rs
    obtain ⟨ys, e1, h⟩ := opt_some h
    unfold asSeq at e1
    split at e1
    · cases e1
      obtain ⟨a, vs, rfl, h1, h2⟩ := tup_ok rd
      exact call_tuple_of pins s σ H _ us Q I r ⟨a, vs, rfl, .inr ⟨h1, h.here S rd⟩⟩
    · obtain ⟨a, vs, rfl, h1, h2⟩ := asR_ok S rd e1
      exact call_tuple_of pins s σ H _ us Q I r ⟨a, vs, rfl, .inl ⟨h1, tup_new S h2 h⟩⟩
  all_goals first | exact h.elim | (rename_i z; cases z; done) | (rename_i z _; cases z; done)
theorem sum_ok (hc : X.calm = true) (m : Bool) : CallR X (.builtin "sum") (rBl X.K C .sum m) := by
  intro pins s σ H xs us Q I r h
  obtain ⟨ι, st, ds, S, rs, h⟩ := h
  unfold bltD at h
  split at h
  case h_6 d hb =>
    obtain ⟨v, rfl, rd⟩ := reps1 rs
    obtain ⟨ys, e1, h⟩ := opt_some h
    obtain ⟨ns, e2, h⟩ := opt_some h
    obtain ⟨a, vs, rfl, hq, hr⟩ := asR_ok S rd e1
    rw [ints?_ok e2, Reps.ints] at hr
    subst hr
    exact cr_sum hc pins s σ H _ us Q I r ⟨a, ns, rfl, hq, h.here S rep_int⟩
  all_goals first | exact h.elim | (rename_i z; cases z; done) | (rename_i z _; cases z; done)
theorem max2_ok (hc : X.calm = true) (m : Bool) : CallR X (.builtin "max") (rBl X.K C .max2 m) := by
  intro pins s σ H xs us Q I r h
  obtain ⟨ι, st, ds, S, rs, h⟩ := h
  unfold bltD at h
  split at h
  case h_7 d hb =>
    obtain ⟨v, u, rfl, rd, re⟩ := reps2 rs
    simp only [Rep] at rd re; subst rd re
    exact call_max2 hc pins s σ H _ us Q I r ⟨_, _, rfl, h.here S rep_int⟩
  all_goals first | exact h.elim | (rename_i z; cases z; done) | (rename_i z _; cases z; done)
theorem min2_ok (hc : X.calm = true) (m : Bool) : CallR X (.builtin "min") (rBl X.K C .min2 m) := by
  intro pins s σ H xs us Q I r h
  obtain ⟨ι, st, ds, S, rs, h⟩ := h
  unfold bltD at h
  split at h
  case h_8 d hb =>
    obtain ⟨v, u, rfl, rd, re⟩ := reps2 rs
    simp only [Rep] at rd re; subst rd re
    exact call_min2 hc pins s σ H _ us Q I r ⟨_, _, rfl, h.here S rep_int⟩
  all_goals first | exact h.elim | (rename_i z; cases z; done) | (rename_i z _; cases z; done)
theorem any_ok (hc : X.calm = true) (m : Bool) : CallR X (.builtin "any") (rBl X.K C .any m) := by
  intro pins s σ H xs us Q I r h
  obtain ⟨ι, st, ds, S, rs, h⟩ := h
  unfold bltD at h
  split at h
  case h_9 d hb =>
    obtain ⟨v, rfl, rd⟩ := reps1 rs
    obtain ⟨ys, e1, h⟩ := opt_some h
    obtain ⟨ns, e2, h⟩ := opt_some h
    obtain ⟨a, vs, rfl, hq, hr⟩ := asR_ok S rd e1
    rw [bls?_ok e2, Reps.bls] at hr
    subst hr
    exact cr_any hc pins s σ H _ us Q I r ⟨a, ns, rfl, hq, h.here S rep_bl⟩
  all_goals first | exact h.elim | (rename_i z; cases z; done) | (rename_i z _; cases z; done)
theorem all_ok (hc : X.calm = true) (m : Bool) : CallR X (.builtin "all") (rBl X.K C .all m) := by
  intro pins s σ H xs us Q I r h
  obtain ⟨ι, st, ds, S, rs, h⟩ := h
  unfold bltD at h
  split at h
  case h_10 d hb =>
    obtain ⟨v, rfl, rd⟩ := reps1 rs
    obtain ⟨ys, e1, h⟩ := opt_some h
    obtain ⟨ns, e2, h⟩ := opt_some h
    obtain ⟨a, vs, rfl, hq, hr⟩ := asR_ok S rd e1
    rw [bls?_ok e2, Reps.bls] at hr
    subst hr
    exact cr_all hc pins s σ H _ us Q I r ⟨a, ns, rfl, hq, h.here S rep_bl⟩
  all_goals first | exact h.elim | (rename_i z; cases z; done) | (rename_i z _; cases z; done)
/-! ### methods of lists -/
def rMt (K : PySem.W.Frag) (C : Nat → Addr) (b : Mth) : V → List V → Hp → VK → Prop := fun x vs H Q => ∃ ι st o ds, Sim K C H ι st ∧ Rep K C H ι o x ∧ Reps K C H ι ds vs ∧ mthD b o ds st (Post K C H ι Q)
theorem append_ok : MtR X "list.append" (rMt X.K C .append) := by
  intro pins s σ H x xs v us Q I rx rxs h
  obtain ⟨ι, st, o, ds, S, ro, rs, h⟩ := h
  unfold mthD at h
  split at h
  case h_1 n d hb =>
    split at h
    · rename_i ys hn
      obtain ⟨w, rfl, rd⟩ := reps1 rs
      obtain ⟨a, vs, rfl, ha, h1, h2⟩ := loc_lst S ro hn
      have hl := h2.length
      obtain ⟨ex, S'⟩ := S.write (d := .lst (ys ++ [d])) (o := .lst (vs ++ [w])) ha (by simpa only [RepO] using Reps.append h2 (Reps.one rd))
      exact mt_append pins s σ H _ _ v us Q I rx rxs ⟨a, vs, w, rfl, rfl, h1, by omega, h.2 _ _ _ ex S' rep_non⟩
    · exact h.elim
  all_goals first | exact h.elim | (rename_i z; cases z; done) | (rename_i z _; cases z; done)
theorem pop0_ok : MtR X "list.pop" (rMt X.K C .pop0) := by
  intro pins s σ H x xs v us Q I rx rxs h
  obtain ⟨ι, st, o, ds, S, ro, rs, h⟩ := h
  unfold mthD at h
  split at h
  case h_2 n hb =>
    split at h
    · rename_i ys hn
      rw [Reps.nil_iff] at rs; subst rs
      obtain ⟨y, e1, h⟩ := opt_some h
      obtain ⟨a, vs, rfl, ha, h1, h2⟩ := loc_lst S ro hn
      obtain ⟨w, e2, rw'⟩ := h2.get e1
      rw [h2.length] at e2
      obtain ⟨ex, S'⟩ := S.write (d := .lst ys.dropLast) (o := .lst vs.dropLast) ha (by simpa only [RepO] using h2.dropLast)
      exact mt_pop pins s σ H _ _ v us Q I rx rxs ⟨a, vs, w, rfl, rfl, h1, e2, h _ _ _ ex S' (rw'.mono ex)⟩
    · exact h.elim
  all_goals first | exact h.elim | (rename_i z; cases z; done) | (rename_i z _; cases z; done)
theorem pop1_ok : MtR X "list.pop" (rMt X.K C .pop1) := by
  intro pins s σ H x xs v us Q I rx rxs h
  obtain ⟨ι, st, o, ds, S, ro, rs, h⟩ := h
  unfold mthD at h
  split at h
  case h_3 n i hb =>
    split at h
    · rename_i ys hn
      obtain ⟨u, rfl, ru⟩ := reps1 rs
      simp only [Rep] at ru; subst ru
      obtain ⟨b1, b2, h⟩ := h
      obtain ⟨k, e0, h⟩ := opt_some h
      obtain ⟨y, e1, h⟩ := opt_some h
      obtain ⟨a, vs, rfl, ha, h1, h2⟩ := loc_lst S ro hn
      obtain ⟨w, e2, rw'⟩ := h2.get e1
      obtain ⟨ex, S'⟩ := S.write (d := .lst (ys.eraseIdx k)) (o := .lst (vs.eraseIdx k)) ha (by simpa only [RepO] using h2.eraseIdx k)
      exact mt_popAt pins s σ H _ _ v us Q I rx rxs ⟨a, vs, i, k, w, rfl, rfl, h1, b1, b2, by rw [← h2.length]; exact e0, e2, h _ _ _ ex S' (rw'.mono ex)⟩
    · exact h.elim
  all_goals first | exact h.elim | (rename_i z; cases z; done) | (rename_i z _; cases z; done)
theorem extend_ok : MtR X "list.extend" (rMt X.K C .extend) := by
  intro pins s σ H x xs v us Q I rx rxs h
  obtain ⟨ι, st, o, ds, S, ro, rs, h⟩ := h
  unfold mthD at h
  split at h
  case h_4 n d hb =>
    split at h
    · rename_i ys hn
      obtain ⟨u, rfl, ru⟩ := reps1 rs
      obtain ⟨hne, h⟩ := h
      obtain ⟨zs, e1, hz, h⟩ := opt_some h
      obtain ⟨a, vs, rfl, ha, h1, h2⟩ := loc_lst S ro hn
      obtain ⟨b, ws, rfl, h3, h4⟩ := asL_ok S ru e1
      have hl := h2.length
      have hl' := h4.length
      obtain ⟨ex, S'⟩ := S.write (d := .lst (ys ++ zs)) (o := .lst (vs ++ ws)) ha (by simpa only [RepO] using h2.append h4)
      exact mt_extend pins s σ H _ _ v us Q I rx rxs ⟨a, b, vs, ws, rfl, rfl, h1, h3, by omega, h _ _ _ ex S' rep_non⟩
    · exact h.elim
  all_goals first | exact h.elim | (rename_i z; cases z; done) | (rename_i z _; cases z; done)
end
end MI

set_option maxRecDepth 100000
/-! MI, part 6: the readings of the language's pieces, and the hand layer's rules restated for them. -/
namespace MI
open PySem PySem.Spec PyProof.Rows L2

section
variable (K : PySem.W.Frag) (C : Nat → Addr)
structure EnvR (H : Hp) (ι : Io) (σ : L2.St) (env : Ev) : Prop where
  len : env.length = σ.length
  get : ∀ (i : Nat) (d : D), env[i]? = some (some d) → ∃ v, σ[i]? = some (some v) ∧ Rep K C H ι d v
def tE (m : Ev → Sto → Kd → Prop) : TE := fun σ H Q => ∃ ι env st, Sim K C H ι st ∧ EnvR K C H ι σ env ∧ m env st (Post K C H ι Q)
def tB (m : Ev → Sto → (Bool → Sto → Prop) → Prop) : TT := fun σ H Q => ∃ ι env st, Sim K C H ι st ∧ EnvR K C H ι σ env ∧ m env st (PostB K C H ι Q)
def PostL (H : Hp) (ι : Io) (Q : List V → Hp → Prop) : List D → Sto → Prop := fun ds st' => ∀ vs H' ι', Ext H ι H' ι' → Sim K C H' ι' st' → Reps K C H' ι' ds vs → Q vs H'
def tAr (m : Ev → Sto → (List D → Sto → Prop) → Prop) : TA := fun σ H Q => ∃ ι env st, Sim K C H ι st ∧ EnvR K C H ι σ env ∧ m env st (PostL K C H ι Q)
def PostO (H : Hp) (ι : Io) (Q : Option Int → Hp → Prop) : Option Int → Sto → Prop := fun o st' => ∀ H' ι', Ext H ι H' ι' → Sim K C H' ι' st' → Q o H'
def tOp' (m : Ev → Sto → (Option Int → Sto → Prop) → Prop) : TO := fun σ H Q => ∃ ι env st, Sim K C H ι st ∧ EnvR K C H ι σ env ∧ m env st (PostO K C H ι Q)
/-- what a loop walks, and how it is told -/
def ItsR (H1 : Hp) (ι1 : Io) (J : Its) (T : It) : Prop := ∀ (i : Nat) (H : Hp) (ι : Io) (st : Sto), Kp H1 ι1 H ι → Sim K C H ι st → J.keep st →
  (i < J.items.length → T.go i H ∧ ∀ x H', T.yld i H x H' → ∃ d, J.items[i]? = some d ∧ Ext H ι H' ι ∧ Sim K C H' ι st ∧ Rep K C H' ι d x) ∧ (J.items.length ≤ i → T.stop i H)
def tIt (m : Ev → Sto → (Its → Sto → Prop) → Prop) : TI := fun σ H R => ∃ ι env st, Sim K C H ι st ∧ EnvR K C H ι σ env ∧
  m env st fun J s1 => ∀ T H1 ι1, Ext H ι H1 ι1 → Sim K C H1 ι1 s1 → ItsR K C H1 ι1 J T → R T H1
def Outside (vs : List Nat) (σ σ' : L2.St) : Prop := σ'.length = σ.length ∧ ∀ j : Nat, j ∉ vs → σ'[j]? = σ[j]?
def tG (vs : List Nat) (m : D → Ev → Sto → (Ev → Sto → Prop) → Prop) : TG := fun v σ H Q => ∃ ι env st d, Sim K C H ι st ∧ EnvR K C H ι σ env ∧ Rep K C H ι d v ∧
  m d env st fun env' st' => ∀ σ' H' ι', Ext H ι H' ι' → Sim K C H' ι' st' → EnvR K C H' ι' σ' env' → Outside vs σ σ' → Q σ' H'
def tGs (vs : List Nat) (m : List D → Ev → Sto → (Ev → Sto → Prop) → Prop) : TGs := fun v σ H Q => ∃ ι env st d, Sim K C H ι st ∧ EnvR K C H ι σ env ∧ Reps K C H ι d v ∧
  m d env st fun env' st' => ∀ σ' H' ι', Ext H ι H' ι' → Sim K C H' ι' st' → EnvR K C H' ι' σ' env' → Outside vs σ σ' → Q σ' H'
end
def MonoE (m : Ev → Sto → Kd → Prop) : Prop := ∀ env st (Q Q' : Kd), (∀ d s, Q d s → Q' d s) → m env st Q → m env st Q'
def MonoB (m : Ev → Sto → (Bool → Sto → Prop) → Prop) : Prop := ∀ env st Q Q', (∀ d s, Q d s → Q' d s) → m env st Q → m env st Q'
def MonoL (m : Ev → Sto → (List D → Sto → Prop) → Prop) : Prop := ∀ env st Q Q', (∀ d s, Q d s → Q' d s) → m env st Q → m env st Q'
def MonoO (m : Ev → Sto → (Option Int → Sto → Prop) → Prop) : Prop := ∀ env st Q Q', (∀ d s, Q d s → Q' d s) → m env st Q → m env st Q'
def MonoI (m : Ev → Sto → (Its → Sto → Prop) → Prop) : Prop := ∀ env st Q Q', (∀ d s, Q d s → Q' d s) → m env st Q → m env st Q'
def MonoG (m : D → Ev → Sto → (Ev → Sto → Prop) → Prop) : Prop := ∀ d env st Q Q', (∀ e s, Q e s → Q' e s) → m d env st Q → m d env st Q'
def MonoGs (m : List D → Ev → Sto → (Ev → Sto → Prop) → Prop) : Prop := ∀ d env st Q Q', (∀ e s, Q e s → Q' e s) → m d env st Q → m d env st Q'

section
variable {K : PySem.W.Frag} {C : Nat → Addr} {H H' : Hp} {ι ι' : Io} {st st' : Sto} {σ : L2.St} {env : Ev}
theorem EnvR.kp (E : EnvR K C H ι σ env) (e : Kp H ι H' ι') : EnvR K C H' ι' σ env := ⟨E.len, fun i d h => let ⟨v, h1, h2⟩ := E.get i d h; ⟨v, h1, h2.kp e⟩⟩
theorem EnvR.mono (E : EnvR K C H ι σ env) (e : Ext H ι H' ι') : EnvR K C H' ι' σ env := E.kp e.toKp
theorem EnvR.set (E : EnvR K C H ι σ env) {d : D} {v : V} (r : Rep K C H ι d v) (i : Nat) : EnvR K C H ι (σ.set i (some v)) (env.set i (some d)) := by
  refine ⟨by simp [E.len], fun j e h => ?_⟩
  by_cases hj : i = j
  · subst hj
    have hl : i < env.length := by
      have := (List.getElem?_eq_some_iff.mp h).1
      simpa using this
    rw [List.getElem?_set_self hl] at h
    cases h
    exact ⟨v, by rw [List.getElem?_set_self (by rw [← E.len]; exact hl)], r⟩
  · rw [List.getElem?_set_ne hj] at h ⊢
    exact E.get j e h
theorem EnvR.wipe (E : EnvR K C H ι σ env) : ∀ vs : List Nat, EnvR K C H ι (L2.wipe σ vs) (wipeE env vs)
  | [] => E
  | v :: vs => by
    have E' := EnvR.wipe E vs
    unfold L2.wipe wipeE
    refine ⟨by simp [E'.len], fun j e h => ?_⟩
    by_cases hj : v = j
    · subst hj
      by_cases hl : v < (wipeE env vs).length
      · rw [List.getElem?_set_self hl] at h; cases h
      · rw [List.getElem?_eq_none (by simpa using hl)] at h; cases h
    · rw [List.getElem?_set_ne hj] at h ⊢
      exact E'.get j e h
theorem Outside.refl (vs : List Nat) (σ : L2.St) : Outside vs σ σ := ⟨rfl, fun _ _ => rfl⟩
theorem Outside.trans {vs : List Nat} {a b c : L2.St} (h : Outside vs a b) (h' : Outside vs b c) : Outside vs a c := ⟨h'.1.trans h.1, fun j hj => (h'.2 j hj).trans (h.2 j hj)⟩
theorem wipe_at {σ : L2.St} {j : Nat} : ∀ {vs : List Nat}, j ∈ vs → j < σ.length → (L2.wipe σ vs)[j]? = some none
  | v :: vs, h, hl => by
    unfold L2.wipe
    by_cases hj : v = j
    · subst hj
      rw [List.getElem?_set_self (by rw [wipe_length]; exact hl)]
    · rw [List.getElem?_set_ne hj]
      exact wipe_at ((List.mem_cons.mp h).resolve_left (fun e => hj e.symm)) hl
theorem Outside.wipe {vs ws : List Nat} {σ σ' : L2.St} (h : Outside vs σ σ') (hs : ∀ j ∈ vs, j ∈ ws) : L2.wipe σ' ws = L2.wipe σ ws := by
  apply List.ext_getElem?
  intro j
  by_cases hj : j ∈ ws
  · by_cases hl : j < σ.length
    · rw [wipe_at hj hl, wipe_at hj (by rw [h.1]; exact hl)]
    · rw [List.getElem?_eq_none (by rw [wipe_length, h.1]; omega), List.getElem?_eq_none (by rw [wipe_length]; omega)]
  · rw [wipe_out hj, wipe_out hj]
    exact h.2 j fun z => hj (hs j z)
theorem wipe_wipe {σ : L2.St} (ws : List Nat) : L2.wipe (L2.wipe σ ws) ws = L2.wipe σ ws := by
  apply List.ext_getElem?
  intro j
  by_cases hj : j ∈ ws
  · by_cases hl : j < σ.length
    · rw [wipe_at hj (by rw [wipe_length]; exact hl), wipe_at hj hl]
    · rw [List.getElem?_eq_none (by rw [wipe_length, wipe_length]; omega), List.getElem?_eq_none (by rw [wipe_length]; omega)]
  · rw [wipe_out hj]

/-- one expression, then more -/
theorem tE.step {m : Ev → Sto → Kd → Prop} (mo : MonoE m) {F : Kd} {R : VK} (S : Sim K C H ι st) (E : EnvR K C H ι σ env) (h : m env st F)
    (k : ∀ d s1 x H1 ι1, F d s1 → Ext H ι H1 ι1 → Sim K C H1 ι1 s1 → EnvR K C H1 ι1 σ env → Rep K C H1 ι1 d x → R x H1) : tE K C m σ H R :=
  ⟨ι, env, st, S, E, mo _ _ _ _ (fun d s1 hF x H1 ι1 e S1 r => k d s1 x H1 ι1 hF e S1 (E.mono e) r) h⟩
theorem tB.step {m : Ev → Sto → (Bool → Sto → Prop) → Prop} (mo : MonoB m) {F : Bool → Sto → Prop} {R : Bool → Hp → Prop} (S : Sim K C H ι st) (E : EnvR K C H ι σ env) (h : m env st F)
    (k : ∀ d s1 H1 ι1, F d s1 → Ext H ι H1 ι1 → Sim K C H1 ι1 s1 → EnvR K C H1 ι1 σ env → R d H1) : tB K C m σ H R :=
  ⟨ι, env, st, S, E, mo _ _ _ _ (fun d s1 hF H1 ι1 e S1 => k d s1 H1 ι1 hF e S1 (E.mono e)) h⟩
theorem tAr.step {m : Ev → Sto → (List D → Sto → Prop) → Prop} (mo : MonoL m) {F : List D → Sto → Prop} {R : List V → Hp → Prop} (S : Sim K C H ι st) (E : EnvR K C H ι σ env) (h : m env st F)
    (k : ∀ d s1 x H1 ι1, F d s1 → Ext H ι H1 ι1 → Sim K C H1 ι1 s1 → EnvR K C H1 ι1 σ env → Reps K C H1 ι1 d x → R x H1) : tAr K C m σ H R :=
  ⟨ι, env, st, S, E, mo _ _ _ _ (fun d s1 hF x H1 ι1 e S1 r => k d s1 x H1 ι1 hF e S1 (E.mono e) r) h⟩
theorem tOp'.step {m : Ev → Sto → (Option Int → Sto → Prop) → Prop} (mo : MonoO m) {F : Option Int → Sto → Prop} {R : Option Int → Hp → Prop} (S : Sim K C H ι st) (E : EnvR K C H ι σ env) (h : m env st F)
    (k : ∀ d s1 H1 ι1, F d s1 → Ext H ι H1 ι1 → Sim K C H1 ι1 s1 → EnvR K C H1 ι1 σ env → R d H1) : tOp' K C m σ H R :=
  ⟨ι, env, st, S, E, mo _ _ _ _ (fun d s1 hF H1 ι1 e S1 => k d s1 H1 ι1 hF e S1 (E.mono e)) h⟩
theorem Post.ext {Q : VK} {d : D} {s : Sto} (h : Post K C H ι Q d s) (e : Ext H ι H' ι') : Post K C H' ι' Q d s := fun v H2 ι2 e2 => h v H2 ι2 (e.trans e2)
theorem PostB.ext {Q : Bool → Hp → Prop} {d : Bool} {s : Sto} (h : PostB K C H ι Q d s) (e : Ext H ι H' ι') : PostB K C H' ι' Q d s := fun H2 ι2 e2 => h H2 ι2 (e.trans e2)
theorem Post.bl {Q : VK} {b : Bool} {s : Sto} (h : Post K C H ι Q (.bl b) s) : PostB K C H ι (fun b H' => Q (.bl b) H') b s := fun H' ι' e S => h _ H' ι' e S rep_bl
end

theorem _root_.L2.PE.imp {X : Cx} {e : Expr} {t t' : TE} (h : PE X e t) (i : ∀ σ H Q, t' σ H Q → t σ H Q) : PE X e t' := ⟨fun pins s σ H Q I q => h.run pins s σ H Q I (i _ _ _ q)⟩
theorem _root_.L2.PT.imp {X : Cx} {e : Expr} {t t' : TT} (h : PT X e t) (i : ∀ σ H Q, t' σ H Q → t σ H Q) : PT X e t' := ⟨fun pins s σ H Q I q => h.run pins s σ H Q I (i _ _ _ q)⟩
theorem _root_.L2.PW.imp {X : Cx} {e : Expr} {t t' : TT} (h : PW X e t) (i : ∀ σ H Q, t' σ H Q → t σ H Q) : PW X e t' := ⟨fun wh pins s σ H Q I q => h.run wh pins s σ H Q I (i _ _ _ q)⟩
theorem _root_.L2.PA.imp {X : Cx} {e : List Expr} {t t' : TA} (h : PA X e t) (i : ∀ σ H Q, t' σ H Q → t σ H Q) : PA X e t' := ⟨fun pos pins s σ H Q I q => h.run pos pins s σ H Q I (i _ _ _ q)⟩
theorem _root_.L2.PO.imp {X : Cx} {e : Option Expr} {t t' : TO} (h : PO X e t) (i : ∀ σ H Q, t' σ H Q → t σ H Q) : PO X e t' := ⟨fun pins s σ H Q I q => h.run pins s σ H Q I (i _ _ _ q)⟩
theorem _root_.L2.PI.imp {X : Cx} {tg e : Expr} {t t' : TI} (h : PI X tg e t) (i : ∀ σ H Q, t' σ H Q → t σ H Q) : PI X tg e t' := ⟨fun pins s σ H Q I q => h.run pins s σ H Q I (i _ _ _ q)⟩
theorem _root_.L2.PG.imp {X : Cx} {e : Expr} {t t' : TG} (h : PG X e t) (i : ∀ v σ H Q, t' v σ H Q → t v σ H Q) : PG X e t' := ⟨fun pins s σ H v u Q I r q => h.run pins s σ H v u Q I r (i _ _ _ _ q)⟩
theorem _root_.L2.PGs.imp {X : Cx} {e : List Expr} {t t' : TGs} (h : PGs X e t) (i : ∀ v σ H Q, t' v σ H Q → t v σ H Q) : PGs X e t' := ⟨fun pins s σ H v u Q I r q => h.run pins s σ H v u Q I r (i _ _ _ _ q)⟩
theorem _root_.L2.PTs.imp {X : Cx} {e : List Expr} {t t' : TT} (h : PTs X e t) (i : ∀ σ H Q, t' σ H Q → t σ H Q) : PTs X e t' := ⟨fun pins s σ H Q I q => h.run pins s σ H Q I (i _ _ _ q)⟩
theorem _root_.L2.PS.imp {X : Cx} {e : Stmt} {t t' : TS} (h : PS X e t) (i : ∀ D σ H, t' D σ H → t D σ H) : PS X e t' := ⟨fun pins s σ H D I q => h.run pins s σ H D I (i _ _ _ q)⟩
theorem _root_.L2.PSs.imp {X : Cx} {e : List Stmt} {t t' : TS} (h : PSs X e t) (i : ∀ D σ H, t' D σ H → t D σ H) : PSs X e t' := ⟨fun pins s σ H D I q => h.run pins s σ H D I (i _ _ _ q)⟩

/-! ### expressions -/
section
variable {X : Cx} {C : Nat → Addr} {a b c : Expr} {pos : Pos} {ma mb mc : Ev → Sto → Kd → Prop}
theorem e_con {d : D} {v : V} (h : PE X a (tC v)) (r : ∀ H ι, Rep X.K C H ι d v) : PE X a (tE X.K C fun _ st Q => Q d st) :=
  h.imp fun σ H Q ⟨ι, env, st, S, E, q⟩ => q.here S (r H ι)
theorem e_bin {op : Operator} {f : D → D → Sto → Kd → Prop} (fm : ∀ x y s (Q Q' : Kd), (∀ d s, Q d s → Q' d s) → f x y s Q → f x y s Q') (ho : OpR X (binaryOp op) (rD2 X.K C f)) (ha : PE X a (tE X.K C ma)) (hb : PE X b (tE X.K C mb)) (oa : MonoE ma) (ob : MonoE mb) :
    PE X (.BinOp a op b pos) (tE X.K C fun env st Q => ma env st fun x s1 => mb env s1 fun y s2 => f x y s2 Q) :=
  (pe_op ho ha hb).imp fun σ H Q ⟨ι, env, st, S, E, q⟩ => tE.step oa S E q fun d s1 x H1 ι1 q e1 S1 E1 r1 => tE.step ob S1 E1 q fun d2 s2 y H2 ι2 q e2 S2 E2 r2 =>
    ⟨ι2, s2, d, d2, S2, r1.mono e2, r2, fm _ _ _ _ _ (fun _ _ h => h.ext (e1.trans e2)) q⟩
theorem e_neg (ha : PE X a (tE X.K C ma)) (oa : MonoE ma) : PE X (.UnaryOp .USub a pos) (tE X.K C fun env st Q => ma env st fun x s1 => (match x with
    | .int i => Q (.int (-i)) s1
    | _ => False)) :=
  (pe_un un_neg ha).imp fun σ H Q ⟨ι, env, st, S, E, q⟩ => tE.step oa S E q fun d s1 x H1 ι1 q e1 S1 E1 r1 => by
    cases d with
    | int i =>
      simp only [Rep] at r1
      exact ⟨i, r1, q _ H1 ι1 e1 S1 rep_int⟩
    | _ => exact q.elim
theorem e_cmp {op : CmpOp} {f : D → D → Sto → (Bool → Sto → Prop) → Prop} (fm : ∀ x y s Q Q', (∀ d s, Q d s → Q' d s) → f x y s Q → f x y s Q') (ho : OpR X (compareOp op) (rDB X.K C f)) (ha : PE X a (tE X.K C ma)) (hb : PE X b (tE X.K C mb)) (oa : MonoE ma) (ob : MonoE mb)
    (hm : behindInMarks op b = false) : PE X (.Compare a [op] [b] pos) (tE X.K C fun env st Q => ma env st fun x s1 => mb env s1 fun y s2 => f x y s2 fun k s3 => Q (.bl k) s3) :=
  (pe_cmpR ho ha hb hm).imp fun σ H Q ⟨ι, env, st, S, E, q⟩ => tE.step oa S E q fun d s1 x H1 ι1 q e1 S1 E1 r1 => tE.step ob S1 E1 q fun d2 s2 y H2 ι2 q e2 S2 E2 r2 =>
    ⟨ι2, s2, d, d2, S2, r1.mono e2, r2, fm _ _ _ _ _ (fun _ _ h => (h.ext (e1.trans e2)).bl) q⟩
theorem b_cmp {op : CmpOp} {f : D → D → Sto → (Bool → Sto → Prop) → Prop} (fm : ∀ x y s Q Q', (∀ d s, Q d s → Q' d s) → f x y s Q → f x y s Q') (ho : OpR X (compareOp op) (rDB X.K C f)) (ha : PE X a (tE X.K C ma)) (hb : PE X b (tE X.K C mb)) (oa : MonoE ma) (ob : MonoE mb)
    (hm : behindInMarks op b = false) : PT X (.Compare a [op] [b] pos) (MI.tB X.K C fun env st Q => ma env st fun x s1 => mb env s1 fun y s2 => f x y s2 Q) :=
  (pt_cmpR ho ha hb hm).imp fun σ H Q ⟨ι, env, st, S, E, q⟩ => tE.step oa S E q fun d s1 x H1 ι1 q e1 S1 E1 r1 => tE.step ob S1 E1 q fun d2 s2 y H2 ι2 q e2 S2 E2 r2 =>
    ⟨ι2, s2, d, d2, S2, r1.mono e2, r2, fm _ _ _ _ _ (fun k s3 h H3 ι3 e3 S3 => ⟨k, rfl, h H3 ι3 ((e1.trans e2).trans e3) S3⟩) q⟩
theorem e_chain {op op' : CmpOp} {f f' : D → D → Sto → (Bool → Sto → Prop) → Prop} (fm : ∀ x y s Q Q', (∀ d s, Q d s → Q' d s) → f x y s Q → f x y s Q') (fm' : ∀ x y s Q Q', (∀ d s, Q d s → Q' d s) → f' x y s Q → f' x y s Q')
    (ho : OpR X (compareOp op) (rDB X.K C f)) (ho' : OpR X (compareOp op') (rDB X.K C f')) (ha : PE X a (tE X.K C ma)) (hb : PE X b (tE X.K C mb)) (hc : PE X c (tE X.K C mc)) (oa : MonoE ma) (ob : MonoE mb) (oc : MonoE mc)
    (hm : lastMarks [op, op'] [b, c] = false) : PE X (.Compare a [op, op'] [b, c] pos) (tE X.K C fun env st Q => ma env st fun x s1 => mb env s1 fun y s2 => f x y s2 fun k s3 =>
      if k = true then mc env s3 fun z s4 => f' y z s4 fun k' s5 => Q (.bl k') s5 else Q (.bl false) s3) :=
  (pe_chain ho ho' ha hb hc hm).imp fun σ H Q ⟨ι, env, st, S, E, q⟩ => tE.step oa S E q fun d s1 x H1 ι1 q e1 S1 E1 r1 => tE.step ob S1 E1 q fun d2 s2 y H2 ι2 q e2 S2 E2 r2 =>
    ⟨ι2, s2, d, d2, S2, r1.mono e2, r2, fm _ _ _ _ _ (fun k s3 h H3 ι3 e3 S3 => ⟨k, rfl, by
      cases k with
      | true =>
        rw [if_pos rfl] at h ⊢
        exact tE.step oc S3 (E2.mono e3) h fun d3 s4 z H4 ι4 q e4 S4 E4 r4 => ⟨ι4, s4, d2, d3, S4, (r2.mono e3).mono e4, r4, fm' _ _ _ _ _ (fun _ _ h => (h.ext (((e1.trans e2).trans e3).trans e4)).bl) q⟩
      | false =>
        rw [if_neg Bool.false_ne_true] at h ⊢
        exact h _ _ _ ((e1.trans e2).trans e3) S3 rep_bl⟩) q⟩
theorem b_chain {op op' : CmpOp} {f f' : D → D → Sto → (Bool → Sto → Prop) → Prop} (fm : ∀ x y s Q Q', (∀ d s, Q d s → Q' d s) → f x y s Q → f x y s Q') (fm' : ∀ x y s Q Q', (∀ d s, Q d s → Q' d s) → f' x y s Q → f' x y s Q')
    (ho : OpR X (compareOp op) (rDB X.K C f)) (ho' : OpR X (compareOp op') (rDB X.K C f')) (ha : PE X a (tE X.K C ma)) (hb : PE X b (tE X.K C mb)) (hc : PE X c (tE X.K C mc)) (oa : MonoE ma) (ob : MonoE mb) (oc : MonoE mc)
    (hm : lastMarks [op, op'] [b, c] = false) : PT X (.Compare a [op, op'] [b, c] pos) (MI.tB X.K C fun env st Q => ma env st fun x s1 => mb env s1 fun y s2 => f x y s2 fun k s3 =>
      if k = true then mc env s3 fun z s4 => f' y z s4 Q else Q false s3) :=
  (pt_chain ho ho' ha hb hc hm).imp fun σ H Q ⟨ι, env, st, S, E, q⟩ => tE.step oa S E q fun d s1 x H1 ι1 q e1 S1 E1 r1 => tE.step ob S1 E1 q fun d2 s2 y H2 ι2 q e2 S2 E2 r2 =>
    ⟨ι2, s2, d, d2, S2, r1.mono e2, r2, fm _ _ _ _ _ (fun k s3 h H3 ι3 e3 S3 => ⟨k, rfl, by
      cases k with
      | true =>
        rw [if_pos rfl] at h ⊢
        exact tE.step oc S3 (E2.mono e3) h fun d3 s4 z H4 ι4 q e4 S4 E4 r4 => ⟨ι4, s4, d2, d3, S4, (r2.mono e3).mono e4, r4, fm' _ _ _ _ _ (fun k s h H5 ι5 e5 S5 => ⟨k, rfl, h H5 ι5 ((((e1.trans e2).trans e3).trans e4).trans e5) S5⟩) q⟩
      | false =>
        rw [if_neg Bool.false_ne_true] at h ⊢
        exact ⟨false, rfl, h H3 ι3 ((e1.trans e2).trans e3) S3⟩⟩) q⟩
theorem e_and {rest : List Expr} (ha : PE X a (tE X.K C ma)) (hb : PE X (.BoolOp .And (b :: rest) pos) (tE X.K C mb)) (oa : MonoE ma) (ob : MonoE mb) : PE X (.BoolOp .And (a :: b :: rest) pos) (tE X.K C fun env st Q => ma env st fun x s1 => (match x with
    | .bl c => if c = true then mb env s1 Q else Q (.bl false) s1
    | _ => False)) :=
  (pe_and ha hb).imp fun σ H Q ⟨ι, env, st, S, E, q⟩ => tE.step oa S E q fun d s1 x H1 ι1 q e1 S1 E1 r1 => by
    cases d with
    | bl c =>
      simp only [Rep] at r1
      refine ⟨c, r1, ?_⟩
      cases c with
      | true =>
        simp only [if_true] at q ⊢
        exact ⟨ι1, env, s1, S1, E1, ob _ _ _ _ (fun _ _ h => h.ext e1) q⟩
      | false =>
        simp only [Bool.false_eq_true, if_false] at q ⊢
        exact q _ _ _ e1 S1 rep_bl
    | _ => exact q.elim
theorem e_or {rest : List Expr} (ha : PE X a (tE X.K C ma)) (hb : PE X (.BoolOp .Or (b :: rest) pos) (tE X.K C mb)) (oa : MonoE ma) (ob : MonoE mb) : PE X (.BoolOp .Or (a :: b :: rest) pos) (tE X.K C fun env st Q => ma env st fun x s1 => (match x with
    | .bl c => if c = true then Q (.bl true) s1 else mb env s1 Q
    | _ => False)) :=
  (pe_or ha hb).imp fun σ H Q ⟨ι, env, st, S, E, q⟩ => tE.step oa S E q fun d s1 x H1 ι1 q e1 S1 E1 r1 => by
    cases d with
    | bl c =>
      simp only [Rep] at r1
      refine ⟨c, r1, ?_⟩
      cases c with
      | false =>
        simp only [Bool.false_eq_true, if_false] at q ⊢
        exact ⟨ι1, env, s1, S1, E1, ob _ _ _ _ (fun _ _ h => h.ext e1) q⟩
      | true =>
        simp only [if_true] at q ⊢
        exact q _ _ _ e1 S1 rep_bl
    | _ => exact q.elim
theorem e_not (ha : PE X a (tE X.K C ma)) (oa : MonoE ma) : PE X (.UnaryOp .Not a pos) (tE X.K C fun env st Q => ma env st fun x s1 => (match x with
    | .bl c => Q (.bl (!c)) s1
    | _ => False)) :=
  (pe_not ha).imp fun σ H Q ⟨ι, env, st, S, E, q⟩ => tE.step oa S E q fun d s1 x H1 ι1 q e1 S1 E1 r1 => by
    cases d with
    | bl c =>
      simp only [Rep] at r1
      exact ⟨c, r1, q _ _ _ e1 S1 rep_bl⟩
    | _ => exact q.elim
/-! tests -/
variable {na nb : Ev → Sto → (Bool → Sto → Prop) → Prop}
theorem b_and {rest : List Expr} (ha : PT X a (MI.tB X.K C na)) (hb : PW X (.BoolOp .And (b :: rest) pos) (MI.tB X.K C nb)) (oa : MonoB na) (ob : MonoB nb) : PW X (.BoolOp .And (a :: b :: rest) pos) (MI.tB X.K C fun env st Q => na env st fun c s1 => if c = true then nb env s1 Q else Q false s1) :=
  (pw_and ha hb).imp fun σ H Q ⟨ι, env, st, S, E, q⟩ => tB.step oa S E q fun c s1 H1 ι1 q e1 S1 E1 => by
    cases c with
    | true =>
      simp only [if_true] at q ⊢
      exact ⟨ι1, env, s1, S1, E1, ob _ _ _ _ (fun _ _ h => h.ext e1) q⟩
    | false =>
      simp only [Bool.false_eq_true, if_false] at q ⊢
      exact q _ _ e1 S1
theorem b_or {rest : List Expr} (ha : PT X a (MI.tB X.K C na)) (hb : PW X (.BoolOp .Or (b :: rest) pos) (MI.tB X.K C nb)) (oa : MonoB na) (ob : MonoB nb) : PW X (.BoolOp .Or (a :: b :: rest) pos) (MI.tB X.K C fun env st Q => na env st fun c s1 => if c = true then Q true s1 else nb env s1 Q) :=
  (pw_or ha hb).imp fun σ H Q ⟨ι, env, st, S, E, q⟩ => tB.step oa S E q fun c s1 H1 ι1 q e1 S1 E1 => by
    cases c with
    | false =>
      simp only [Bool.false_eq_true, if_false] at q ⊢
      exact ⟨ι1, env, s1, S1, E1, ob _ _ _ _ (fun _ _ h => h.ext e1) q⟩
    | true =>
      simp only [if_true] at q ⊢
      exact q _ _ e1 S1
theorem b_not (ha : PT X a (MI.tB X.K C na)) (oa : MonoB na) : PT X (.UnaryOp .Not a pos) (MI.tB X.K C fun env st Q => na env st fun c s1 => Q (!c) s1) :=
  (pt_not ha).imp fun σ H Q ⟨ι, env, st, S, E, q⟩ => tB.step oa S E q fun c s1 H1 ι1 q e1 S1 E1 => q _ _ e1 S1
theorem b_val (ha : PE X a (tE X.K C ma)) (oa : MonoE ma) (he : ∀ whole, isTrue a X.env whole = (do let v ← whole; standAt a.pos; holding [v] (truthy v))) : PT X a (MI.tB X.K C fun env st Q => ma env st fun x s1 => truD x s1 Q) := by
  refine ⟨fun pins s σ H Q I ⟨ι, env, st, S, E, q⟩ => isTrue_plain ?_ (he _)⟩
  refine thn (ha.run pins s σ H (fun x H1 => ∃ ι1 s1 d, Sim X.K C H1 ι1 s1 ∧ Rep X.K C H1 ι1 d x ∧ truD d s1 (PostB X.K C H1 ι1 Q)) I (tE.step oa S E q fun d s1 x H1 ι1 q e1 S1 E1 r1 => ⟨ι1, s1, d, S1, r1, truD_mono (fun _ _ h => h.ext e1) q⟩)) fun v s1 ⟨x, H1, I1, r1, q1⟩ => ?_
  exact tru_okD pins s1 σ H1 x v Q I1 r1 q1
theorem e_if (ht : PT X c (MI.tB X.K C na)) (ha : PE X a (tE X.K C ma)) (hb : PE X b (tE X.K C mb)) (ot : MonoB na) (oa : MonoE ma) (ob : MonoE mb) : PE X (.IfExp c a b pos) (tE X.K C fun env st Q => na env st fun c s1 => if c = true then ma env s1 Q else mb env s1 Q) :=
  (pe_ifExp ht ha hb).imp fun σ H Q ⟨ι, env, st, S, E, q⟩ => tB.step ot S E q fun c s1 H1 ι1 q e1 S1 E1 => by
    cases c with
    | true =>
      simp only [if_true] at q ⊢
      exact ⟨ι1, env, s1, S1, E1, oa _ _ _ _ (fun _ _ h => h.ext e1) q⟩
    | false =>
      simp only [Bool.false_eq_true, if_false] at q ⊢
      exact ⟨ι1, env, s1, S1, E1, ob _ _ _ _ (fun _ _ h => h.ext e1) q⟩
/-! argument lists, displays -/
variable {es : List Expr} {ml : Ev → Sto → (List D → Sto → Prop) → Prop}
theorem l_nil : PA X [] (tAr X.K C fun _ st Q => Q [] st) := pa_nil.imp fun σ H Q ⟨ι, env, st, S, E, q⟩ => q _ H ι (.refl _ _) S .nil
theorem l_cons (ha : PE X a (tE X.K C ma)) (hl : PA X es (tAr X.K C ml)) (oa : MonoE ma) (ol : MonoL ml) (hs : starEach (a :: es) X.env = (false, eval a X.env) :: starEach es X.env) : PA X (a :: es) (tAr X.K C fun env st Q => ma env st fun x s1 => ml env s1 fun xs s2 => Q (x :: xs) s2) :=
  (pa_cons ha hl hs).imp fun σ H Q ⟨ι, env, st, S, E, q⟩ => tE.step oa S E q fun d s1 x H1 ι1 q e1 S1 E1 r1 => tAr.step ol S1 E1 q fun ds s2 xs H2 ι2 q e2 S2 E2 r2 => q _ _ _ (e1.trans e2) S2 (.cons (r1.mono e2) r2)
theorem e_tup {k : Nat} (hl : PA X es (tAr X.K C ml)) (ol : MonoL ml) : PE X (.Tuple es k pos) (tE X.K C fun env st Q => ml env st fun xs s1 => xs.length ≤ sizeLine ∧ Q (.tup xs) s1) :=
  (pe_tup hl).imp fun σ H Q ⟨ι, env, st, S, E, q⟩ => tAr.step ol S E q fun ds s1 xs H1 ι1 q e1 S1 E1 r1 => ⟨by rw [← r1.length]; exact q.1, tup_new S1 r1 (q.2.ext e1)⟩
theorem e_lst {m : Bool} (hl : PA X es (tAr X.K C ml)) (ol : MonoL ml) : PE X (.List es pos) (tE X.K C fun env st Q => ml env st fun xs s1 => xs.length ≤ sizeLine ∧ new m (.lst xs) s1 Q) :=
  (pe_lst hl).imp fun σ H Q ⟨ι, env, st, S, E, q⟩ => tAr.step ol S E q fun ds s1 xs H1 ι1 q e1 S1 E1 r1 => ⟨by rw [← r1.length]; exact q.1, new_ok S1 r1 (new_mono (fun _ _ h => h.ext e1) q.2)⟩
theorem e_idx (ha : PE X a (tE X.K C ma)) (hb : PE X b (tE X.K C mb)) (oa : MonoE ma) (ob : MonoE mb) (hs : PlainIx b) : PE X (.Subscript a b pos) (tE X.K C fun env st Q => ma env st fun x s1 => mb env s1 fun y s2 => idxD x y s2 Q) :=
  (pe_ix idx_ok ha hb hs).imp fun σ H Q ⟨ι, env, st, S, E, q⟩ => tE.step oa S E q fun d s1 x H1 ι1 q e1 S1 E1 r1 => tE.step ob S1 E1 q fun d2 s2 y H2 ι2 q e2 S2 E2 r2 =>
    ⟨ι2, s2, d, d2, S2, r1.mono e2, r2, idxD_mono (fun _ _ h => h.ext (e1.trans e2)) q⟩
variable {lo hi : Option Expr} {mlo mhi : Ev → Sto → (Option Int → Sto → Prop) → Prop}
theorem o_none : PO X none (tOp' X.K C fun _ st Q => Q none st) := po_none.imp fun σ H Q ⟨ι, env, st, S, E, q⟩ => q H ι (.refl _ _) S
theorem o_some (ha : PE X a (tE X.K C ma)) (oa : MonoE ma) : PO X (some a) (tOp' X.K C fun env st Q => ma env st fun x s1 => (match x with
    | .int i => Q (some i) s1
    | _ => False)) :=
  (po_some ha).imp fun σ H Q ⟨ι, env, st, S, E, q⟩ => tE.step oa S E q fun d s1 x H1 ι1 q e1 S1 E1 r1 => by
    cases d with
    | int i =>
      simp only [Rep] at r1
      exact ⟨i, r1, q H1 ι1 e1 S1⟩
    | _ => exact q.elim
theorem e_slc {m : Bool} {p2 : Pos} (ha : PE X a (tE X.K C ma)) (hl : PO X lo (tOp' X.K C mlo)) (hh : PO X hi (tOp' X.K C mhi)) (oa : MonoE ma) (ol : MonoO mlo) (oh : MonoO mhi) :
    PE X (.Subscript a (.Slice lo hi none p2) pos) (tE X.K C fun env st Q => ma env st fun x s1 => mlo env s1 fun l s2 => mhi env s2 fun u s3 => slcD m x l u s3 Q) :=
  (pe_slice (slc_ok m) ha hl hh).imp fun σ H Q ⟨ι, env, st, S, E, q⟩ => tE.step oa S E q fun d s1 x H1 ι1 q e1 S1 E1 r1 => tOp'.step ol S1 E1 q fun l s2 H2 ι2 q e2 S2 E2 => tOp'.step oh S2 E2 q fun u s3 H3 ι3 q e3 S3 E3 =>
    ⟨ι3, s3, d, S3, (r1.mono e2).mono e3, slcD_mono (fun _ _ h => h.ext ((e1.trans e2).trans e3)) q⟩
theorem e_rev {m : Bool} {k : Nat} {p1 p2 p3 : Pos} (ha : PE X a (tE X.K C ma)) (oa : MonoE ma) : PE X (.Subscript a (.Slice none none (some (.UnaryOp .USub (.Constant (.int 1) k p1) p2)) p3) pos) (tE X.K C fun env st Q => ma env st fun x s1 => revD m x s1 Q) :=
  (pe_revA ha).imp fun σ H Q ⟨ι, env, st, S, E, q⟩ => tE.step oa S E q fun d s1 x H1 ι1 q e1 S1 E1 r1 => by
    unfold revD at q
    split at q
    · obtain ⟨p, vs, rfl, h1, h2⟩ := tup_ok r1
      exact ⟨p, vs, rfl, .inr ⟨h1, tup_new S1 h2.reverse (q.ext e1)⟩⟩
    · obtain ⟨xs, e2, q⟩ := opt_some q
      obtain ⟨p, vs, rfl, h1, h2⟩ := asR_ok S1 r1 e2
      exact ⟨p, vs, rfl, .inl ⟨h1, new_ok S1 h2.reverse (new_mono (fun _ _ h => h.ext e1) q)⟩⟩
end
end MI

set_option maxRecDepth 100000
/-! MI, part 7: what is walked: lists, tuples, ranges, enumerate of either. -/
namespace PySem
open Sem (wp)
open AutoSeq1 (wpAny_loadPart')
theorem mi_meets_enumerate_newT (l : Addr) (items : Array Value) (n : Nat) (dct : Option Addr) (sl : Array (Option Value)) :
    Meets (Builtin.«enumerate.__new__» ⟨[.type "enumerate", .ref l], []⟩) (fun _ R s => s.heap.get? l = some { cls := .type "tuple", dict := dct, data := .seq items n, slots := sl } ∧
      R (.ok (.ret (.ref (s.heap.push { cls := .type "tuple_iterator", data := .fields #[.ref l, .int 0 0] }).objs.size)))
        { s with heap := (s.heap.push { cls := .type "tuple_iterator", data := .fields #[.ref l, .int 0 0] }).push { cls := .type "enumerate", data := .fields #[.none, .bool false, .ref s.heap.objs.size, rawInt 0, .none, .none] } }) :=
  .of_wp fun prog w A R s h => by
    obtain ⟨hp, g, d, tk, os⟩ := s; obtain ⟨hl, h⟩ := h
    have hsub := sub_enumerate
    have hL : Heap.IsTuple (Shared.heap ⟨hp, g, d, tk, os⟩) l items := ⟨_, hl, rfl, n, rfl⟩
    wp_walk using wpAny_loadPart' hl
    refine wpAny_stack_any fun st => wpAny_pure ?_
    split
    · rename_i c _ _ _ _ _
      cases (c == Value.type "enumerate")
      · wp_walk using wpAny_loadPart' hl, wpAny_pyIter_tuple hL
        exact ⟨_, rfl, h⟩
      · wp_walk using wpAny_loadPart' hl, wpAny_pyIter_tuple hL
        exact ⟨_, rfl, h⟩
    · wp_walk using wpAny_loadPart' hl, wpAny_pyIter_tuple hL
      exact ⟨_, rfl, h⟩
section
variable {prog : Program} {w : World} {A : Around} {E : Value → Shared → Prop} {s : Shared}
theorem mi_call_enumerate_tuple {l : Addr} {items : Array Value} {Q : Value → Shared → Prop} (hL : s.heap.IsTuple l items)
    (h : ∀ h', IsEnum h' (s.heap.objs.size + 1) s.heap.objs.size 0 .none → h'.IsTupleIter s.heap.objs.size l 0 → h'.objs.size = s.heap.objs.size + 2 →
      (∀ b o, s.heap.get? b = some o → h'.get? b = some o) → Q (.ref (s.heap.objs.size + 1)) { s with heap := h' }) :
    wpAny (model prog w) A (call (.type "enumerate") [.ref l]) Q E s := by
  obtain ⟨⟨c, dct, dt, sl⟩, hl, hc, n, hd⟩ := hL
  replace hc : c = .type "tuple" := hc
  replace hd : dt = .seq items n := hd
  subst hc hd
  refine callType_new F.called_enumerate (by decide) (F.typeCall_enumerate_1 _) (F.newCall_enumerate_1 _) (fun obj => F.args_object_init_2 obj _) F.entry_enumerate_new
    (mi_meets_enumerate_newT l items n dct sl) ⟨hl, ?_⟩
  have hz : (s.heap.push { cls := .type "tuple_iterator", data := .fields #[.ref l, .int 0 0] }).objs.size = s.heap.objs.size + 1 := Heap.size_push ..
  show _ ∧ _
  rw [hz]
  have he : IsEnum ((s.heap.push { cls := .type "tuple_iterator", data := .fields #[.ref l, .int 0 0] }).push
      { cls := .type "enumerate", data := .fields #[.none, .bool false, .ref s.heap.objs.size, rawInt 0, .none, .none] }) (s.heap.objs.size + 1) s.heap.objs.size 0 .none := by
    have := Heap.get?_push_size (s.heap.push { cls := .type "tuple_iterator", data := .fields #[.ref l, .int 0 0] })
      (o := { cls := .type "enumerate", data := .fields #[.none, .bool false, .ref s.heap.objs.size, rawInt 0, .none, .none] }) rfl
    rw [hz] at this; exact this
  refine ⟨⟨_, he, rfl⟩, h _ he ⟨_, Heap.get?_push_of_some _ (Heap.get?_push_size _ rfl), rfl, rfl⟩ (by rw [Heap.size_push, hz]) fun b o x => Heap.get?_push_of_some _ (Heap.get?_push_of_some _ x)⟩
end
end PySem

namespace MI
open PySem PySem.Spec PyProof.Rows L2

def IteT (K : PySem.W.Frag) (a : Addr) : It :=
  ⟨fun i H => ∃ (xs : List V) (x : V), SqT K H a xs ∧ xs[i]? = some x, fun i H v H' => ∃ T x, v = .ref T ∧ H T = none ∧ H' = upd H T (.tup [.int (i : Nat), x]) ∧ ∀ xs, SqT K H a xs → xs[i]? = some x, fun i H => ∃ xs : List V, SqT K H a xs ∧ xs.length ≤ i⟩
theorem turn_enumT {P : Program} {w : World} {K : PySem.W.Frag} {elts : List Expr} {kk : Nat} {tpos : Pos} (a e it : Addr) :
    Turn P w K (.Tuple elts kk tpos) (IteT K a) [e, it] e (fun i h => (∃ old, IsEnum h e it ((i : Nat) : Int) old) ∧ h.IsTupleIter it a i ∧ e ≠ it ∧ e ≠ a ∧ a ≠ it) where
  mem := by simp
  obj := fun i h st b hb => by
    obtain ⟨⟨old, he⟩, ⟨o, ho, hc, hd⟩, _⟩ := st
    have e' : b = e ∨ b = it := by simpa using hb
    rcases e' with z | z
    · rw [z]; exact ⟨_, he, fun v q => nomatch q⟩
    · rw [z]; exact ⟨o, ho, fun v q => by rw [hd] at q; cases q⟩
  keep := fun i h h' st k => let ⟨⟨old, he⟩, hi, hne⟩ := st; ⟨⟨old, k e (by simp) _ he⟩, hi.at fun o q => k it (by simp) o q, hne⟩
  item := by
    intro X hP hw hK hc i pins s σ H E I hf st hg
    subst hP hw hK
    obtain ⟨⟨old, he⟩, hit, hne, hea, hai⟩ := st
    obtain ⟨xs, x, hq, hx⟩ := hg
    obtain ⟨its, rv, p, hz⟩ := I.tuple hq
    obtain ⟨u, hu, ru⟩ := rv.get hx
    have hel : e < s.heap.objs.size := Heap.lt_size he
    have hil : it < s.heap.objs.size := by obtain ⟨_, q, _⟩ := hit; exact Heap.lt_size q
    have D := Draws.tuple (prog := X.prog) (w := X.w) (A := X.A.in1) (I.ok.hd hc) it a hai its.toArray
    have hlt : i < its.toArray.size := by
      rw [List.size_toArray]
      exact (List.getElem?_eq_some_iff.mp hu).1
    refine wpAny_pyNext_enum_itemD D he ⟨hit, p⟩ hlt hne (by simp [hne, hea]) fun x' h' tk hx' ho st' hT hsz hk => ?_
    have ex : x' = u := by
      have h1 : its.toArray[i]? = some x' := hx'
      have h2 : its.toArray[i]? = some u := by simpa using hu
      rw [h1] at h2; exact Option.some.inj h2
    subst ex
    refine ⟨_, rfl, wpAny_letOwnedTupleGo_enum (s := { s with heap := h', toks := tk + 1 }) ho fun h'' he' sb => ?_⟩
    have hT2 : h''.get? s.heap.objs.size = some { cls := .type "tuple", data := .seq #[.int i tk, x'] } := (sb.2 _ (Nat.ne_of_gt hel)).trans hT
    have new : ObjOk X.prog X.w (upd H s.heap.objs.size (.tup [.int (i : Nat), x])) h'' s.heap.objs.size (.tup [.int (i : Nat), x]) :=
      ⟨by show 2 ≤ sizeLine; decide, [.int i tk, x'], .cons ⟨_, rfl⟩ (.cons ru .nil), ⟨_, hT2, rfl, _, rfl⟩⟩
    have I1 : Inv X pins σ (upd H s.heap.objs.size (.tup [.int (i : Nat), x])) { s with heap := h'', toks := tk + 1 } :=
      I.turnedNew (ch := [e, it]) (fun b ob hb q => (sb.2 b (fun z => hb (by simp [z]))).trans (hk b ob (fun z => hb (by simp [z])) (fun z => hb (by simp [z])) q)) hf (Nat.le_refl _) new
    refine ⟨.ref s.heap.objs.size, _, I1, rfl, ⟨_, x, rfl, I.hok.fresh (Nat.le_refl _), rfl, fun ys hy => by rw [I.tuple_inj hy hq]; exact hx⟩, ⟨⟨x', ?_⟩, st'.1.at fun o q => (sb.2 it (Ne.symm hne)).trans q, hne, hea, hai⟩, fun b hb => ?_⟩
    · have e1 : ((i + 1 : Nat) : Int) = (i : Int) + 1 := by omega
      rw [e1]; exact he'
    · have hb' : b < s.heap.objs.size := by
        have e' : b = e ∨ b = it := by simpa using hb
        rcases e' with z | z
        · rw [z]; exact hel
        · rw [z]; exact hil
      rw [upd_ne (Nat.ne_of_lt hb')]
      exact (hf b hb).1
  done := by
    intro X hP hw hK hc i pins s σ H E I hf st hg
    subst hP hw hK
    obtain ⟨⟨old, he⟩, hit, hne, hea, hai⟩ := st
    obtain ⟨xs, hq, hx⟩ := hg
    obtain ⟨its, rv, p, hz⟩ := I.tuple hq
    obtain ⟨f0, f1, f2, f3, f4, f5⟩ := hf it (by simp)
    have hl := rv.length
    have D := Draws.tuple (prog := X.prog) (w := X.w) (A := X.A.in1) (I.ok.hd hc) it a hai its.toArray
    by_cases hi : i = its.toArray.size
    · subst hi
      exact wpAny_pyNext_enum_endD D he ⟨hit, p⟩ fun h' eb => ⟨rfl, I.turned (t' := s.toks) (fun b o hb q => eb b o hb q) f0 f1 f3 f4 f5⟩
    · have hgt : its.toArray.size < i := by rw [List.size_toArray] at hi ⊢; omega
      have hT : s.TypeIs (.ref e) "enumerate" := ⟨_, he, rfl⟩
      unfold pyNext
      refine wpAny_bind (wpAny_attempt (wpAny_callSpecial?_slot (name := Str.ofString "__next__") hT F.slot_enumerate_next
        (wpAny_call_entry F.slot_enumerate_next hT F.entry_enumerate_next ?_ (F.args_enumerate_next_1 _))))
      show wpAny _ _ (field (.ref e) 2 >>= _) _ _ _
      refine wpAny_bind (wpAny_field he rfl (x := .ref it) rfl ?_)
      refine wpAny_bind (wpAny_nextOf_tuple_end (show X.A.in1.handled = none from I.ok.hd hc) hit p (by simp only [Array.getElem?_eq_none_iff]; omega) fun h' x he' hx' => ?_)
      obtain ⟨o, ho, hcl⟩ := hx'
      refine wpAny_bind (wpAny_isInstance (T := "StopIteration") (b := true) ⟨o, ho, hcl⟩ isSubtype_stop ?_)
      exact wpAny_pure ⟨rfl, I.turned (t' := s.toks) (fun b o hb q => he' b o hb q) f0 f1 f3 f4 f5⟩
  self := fun A i s Q E st h => let ⟨⟨_, he⟩, _⟩ := st; wpAny_pyIter_enum he h
def iEnumA (K : PySem.W.Frag) (ta : TA) : TI := fun σ H R => ta σ H fun vs H1 => ∃ a xs, vs = [.ref a] ∧ ((SqL K H1 a xs ∧ R (Ite K a) H1) ∨ (SqT K H1 a xs ∧ R (IteT K a) H1))
theorem pi_enumA {X : Cx} {e : Expr} {ta : TA} {p pos tpos : Pos} {elts : List Expr} {kk : Nat} (hg : Gl X "enumerate") (hm : X.mg "enumerate" = none) (ha : PA X [e] ta) (hs : starEach [e] X.env = [(false, eval e X.env)]) :
    PI X (.Tuple elts kk tpos) (.Call (.Name "enumerate" p) [e] [] pos) (iEnumA X.K ta) := by
  refine ⟨fun pins s σ H R I h => ?_⟩
  refine Call_ (ld_blt I hg hm boot_enumerate (PyProof.Rows.callWith_type1 (thn (ha.run pos pins s σ H _ I h) fun us s1 ⟨vs, H1, I1, r1, q1⟩ => ?_) hs rfl))
  obtain ⟨a, xs, ex, hq⟩ := q1
  subst ex
  cases r1 with
  | cons r rr =>
    cases rr
    cases r
    have fp : ∀ b ∈ [s1.heap.objs.size + 1, s1.heap.objs.size], FpOk X pins H1 b := fun b hb => by
      have e' : b = s1.heap.objs.size + 1 ∨ b = s1.heap.objs.size := by simpa using hb
      have hle : s1.heap.objs.size ≤ b := by
        rcases e' with z | z
        · rw [z]; exact Nat.le_add_right _ _
        · rw [z]; exact Nat.le_refl _
      exact I1.fpOk hle (I1.hok.fresh hle)
    rcases hq with ⟨hq, q⟩ | ⟨hq, q⟩
    · obtain ⟨its, rv, p', hz⟩ := I1.list hq
      refine call_enumerate_list p'.isList fun h' he hit hsz hk => wpAny_pyIter_enum he ?_
      have I2 : Inv X pins σ H1 { s1 with heap := h' } := I1.kept (t' := s1.toks) hk
      exact ⟨s1.heap.objs.size + 1, [s1.heap.objs.size + 1, s1.heap.objs.size], _, _, H1, rfl, I2, turn_enum a (s1.heap.objs.size + 1) s1.heap.objs.size, ⟨⟨.none, he⟩, hit, Nat.succ_ne_self _⟩, fp, q⟩
    · obtain ⟨its, rv, p', hz⟩ := I1.tuple hq
      have hal : a < s1.heap.objs.size := p'.lt
      refine mi_call_enumerate_tuple (show s1.heap.IsTuple a its.toArray from p') fun h' he hit hsz hk => wpAny_pyIter_enum he ?_
      have I2 : Inv X pins σ H1 { s1 with heap := h' } := I1.kept (t' := s1.toks) hk
      exact ⟨s1.heap.objs.size + 1, [s1.heap.objs.size + 1, s1.heap.objs.size], _, _, H1, rfl, I2, turn_enumT a (s1.heap.objs.size + 1) s1.heap.objs.size,
        ⟨⟨.none, he⟩, hit, Nat.succ_ne_self _, Nat.ne_of_gt (Nat.lt_succ_of_lt hal), Nat.ne_of_lt hal⟩, fp, q⟩
def iSeq (K : PySem.W.Frag) (tl : TE) : TI := fun σ H R => tl σ H fun x H1 => ∃ a xs, x = .ref a ∧ ((SqL K H1 a xs ∧ R (Itl K a) H1) ∨ (SqT K H1 a xs ∧ R (Itt K a) H1))
theorem pi_seq {X : Cx} {tg l : Expr} {tl : TE} (hl : PE X l tl) : PI X tg l (iSeq X.K tl) := by
  refine ⟨fun pins s σ H R I h => ?_⟩
  refine thn (hl.run pins s σ H _ I h) fun v s1 ⟨x, H1, I1, r1, q1⟩ => ?_
  obtain ⟨a, xs, e, hq⟩ := q1
  subst e
  cases r1
  have fp : ∀ b ∈ [s1.heap.objs.size], FpOk X pins H1 b := fun b hb => by
    have e : b = s1.heap.objs.size := by simpa using hb
    subst e
    exact I1.fpOk (Nat.le_refl _) (I1.hok.fresh (Nat.le_refl _))
  rcases hq with ⟨hq, q⟩ | ⟨hq, q⟩
  · obtain ⟨its, rv, p, hz⟩ := I1.list hq
    refine wpAny_pyIter_list p.isList ?_
    exact ⟨s1.heap.objs.size, [s1.heap.objs.size], _, _, H1, rfl, I1.kept (t' := s1.toks) fun b o e => Heap.get?_push_of_some _ e, turn_list a _, ⟨_, Heap.get?_push_size _ rfl, rfl, rfl⟩, fp, q⟩
  · obtain ⟨its, rv, p, hz⟩ := I1.tuple hq
    refine wpAny_pyIter_tuple (show s1.heap.IsTuple a its.toArray from p) ?_
    exact ⟨s1.heap.objs.size, [s1.heap.objs.size], _, _, H1, rfl, I1.kept (t' := s1.toks) fun b o e => Heap.get?_push_of_some _ e, turn_tuple a _, ⟨_, Heap.get?_push_size _ rfl, rfl, rfl⟩, fp, q⟩

/-! ### told by data -/
section
variable {K : PySem.W.Frag} {C : Nat → Addr} {H1 : Hp} {ι1 : Io} {x : V} {d : D} {xs : List D} {a : Addr}
theorem Kp.trans {H H1 H2 : Hp} {ι ι1 ι2 : Io} (a : Kp H ι H1 ι1) (b : Kp H1 ι1 H2 ι2) : Kp H ι H2 ι2 := ⟨a.pre.trans b.pre, fun c o h n => let ⟨h1, n1⟩ := a.keep c o h n; b.keep c o h1 n1⟩
theorem its_list (r : Rep K C H1 ι1 d (.ref a)) {st1 : Sto} (hl : ∀ st, asSeq st d = some xs → asR st d = some xs) : ItsR K C H1 ι1 ⟨xs, fun s => asSeq s d = some xs⟩ (Itl K a) := fun i H ι st e S k => by
  obtain ⟨b, vs, eb, h1, h2⟩ := asR_ok S (r.kp e) (hl st k)
  cases eb
  refine ⟨fun hi => ?_, fun hi => ⟨vs, h1, by rw [← h2.length]; exact hi⟩⟩
  obtain ⟨v, e1, e2⟩ := h2.get (List.getElem?_eq_getElem hi)
  refine ⟨⟨vs, v, h1, e1⟩, fun y H' ⟨eq, hy⟩ => ?_⟩
  subst eq
  have ev : y = v := Option.some.inj ((hy vs h1).symm.trans e1)
  subst ev
  exact ⟨_, List.getElem?_eq_getElem hi, .refl _ _, S, e2⟩
theorem its_tup (r : Rep K C H1 ι1 (.tup xs) (.ref a)) : ItsR K C H1 ι1 ⟨xs, fun s => asSeq s (.tup xs) = some xs⟩ (Itt K a) := fun i H ι st e S k => by
  obtain ⟨b, vs, eb, h1, h2⟩ := tup_ok (r.kp e)
  cases eb
  refine ⟨fun hi => ?_, fun hi => ⟨vs, h1, by rw [← h2.length]; exact hi⟩⟩
  obtain ⟨v, e1, e2⟩ := h2.get (List.getElem?_eq_getElem hi)
  refine ⟨⟨vs, v, h1, e1⟩, fun y H' ⟨eq, hy⟩ => ?_⟩
  subst eq
  have ev : y = v := Option.some.inj ((hy vs h1).symm.trans e1)
  subst ev
  exact ⟨_, List.getElem?_eq_getElem hi, .refl _ _, S, e2⟩
theorem enumF_get : ∀ {xs : List D} {k i : Nat} {d : D}, xs[i]? = some d → (enumF k xs)[i]? = some (.tup [.int (k + i : Nat), d])
  | [], _, _, _, h => by simp at h
  | x :: r, k, 0, d, h => by simp at h; subst h; rfl
  | x :: r, k, i + 1, d, h => by
    have := enumF_get (xs := r) (k := k + 1) (i := i) (by simpa using h)
    rw [show k + 1 + i = k + (i + 1) by omega] at this
    simpa [enumF] using this
theorem enumL_get {xs : List D} {i : Nat} {d : D} (h : xs[i]? = some d) : (enumL xs)[i]? = some (.tup [.int i, d]) := by
  have := enumF_get (k := 0) h
  rwa [Nat.zero_add] at this
theorem enumF_length : ∀ (xs : List D) (k : Nat), (enumF k xs).length = xs.length
  | [], _ => rfl
  | x :: r, k => by simp [enumF, enumF_length r]
theorem enumL_length (xs : List D) : (enumL xs).length = xs.length := enumF_length xs 0
theorem rep_pair {H : Hp} {ι : Io} {st : Sto} {T : Addr} {i : Int} {v : V} {d : D} (S : Sim K C H ι st) (hT : H T = none) (r : Rep K C H ι d v) :
    Ext H ι (upd H T (.tup [.int i, v])) ι ∧ Sim K C (upd H T (.tup [.int i, v])) ι st ∧ Rep K C (upd H T (.tup [.int i, v])) ι (.tup [.int i, d]) (.ref T) := by
  obtain ⟨e, S'⟩ := S.imm (o := .tup [.int i, v]) hT
  refine ⟨e, S', ?_⟩
  simp only [Rep]
  exact ⟨T, _, rfl, .inl ⟨.inl upd_same, S.fresh hT⟩, .cons rep_int (.one (r.mono e))⟩
theorem its_enumL (r : Rep K C H1 ι1 d (.ref a)) (hl : ∀ st, asSeq st d = some xs → asR st d = some xs) : ItsR K C H1 ι1 ⟨enumL xs, fun s => asSeq s d = some xs⟩ (Ite K a) := fun i H ι st e S k => by
  obtain ⟨b, vs, eb, h1, h2⟩ := asR_ok S (r.kp e) (hl st k)
  cases eb
  refine ⟨fun hi => ?_, fun hi => ⟨vs, h1, by rw [← h2.length, ← enumL_length]; exact hi⟩⟩
  have hi : i < xs.length := by rw [← enumL_length]; exact hi
  obtain ⟨v, e1, e2⟩ := h2.get (List.getElem?_eq_getElem hi)
  refine ⟨⟨vs, v, h1, e1⟩, fun y H' ⟨T, z, ey, hT, eH, hy⟩ => ?_⟩
  subst ey eH
  have ev : z = v := Option.some.inj ((hy vs h1).symm.trans e1)
  subst ev
  exact ⟨_, enumL_get (List.getElem?_eq_getElem hi), rep_pair S hT e2⟩
theorem its_enumT (r : Rep K C H1 ι1 (.tup xs) (.ref a)) : ItsR K C H1 ι1 ⟨enumL xs, fun s => asSeq s (.tup xs) = some xs⟩ (IteT K a) := fun i H ι st e S k => by
  obtain ⟨b, vs, eb, h1, h2⟩ := tup_ok (r.kp e)
  cases eb
  refine ⟨fun hi => ?_, fun hi => ⟨vs, h1, by rw [← h2.length, ← enumL_length]; exact hi⟩⟩
  have hi : i < xs.length := by rw [← enumL_length]; exact hi
  obtain ⟨v, e1, e2⟩ := h2.get (List.getElem?_eq_getElem hi)
  refine ⟨⟨vs, v, h1, e1⟩, fun y H' ⟨T, z, ey, hT, eH, hy⟩ => ?_⟩
  subst ey eH
  have ev : z = v := Option.some.inj ((hy vs h1).symm.trans e1)
  subst ev
  exact ⟨_, enumL_get (List.getElem?_eq_getElem hi), rep_pair S hT e2⟩
theorem rngL_length (lo : Int) (n : Nat) (c : Int) : (rngL lo n c).length = n := by unfold rngL; simp
theorem rngL_get {lo : Int} {n i : Nat} {c : Int} (h : i < n) : (rngL lo n c)[i]? = some (.int (lo + (i : Nat) * c)) := by
  unfold rngL
  rw [List.getElem?_map, List.getElem?_range h]
  rfl
theorem its_rng {lo : Int} {n : Nat} : ItsR K C H1 ι1 ⟨rngL lo n 1, fun _ => True⟩ (Itr lo n) := fun i H ι st e S k => by
  refine ⟨fun hi => ?_, fun hi => by
    have hi : (rngL lo n 1).length ≤ i := hi
    rw [rngL_length] at hi
    exact hi⟩
  have hi : i < n := by rw [← rngL_length lo n 1]; exact hi
  refine ⟨hi, fun y H' ⟨eq, hy⟩ => ?_⟩
  subst eq hy
  exact ⟨_, rngL_get hi, .refl _ _, S, by rw [Int.mul_one]; exact rep_int⟩
theorem its_rngC {lo c : Int} {n : Nat} : ItsR K C H1 ι1 ⟨rngL lo n c, fun _ => True⟩ (Itc lo c n) := fun i H ι st e S k => by
  refine ⟨fun hi => ?_, fun hi => by
    have hi : (rngL lo n c).length ≤ i := hi
    rw [rngL_length] at hi
    exact hi⟩
  have hi : i < n := by rw [← rngL_length lo n c]; exact hi
  refine ⟨hi, fun y H' ⟨eq, hy⟩ => ?_⟩
  subst eq hy
  exact ⟨_, rngL_get hi, .refl _ _, S, rep_int⟩
theorem asSeq_split {st : Sto} {d : D} {xs : List D} (h : asSeq st d = some xs) : (d = .tup xs) ∨ ((∀ ys, d ≠ .tup ys) ∧ asR st d = some xs) := by
  unfold asSeq at h
  split at h
  · cases h; exact .inl rfl
  · rename_i hd; exact .inr ⟨fun ys e => hd ys e, h⟩
theorem asSeq_asR {d : D} (h : ∀ ys, d ≠ .tup ys) (st : Sto) : asSeq st d = asR st d := by
  unfold asSeq
  split
  · exact absurd rfl (h _)
  · rfl
end
section
variable {X : Cx} {C : Nat → Addr} {a b c tg : Expr} {pos : Pos} {ma mb mc : Ev → Sto → Kd → Prop}
theorem i_seq (ha : PE X a (tE X.K C ma)) (oa : MonoE ma) : PI X tg a (tIt X.K C fun env st R => ma env st fun x s1 => opt (asSeq s1 x) fun xs => R ⟨xs, fun s => asSeq s x = some xs⟩ s1) :=
  (pi_seq ha).imp fun σ H R ⟨ι, env, st, S, E, q⟩ => tE.step oa S E q fun d s1 x H1 ι1 q e1 S1 E1 r1 => by
    obtain ⟨xs, e2, q⟩ := opt_some q
    rcases asSeq_split e2 with rfl | ⟨hd, h⟩
    · obtain ⟨p, vs, rfl, h1, h2⟩ := tup_ok r1
      exact ⟨p, vs, rfl, .inr ⟨h1, q _ _ _ e1 S1 (its_tup r1)⟩⟩
    · obtain ⟨p, vs, rfl, h1, h2⟩ := asR_ok S1 r1 h
      exact ⟨p, vs, rfl, .inl ⟨h1, q _ _ _ e1 S1 (its_list (st1 := s1) r1 fun st k => by rw [← asSeq_asR hd]; exact k)⟩⟩
theorem l_one {e : Expr} {m : Ev → Sto → Kd → Prop} (ha : PE X e (tE X.K C m)) (hs : starEach [e] X.env = (false, eval e X.env) :: starEach [] X.env) : PA X [e] (tCons (tE X.K C m) tNil) := pa_cons ha pa_nil hs
theorem i_enum {elts : List Expr} {kk : Nat} {tpos p : Pos} (hg : Gl X "enumerate") (hm : X.mg "enumerate" = none) (ha : PE X a (tE X.K C ma)) (oa : MonoE ma) (hs : starEach [a] X.env = (false, eval a X.env) :: starEach [] X.env) :
    PI X (.Tuple elts kk tpos) (.Call (.Name "enumerate" p) [a] [] pos) (tIt X.K C fun env st R => ma env st fun x s1 => opt (asSeq s1 x) fun xs => R ⟨enumL xs, fun s => asSeq s x = some xs⟩ s1) :=
  (pi_enumA hg hm (pa_cons ha pa_nil hs) hs).imp fun σ H R ⟨ι, env, st, S, E, q⟩ => tE.step oa S E q fun d s1 x H1 ι1 q e1 S1 E1 r1 => by
    obtain ⟨xs, e2, q⟩ := opt_some q
    rcases asSeq_split e2 with rfl | ⟨hd, h⟩
    · obtain ⟨p, vs, rfl, h1, h2⟩ := tup_ok r1
      exact ⟨p, vs, rfl, .inr ⟨h1, q _ _ _ e1 S1 (its_enumT r1)⟩⟩
    · obtain ⟨p, vs, rfl, h1, h2⟩ := asR_ok S1 r1 h
      exact ⟨p, vs, rfl, .inl ⟨h1, q _ _ _ e1 S1 (its_enumL r1 fun st k => by rw [← asSeq_asR hd]; exact k)⟩⟩
theorem i_rng1 {p : Pos} (hg : Gl X "range") (hm : X.mg "range" = none) (ha : PE X a (tE X.K C ma)) (oa : MonoE ma) (hs : starEach [a] X.env = (false, eval a X.env) :: starEach [] X.env) :
    PI X tg (.Call (.Name "range" p) [a] [] pos) (tIt X.K C fun env st R => ma env st fun x s1 => (match x with
    | .int j => -(2 ^ 62) ≤ j ∧ j < 2 ^ 62 ∧ R ⟨rngL 0 j.toNat 1, fun _ => True⟩ s1
    | _ => False)) :=
  (pi_range1 hg hm (pa_cons ha pa_nil hs) hs).imp fun σ H R ⟨ι, env, st, S, E, q⟩ => tE.step oa S E q fun d s1 x H1 ι1 q e1 S1 E1 r1 => by
    cases d with
    | int j =>
      simp only [Rep] at r1
      subst r1
      exact ⟨j, rfl, q.1, q.2.1, q.2.2 _ _ _ e1 S1 its_rng⟩
    | _ => exact q.elim
theorem i_rng2 {p : Pos} (hg : Gl X "range") (hm : X.mg "range" = none) (ha : PE X a (tE X.K C ma)) (hb : PE X b (tE X.K C mb)) (oa : MonoE ma) (ob : MonoE mb)
    (hs : starEach [a, b] X.env = (false, eval a X.env) :: starEach [b] X.env) (hs2 : starEach [b] X.env = (false, eval b X.env) :: starEach [] X.env) :
    PI X tg (.Call (.Name "range" p) [a, b] [] pos) (tIt X.K C fun env st R => ma env st fun x s1 => mb env s1 fun y s2 => (match x, y with
    | .int i, .int j => (-(2 ^ 62) ≤ i ∧ i < 2 ^ 62 ∧ -(2 ^ 62) ≤ j ∧ j < 2 ^ 62) ∧ R ⟨rngL i (j - i).toNat 1, fun _ => True⟩ s2
    | _, _ => False)) :=
  (pi_range2 hg hm (pa_cons ha (pa_cons hb pa_nil hs2) hs) (by rw [hs, hs2]; rfl) hs2).imp fun σ H R ⟨ι, env, st, S, E, q⟩ => tE.step oa S E q fun d s1 x H1 ι1 q e1 S1 E1 r1 => tE.step ob S1 E1 q fun d2 s2 y H2 ι2 q e2 S2 E2 r2 => by
    split at q
    · simp only [Rep] at r1 r2
      subst r1 r2
      exact ⟨_, _, rfl, q.1, q.2 _ _ _ (e1.trans e2) S2 its_rng⟩
    · exact q.elim
theorem i_rng3 {p : Pos} (hg : Gl X "range") (hm : X.mg "range" = none) (ha : PE X a (tE X.K C ma)) (hb : PE X b (tE X.K C mb)) (hc : PE X c (tE X.K C mc)) (oa : MonoE ma) (ob : MonoE mb) (oc : MonoE mc)
    (hs : starEach [a, b, c] X.env = (false, eval a X.env) :: starEach [b, c] X.env) (hs2 : starEach [b, c] X.env = (false, eval b X.env) :: starEach [c] X.env) (hs3 : starEach [c] X.env = (false, eval c X.env) :: starEach [] X.env) :
    PI X tg (.Call (.Name "range" p) [a, b, c] [] pos) (tIt X.K C fun env st R => ma env st fun x s1 => mb env s1 fun y s2 => mc env s2 fun z s3 => (match x, y, z with
    | .int i, .int j, .int k => ∃ n, RgC i j k n ∧ R ⟨rngL i n k, fun _ => True⟩ s3
    | _, _, _ => False)) :=
  (pi_range3 hg hm (pa_cons ha (pa_cons hb (pa_cons hc pa_nil hs3) hs2) hs) hs (by rw [hs2, hs3]; rfl)).imp fun σ H R ⟨ι, env, st, S, E, q⟩ => tE.step oa S E q fun d s1 x H1 ι1 q e1 S1 E1 r1 => tE.step ob S1 E1 q fun d2 s2 y H2 ι2 q e2 S2 E2 r2 => tE.step oc S2 E2 q fun d3 s3 z H3 ι3 q e3 S3 E3 r3 => by
    split at q
    · simp only [Rep] at r1 r2 r3
      subst r1 r2 r3
      obtain ⟨n, q1, q⟩ := q
      exact ⟨_, _, _, n, rfl, q1, q _ _ _ ((e1.trans e2).trans e3) S3 its_rngC⟩
    · exact q.elim
end
end MI

set_option maxRecDepth 100000
/-! MI, part 8: calls, built-ins, methods, targets, comprehensions. -/
namespace MI
open PySem PySem.Spec PyProof.Rows L2

section
variable {X : Cx} {C : Nat → Addr} {a b c tg : Expr} {es : List Expr} {pos : Pos} {ma mb mc : Ev → Sto → Kd → Prop} {ml : Ev → Sto → (List D → Sto → Prop) → Prop}
/-! ### calls of defs -/
/-- a def's promise over data: n arguments -/
def spD (K : PySem.W.Frag) (C : Nat → Addr) (n : Nat) (φ : Fn) : Sp := fun vs H Q _ => ∃ ι st ds, Sim K C H ι st ∧ Reps K C H ι ds vs ∧ ds.length = n ∧ φ ds st (Post K C H ι Q)
theorem e_call {k n : Nat} {f : Addr} {fd : FuncData} {ps : List Str} {φ : Fn} {x : Str} {p : Pos} {e : Expr} (fm : MonoFn φ) (F : FnOk X.prog X.w X.K X.mg X.base CX0 k f fd ps (spD X.K C n φ)) (hr : Room k X.A) (hg : Gl X x) (hm : X.mg x = some (.ref f))
    (hk : PySem.W.keepIn X.K (.ref f) = true) (hb : Binds X.K fd ps []) (ha : PA X (e :: es) (tAr X.K C ml)) (ol : MonoL ml) (hn : ∀ env st Q, ml env st Q → ml env st fun ds s => ds.length = n ∧ Q ds s) (hdb : (x == ("__debug__" : Str)) = false)
    (he : starEach (e :: es) X.env = (false, eval e X.env) :: starEach es X.env) (hpl : (backTo pos (starEach es X.env)).any (·.1) = false) :
    PE X (.Call (.Name x p) (e :: es) [] pos) (tE X.K C fun env st Q => ml env st fun xs s1 => φ xs s1 Q) :=
  (pe_call F hr hg hm hk hb .nil pass0 ha hdb he hpl).imp fun σ H Q ⟨ι, env, st, S, E, q⟩ => tAr.step ol S E (hn _ _ _ q) fun ds s1 xs H1 ι1 q e1 S1 E1 r1 => by
    rw [List.append_nil]
    exact ⟨ι1, s1, ds, S1, r1, q.1, fm _ _ _ _ (fun _ _ h => h.ext e1) q.2⟩
theorem e_call0 {k : Nat} {f : Addr} {fd : FuncData} {ps : List Str} {φ : Fn} {x : Str} {p : Pos} (fm : MonoFn φ) (F : FnOk X.prog X.w X.K X.mg X.base CX0 k f fd ps (spD X.K C 0 φ)) (hr : Room k X.A) (hg : Gl X x) (hm : X.mg x = some (.ref f))
    (hk : PySem.W.keepIn X.K (.ref f) = true) (hb : Binds X.K fd ps []) (hdb : (x == ("__debug__" : Str)) = false) :
    PE X (.Call (.Name x p) [] [] pos) (tE X.K C fun env st Q => φ [] st Q) :=
  (pe_call0 F hr hg hm hk hb .nil pass0 hdb).imp fun σ H Q ⟨ι, env, st, S, E, q⟩ => ⟨ι, st, [], S, .nil, rfl, q⟩
/-! ### built-ins -/
theorem e_bltB {id : String} {B : Blt} {m : Bool} {x : Str} {p : Pos} {e : Expr} (hc : CallR X (.builtin id) (rBl X.K C B m)) (hg : Gl X x) (hm : X.mg x = none) (hv : bootBuiltins x = some (.builtin id)) (ha : PA X (e :: es) (tAr X.K C ml)) (ol : MonoL ml)
    (hn : x ≠ "__name__") (hdb : (x == ("__debug__" : Str)) = false) (he : starEach (e :: es) X.env = (false, eval e X.env) :: starEach es X.env) (hpl : (backTo pos (starEach es X.env)).any (·.1) = false) :
    PE X (.Call (.Name x p) (e :: es) [] pos) (tE X.K C fun env st Q => ml env st fun xs s1 => bltD B m xs s1 Q) :=
  (pe_callB hc hg hm hv ha hn hdb he hpl).imp fun σ H Q ⟨ι, env, st, S, E, q⟩ => tAr.step ol S E q fun ds s1 xs H1 ι1 q e1 S1 E1 r1 =>
    ⟨ι1, s1, ds, S1, r1, bltD_mono (fun _ _ h => h.ext e1) q⟩
theorem e_bltT {T : String} {B : Blt} {m : Bool} {x : Str} {p : Pos} {e : Expr} (hc : CallR X (.type T) (rBl X.K C B m)) (hg : Gl X x) (hm : X.mg x = none) (hv : bootBuiltins x = some (.type T)) (ha : PA X (e :: es) (tAr X.K C ml)) (ol : MonoL ml)
    (hn : x ≠ "__name__") (hdb : (x == ("__debug__" : Str)) = false) (he : starEach (e :: es) X.env = (false, eval e X.env) :: starEach es X.env) (hpl : (backTo pos (starEach es X.env)).any (·.1) = false) :
    PE X (.Call (.Name x p) (e :: es) [] pos) (tE X.K C fun env st Q => ml env st fun xs s1 => bltD B m xs s1 Q) :=
  (pe_callTy hc hg hm hv ha hn hdb he hpl).imp fun σ H Q ⟨ι, env, st, S, E, q⟩ => tAr.step ol S E q fun ds s1 xs H1 ι1 q e1 S1 E1 r1 =>
    ⟨ι1, s1, ds, S1, r1, bltD_mono (fun _ _ h => h.ext e1) q⟩
/-- the type's name of data -/
def tyD : D → Option String
  | .tup _ => some "tuple"
  | .non => some "NoneType"
  | .bl _ => some "bool"
  | .int _ => some "int"
  | .str _ => some "str"
  | _ => none
theorem isi_ok {K : PySem.W.Frag} {d : D} {v : V} {t : String} {H : Hp} {ι : Io} (r : Rep K C H ι d v) (h : tyD d = some t) : TyX K H v (.type t) := by
  cases d with
  | tup xs =>
    cases h
    simp only [Rep] at r
    obtain ⟨a, vs, rfl, h1, _⟩ := r
    rcases h1 with ⟨h1 | ⟨o, h1⟩, _⟩ | ⟨o, its, n, hk, hc, _⟩
    · exact .base (.tup h1)
    · exact .fTuple h1
    · exact .kTuple hk hc
  | non => cases h; simp only [Rep] at r; subst r; exact .base .non
  | bl b => cases h; simp only [Rep] at r; subst r; exact .base (.bl b)
  | int b => cases h; simp only [Rep] at r; subst r; exact .base (.int b)
  | str b => cases h; simp only [Rep] at r; subst r; exact .base (.str b)
  | _ => cases h
/-! ### methods of the built-in types -/
theorem recv_lst {B : Mth} {x : D} {st : Sto} (hB : B = .append ∨ B = .pop0 ∨ B = .pop1 ∨ B = .extend) (h : recv B x st) : ∃ n xs, x = .loc n ∧ st[n]? = some (.lst xs) := by
  rcases hB with rfl | rfl | rfl | rfl <;> (unfold recv at h; split at h <;> first | exact h.elim | (split at h <;> first | exact ⟨_, _, rfl, by assumption⟩ | exact h.elim) | (rename_i z; cases z; done))
theorem e_mthL {id : String} {B : Mth} {name : Str} {apos : Pos} {e o : Expr} {mo : Ev → Sto → Kd → Prop} (hB : B = .append ∨ B = .pop0 ∨ B = .pop1 ∨ B = .extend)
    (slot : Slot "list" name id) (hty : typeOf (.builtin id) = pure (.type "method_descriptor")) (hm : MtR X id (rMt X.K C B)) (ho : PE X o (tE X.K C mo)) (oo : MonoE mo) (ha : PA X (e :: es) (tAr X.K C ml)) (ol : MonoL ml)
    (hbase : attributeBase o name X.env (eval o X.env) = eval o X.env)
    (hfew : ((backTo pos (starEach (e :: es) X.env)).all (fun x => !x.1) && (backToKw pos (keywordEach [] X.env)).all (fun x => x.1.isSome)
      && decide ((e :: es).length + ([] : List Keyword).length + (if ([] : List Keyword).isEmpty then 0 else 1) < 30)) = true)
    (hline : (apos.endLine == pos.line) = true) (hs : starEach (e :: es) X.env = (false, eval e X.env) :: starEach es X.env) (hplain : (backTo pos (starEach es X.env)).any (·.1) = false) :
    PE X (.Call (.Attribute o name apos) (e :: es) [] pos) (tE X.K C fun env st Q => mo env st fun x s1 => recv B x s1 ∧ ml env s1 fun xs s2 => mthD B x xs s2 Q) :=
  (pe_bm PySem.F.plainAttrs_list slot hty hm ho ha hbase hfew hline hs hplain).imp fun σ H Q ⟨ι, env, st, S, E, q⟩ => tE.step oo S E q fun d s1 x H1 ι1 q e1 S1 E1 r1 => by
    obtain ⟨q0, q⟩ := q
    obtain ⟨n, xs, rfl, hn⟩ := recv_lst hB q0
    obtain ⟨p, vs, rfl, hp, h1, h2⟩ := loc_lst S1 r1 hn
    refine ⟨.inl ⟨rfl, _, .of h1⟩, tAr.step ol S1 E1 q fun ds s2 ys H2 ι2 q e2 S2 E2 r2 => ⟨ι2, s2, _, ds, S2, r1.mono e2, r2, mthD_mono (fun _ _ h => h.ext (e1.trans e2)) q⟩⟩
theorem e_mthL0 {id : String} {B : Mth} {name : Str} {apos : Pos} {o : Expr} {mo : Ev → Sto → Kd → Prop} (hB : B = .append ∨ B = .pop0 ∨ B = .pop1 ∨ B = .extend)
    (slot : Slot "list" name id) (hty : typeOf (.builtin id) = pure (.type "method_descriptor")) (hm : MtR X id (rMt X.K C B)) (ho : PE X o (tE X.K C mo)) (oo : MonoE mo)
    (hbase : attributeBase o name X.env (eval o X.env) = eval o X.env) (hline : (apos.endLine == pos.line) = true) :
    PE X (.Call (.Attribute o name apos) [] [] pos) (tE X.K C fun env st Q => mo env st fun x s1 => recv B x s1 ∧ mthD B x [] s1 Q) :=
  (pe_bm0 PySem.F.plainAttrs_list slot hty hm ho hbase hline).imp fun σ H Q ⟨ι, env, st, S, E, q⟩ => tE.step oo S E q fun d s1 x H1 ι1 q e1 S1 E1 r1 => by
    obtain ⟨q0, q⟩ := q
    obtain ⟨n, xs, rfl, hn⟩ := recv_lst hB q0
    obtain ⟨p, vs, rfl, hp, h1, h2⟩ := loc_lst S1 r1 hn
    exact ⟨.inl ⟨rfl, _, .of h1⟩, ⟨ι1, s1, _, [], S1, r1, .nil, mthD_mono (fun _ _ h => h.ext e1) q⟩⟩
/-! ### targets -/
theorem g_name {i : Nat} {x : Str} (hN : X.N.Nodup) (hi : X.N[i]? = some x) (hx : Loc X.env.scope x) (hf : X.fn x = true ∨ X.env.scope.names.lookup x = some .local) : PG X (.Name x pos) (tG X.K C [i] fun d env st Q => Q (env.set i (some d)) st) :=
  (pg_name hN hi hx hf).imp fun v σ H Q ⟨ι, env, st, d, S, E, r, q⟩ => q _ H ι (.refl _ _) S (E.set r i) ⟨by simp, fun j hj => by
    rw [List.getElem?_set_ne]
    simpa using fun e => hj (by simp [e])⟩
theorem gs_nil : PGs X [] (tGs X.K C [] fun xs env st Q => xs = [] ∧ Q env st) :=
  pgs_nil.imp fun v σ H Q ⟨ι, env, st, d, S, E, r, q⟩ => by
    obtain ⟨rfl, q⟩ := q
    rw [Reps.nil_iff] at r
    exact ⟨r, q _ H ι (.refl _ _) S E (.refl _ _)⟩
theorem gs_cons {e : Expr} {vs ws : List Nat} {mg : D → Ev → Sto → (Ev → Sto → Prop) → Prop} {mgs : List D → Ev → Sto → (Ev → Sto → Prop) → Prop} (h1 : PG X e (tG X.K C vs mg)) (h2 : PGs X es (tGs X.K C ws mgs)) (o1 : MonoG mg) (o2 : MonoGs mgs)
    (hs : (assignEach (e :: es) X.env).map (·.2) = assign e X.env :: (assignEach es X.env).map (·.2)) :
    PGs X (e :: es) (tGs X.K C (vs ++ ws) fun xs env st Q => (match xs with
    | [] => False
    | x :: r => mg x env st fun e1 s1 => mgs r e1 s1 Q)) :=
  (pgs_cons h1 h2 hs).imp fun v σ H Q ⟨ι, env, st, d, S, E, r, q⟩ => by
    cases d with
    | nil => exact q.elim
    | cons x ds =>
      obtain ⟨y, ys, rfl, r1, r2⟩ := Reps.cons_iff.mp r
      refine ⟨y, ys, rfl, ι, env, st, x, S, E, r1, o1 _ _ _ _ _ (fun env1 st1 q1 σ1 H1 ι1 e1 S1 E1 O1 => ?_) q⟩
      exact ⟨ι1, env1, st1, ds, S1, E1, r2.mono e1, o2 _ _ _ _ _ (fun env2 st2 q2 σ2 H2 ι2 e2 S2 E2 O2 => q2 σ2 H2 ι2 (e1.trans e2) S2 E2
        ⟨O2.1.trans O1.1, fun j hj => (O2.2 j fun z => hj (List.mem_append_right _ z)).trans (O1.2 j fun z => hj (List.mem_append_left _ z))⟩) q1⟩
theorem g_tup {k n : Nat} {vs : List Nat} {mgs : List D → Ev → Sto → (Ev → Sto → Prop) → Prop} (hc : X.calm = true) (h : PGs X es (tGs X.K C vs mgs)) (hn : (assignEach es X.env).length = n) (hst : (assignEach es X.env).findIdx? (·.1) = none) :
    PG X (.Tuple es k pos) (tG X.K C vs fun d env st Q => (match d with
    | .tup xs => xs.length = n ∧ mgs xs env st Q
    | _ => False)) :=
  (pg_tup hc h hn hst).imp fun v σ H Q ⟨ι, env, st, d, S, E, r, q⟩ => by
    cases d with
    | tup xs =>
      obtain ⟨a, ws, rfl, h1, h2⟩ := tup_ok r
      exact ⟨a, ws, rfl, h1, by rw [← h2.length]; exact q.1, ι, env, st, xs, S, E, h2, q.2⟩
    | _ => exact q.elim
theorem g_sub (ha : PE X a (tE X.K C ma)) (hb : PE X b (tE X.K C mb)) (oa : MonoE ma) (ob : MonoE mb)
    (hs : ∀ v, assign (.Subscript a b pos) X.env v = (do
      let ov ← holding [v] (eval a X.env)
      let iv ← holding [v, ov] (eval b X.env)
      standAt pos
      holding [v, ov, iv] (setItem ov iv v)
      release [v, ov, iv] [])) : PG X (.Subscript a b pos) (tG X.K C [] fun d env st Q => ma env st fun x s1 => mb env s1 fun y s2 => setD x y d s2 fun s3 => Q env s3) :=
  (pg_sub ha hb set_ok hs).imp fun v σ H Q ⟨ι, env, st, d, S, E, r, q⟩ => tE.step oa S E q fun d1 s1 x H1 ι1 q e1 S1 E1 r1 => tE.step ob S1 E1 q fun d2 s2 y H2 ι2 q e2 S2 E2 r2 =>
    ⟨ι2, s2, d1, d2, d, S2, r1.mono e2, r2, (r.mono e1).mono e2, setD_mono (fun s h H' ι' e3 S3 => h σ H' ι' ((e1.trans e2).trans e3) S3 (E2.mono e3) (.refl _ _)) q⟩
end

/-! ### comprehensions -/
section
variable {K : PySem.W.Frag} {C : Nat → Addr}
/-- what was set aside becomes the newest mutable object -/
theorem Sim.adopt {H : Hp} {l z : List Addr} {p : Addr} {st : Sto} {o : HO} {d : D} (S : Sim K C H ⟨l, p :: z⟩ st) (hz : p ∉ z) (h : H p = some o) (r : RepO K C H ⟨l, p :: z⟩ d o) :
    Kp H ⟨l, p :: z⟩ H ⟨l ++ [p], z⟩ ∧ Sim K C H ⟨l ++ [p], z⟩ (st ++ [d]) := by
  have hl : p ∉ l := (S.zin p List.mem_cons_self).2
  have e : Kp H ⟨l, p :: z⟩ H ⟨l ++ [p], z⟩ := by
    refine ⟨List.prefix_append _ _, fun a u h1 n => ⟨h1, ?_, fun q => n.2 (List.mem_cons_of_mem _ q)⟩⟩
    show ¬ a ∈ l ++ [p]
    rw [List.mem_append, List.mem_singleton]
    rintro (q | q)
    · exact n.1 q
    · exact n.2 (by rw [q]; exact List.mem_cons_self)
  have len : l.length = st.length := S.len
  refine ⟨e, by simp [len], ?_, fun a ha => ⟨(S.zin a (List.mem_cons_of_mem _ ha)).1, ?_⟩, fun n x a h1 h2 => ?_⟩
  · show (l ++ [p]).Nodup
    rw [List.nodup_append]
    exact ⟨S.nd, by simp, by rintro a ha b hb rfl; simp at hb; subst hb; exact hl ha⟩
  · show a ∉ l ++ [p]
    rw [List.mem_append, List.mem_singleton]
    rintro (q | q)
    · exact (S.zin a (List.mem_cons_of_mem _ ha)).2 q
    · exact hz (by rw [← q]; exact ha)
  · have h2 : (l ++ [p])[n]? = some a := h2
    by_cases hn : n < st.length
    · rw [List.getElem?_append_left hn] at h1
      rw [List.getElem?_append_left (by omega)] at h2
      obtain ⟨u, h3, h4⟩ := S.at_ n x a h1 h2
      exact ⟨u, h3, h4.kp e⟩
    · have hl : n = st.length := by
        have := (List.getElem?_eq_some_iff.mp h1).1
        simp at this; omega
      subst hl
      rw [List.getElem?_append_right (Nat.le_refl _)] at h1
      rw [← len, List.getElem?_append_right (Nat.le_refl _)] at h2
      simp at h1 h2
      subst h1 h2
      exact ⟨o, h, r.kp e⟩
/-- a state of a comprehension: the list at p, set aside, holds acc -/
structure LcSt (K : PySem.W.Frag) (C : Nat → Addr) (H1 : Hp) (ι1 : Io) (p : Addr) (H : Hp) (ι : Io) (st : Sto) (acc : List D) (vs : List V) : Prop where
  kp : Kp H1 ι1 H ι
  z : ι.z = p :: ι1.z
  pz : p ∉ ι1.z
  hid : ∀ a ∈ ι1.z, H a = H1 a
  sim : Sim K C H ι st
  at_ : H p = some (.lst vs)
  rep : Reps K C H ι acc vs
section
variable {H1 H H' : Hp} {ι1 ι ι' : Io} {p : Addr} {st st' : Sto} {acc : List D} {vs : List V}
theorem LcSt.begin (S : Sim K C H ι st) (h : H p = none) : LcSt K C H ι p (upd H p (.lst [])) ⟨ι.l, p :: ι.z⟩ st [] [] := by
  obtain ⟨e, S'⟩ := S.hide (o := .lst []) h
  have np := (S.fresh h).2
  exact ⟨e, rfl, np, fun a ha => upd_ne fun z => np (by rw [← z]; exact ha), S', upd_same, .nil⟩
theorem LcSt.ext (L : LcSt K C H1 ι1 p H ι st acc vs) (e : Ext H ι H' ι') (S : Sim K C H' ι' st') : LcSt K C H1 ι1 p H' ι' st' acc vs :=
  ⟨L.kp.trans e.toKp, e.zeq.trans L.z, L.pz, fun a ha => (e.hid a (by rw [L.z]; exact List.mem_cons_of_mem _ ha)).trans (L.hid a ha), S, (e.hid p (by rw [L.z]; exact List.mem_cons_self)).trans L.at_, L.rep.mono e⟩
theorem LcSt.push (L : LcSt K C H1 ι1 p H ι st acc vs) {d : D} {v : V} (r : Rep K C H ι d v) : LcSt K C H1 ι1 p (upd H p (.lst (vs ++ [v]))) ι st (acc ++ [d]) (vs ++ [v]) := by
  obtain ⟨e, S⟩ := L.sim.side (o := .lst (vs ++ [v])) (p := p) (by rw [L.z]; exact List.mem_cons_self)
  exact ⟨L.kp.trans e, L.z, L.pz, fun a ha => by rw [upd_ne fun z => L.pz (by rw [← z]; exact ha)]; exact L.hid a ha, S, upd_same, (L.rep.append (.one r)).kp e⟩
theorem LcSt.fin (L : LcSt K C H1 ι1 p H ι st acc vs) {H0 : Hp} {ι0 : Io} (e : Ext H0 ι0 H1 ι1) {m : Bool} {Q : VK} (q : new m (.lst acc) st (Post K C H0 ι0 Q)) : Q (.ref p) H := by
  obtain ⟨l, z⟩ := ι
  obtain rfl : z = p :: ι1.z := L.z
  have S := L.sim
  unfold new at q
  split at q
  · obtain ⟨k, S'⟩ := S.adopt (d := .lst acc) L.pz L.at_ (by simpa only [RepO] using L.rep)
    have e2 : Ext H1 ι1 H ⟨l ++ [p], ι1.z⟩ := ⟨L.kp.trans k, rfl, L.hid⟩
    refine q _ _ _ (e.trans e2) S' ?_
    simp only [Rep]
    have len : l.length = st.length := S.len
    exact ⟨p, rfl, by rw [← len, List.getElem?_append_right (Nat.le_refl _)]; simp⟩
  · have e2 : Ext H1 ι1 H ⟨l, ι1.z⟩ := ⟨L.kp.trans (.show p l ι1.z), rfl, L.hid⟩
    refine q _ _ _ (e.trans e2) S.show ?_
    simp only [Rep]
    exact ⟨p, vs, rfl, L.at_, ⟨(S.zin p List.mem_cons_self).2, L.pz⟩, L.rep.kp (.show p l ι1.z)⟩
end
end
section
variable {X : Cx} {C : Nat → Addr} {elt tg iter tg1 iter1 : Expr} {ifs ifs1 : List Expr} {pos : Pos} {me : Ev → Sto → Kd → Prop} {mc mc1 : Ev → Sto → (Bool → Sto → Prop) → Prop} {mg mg1 : D → Ev → Sto → (Ev → Sto → Prop) → Prop} {mi mi1 : Ev → Sto → (Its → Sto → Prop) → Prop}
theorem drop_cons {α : Type} {l : List α} {i : Nat} (h : i < l.length) : l.drop i = l[i] :: l.drop (i + 1) := List.drop_eq_getElem_cons h
theorem lc_read {m : Bool} {vs ws : List Nat} (hs : ∀ j ∈ vs, j ∈ ws) (og : MonoG mg) (oc : MonoB mc) (oe : MonoE me) (oi : MonoI mi) {σ : L2.St} {H : Hp} {Q : VK}
    (h : tE X.K C (fun env st Q => mi env st fun J s1 => lcW (fun x s K => mg x (wipeE env ws) s K) (fun e s K => mc e s K) (fun e s K => me e s K) J.keep (fun acc s2 => new m (.lst acc) s2 Q) J.items [] s1) σ H Q) :
    tLc (tIt X.K C mi) (tG X.K C vs mg) (MI.tB X.K C mc) (tE X.K C me) ws σ H Q := by
  obtain ⟨ι, env, st, S, E, q⟩ := h
  refine ⟨ι, env, st, S, E, oi _ _ _ _ (fun J s1 q T H1 ι1 e1 S1 its p hp => ?_) q⟩
  refine ⟨fun i mm H' => mm = J.items.length - i ∧ i ≤ J.items.length ∧ ∃ ι' st' acc vs', LcSt X.K C H1 ι1 p H' ι' st' acc vs' ∧
    lcW (fun x s K => mg x (wipeE env ws) s K) (fun e s K => mc e s K) (fun e s K => me e s K) J.keep (fun acc s2 => new m (.lst acc) s2 (Post X.K C H ι Q)) (J.items.drop i) acc st',
    ⟨J.items.length, by omega, Nat.zero_le _, _, s1, [], [], .begin S1 hp, q⟩, ?_⟩
  rintro i mm H' ⟨rfl, hi, ι', st', acc, vs', L, q⟩
  by_cases hlt : i < J.items.length
  · rw [drop_cons hlt] at q
    obtain ⟨hk, q⟩ := q
    obtain ⟨go, yl⟩ := (its i H' ι' st' L.kp L.sim hk).1 hlt
    refine .inr ⟨go, fun H'' => ∃ ι' st' acc vs', LcSt X.K C H1 ι1 p H'' ι' st' acc vs' ∧ lcW (fun x s K => mg x (wipeE env ws) s K) (fun e s K => mc e s K) (fun e s K => me e s K) J.keep (fun acc s2 => new m (.lst acc) s2 (Post X.K C H ι Q)) (J.items.drop (i + 1)) acc st',
      fun H'' w => ⟨J.items.length - (i + 1), by omega, rfl, hlt, w⟩, fun x H2 y => ?_⟩
    obtain ⟨d, ed, e2, S2, r2⟩ := yl x H2 y
    rw [List.getElem?_eq_getElem hlt] at ed
    cases ed
    have L2' := L.ext e2 S2
    refine ⟨ι', wipeE env ws, st', _, S2, ((E.mono e1).kp (L.kp.trans e2.toKp)).wipe ws, r2, og _ _ _ _ _ (fun env3 st3 q σ3 H3 ι3 e3 S3 E3 O3 => ?_) q⟩
    refine ⟨by rw [O3.wipe hs, wipe_wipe], tB.step oc S3 E3 q fun b s4 H4 ι4 q e4 S4 E4 => ?_⟩
    have L4 := L2'.ext (e3.trans e4) S4
    cases b with
    | true =>
      simp only [if_true] at q ⊢
      exact tE.step oe S4 E4 q fun d5 s5 v5 H5 ι5 q e5 S5 E5 r5 => by
        have L5 := L4.ext e5 S5
        exact ⟨vs', L5.at_, by rw [← L5.rep.length]; exact q.1, ι5, s5, _, _, L5.push r5, q.2⟩
    | false =>
      simp only [Bool.false_eq_true, if_false] at q ⊢
      exact ⟨ι4, s4, acc, vs', L4, q⟩
  · have e : i = J.items.length := by omega
    subst e
    rw [List.drop_length] at q
    exact .inl ⟨(its _ H' ι' st' L.kp L.sim q.1).2 (Nat.le_refl _), L.fin e1 q.2⟩
theorem lc2_read {m : Bool} {vs ws vs1 ws1 : List Nat} (hs : ∀ j ∈ vs, j ∈ ws) (hs1 : ∀ j ∈ vs1, j ∈ ws1) (og : MonoG mg) (oc : MonoB mc) (oe : MonoE me) (oi : MonoI mi) (og1 : MonoG mg1) (oc1 : MonoB mc1) (oi1 : MonoI mi1) {σ : L2.St} {H : Hp} {Q : VK}
    (h : tE X.K C (fun env st Q => mi env st fun J s1 => lcW2 (fun x s K => mg x (wipeE env ws) s K) (fun e s K => mc e s K)
        (fun e acc s K => mi1 e s fun J1 s' => lcW (fun x s K => mg1 x (wipeE e ws1) s K) (fun e s K => mc1 e s K) (fun e s K => me e s K) J1.keep K J1.items acc s')
        J.keep (fun acc s2 => new m (.lst acc) s2 Q) J.items [] s1) σ H Q) :
    tLc2 (tIt X.K C mi) (tG X.K C vs mg) (MI.tB X.K C mc) (tIt X.K C mi1) (tG X.K C vs1 mg1) (MI.tB X.K C mc1) (tE X.K C me) ws ws1 σ H Q := by
  obtain ⟨ι, env, st, S, E, q⟩ := h
  refine ⟨ι, env, st, S, E, oi _ _ _ _ (fun J s1 q T H1 ι1 e1 S1 its p hp => ?_) q⟩
  generalize hW : (lcW2 (fun x s K => mg x (wipeE env ws) s K) (fun e s K => mc e s K)
        (fun e acc s K => mi1 e s fun J1 s' => lcW (fun x s K => mg1 x (wipeE e ws1) s K) (fun e s K => mc1 e s K) (fun e s K => me e s K) J1.keep K J1.items acc s')
        J.keep (fun acc s2 => new m (.lst acc) s2 (Post X.K C H ι Q))) = W at q
  refine ⟨fun i mm H' => mm = J.items.length - i ∧ i ≤ J.items.length ∧ ∃ ι' st' acc vs', LcSt X.K C H1 ι1 p H' ι' st' acc vs' ∧ W (J.items.drop i) acc st',
    ⟨J.items.length, by omega, Nat.zero_le _, _, s1, [], [], .begin S1 hp, q⟩, ?_⟩
  rintro i mm H' ⟨rfl, hi, ι', st', acc, vs', L, q⟩
  by_cases hlt : i < J.items.length
  · rw [drop_cons hlt, ← hW] at q
    obtain ⟨hk, q⟩ := q
    obtain ⟨go, yl⟩ := (its i H' ι' st' L.kp L.sim hk).1 hlt
    refine .inr ⟨go, fun H'' => ∃ ι' st' acc vs', LcSt X.K C H1 ι1 p H'' ι' st' acc vs' ∧ W (J.items.drop (i + 1)) acc st',
      fun H'' w => ⟨J.items.length - (i + 1), by omega, rfl, hlt, w⟩, fun x H2 y => ?_⟩
    obtain ⟨d, ed, e2, S2, r2⟩ := yl x H2 y
    rw [List.getElem?_eq_getElem hlt] at ed
    cases ed
    have L2' := L.ext e2 S2
    refine ⟨ι', wipeE env ws, st', _, S2, ((E.mono e1).kp (L.kp.trans e2.toKp)).wipe ws, r2, og _ _ _ _ _ (fun env3 st3 q σ3 H3 ι3 e3 S3 E3 O3 => ?_) q⟩
    refine ⟨by rw [O3.wipe hs, wipe_wipe], tB.step oc S3 E3 q fun b s4 H4 ι4 q e4 S4 E4 => ?_⟩
    have L4 := L2'.ext (e3.trans e4) S4
    cases b with
    | true =>
      simp only [if_true] at q ⊢
      refine ⟨ι4, env3, s4, S4, E4, oi1 _ _ _ _ (fun J1 s5 q T1 H5 ι5 e5 S5 its1 => ?_) q⟩
      have L5 := L4.ext e5 S5
      have E5 := E4.mono e5
      rw [hW] at q
      refine ⟨fun j kk H' => kk = J1.items.length - j ∧ j ≤ J1.items.length ∧ ∃ ι' st' acc vs', LcSt X.K C H1 ι1 p H' ι' st' acc vs' ∧ Kp H5 ι5 H' ι' ∧
        lcW (fun x s K => mg1 x (wipeE env3 ws1) s K) (fun e s K => mc1 e s K) (fun e s K => me e s K) J1.keep (W (J.items.drop (i + 1))) (J1.items.drop j) acc st',
        ⟨J1.items.length, by omega, Nat.zero_le _, _, s5, acc, vs', L5, (Ext.refl _ _).toKp, q⟩, ?_⟩
      rintro j kk H6 ⟨rfl, hj, ι6, st6, acc6, vs6, L6, k6, q⟩
      by_cases hlt1 : j < J1.items.length
      · rw [drop_cons hlt1] at q
        obtain ⟨hk1, q⟩ := q
        obtain ⟨go1, yl1⟩ := (its1 j H6 ι6 st6 k6 L6.sim hk1).1 hlt1
        refine .inr ⟨go1, fun H' => ∃ ι' st' acc vs', LcSt X.K C H1 ι1 p H' ι' st' acc vs' ∧ Kp H5 ι5 H' ι' ∧
          lcW (fun x s K => mg1 x (wipeE env3 ws1) s K) (fun e s K => mc1 e s K) (fun e s K => me e s K) J1.keep (W (J.items.drop (i + 1))) (J1.items.drop (j + 1)) acc st',
          fun H'' w => ⟨J1.items.length - (j + 1), by omega, rfl, hlt1, w⟩, fun x H7 y => ?_⟩
        obtain ⟨d, ed, e7, S7, r7⟩ := yl1 x H7 y
        rw [List.getElem?_eq_getElem hlt1] at ed
        cases ed
        have L7 := L6.ext e7 S7
        refine ⟨ι6, wipeE env3 ws1, st6, _, S7, (E5.kp (k6.trans e7.toKp)).wipe ws1, r7, og1 _ _ _ _ _ (fun env8 st8 q σ8 H8 ι8 e8 S8 E8 O8 => ?_) q⟩
        refine ⟨by rw [O8.wipe hs1, wipe_wipe], tB.step oc1 S8 E8 q fun b s9 H9 ι9 q e9 S9 E9 => ?_⟩
        have L9 := L7.ext (e8.trans e9) S9
        have k9 : Kp H5 ι5 H9 ι9 := k6.trans (e7.trans (e8.trans e9)).toKp
        cases b with
        | true =>
          simp only [if_true] at q ⊢
          exact tE.step oe S9 E9 q fun d10 s10 v10 H10 ι10 q e10 S10 E10 r10 => by
            have L10 := L9.ext e10 S10
            obtain ⟨e11, _⟩ := S10.side (o := .lst (vs6 ++ [v10])) (p := p) (by rw [L10.z]; exact List.mem_cons_self)
            exact ⟨vs6, L10.at_, by rw [← L10.rep.length]; exact q.1, ι10, s10, _, _, L10.push r10, (k9.trans e10.toKp).trans e11, q.2⟩
        | false =>
          simp only [Bool.false_eq_true, if_false] at q ⊢
          exact ⟨ι9, s9, acc6, vs6, L9, k9, q⟩
      · have e : j = J1.items.length := by omega
        subst e
        rw [List.drop_length] at q
        exact .inl ⟨(its1 _ H6 ι6 st6 k6 L6.sim q.1).2 (Nat.le_refl _), ι6, st6, acc6, vs6, L6, q.2⟩
    | false =>
      simp only [Bool.false_eq_true, if_false] at q ⊢
      rw [hW] at q
      exact ⟨ι4, s4, acc, vs', L4, q⟩
  · have e : i = J.items.length := by omega
    subst e
    rw [List.drop_length, ← hW] at q
    exact .inl ⟨(its _ H' ι' st' L.kp L.sim q.1).2 (Nat.le_refl _), L.fin e1 q.2⟩
end
end MI

set_option maxRecDepth 100000
/-! MI, part 9: from the program's own text to the language; what that is worth (expressions). -/
namespace MI
open PySem PySem.Spec PyProof.Rows L2

/-- what a global name is -/
inductive GK where
  | fn (i n : Nat)
  | con (d : D)
structure Gam where
  N : List Str
  sc : Scope
  fn : Str → Bool
  gl : List (Str × GK)
  bl : List Str
  mu : List (Nat × Nat × Nat)
def Gam.mut (Γ : Gam) (p : Pos) : Bool := Γ.mu.any fun q => q.1 == p.line && q.2.1 == p.col && q.2.2 == p.endCol
def Gam.slot (Γ : Gam) (x : Str) : Option Nat := match Γ.N.findIdx? (fun y => decide (y = x)) with
  | some i => if Γ.N[i]? = some x then some i else none
  | none => none
def Gam.own (Γ : Gam) (scope : Scope) : List (Str × Nat) := scope.names.filterMap fun y => match y.2 with
  | .local => (Γ.slot y.1).map fun i => (y.1, i)
  | .cell => (Γ.slot y.1).map fun i => (y.1, i)
  | _ => none
def Gam.blk (Γ : Gam) (scope : Scope) : Gam := { Γ with sc := relS scope Γ.sc, fn := fun x => scope.names.lookup x == some .cell }
def Gam.isGl (Γ : Gam) (x : Str) : Bool := match Γ.sc.names.lookup x with
  | some .globalImplicit => true
  | _ => false
def Gam.isBl (Γ : Gam) (x : Str) : Bool := Γ.isGl x && decide (x ∈ Γ.bl)
def okName (x : Str) : Bool := !(x == ("__debug__" : Str)) && !(x == ("__classdict__" : Str))

def isStar : Expr → Bool
  | .Starred _ _ => true
  | _ => false
def isSet : Expr → Bool
  | .Set _ _ _ => true
  | _ => false
def isSlice : Expr → Bool
  | .Slice _ _ _ _ => true
  | _ => false
def isComp : Expr → Bool
  | .ListComp _ _ _ _ => true
  | .SetComp _ _ _ _ => true
  | .DictComp _ _ _ _ _ => true
  | _ => false
def isTest : Expr → Bool
  | .UnaryOp .Not _ _ => true
  | .BoolOp _ _ _ => true
  | .IfExp _ _ _ _ => true
  | .Compare _ _ _ _ => true
  | _ => false
def isRecv : Expr → Bool
  | .Name _ _ => true
  | .Attribute _ _ _ => true
  | .Subscript _ _ _ => true
  | .Constant _ _ _ => true
  | _ => false
def bop : Operator → Option BOp
  | .Add => some .add
  | .Sub => some .sub
  | .Mult => some .mul
  | .FloorDiv => some .fdiv
  | .Mod => some .mod
  | .Pow => some .pow
  | _ => none
def cop : CmpOp → Option COp
  | .Eq => some .eq
  | .NotEq => some .ne
  | .Lt => some .lt
  | .LtE => some .le
  | .Gt => some .gt
  | .GtE => some .ge
  | .In => some .isIn
  | .NotIn => some .notIn
  | .Is => some .is_
  | .IsNot => some .isnt
def bltOf (x : Str) (n : Nat) : Option Blt :=
  if x = "len" ∧ n = 1 then some .len else
  if x = "int" ∧ n = 1 then some .int else
  if x = "list" ∧ n = 1 then some .list else
  if x = "tuple" ∧ n = 1 then some .tuple else
  if x = "sum" ∧ n = 1 then some .sum else
  if x = "max" ∧ n = 2 then some .max2 else
  if x = "min" ∧ n = 2 then some .min2 else
  if x = "any" ∧ n = 1 then some .any else
  if x = "all" ∧ n = 1 then some .all else none
def isiOf (x : Str) : Option Blt :=
  if x = "tuple" then some .isTuple else
  if x = "int" then some .isInt else
  if x = "bool" then some .isBool else
  if x = "str" then some .isStr else none
def mthOf (x : Str) (n : Nat) : Option Mth :=
  if x = "append" ∧ n = 1 then some .append else
  if x = "pop" ∧ n = 0 then some .pop0 else
  if x = "pop" ∧ n = 1 then some .pop1 else
  if x = "extend" ∧ n = 1 then some .extend else none

mutual
def slots : ST → List Nat
  | .nm i => [i]
  | .tup ts => slotsL ts
  | .sub _ _ => []
def slotsL : List ST → List Nat
  | [] => []
  | t :: ts => slots t ++ slotsL ts
end

mutual
def cE : Nat → Gam → Expr → Option SE
  | 0, _, _ => none
  | n + 1, Γ, e => match e with
    | .Name x _ => if okName x then (match Γ.sc.names.lookup x with
      | some .local => (Γ.slot x).map .var
      | some .cell => (Γ.slot x).map .var
      | some .free => (Γ.slot x).map .var
      | some .globalImplicit => (match Γ.gl.lookup x with
        | some (.con d) => some (.con d)
        | _ => none)
      | _ => none) else none
    | .Constant c _ _ => (match c with
      | .int i => some (.con (.int i))
      | .bool b => some (.con (.bl b))
      | .str s => some (.con (.str s))
      | .none => some (.con .non)
      | _ => none)
    | .BinOp a o b pos => do
      let o ← bop o
      let a ← cE n Γ a
      let b ← cE n Γ b
      some (.bin o (Γ.mut pos) a b)
    | .UnaryOp o a _ => (match o with
      | .USub => (cE n Γ a).map .neg
      | .Not => (cE n Γ a).map .lnot
      | _ => none)
    | .BoolOp o es _ => (match o with
      | .And => cAnd n Γ es
      | .Or => cOr n Γ es)
    | .IfExp t a b _ => do
      let t ← cB n Γ t
      let a ← cE n Γ a
      let b ← cE n Γ b
      some (.ifx t a b)
    | .Compare l ops rs _ => (match ops, rs with
      | [o], [r] => if isSet r then none else do
        let o ← cop o
        let l ← cE n Γ l
        let r ← cE n Γ r
        some (.cmp o l r)
      | [o, o'], [r, r'] => if isSet r' then none else do
        let o ← cop o
        let o' ← cop o'
        let l ← cE n Γ l
        let r ← cE n Γ r
        let r' ← cE n Γ r'
        some (.chain o o' l r r')
      | _, _ => none)
    | .Tuple es _ _ => (cEs n Γ es).map .tup
    | .List es pos => (cEs n Γ es).map (.lst (Γ.mut pos))
    | .Subscript a i pos => (match i with
      | .Slice lo hi st _ => (match st with
        | none => do
          let a ← cE n Γ a
          let lo ← cO n Γ lo
          let hi ← cO n Γ hi
          some (.slc (Γ.mut pos) a lo hi)
        | some (.UnaryOp .USub (.Constant (.int 1) _ _) _) => (match lo, hi with
          | none, none => (cE n Γ a).map (.rev (Γ.mut pos))
          | _, _ => none)
        | _ => none)
      | i => do
        let a ← cE n Γ a
        let i ← cE n Γ i
        some (.idx a i))
    | .ListComp elt gs scope pos => (match gs with
      | [⟨tg, it, ifs, 0⟩] =>
        let own := Γ.own scope
        if blkC Γ.N Γ.sc scope own then do
          let it' ← cI n Γ tg it
          let tg' ← cT n (Γ.blk scope) tg
          let c' ← cC n (Γ.blk scope) ifs
          let elt' ← cE n (Γ.blk scope) elt
          if (slots tg').all (fun j => decide (j ∈ own.map (·.2))) && !isSet it then some (.lc (Γ.mut pos) elt' tg' it' c' (own.map (·.2))) else none
        else none
      | [⟨tg, it, ifs, 0⟩, ⟨tg1, it1, ifs1, 0⟩] =>
        let own := Γ.own scope
        if blkC Γ.N Γ.sc scope own then do
          let it' ← cI n Γ tg it
          let tg' ← cT n (Γ.blk scope) tg
          let c' ← cC n (Γ.blk scope) ifs
          let it1' ← cI n (Γ.blk scope) tg1 it1
          let tg1' ← cT n (Γ.blk scope) tg1
          let c1' ← cC n (Γ.blk scope) ifs1
          let elt' ← cE n (Γ.blk scope) elt
          if (slots tg').all (fun j => decide (j ∈ own.map (·.2))) && (slots tg1').all (fun j => decide (j ∈ own.map (·.2))) && !isSet it && !isSet it1 then
            some (.lc2 (Γ.mut pos) elt' tg' it' c' tg1' it1' c1' (own.map (·.2)) (slots tg1')) else none
        else none
      | _ => none)
    | .Call f es kws pos => (match kws with
      | [] => (match f with
        | .Name x _ => if okName x && Γ.isGl x && !(x == ("__name__" : Str)) && es.all (fun e => !isStar e) then
            (match Γ.gl.lookup x with
            | some (.fn i m) => if es.length = m then (cEs n Γ es).map (.call i) else none
            | some _ => none
            | none => if decide (x ∈ Γ.bl) then
                (match es with
                | [] => none
                | e :: r => if x = "isinstance" then (match r with
                    | [.Name t _] => if okName t && Γ.isBl t && !(t == ("__name__" : Str)) then do
                        let b ← isiOf t
                        let e ← cE n Γ e
                        some (.blt b false [e])
                      else none
                    | _ => none)
                  else do
                    let b ← bltOf x es.length
                    let es ← cEs n Γ (e :: r)
                    some (.blt b (Γ.mut pos) es))
              else none)
          else none
        | .Attribute o m apos => if isRecv o && es.all (fun e => !isStar e) && (apos.endLine == pos.line) && decide (es.length < 20) then do
            let b ← mthOf m es.length
            let o ← cE n Γ o
            let es ← cEs n Γ es
            some (.mth b o es)
          else none
        | _ => none)
      | _ => none)
    | _ => none
def cEs : Nat → Gam → List Expr → Option (List SE)
  | 0, _, _ => none
  | n + 1, Γ, l => match l with
    | [] => some []
    | e :: r => if isStar e then none else do
      let e ← cE n Γ e
      let r ← cEs n Γ r
      some (e :: r)
def cAnd : Nat → Gam → List Expr → Option SE
  | 0, _, _ => none
  | n + 1, Γ, l => match l with
    | [] => none
    | [e] => cE n Γ e
    | e :: r => do
      let e ← cE n Γ e
      let r ← cAnd n Γ r
      some (.land e r)
def cOr : Nat → Gam → List Expr → Option SE
  | 0, _, _ => none
  | n + 1, Γ, l => match l with
    | [] => none
    | [e] => cE n Γ e
    | e :: r => do
      let e ← cE n Γ e
      let r ← cOr n Γ r
      some (.lor e r)
def cB : Nat → Gam → Expr → Option SB
  | 0, _, _ => none
  | n + 1, Γ, e => match e with
    | .UnaryOp .Not a _ => (cB n Γ a).map .lnot
    | .BoolOp o es _ => (match o with
      | .And => cBAnd n Γ es
      | .Or => cBOr n Γ es)
    | .Compare l ops rs _ => (match ops, rs with
      | [o], [r] => if isSet r then none else do
        let o ← cop o
        let l ← cE n Γ l
        let r ← cE n Γ r
        some (.cmp o l r)
      | [o, o'], [r, r'] => if isSet r' then none else do
        let o ← cop o
        let o' ← cop o'
        let l ← cE n Γ l
        let r ← cE n Γ r
        let r' ← cE n Γ r'
        some (.chain o o' l r r')
      | _, _ => none)
    | e => if isTest e then none else (cE n Γ e).map .val
def cBAnd : Nat → Gam → List Expr → Option SB
  | 0, _, _ => none
  | n + 1, Γ, l => match l with
    | [] => none
    | [e] => cB n Γ e
    | e :: r => do
      let e ← cB n Γ e
      let r ← cBAnd n Γ r
      some (.land e r)
def cBOr : Nat → Gam → List Expr → Option SB
  | 0, _, _ => none
  | n + 1, Γ, l => match l with
    | [] => none
    | [e] => cB n Γ e
    | e :: r => do
      let e ← cB n Γ e
      let r ← cBOr n Γ r
      some (.lor e r)
def cO : Nat → Gam → Option Expr → Option (Option SE)
  | 0, _, _ => none
  | n + 1, Γ, o => match o with
    | none => some none
    | some e => (cE n Γ e).map some
def cC : Nat → Gam → List Expr → Option (Option SB)
  | 0, _, _ => none
  | n + 1, Γ, l => match l with
    | [] => some none
    | [e] => (cB n Γ e).map some
    | _ => none
def cT : Nat → Gam → Expr → Option ST
  | 0, _, _ => none
  | n + 1, Γ, e => match e with
    | .Name x _ => (match Γ.sc.names.lookup x with
      | some .local => (Γ.slot x).map .nm
      | some .cell => if Γ.fn x then (Γ.slot x).map .nm else none
      | _ => none)
    | .Tuple es _ _ => (cTs n Γ es).map .tup
    | .Subscript o i _ => if isSlice i then none else do
      let o ← cE n Γ o
      let i ← cE n Γ i
      some (.sub o i)
    | _ => none
def cTs : Nat → Gam → List Expr → Option (List ST)
  | 0, _, _ => none
  | n + 1, Γ, l => match l with
    | [] => some []
    | e :: r => if isStar e then none else do
      let e ← cT n Γ e
      let r ← cTs n Γ r
      some (e :: r)
def cI : Nat → Gam → Expr → Expr → Option SI
  | 0, _, _, _ => none
  | n + 1, Γ, tg, it => match it with
    | .Call (.Name x _) es [] _ => if x = "range" ∧ Γ.isBl "range" = true then (match es with
        | [a] => (cE n Γ a).map .rng1
        | [a, b] => do
          let a ← cE n Γ a
          let b ← cE n Γ b
          some (.rng2 a b)
        | [a, b, c] => do
          let a ← cE n Γ a
          let b ← cE n Γ b
          let c ← cE n Γ c
          some (.rng3 a b c)
        | _ => none)
      else if x = "enumerate" ∧ Γ.isBl "enumerate" = true then (match es with
        | [a] => (match tg with
          | .Tuple _ _ _ => (cE n Γ a).map .enum
          | _ => none)
        | _ => none)
      else (cE n Γ it).map .seq
    | it => (cE n Γ it).map .seq
end
end MI

set_option maxRecDepth 100000
/-! MI, part 10: the compiled expression asks enough. -/
namespace MI
open PySem PySem.Spec PyProof.Rows L2

structure Fx (Γ : Gam) (Φ : Fns) (C : Nat → Addr) (k : Nat) (X : Cx) : Prop where
  N : X.N = Γ.N
  nd : X.N.Nodup
  sc : X.env.scope = Γ.sc
  fn : X.fn = Γ.fn
  calm : X.calm = true
  room : Room k X.A
  mono : ∀ f, MonoFn (Φ f)
  gfn : ∀ x i n, Γ.gl.lookup x = some (.fn i n) → ∃ f fd ps, X.mg x = some (.ref f) ∧ PySem.W.keepIn X.K (.ref f) = true ∧ Binds X.K fd ps [] ∧ FnOk X.prog X.w X.K X.mg X.base CX0 k f fd ps (spD X.K C n (Φ i))
  gcon : ∀ x d, Γ.gl.lookup x = some (.con d) → ∃ u v, X.mg x = some u ∧ RelV v u ∧ ∀ H ι, Rep X.K C H ι d v
  gbl : ∀ x ∈ Γ.bl, X.mg x = none
section
variable {Γ : Gam} {Φ : Fns} {C : Nat → Addr} {k : Nat} {X : Cx}
theorem Fx.blk (F : Fx Γ Φ C k X) (s : Shared) (H : Hp) (scope : Scope) (cl : List (Str × Addr)) (A : Addr) (fp : List Addr) : Fx (Γ.blk scope) Φ C k (X.blk s H scope (compEnvC scope cl A X.env) fp) :=
  ⟨F.N, F.nd, by rw [show (X.blk s H scope (compEnvC scope cl A X.env) fp).env.scope = relS scope X.env.scope from rfl, F.sc]; rfl, rfl, F.calm, F.room, F.mono, F.gfn, F.gcon, F.gbl⟩
theorem Fx.hu (F : Fx Γ Φ C k X) : X.A.units + 64 < cLine := F.room.units
theorem slot_ok {x : Str} {i : Nat} (F : Fx Γ Φ C k X) (h : Γ.slot x = some i) : X.N[i]? = some x := by
  unfold Gam.slot at h
  split at h
  · split at h
    · cases h; rw [F.N]; assumption
    · cases h
  · cases h
theorem isGl_ok {x : Str} (F : Fx Γ Φ C k X) (h : Γ.isGl x = true) : Gl X x := by
  unfold Gam.isGl at h
  split at h
  · show X.env.scope.names.lookup x = some .globalImplicit
    rw [F.sc]; assumption
  · cases h
theorem okName_ok {x : Str} (h : okName x = true) : (x == ("__debug__" : Str)) = false ∧ (x == ("__classdict__" : Str)) = false := by
  unfold okName at h
  rw [Bool.and_eq_true, Bool.not_eq_true', Bool.not_eq_true'] at h
  exact h

/-! syntactic side conditions -/
theorem star_ok {e : Expr} {es : List Expr} {env : Env} (h : isStar e = false) : starEach (e :: es) env = (false, eval e env) :: starEach es env := by
  cases e <;> first | rfl | cases h
theorem stars_ok {pos : Pos} {env : Env} : ∀ {es : List Expr}, (es.all fun e => !isStar e) = true → (backTo pos (starEach es env)).any (·.1) = false
  | [], _ => rfl
  | e :: r, h => by
    rw [List.all_cons, Bool.and_eq_true, Bool.not_eq_true'] at h
    rw [star_ok h.1]
    show (false || (backTo pos (starEach r env)).any (·.1)) = false
    rw [stars_ok h.2]
    rfl
theorem backTo_star {pos : Pos} {env : Env} : ∀ {es : List Expr}, (es.all fun e => !isStar e) = true → (backTo pos (starEach es env)).all (fun x => !x.1) = true
  | [], _ => rfl
  | e :: r, h => by
    rw [List.all_cons, Bool.and_eq_true, Bool.not_eq_true'] at h
    rw [star_ok h.1]
    show (!false && (backTo pos (starEach r env)).all (fun x => !x.1)) = true
    rw [backTo_star h.2]
    rfl
theorem few_ok {pos : Pos} {env : Env} {es : List Expr} (h : (es.all fun e => !isStar e) = true) (hl : es.length < 20) : ((backTo pos (starEach es env)).all (fun x => !x.1) && (backToKw pos (keywordEach [] env)).all (fun x => x.1.isSome)
      && decide (es.length + ([] : List Keyword).length + (if ([] : List Keyword).isEmpty then 0 else 1) < 30)) = true := by
  rw [backTo_star h]
  simp only [List.length_nil, List.isEmpty_nil, if_true, Nat.add_zero]
  rw [decide_eq_true (by omega)]
  rfl
theorem base_ok {o : Expr} {m : Str} {env : Env} (h : isRecv o = true) : attributeBase o m env (eval o env) = eval o env := by
  cases o <;> first | rfl | cases h
theorem plainIx_ok {i : Expr} (h : isSlice i = false) : PlainIx i := by
  intro o v
  cases i <;> first | rfl | cases h
theorem notset_ok {op : CmpOp} {b : Expr} (h : isSet b = false) : behindInMarks op b = false := by
  cases b <;> first | rfl | cases h
theorem last_ok {op op' : CmpOp} {b c : Expr} (h : isSet c = false) : lastMarks [op, op'] [b, c] = false := by
  show behindInMarks op' c = false
  exact notset_ok h
theorem plainT_ok {e : Expr} {env : Env} (h : isTest e = false) : ∀ whole, isTrue e env whole = (do let v ← whole; standAt e.pos; holding [v] (truthy v)) := by
  intro whole
  cases e with
  | UnaryOp o a p => cases o <;> first | rfl | cases h
  | _ => first | rfl | cases h
theorem assignSub_ok {o i : Expr} {pos : Pos} {env : Env} (h : isSlice i = false) : ∀ v, assign (.Subscript o i pos) env v = (do
      let ov ← holding [v] (eval o env)
      let iv ← holding [v, ov] (eval i env)
      standAt pos
      holding [v, ov, iv] (setItem ov iv v)
      release [v, ov, iv] []) := by
  intro v
  cases i <;> first | rfl | cases h
theorem assignEach_ok {e : Expr} {es : List Expr} {env : Env} (h : isStar e = false) : assignEach (e :: es) env = (false, assign e env) :: assignEach es env := by
  cases e <;> first | rfl | cases h
theorem folded_ok {e : Expr} {env : Env} (h : isSet e = false) : ∀ x, foldedSetIterable e env x = pure x := by
  intro x
  cases e <;> first | rfl | cases h
theorem cop_ok {o : CmpOp} {c : COp} (h : cop o = some c) : o = c.py := by
  cases o <;> simp [cop] at h <;> subst h <;> rfl
theorem bop_ok {o : Operator} {c : BOp} (h : bop o = some c) : o = c.py := by
  cases o <;> simp [bop] at h <;> subst h <;> rfl

/-! the built-ins by name -/
theorem bltOf_ok {x : Str} {n : Nat} {B : Blt} {m : Bool} (hc : X.calm = true) (h : bltOf x n = some B) : (∃ id, bootBuiltins x = some (.builtin id) ∧ CallR X (.builtin id) (rBl X.K C B m)) ∨ (∃ T, bootBuiltins x = some (.type T) ∧ CallR X (.type T) (rBl X.K C B m)) := by
  unfold bltOf at h
  split at h
  · rename_i e; cases h; rw [e.1]; exact .inl ⟨"len", by decide +kernel, len_ok m⟩
  split at h
  · rename_i e; cases h; rw [e.1]; exact .inr ⟨"int", by decide +kernel, int_ok m⟩
  split at h
  · rename_i e; cases h; rw [e.1]; exact .inr ⟨"list", by decide +kernel, list_ok m⟩
  split at h
  · rename_i e; cases h; rw [e.1]; exact .inr ⟨"tuple", by decide +kernel, tuple_ok m⟩
  split at h
  · rename_i e; cases h; rw [e.1]; exact .inl ⟨"sum", by decide +kernel, sum_ok hc m⟩
  split at h
  · rename_i e; cases h; rw [e.1]; exact .inl ⟨"max", by decide +kernel, max2_ok hc m⟩
  split at h
  · rename_i e; cases h; rw [e.1]; exact .inl ⟨"min", by decide +kernel, min2_ok hc m⟩
  split at h
  · rename_i e; cases h; rw [e.1]; exact .inl ⟨"any", by decide +kernel, any_ok hc m⟩
  split at h
  · rename_i e; cases h; rw [e.1]; exact .inl ⟨"all", by decide +kernel, all_ok hc m⟩
  · cases h
/-- isinstance(e, T) -/
theorem e_isi {e : Expr} {x t : Str} {p p2 pos : Pos} {B : Blt} {me : Ev → Sto → Kd → Prop} (hx : x = "isinstance") (hg : Gl X x) (hm : X.mg x = none) (hgt : Gl X t) (hmt : X.mg t = none) (ht : isiOf t = some B) (he : PE X e (tE X.K C me)) (oe : MonoE me) (hs : isStar e = false) :
    PE X (.Call (.Name x p) [e, .Name t p2] [] pos) (tE X.K C fun env st Q => me env st fun d s1 => bltD B false [d] s1 Q) := by
  subst hx
  have main : ∀ (T : String), bootBuiltins t = some (.type T) → t ≠ "__name__" → (t == ("__debug__" : Str)) = false →
      (∀ (d : D) (st : Sto) (Q : Kd), bltD B false [d] st Q → ∃ ty b, tyD d = some ty ∧ PySem.W.kitOne X.K (.type ty) (.type T) = some b ∧ Q (.bl b) st) →
      PE X (.Call (.Name "isinstance" p) [e, .Name t p2] [] pos) (tE X.K C fun env st Q => me env st fun d s1 => bltD B false [d] s1 Q) := by
    intro T hv hn hdb hk
    refine (pe_callB call_isi hg hm (by decide +kernel : bootBuiltins "isinstance" = some (.builtin "isinstance")) (pa_cons he (pa_cons (pe_bltn (v := .ty T) hgt hmt hv rfl hn hdb) pa_nil (star_ok rfl)) (star_ok hs)) (by decide) (by decide) (star_ok hs) rfl).imp fun σ H Q ⟨ι, env, st, S, E, q⟩ => tE.step oe S E q fun d s1 x H1 ι1 q e1 S1 E1 r1 => ?_
    obtain ⟨ty, b, hd, hb, q⟩ := hk d s1 _ q
    exact ⟨x, .ty T, _, .type T, b, rfl, .ty T, isi_ok r1 hd, hb, q _ _ _ e1 S1 rep_bl⟩
  unfold isiOf at ht
  split at ht
  · rename_i e; cases ht; subst e
    refine main "tuple" (by decide +kernel) (by decide) (by decide) fun d st Q q => ?_
    cases d <;> simp only [bltD] at q <;> exact ⟨_, _, rfl, L2.kit_ty (by decide +kernel), q⟩
  split at ht
  · rename_i e; cases ht; subst e
    refine main "int" (by decide +kernel) (by decide) (by decide) fun d st Q q => ?_
    cases d <;> simp only [bltD] at q <;> exact ⟨_, _, rfl, L2.kit_ty (by decide +kernel), q⟩
  split at ht
  · rename_i e; cases ht; subst e
    refine main "bool" (by decide +kernel) (by decide) (by decide) fun d st Q q => ?_
    cases d <;> simp only [bltD] at q <;> exact ⟨_, _, rfl, L2.kit_ty (by decide +kernel), q⟩
  split at ht
  · rename_i e; cases ht; subst e
    refine main "str" (by decide +kernel) (by decide) (by decide) fun d st Q q => ?_
    cases d <;> simp only [bltD] at q <;> exact ⟨_, _, rfl, L2.kit_ty (by decide +kernel), q⟩
  · cases ht
theorem mthOf_ok {x : Str} {n : Nat} {B : Mth} (h : mthOf x n = some B) : (B = .append ∨ B = .pop0 ∨ B = .pop1 ∨ B = .extend) ∧ ∃ id, Slot "list" x id ∧ typeOf (.builtin id) = pure (.type "method_descriptor") ∧ MtR X id (rMt X.K C B) := by
  unfold mthOf at h
  split at h
  · rename_i e; cases h; rw [e.1]; exact ⟨.inl rfl, _, PySem.F.slot_list_append, PySem.F.type_list_append, append_ok⟩
  split at h
  · rename_i e; cases h; rw [e.1]; exact ⟨.inr (.inl rfl), _, PySem.F.slot_list_pop, PySem.F.type_list_pop, pop0_ok⟩
  split at h
  · rename_i e; cases h; rw [e.1]; exact ⟨.inr (.inr (.inl rfl)), _, PySem.F.slot_list_pop, PySem.F.type_list_pop, pop1_ok⟩
  split at h
  · rename_i e; cases h; rw [e.1]; exact ⟨.inr (.inr (.inr rfl)), _, PySem.F.slot_list_extend, PySem.F.type_list_extend, extend_ok⟩
  · cases h
end

/-! ### the theorem -/
structure Snd (Φ : Fns) (C : Nat → Addr) (k n : Nat) : Prop where
  e : ∀ {Γ X e p}, Fx Γ Φ C k X → cE n Γ e = some p → PE X e (tE X.K C (wE Φ p)) ∧ isStar e = false
  es : ∀ {Γ X es p}, Fx Γ Φ C k X → cEs n Γ es = some p → PA X es (tAr X.K C (wEs Φ p)) ∧ (es.all fun e => !isStar e) = true ∧ p.length = es.length
  and : ∀ {Γ X es p pos}, Fx Γ Φ C k X → cAnd n Γ es = some p → PE X (.BoolOp .And es pos) (tE X.K C (wE Φ p))
  or : ∀ {Γ X es p pos}, Fx Γ Φ C k X → cOr n Γ es = some p → PE X (.BoolOp .Or es pos) (tE X.K C (wE Φ p))
  b : ∀ {Γ X e p}, Fx Γ Φ C k X → cB n Γ e = some p → PT X e (MI.tB X.K C (wT Φ p))
  band : ∀ {Γ X es p pos}, Fx Γ Φ C k X → cBAnd n Γ es = some p → PW X (.BoolOp .And es pos) (MI.tB X.K C (wT Φ p))
  bor : ∀ {Γ X es p pos}, Fx Γ Φ C k X → cBOr n Γ es = some p → PW X (.BoolOp .Or es pos) (MI.tB X.K C (wT Φ p))
  o : ∀ {Γ X o p}, Fx Γ Φ C k X → cO n Γ o = some p → PO X o (tOp' X.K C (wO Φ p))
  c : ∀ {Γ X es p}, Fx Γ Φ C k X → cC n Γ es = some p → PTs X es (MI.tB X.K C (wC Φ p))
  t : ∀ {Γ X e p}, Fx Γ Φ C k X → cT n Γ e = some p → PG X e (tG X.K C (slots p) (wG Φ p)) ∧ isStar e = false
  ts : ∀ {Γ X es p}, Fx Γ Φ C k X → cTs n Γ es = some p → PGs X es (tGs X.K C (slotsL p) (wGs Φ p)) ∧ (assignEach es X.env).length = p.length ∧ (assignEach es X.env).findIdx? (·.1) = none
  i : ∀ {Γ X tg it p}, Fx Γ Φ C k X → cI n Γ tg it = some p → PI X tg it (tIt X.K C (wI Φ p))

section
variable {Φ : Fns} {C : Nat → Addr} {k : Nat}
theorem wEs_len (hΦ : ∀ f, MonoFn (Φ f)) : ∀ (ps : List SE) (env : Ev) (st : Sto) (Q : List D → Sto → Prop), wEs Φ ps env st Q → wEs Φ ps env st fun ds s => ds.length = ps.length ∧ Q ds s
  | [], env, st, Q, h => ⟨rfl, h⟩
  | p :: ps, env, st, Q, h => wE_mono hΦ p env st _ _ (fun x s1 q => wEs_mono hΦ ps env s1 _ _ (fun xs s2 q => ⟨by rw [List.length_cons, q.1, List.length_cons], q.2⟩) (wEs_len hΦ ps env s1 _ q)) h
theorem snd_zero : Snd Φ C k 0 := by
  constructor <;> (intros; rename_i h; first | (simp only [cE] at h; cases h; done) | (simp only [cEs] at h; cases h; done) | (simp only [cAnd] at h; cases h; done) | (simp only [cOr] at h; cases h; done) | (simp only [cB] at h; cases h; done) | (simp only [cBAnd] at h; cases h; done) | (simp only [cBOr] at h; cases h; done) | (simp only [cO] at h; cases h; done) | (simp only [cC] at h; cases h; done) | (simp only [cT] at h; cases h; done) | (simp only [cTs] at h; cases h; done) | (simp only [cI] at h; cases h; done))
end
end MI

set_option maxRecDepth 100000
/-! MI, part 11: the step of the expressions' theorem. -/
namespace MI
open PySem PySem.Spec PyProof.Rows L2
section
variable {Φ : Fns} {C : Nat → Addr} {k n : Nat} {Γ : Gam} {X : Cx}
theorem bind_some {α β : Type} {o : Option α} {f : α → Option β} {y : β} (h : (o >>= f) = some y) : ∃ x, o = some x ∧ f x = some y := by
  cases o with
  | none => cases h
  | some x => exact ⟨x, rfl, h⟩
theorem map_some {α β : Type} {o : Option α} {f : α → β} {y : β} (h : o.map f = some y) : ∃ x, o = some x ∧ f x = y := by
  cases o with
  | none => cases h
  | some x => cases h; exact ⟨x, rfl, rfl⟩
theorem if_some {α : Type} {c : Bool} {o : Option α} {y : α} (h : (if c = true then o else none) = some y) : c = true ∧ o = some y := by
  cases c with
  | true => exact ⟨rfl, by simpa using h⟩
  | false => simp at h
theorem ifn_some {α : Type} {c : Bool} {o : Option α} {y : α} (h : (if c = true then none else o) = some y) : c = false ∧ o = some y := by
  cases c with
  | true => simp at h
  | false => exact ⟨rfl, by simpa using h⟩
theorem Snd.name (F : Fx Γ Φ C k X) {x : Str} {pos : Pos} {p : SE} (h : cE (n + 1) Γ (.Name x pos) = some p) : PE X (.Name x pos) (tE X.K C (wE Φ p)) := by
  obtain ⟨h0, h⟩ := if_some h
  obtain ⟨hd, hcd⟩ := okName_ok h0
  have loc : ∀ {o : Option Nat}, (o = Γ.slot x) → o.map SE.var = some p → Vis X.env.scope x → PE X (.Name x pos) (tE X.K C (wE Φ p)) := by
    intro o ho h hv
    obtain ⟨i, hi, e⟩ := map_some h
    subst e
    rw [hi] at ho
    exact (pe_var (slot_ok F ho.symm) hv hd hcd).imp fun σ H Q ⟨ι, env, st, S, E, q⟩ => by
      simp only [wE] at q
      split at q
      · rename_i d e
        obtain ⟨v, h1, h2⟩ := E.get i d e
        exact ⟨v, h1, q.here S h2⟩
      · exact q.elim
  split at h
  · rename_i e
    exact loc rfl h (.inl (by rw [F.sc]; exact e))
  · rename_i e
    exact loc rfl h (.inr (.inl (by rw [F.sc]; exact e)))
  · rename_i e
    exact loc rfl h (.inr (.inr (by rw [F.sc]; exact e)))
  · rename_i e
    split at h
    · rename_i d hd'
      cases h
      obtain ⟨u, v, h1, h2, h3⟩ := F.gcon x d hd'
      exact e_con (pe_glob (show X.env.scope.names.lookup x = some .globalImplicit by rw [F.sc]; exact e) h1 h2 hd) h3
    · cases h
  · cases h
theorem Snd.cmp (S : Snd Φ C k n) (F : Fx Γ Φ C k X) {l r : Expr} {o : COp} {l' r' : SE} (hl : cE n Γ l = some l') (hr : cE n Γ r = some r') (hs : isSet r = false) (pos : Pos) :
    PE X (.Compare l [o.py] [r] pos) (tE X.K C (wE Φ (.cmp o l' r'))) ∧ PT X (.Compare l [o.py] [r] pos) (MI.tB X.K C (wT Φ (.cmp o l' r'))) :=
  ⟨e_cmp (f := cmpD o) (fun _ _ _ _ _ h => cmpD_mono h) (cmp_ok F.hu o) (S.e F hl).1 (S.e F hr).1 (wE_mono F.mono l') (wE_mono F.mono r') (notset_ok hs),
    b_cmp (f := cmpD o) (fun _ _ _ _ _ h => cmpD_mono h) (cmp_ok F.hu o) (S.e F hl).1 (S.e F hr).1 (wE_mono F.mono l') (wE_mono F.mono r') (notset_ok hs)⟩
theorem Snd.chain (S : Snd Φ C k n) (F : Fx Γ Φ C k X) {l r s : Expr} {o o' : COp} {l' r' s' : SE} (hl : cE n Γ l = some l') (hr : cE n Γ r = some r') (hs' : cE n Γ s = some s') (hs : isSet s = false) (pos : Pos) :
    PE X (.Compare l [o.py, o'.py] [r, s] pos) (tE X.K C (wE Φ (.chain o o' l' r' s'))) ∧ PT X (.Compare l [o.py, o'.py] [r, s] pos) (MI.tB X.K C (wT Φ (.chain o o' l' r' s'))) :=
  ⟨e_chain (f := cmpD o) (f' := cmpD o') (fun _ _ _ _ _ h => cmpD_mono h) (fun _ _ _ _ _ h => cmpD_mono h) (cmp_ok F.hu o) (cmp_ok F.hu o') (S.e F hl).1 (S.e F hr).1 (S.e F hs').1 (wE_mono F.mono l') (wE_mono F.mono r') (wE_mono F.mono s') (last_ok hs),
    b_chain (f := cmpD o) (f' := cmpD o') (fun _ _ _ _ _ h => cmpD_mono h) (fun _ _ _ _ _ h => cmpD_mono h) (cmp_ok F.hu o) (cmp_ok F.hu o') (S.e F hl).1 (S.e F hr).1 (S.e F hs').1 (wE_mono F.mono l') (wE_mono F.mono r') (wE_mono F.mono s') (last_ok hs)⟩
theorem Snd.lists (S : Snd Φ C k n) (F : Fx Γ Φ C k X) {es : List Expr} {p : List SE} (h : cEs (n + 1) Γ es = some p) : PA X es (tAr X.K C (wEs Φ p)) ∧ (es.all fun e => !isStar e) = true ∧ p.length = es.length := by
  cases es with
  | nil => cases h; exact ⟨l_nil, rfl, rfl⟩
  | cons e r =>
    obtain ⟨h0, h⟩ := ifn_some h
    obtain ⟨e', he, h⟩ := bind_some h
    obtain ⟨r', hr, h⟩ := bind_some h
    cases h
    obtain ⟨h1, h2, h3⟩ := S.es F hr
    exact ⟨l_cons (S.e F he).1 h1 (wE_mono F.mono e') (wEs_mono F.mono r') (star_ok h0), by rw [List.all_cons, h0, h2]; rfl, by rw [List.length_cons, List.length_cons, h3]⟩
theorem Snd.ands (S : Snd Φ C k n) (F : Fx Γ Φ C k X) {es : List Expr} {p : SE} {pos : Pos} (h : cAnd (n + 1) Γ es = some p) : PE X (.BoolOp .And es pos) (tE X.K C (wE Φ p)) := by
  match es, h with
  | [], h => cases h
  | [e], h => exact pe_one (S.e F h).1
  | e :: e2 :: r, h =>
    obtain ⟨e', he, h⟩ := bind_some h
    obtain ⟨r', hr, h⟩ := bind_some h
    cases h
    exact e_and (S.e F he).1 (S.and F hr) (wE_mono F.mono e') (wE_mono F.mono r')
theorem Snd.ors (S : Snd Φ C k n) (F : Fx Γ Φ C k X) {es : List Expr} {p : SE} {pos : Pos} (h : cOr (n + 1) Γ es = some p) : PE X (.BoolOp .Or es pos) (tE X.K C (wE Φ p)) := by
  match es, h with
  | [], h => cases h
  | [e], h => exact pe_one (S.e F h).1
  | e :: e2 :: r, h =>
    obtain ⟨e', he, h⟩ := bind_some h
    obtain ⟨r', hr, h⟩ := bind_some h
    cases h
    exact e_or (S.e F he).1 (S.or F hr) (wE_mono F.mono e') (wE_mono F.mono r')
theorem Snd.bands (S : Snd Φ C k n) (F : Fx Γ Φ C k X) {es : List Expr} {p : SB} {pos : Pos} (h : cBAnd (n + 1) Γ es = some p) : PW X (.BoolOp .And es pos) (MI.tB X.K C (wT Φ p)) := by
  match es, h with
  | [], h => cases h
  | [e], h => exact pw_and1 (S.b F h)
  | e :: e2 :: r, h =>
    obtain ⟨e', he, h⟩ := bind_some h
    obtain ⟨r', hr, h⟩ := bind_some h
    cases h
    exact b_and (S.b F he) (S.band F hr) (wT_mono F.mono e') (wT_mono F.mono r')
theorem Snd.bors (S : Snd Φ C k n) (F : Fx Γ Φ C k X) {es : List Expr} {p : SB} {pos : Pos} (h : cBOr (n + 1) Γ es = some p) : PW X (.BoolOp .Or es pos) (MI.tB X.K C (wT Φ p)) := by
  match es, h with
  | [], h => cases h
  | [e], h => exact pw_or1 (S.b F h)
  | e :: e2 :: r, h =>
    obtain ⟨e', he, h⟩ := bind_some h
    obtain ⟨r', hr, h⟩ := bind_some h
    cases h
    exact b_or (S.b F he) (S.bor F hr) (wT_mono F.mono e') (wT_mono F.mono r')
theorem Snd.opts (S : Snd Φ C k n) (F : Fx Γ Φ C k X) {o : Option Expr} {p : Option SE} (h : cO (n + 1) Γ o = some p) : PO X o (tOp' X.K C (wO Φ p)) := by
  cases o with
  | none => cases h; exact o_none
  | some e =>
    obtain ⟨e', he, h⟩ := map_some h
    subst h
    exact o_some (S.e F he).1 (wE_mono F.mono e')
theorem Snd.tests (S : Snd Φ C k n) (F : Fx Γ Φ C k X) {es : List Expr} {p : Option SB} (h : cC (n + 1) Γ es = some p) : PTs X es (MI.tB X.K C (wC Φ p)) := by
  match es, h with
  | [], h => cases h; exact pts_nil.imp fun σ H Q ⟨ι, env, st, S, E, q⟩ => PostB.here q S
  | [e], h =>
    obtain ⟨e', he, h⟩ := map_some h
    subst h
    exact pts_one (S.b F he)
  | e :: e2 :: r, h => cases h
theorem Snd.targets (S : Snd Φ C k n) (F : Fx Γ Φ C k X) {es : List Expr} {p : List ST} (h : cTs (n + 1) Γ es = some p) : PGs X es (tGs X.K C (slotsL p) (wGs Φ p)) ∧ (assignEach es X.env).length = p.length ∧ (assignEach es X.env).findIdx? (·.1) = none := by
  cases es with
  | nil => cases h; exact ⟨gs_nil, rfl, rfl⟩
  | cons e r =>
    obtain ⟨h0, h⟩ := ifn_some h
    obtain ⟨e', he, h⟩ := bind_some h
    obtain ⟨r', hr, h⟩ := bind_some h
    cases h
    obtain ⟨h1, h2, h3⟩ := S.ts F hr
    refine ⟨gs_cons (S.t F he).1 h1 (wG_mono F.mono e') (wGs_mono F.mono r') (by rw [assignEach_ok h0]; rfl), ?_, ?_⟩
    · rw [assignEach_ok h0, List.length_cons, h2, List.length_cons]
    · rw [assignEach_ok h0, List.findIdx?_cons, h3]
      rfl
theorem Snd.target (S : Snd Φ C k n) (F : Fx Γ Φ C k X) {e : Expr} {p : ST} (h : cT (n + 1) Γ e = some p) : PG X e (tG X.K C (slots p) (wG Φ p)) ∧ isStar e = false := by
  cases e with
  | Name x pos =>
    refine ⟨?_, rfl⟩
    have h : (match Γ.sc.names.lookup x with
      | some .local => (Γ.slot x).map ST.nm
      | some .cell => if Γ.fn x then (Γ.slot x).map ST.nm else none
      | _ => none) = some p := h
    split at h
    · rename_i e
      obtain ⟨i, hi, h⟩ := map_some h
      subst h
      exact g_name F.nd (slot_ok F hi) (.inl (by rw [F.sc]; exact e)) (.inr (by rw [F.sc]; exact e))
    · rename_i e
      obtain ⟨h0, h⟩ := if_some h
      obtain ⟨i, hi, h⟩ := map_some h
      subst h
      exact g_name F.nd (slot_ok F hi) (.inr (by rw [F.sc]; exact e)) (.inl (by rw [F.fn]; exact h0))
    · cases h
  | Tuple es kk pos =>
    refine ⟨?_, rfl⟩
    obtain ⟨ts, ht, h⟩ := map_some (show (cTs n Γ es).map ST.tup = some p from h)
    subst h
    obtain ⟨h1, h2, h3⟩ := S.ts F ht
    exact g_tup F.calm h1 h2 h3
  | Subscript o i pos =>
    refine ⟨?_, rfl⟩
    obtain ⟨h0, h⟩ := ifn_some h
    obtain ⟨o', ho, h⟩ := bind_some h
    obtain ⟨i', hi, h⟩ := bind_some h
    cases h
    exact g_sub (S.e F ho).1 (S.e F hi).1 (wE_mono F.mono o') (wE_mono F.mono i') (assignSub_ok h0)
  | _ => cases h
theorem isBl_ok {x : Str} (F : Fx Γ Φ C k X) (h : Γ.isBl x = true) : Gl X x ∧ X.mg x = none := by
  unfold Gam.isBl at h
  rw [Bool.and_eq_true, decide_eq_true_eq] at h
  exact ⟨isGl_ok F h.1, F.gbl x h.2⟩
theorem Snd.iter (S : Snd Φ C k n) (F : Fx Γ Φ C k X) {tg it : Expr} {p : SI} (h : cI (n + 1) Γ tg it = some p) : PI X tg it (tIt X.K C (wI Φ p)) := by
  have seq : (cE n Γ it).map SI.seq = some p → PI X tg it (tIt X.K C (wI Φ p)) := fun h => by
    obtain ⟨e, he, h⟩ := map_some h
    subst h
    exact i_seq (S.e F he).1 (wE_mono F.mono e)
  unfold cI at h
  split at h
  · rename_i x _ es _
    split at h
    · rename_i hx
      obtain ⟨rfl, hb⟩ := hx
      obtain ⟨hg, hm⟩ := isBl_ok F hb
      split at h
      · obtain ⟨a, ha, h⟩ := map_some h
        subst h
        exact i_rng1 hg hm (S.e F ha).1 (wE_mono F.mono a) (star_ok (S.e F ha).2)
      · obtain ⟨a, ha, h⟩ := bind_some h
        obtain ⟨b, hb, h⟩ := bind_some h
        cases h
        exact i_rng2 hg hm (S.e F ha).1 (S.e F hb).1 (wE_mono F.mono a) (wE_mono F.mono b) (star_ok (S.e F ha).2) (star_ok (S.e F hb).2)
      · obtain ⟨a, ha, h⟩ := bind_some h
        obtain ⟨b, hb, h⟩ := bind_some h
        obtain ⟨c, hc, h⟩ := bind_some h
        cases h
        exact i_rng3 hg hm (S.e F ha).1 (S.e F hb).1 (S.e F hc).1 (wE_mono F.mono a) (wE_mono F.mono b) (wE_mono F.mono c) (star_ok (S.e F ha).2) (star_ok (S.e F hb).2) (star_ok (S.e F hc).2)
      · cases h
    · split at h
      · rename_i hx
        obtain ⟨rfl, hb⟩ := hx
        obtain ⟨hg, hm⟩ := isBl_ok F hb
        split at h
        · split at h
          · obtain ⟨a, ha, h⟩ := map_some h
            subst h
            exact i_enum hg hm (S.e F ha).1 (wE_mono F.mono a) (star_ok (S.e F ha).2)
          · cases h
        · cases h
      · exact seq h
  · exact seq h
theorem Snd.lc (S : Snd Φ C k n) (F : Fx Γ Φ C k X) {elt tg it : Expr} {ifs : List Expr} {scope : Scope} {pos : Pos} {m : Bool} {it' : SI} {tg' : ST} {c' : Option SB} {elt' : SE} (hb : blkC Γ.N Γ.sc scope (Γ.own scope) = true)
    (hi : cI n Γ tg it = some it') (ht : cT n (Γ.blk scope) tg = some tg') (hc : cC n (Γ.blk scope) ifs = some c') (he : cE n (Γ.blk scope) elt = some elt') (hs : ∀ j ∈ slots tg', j ∈ (Γ.own scope).map (·.2)) (hset : isSet it = false) :
    PE X (.ListComp elt [⟨tg, it, ifs, 0⟩] scope pos) (tE X.K C (wE Φ (.lc m elt' tg' it' c' ((Γ.own scope).map (·.2))))) ∧
    ∀ {i : Nat} {y : Str} {py spos : Pos}, X.N[i]? = some y → X.env.scope.names.lookup y = some .local → swapsWith (.ListComp elt [⟨tg, it, ifs, 0⟩] scope pos) (some (.Name y py)) spos.line X.env = pure true →
      ∃ t, PS X (.Assign [.Name y py] (.ListComp elt [⟨tg, it, ifs, 0⟩] scope pos) spos) (tAsg t (gName i)) ∧ ∀ σ H Q, tE X.K C (wE Φ (.lc m elt' tg' it' c' ((Γ.own scope).map (·.2)))) σ H Q → t σ H Q := by
  have ok : BlkOk X.N X.env.scope scope (Γ.own scope) := blkOk_by (by rw [F.N, F.sc]; exact hb)
  have fold : ∀ x, foldedSetIterable it X.env x = pure x := folded_ok hset
  have rd : ∀ σ H Q, tE X.K C (wE Φ (.lc m elt' tg' it' c' ((Γ.own scope).map (·.2)))) σ H Q → tLc (tIt X.K C (wI Φ it')) (tG X.K C (slots tg') (wG Φ tg')) (MI.tB X.K C (wC Φ c')) (tE X.K C (wE Φ elt')) ((Γ.own scope).map (·.2)) σ H Q :=
    fun σ H Q q => lc_read (m := m) hs (wG_mono F.mono tg') (wC_mono F.mono c') (wE_mono F.mono elt') (wI_mono F.mono it') q
  exact ⟨(pe_lc F.calm F.nd (S.i F hi) ok (fun s H A cl fp => (S.t (F.blk s H scope cl A fp) ht).1) (fun s H A cl fp => S.c (F.blk s H scope cl A fp) hc) (fun s H A cl fp => (S.e (F.blk s H scope cl A fp) he).1) fold).imp rd,
    fun hy hl hw => ⟨_, ps_setLc F.calm F.nd hy hl hw (S.i F hi) ok (fun s H A cl fp => (S.t (F.blk s H scope cl A fp) ht).1) (fun s H A cl fp => S.c (F.blk s H scope cl A fp) hc) (fun s H A cl fp => (S.e (F.blk s H scope cl A fp) he).1) fold, rd⟩⟩
theorem Snd.lc2 (S : Snd Φ C k n) (F : Fx Γ Φ C k X) {elt tg it tg1 it1 : Expr} {ifs ifs1 : List Expr} {scope : Scope} {pos : Pos} {m : Bool} {it' it1' : SI} {tg' tg1' : ST} {c' c1' : Option SB} {elt' : SE} (hb : blkC Γ.N Γ.sc scope (Γ.own scope) = true)
    (hi : cI n Γ tg it = some it') (ht : cT n (Γ.blk scope) tg = some tg') (hc : cC n (Γ.blk scope) ifs = some c') (hi1 : cI n (Γ.blk scope) tg1 it1 = some it1') (ht1 : cT n (Γ.blk scope) tg1 = some tg1') (hc1 : cC n (Γ.blk scope) ifs1 = some c1') (he : cE n (Γ.blk scope) elt = some elt')
    (hs : ∀ j ∈ slots tg', j ∈ (Γ.own scope).map (·.2)) (hs1 : ∀ j ∈ slots tg1', j ∈ (Γ.own scope).map (·.2)) (hset : isSet it = false) (hset1 : isSet it1 = false) :
    PE X (.ListComp elt [⟨tg, it, ifs, 0⟩, ⟨tg1, it1, ifs1, 0⟩] scope pos) (tE X.K C (wE Φ (.lc2 m elt' tg' it' c' tg1' it1' c1' ((Γ.own scope).map (·.2)) (slots tg1')))) ∧
    ∀ {i : Nat} {y : Str} {py spos : Pos}, X.N[i]? = some y → X.env.scope.names.lookup y = some .local → swapsWith (.ListComp elt [⟨tg, it, ifs, 0⟩, ⟨tg1, it1, ifs1, 0⟩] scope pos) (some (.Name y py)) spos.line X.env = pure true →
      ∃ t, PS X (.Assign [.Name y py] (.ListComp elt [⟨tg, it, ifs, 0⟩, ⟨tg1, it1, ifs1, 0⟩] scope pos) spos) (tAsg t (gName i)) ∧ ∀ σ H Q, tE X.K C (wE Φ (.lc2 m elt' tg' it' c' tg1' it1' c1' ((Γ.own scope).map (·.2)) (slots tg1'))) σ H Q → t σ H Q := by
  have ok : BlkOk X.N X.env.scope scope (Γ.own scope) := blkOk_by (by rw [F.N, F.sc]; exact hb)
  have fold : ∀ x, foldedSetIterable it X.env x = pure x := folded_ok hset
  have rd : ∀ σ H Q, tE X.K C (wE Φ (.lc2 m elt' tg' it' c' tg1' it1' c1' ((Γ.own scope).map (·.2)) (slots tg1'))) σ H Q → tLc2 (tIt X.K C (wI Φ it')) (tG X.K C (slots tg') (wG Φ tg')) (MI.tB X.K C (wC Φ c')) (tIt X.K C (wI Φ it1')) (tG X.K C (slots tg1') (wG Φ tg1')) (MI.tB X.K C (wC Φ c1')) (tE X.K C (wE Φ elt')) ((Γ.own scope).map (·.2)) (slots tg1') σ H Q :=
    fun σ H Q q => lc2_read (m := m) hs (fun _ h => h) (wG_mono F.mono tg') (wC_mono F.mono c') (wE_mono F.mono elt') (wI_mono F.mono it') (wG_mono F.mono tg1') (wC_mono F.mono c1') (wI_mono F.mono it1') q
  exact ⟨(pe_lc2 F.calm F.nd (S.i F hi) ok hs1 (fun s H A cl fp => (S.t (F.blk s H scope cl A fp) ht).1) (fun s H A cl fp => S.c (F.blk s H scope cl A fp) hc) (fun s H A cl fp => S.i (F.blk s H scope cl A fp) hi1) (fun s H A cl fp => (S.t (F.blk s H scope cl A fp) ht1).1)
      (fun s H A cl fp => S.c (F.blk s H scope cl A fp) hc1) (fun s H A cl fp => (S.e (F.blk s H scope cl A fp) he).1) fold (fun env => folded_ok hset1)).imp rd,
    fun hy hl hw => ⟨_, ps_setLc2 F.calm F.nd hy hl hw (S.i F hi) ok hs1 (fun s H A cl fp => (S.t (F.blk s H scope cl A fp) ht).1) (fun s H A cl fp => S.c (F.blk s H scope cl A fp) hc) (fun s H A cl fp => S.i (F.blk s H scope cl A fp) hi1) (fun s H A cl fp => (S.t (F.blk s H scope cl A fp) ht1).1)
      (fun s H A cl fp => S.c (F.blk s H scope cl A fp) hc1) (fun s H A cl fp => (S.e (F.blk s H scope cl A fp) he).1) fold (fun env => folded_ok hset1), rd⟩⟩
end
end MI

set_option maxRecDepth 100000
/-! MI, part 12: the expressions' theorem. -/
namespace MI
open PySem PySem.Spec PyProof.Rows L2
section
variable {Φ : Fns} {C : Nat → Addr} {k n : Nat} {Γ : Gam} {X : Cx}
theorem Snd.call (S : Snd Φ C k n) (F : Fx Γ Φ C k X) {f : Expr} {es : List Expr} {kws : List Keyword} {pos : Pos} {p : SE} (h : cE (n + 1) Γ (.Call f es kws pos) = some p) : PE X (.Call f es kws pos) (tE X.K C (wE Φ p)) := by
  cases kws with
  | cons _ _ => cases h
  | nil =>
  cases f with
  | Name x xp =>
    obtain ⟨h0, h⟩ := if_some h
    simp only [Bool.and_eq_true, Bool.not_eq_true'] at h0
    obtain ⟨⟨⟨h1, h2⟩, h3⟩, h4⟩ := h0
    have hn : x ≠ "__name__" := fun e => by subst e; simp at h3
    have hg := isGl_ok F h2
    obtain ⟨hdb, _⟩ := okName_ok h1
    split at h
    · rename_i i m hl
      obtain ⟨fa, fd, ps, g1, g2, g3, g4⟩ := F.gfn x i m hl
      split at h
      · rename_i hlen
        obtain ⟨es', he, h⟩ := map_some h
        subst h
        obtain ⟨a1, a2, a3⟩ := S.es F he
        cases es with
        | nil =>
          cases he' : es' with
          | cons _ _ => rw [he'] at a3; simp at a3
          | nil =>
            subst hlen
            exact e_call0 (F.mono i) g4 F.room hg g1 g2 g3 hdb
        | cons e r =>
          rw [List.all_cons, Bool.and_eq_true, Bool.not_eq_true'] at h4
          exact e_call (F.mono i) g4 F.room hg g1 g2 g3 a1 (wEs_mono F.mono es') (fun env st Q q => by
            have := wEs_len F.mono es' env st Q q
            rw [a3, hlen] at this
            exact this) hdb (star_ok h4.1) (stars_ok h4.2)
      · cases h
    · cases h
    · obtain ⟨hb, h⟩ := if_some h
      have hm := F.gbl x (of_decide_eq_true hb)
      cases es with
      | nil => cases h
      | cons e r =>
        rw [List.all_cons, Bool.and_eq_true, Bool.not_eq_true'] at h4
        by_cases hx : x = "isinstance"
        · have h : (match (generalizing := false) r with
                    | [.Name t _] => if okName t && Γ.isBl t && !(t == ("__name__" : Str)) then do
                        let b ← isiOf t
                        let e ← cE n Γ e
                        some (SE.blt b false [e])
                      else none
                    | _ => none) = some p := by
            have := h
            simp only [hx, if_true] at this
            exact this
          split at h
          · rename_i t tp
            obtain ⟨h0, h⟩ := if_some h
            simp only [Bool.and_eq_true, Bool.not_eq_true'] at h0
            obtain ⟨b, hb, h⟩ := bind_some h
            obtain ⟨e', he, h⟩ := bind_some h
            cases h
            obtain ⟨gt, mt⟩ := isBl_ok F h0.1.2
            exact e_isi hx hg hm gt mt hb (S.e F he).1 (wE_mono F.mono e') h4.1
          · cases h
        · have h : (do
                    let b ← bltOf x (e :: r).length
                    let es ← cEs n Γ (e :: r)
                    some (SE.blt b (Γ.mut pos) es)) = some p := by
            have := h
            simp only [hx, if_false] at this
            exact this
          obtain ⟨b, hb, h⟩ := bind_some h
          obtain ⟨es', he, h⟩ := bind_some h
          cases h
          obtain ⟨a1, a2, a3⟩ := S.es F he
          rcases bltOf_ok (X := X) (C := C) (m := Γ.mut pos) F.calm hb with ⟨id, hv, hc⟩ | ⟨T, hv, hc⟩
          · exact e_bltB hc hg hm hv a1 (wEs_mono F.mono es') hn hdb (star_ok h4.1) (stars_ok h4.2)
          · exact e_bltT hc hg hm hv a1 (wEs_mono F.mono es') hn hdb (star_ok h4.1) (stars_ok h4.2)
  | Attribute o m apos =>
    obtain ⟨h0, h⟩ := if_some h
    simp only [Bool.and_eq_true, decide_eq_true_eq] at h0
    obtain ⟨⟨⟨h1, h2⟩, h3⟩, h5⟩ := h0
    obtain ⟨b, hb, h⟩ := bind_some h
    obtain ⟨o', ho, h⟩ := bind_some h
    obtain ⟨es', he, h⟩ := bind_some h
    cases h
    obtain ⟨hB, id, s1, s2, s3⟩ := mthOf_ok (X := X) (C := C) hb
    obtain ⟨a1, a2, a3⟩ := S.es F he
    cases es with
    | nil =>
      cases he' : es' with
      | cons _ _ => rw [he'] at a3; simp at a3
      | nil => exact e_mthL0 hB s1 s2 s3 (S.e F ho).1 (wE_mono F.mono o') (base_ok h1) h3
    | cons e r =>
      have h6 := h2
      rw [List.all_cons, Bool.and_eq_true, Bool.not_eq_true'] at h6
      exact e_mthL hB s1 s2 s3 (S.e F ho).1 (wE_mono F.mono o') a1 (wEs_mono F.mono es') (base_ok h1) (few_ok h2 h5) h3 (star_ok h6.1) (stars_ok h6.2)
  | _ => cases h
theorem Snd.sub (S : Snd Φ C k n) (F : Fx Γ Φ C k X) {a i : Expr} {pos : Pos} {p : SE} (h : cE (n + 1) Γ (.Subscript a i pos) = some p) : PE X (.Subscript a i pos) (tE X.K C (wE Φ p)) := by
  by_cases hs : isSlice i = true
  · cases i with
    | Slice lo hi st sp =>
      cases st with
      | none =>
        obtain ⟨a', ha, h⟩ := bind_some h
        obtain ⟨l', hl, h⟩ := bind_some h
        obtain ⟨u', hu, h⟩ := bind_some h
        cases h
        exact e_slc (S.e F ha).1 (S.o F hl) (S.o F hu) (wE_mono F.mono a') (wO_mono F.mono l') (wO_mono F.mono u')
      | some st =>
        replace h : (match (generalizing := false) (some st : Option Expr) with
          | none => do
            let a ← cE n Γ a
            let lo ← cO n Γ lo
            let hi ← cO n Γ hi
            some (SE.slc (Γ.mut pos) a lo hi)
          | some (.UnaryOp .USub (.Constant (.int 1) _ _) _) => (match (generalizing := false) lo, hi with
            | none, none => (cE n Γ a).map (SE.rev (Γ.mut pos))
            | _, _ => none)
          | _ => none) = some p := h
        split at h
        · rename_i e; cases e
        · rename_i e
          cases e
          split at h
          · obtain ⟨a', ha, h⟩ := map_some h
            subst h
            exact e_rev (S.e F ha).1 (wE_mono F.mono a')
          · cases h
        · cases h
    | _ => cases hs
  · have hs : isSlice i = false := by simpa using hs
    have h : (do
        let a ← cE n Γ a
        let i ← cE n Γ i
        some (SE.idx a i)) = some p := by
      cases i <;> first | exact h | cases hs
    obtain ⟨a', ha, h⟩ := bind_some h
    obtain ⟨i', hi, h⟩ := bind_some h
    cases h
    exact e_idx (S.e F ha).1 (S.e F hi).1 (wE_mono F.mono a') (wE_mono F.mono i') (plainIx_ok hs)
theorem all_mem {l : List Nat} {q : List Nat} (h : (l.all fun j => decide (j ∈ q)) = true) : ∀ j ∈ l, j ∈ q := fun j hj => of_decide_eq_true (List.all_eq_true.mp h j hj)
theorem Snd.comp (S : Snd Φ C k n) (F : Fx Γ Φ C k X) {elt : Expr} {gs : List Comprehension} {scope : Scope} {pos : Pos} {p : SE} (h : cE (n + 1) Γ (.ListComp elt gs scope pos) = some p) :
    PE X (.ListComp elt gs scope pos) (tE X.K C (wE Φ p)) ∧
    ∀ {i : Nat} {y : Str} {py spos : Pos}, X.N[i]? = some y → X.env.scope.names.lookup y = some .local → swapsWith (.ListComp elt gs scope pos) (some (.Name y py)) spos.line X.env = pure true →
      ∃ t, PS X (.Assign [.Name y py] (.ListComp elt gs scope pos) spos) (tAsg t (gName i)) ∧ ∀ σ H Q, tE X.K C (wE Φ p) σ H Q → t σ H Q := by
  have h : (match (generalizing := false) gs with
      | [⟨tg, it, ifs, 0⟩] =>
        if blkC Γ.N Γ.sc scope (Γ.own scope) then do
          let it' ← cI n Γ tg it
          let tg' ← cT n (Γ.blk scope) tg
          let c' ← cC n (Γ.blk scope) ifs
          let elt' ← cE n (Γ.blk scope) elt
          if (slots tg').all (fun j => decide (j ∈ (Γ.own scope).map (·.2))) && !isSet it then some (SE.lc (Γ.mut pos) elt' tg' it' c' ((Γ.own scope).map (·.2))) else none
        else none
      | [⟨tg, it, ifs, 0⟩, ⟨tg1, it1, ifs1, 0⟩] =>
        if blkC Γ.N Γ.sc scope (Γ.own scope) then do
          let it' ← cI n Γ tg it
          let tg' ← cT n (Γ.blk scope) tg
          let c' ← cC n (Γ.blk scope) ifs
          let it1' ← cI n (Γ.blk scope) tg1 it1
          let tg1' ← cT n (Γ.blk scope) tg1
          let c1' ← cC n (Γ.blk scope) ifs1
          let elt' ← cE n (Γ.blk scope) elt
          if (slots tg').all (fun j => decide (j ∈ (Γ.own scope).map (·.2))) && (slots tg1').all (fun j => decide (j ∈ (Γ.own scope).map (·.2))) && !isSet it && !isSet it1 then
            some (SE.lc2 (Γ.mut pos) elt' tg' it' c' tg1' it1' c1' ((Γ.own scope).map (·.2)) (slots tg1')) else none
        else none
      | _ => none) = some p := h
  split at h
  · obtain ⟨hb, h⟩ := if_some h
    obtain ⟨i', hi, h⟩ := bind_some h
    obtain ⟨t', ht, h⟩ := bind_some h
    obtain ⟨c', hc, h⟩ := bind_some h
    obtain ⟨e', he, h⟩ := bind_some h
    obtain ⟨h0, h⟩ := if_some h
    simp only [Bool.and_eq_true, Bool.not_eq_true'] at h0
    cases h
    exact S.lc F hb hi ht hc he (all_mem h0.1) h0.2
  · obtain ⟨hb, h⟩ := if_some h
    obtain ⟨i', hi, h⟩ := bind_some h
    obtain ⟨t', ht, h⟩ := bind_some h
    obtain ⟨c', hc, h⟩ := bind_some h
    obtain ⟨i1', hi1, h⟩ := bind_some h
    obtain ⟨t1', ht1, h⟩ := bind_some h
    obtain ⟨c1', hc1, h⟩ := bind_some h
    obtain ⟨e', he, h⟩ := bind_some h
    obtain ⟨h0, h⟩ := if_some h
    simp only [Bool.and_eq_true, Bool.not_eq_true'] at h0
    cases h
    exact S.lc2 F hb hi ht hc hi1 ht1 hc1 he (all_mem h0.1.1.1) (all_mem h0.1.1.2) h0.1.2 h0.2
  · cases h
theorem Snd.expr (S : Snd Φ C k n) (F : Fx Γ Φ C k X) {e : Expr} {p : SE} (h : cE (n + 1) Γ e = some p) : PE X e (tE X.K C (wE Φ p)) ∧ isStar e = false := by
  cases e with
  | Name x pos => exact ⟨Snd.name F h, rfl⟩
  | Constant c kk pos =>
    refine ⟨?_, rfl⟩
    cases c with
    | int i => cases h; exact e_con pe_int fun _ _ => rep_int
    | bool b => cases h; exact e_con pe_bl fun _ _ => rep_bl
    | str x => cases h; exact e_con pe_str fun _ _ => rep_str
    | none => cases h; exact e_con pe_non fun _ _ => rep_non
    | _ => cases h
  | BinOp a o b pos =>
    refine ⟨?_, rfl⟩
    obtain ⟨o', ho, h⟩ := bind_some h
    obtain ⟨a', ha, h⟩ := bind_some h
    obtain ⟨b', hb, h⟩ := bind_some h
    cases h
    rw [bop_ok ho]
    exact e_bin (fun _ _ _ _ _ h => binD_mono h) (bin_ok (Γ.mut pos) o') (S.e F ha).1 (S.e F hb).1 (wE_mono F.mono a') (wE_mono F.mono b')
  | UnaryOp o a pos =>
    refine ⟨?_, rfl⟩
    cases o with
    | USub =>
      obtain ⟨a', ha, h⟩ := map_some (show (cE n Γ a).map SE.neg = some p from h)
      subst h
      exact e_neg (S.e F ha).1 (wE_mono F.mono a')
    | Not =>
      obtain ⟨a', ha, h⟩ := map_some (show (cE n Γ a).map SE.lnot = some p from h)
      subst h
      exact e_not (S.e F ha).1 (wE_mono F.mono a')
    | _ => cases h
  | BoolOp o es pos =>
    refine ⟨?_, rfl⟩
    cases o with
    | And => exact S.and F h
    | Or => exact S.or F h
  | IfExp t a b pos =>
    refine ⟨?_, rfl⟩
    obtain ⟨t', ht, h⟩ := bind_some h
    obtain ⟨a', ha, h⟩ := bind_some h
    obtain ⟨b', hb, h⟩ := bind_some h
    cases h
    exact e_if (S.b F ht) (S.e F ha).1 (S.e F hb).1 (wT_mono F.mono t') (wE_mono F.mono a') (wE_mono F.mono b')
  | Compare l ops rs pos =>
    refine ⟨?_, rfl⟩
    match ops, rs, h with
    | [o], [r], h =>
      obtain ⟨h0, h⟩ := ifn_some h
      obtain ⟨o', ho, h⟩ := bind_some h
      obtain ⟨l', hl, h⟩ := bind_some h
      obtain ⟨r', hr, h⟩ := bind_some h
      cases h
      rw [cop_ok ho]
      exact (S.cmp F hl hr h0 pos).1
    | [o, o2], [r, r2], h =>
      obtain ⟨h0, h⟩ := ifn_some h
      obtain ⟨o', ho, h⟩ := bind_some h
      obtain ⟨o2', ho2, h⟩ := bind_some h
      obtain ⟨l', hl, h⟩ := bind_some h
      obtain ⟨r', hr, h⟩ := bind_some h
      obtain ⟨r2', hr2, h⟩ := bind_some h
      cases h
      rw [cop_ok ho, cop_ok ho2]
      exact (S.chain F hl hr hr2 h0 pos).1
    | [], _, h => cases h
    | [_], [], h => cases h
    | [_], _ :: _ :: _, h => cases h
    | [_, _], [], h => cases h
    | [_, _], [_], h => cases h
    | [_, _], _ :: _ :: _ :: _, h => cases h
    | _ :: _ :: _ :: _, _, h => cases h
  | Tuple es kk pos =>
    refine ⟨?_, rfl⟩
    obtain ⟨es', he, h⟩ := map_some (show (cEs n Γ es).map SE.tup = some p from h)
    subst h
    exact e_tup (S.es F he).1 (wEs_mono F.mono es')
  | List es pos =>
    refine ⟨?_, rfl⟩
    obtain ⟨es', he, h⟩ := map_some (show (cEs n Γ es).map (SE.lst (Γ.mut pos)) = some p from h)
    subst h
    exact e_lst (S.es F he).1 (wEs_mono F.mono es')
  | Subscript a i pos => exact ⟨S.sub F h, rfl⟩
  | ListComp elt gs scope pos => exact ⟨(S.comp F h).1, rfl⟩
  | Call f es kws pos => exact ⟨S.call F h, rfl⟩
  | _ => cases h
theorem Snd.test (S : Snd Φ C k n) (F : Fx Γ Φ C k X) {e : Expr} {p : SB} (h : cB (n + 1) Γ e = some p) : PT X e (MI.tB X.K C (wT Φ p)) := by
  have val : isTest e = false → cB (n + 1) Γ e = (if isTest e = true then none else (cE n Γ e).map SB.val) → PT X e (MI.tB X.K C (wT Φ p)) := fun h0 he => by
    rw [he, if_neg (by rw [h0]; exact Bool.false_ne_true)] at h
    obtain ⟨e', h1, h⟩ := map_some h
    subst h
    exact b_val (S.e F h1).1 (wE_mono F.mono e') (plainT_ok h0)
  cases e with
  | UnaryOp o a pos =>
    cases o with
    | Not =>
      obtain ⟨a', ha, h⟩ := map_some (show (cB n Γ a).map SB.lnot = some p from h)
      subst h
      exact b_not (S.b F ha) (wT_mono F.mono a')
    | _ => exact val rfl rfl
  | BoolOp o es pos =>
    cases o with
    | And => exact (S.band F h).pt
    | Or => exact (S.bor F h).pt
  | Compare l ops rs pos =>
    match ops, rs, h with
    | [o], [r], h =>
      obtain ⟨h0, h⟩ := ifn_some h
      obtain ⟨o', ho, h⟩ := bind_some h
      obtain ⟨l', hl, h⟩ := bind_some h
      obtain ⟨r', hr, h⟩ := bind_some h
      cases h
      rw [cop_ok ho]
      exact (S.cmp F hl hr h0 pos).2
    | [o, o2], [r, r2], h =>
      obtain ⟨h0, h⟩ := ifn_some h
      obtain ⟨o', ho, h⟩ := bind_some h
      obtain ⟨o2', ho2, h⟩ := bind_some h
      obtain ⟨l', hl, h⟩ := bind_some h
      obtain ⟨r', hr, h⟩ := bind_some h
      obtain ⟨r2', hr2, h⟩ := bind_some h
      cases h
      rw [cop_ok ho, cop_ok ho2]
      exact (S.chain F hl hr hr2 h0 pos).2
    | [], _, h => cases h
    | [_], [], h => cases h
    | [_], _ :: _ :: _, h => cases h
    | [_, _], [], h => cases h
    | [_, _], [_], h => cases h
    | [_, _], _ :: _ :: _ :: _, h => cases h
    | _ :: _ :: _ :: _, _, h => cases h
  | IfExp _ _ _ _ => cases h
  | _ => exact val rfl rfl
theorem Snd.step (S : Snd Φ C k n) : Snd Φ C k (n + 1) :=
  ⟨fun F h => S.expr F h, fun F h => S.lists F h, fun F h => S.ands F h, fun F h => S.ors F h, fun F h => S.test F h, fun F h => S.bands F h, fun F h => S.bors F h, fun F h => S.opts F h, fun F h => S.tests F h, fun F h => S.target F h, fun F h => S.targets F h, fun F h => S.iter F h⟩
theorem snd_all : ∀ n, Snd Φ C k n
  | 0 => snd_zero
  | n + 1 => (snd_all n).step
end
end MI

set_option maxRecDepth 100000
/-! MI, part 13: statements: their readings, the rules. -/
namespace MI
open PySem PySem.Spec PyProof.Rows L2
section
variable (K : PySem.W.Frag) (C : Nat → Addr)
def PostS (H : Hp) (ι : Io) (R : L2.St → Hp → Prop) : Ev → Sto → Prop := fun env st => ∀ σ H' ι', Ext H ι H' ι' → Sim K C H' ι' st → EnvR K C H' ι' σ env → R σ H'
def toX (H : Hp) (ι : Io) (D : Ends) : EndsD := ⟨PostS K C H ι D.nx, Post K C H ι D.rt, PostS K C H ι D.bk, PostS K C H ι D.ct⟩
def tS (m : EndsD → Ev → Sto → Prop) : TS := fun D σ H => ∃ ι env st, Sim K C H ι st ∧ EnvR K C H ι σ env ∧ m (toX K C H ι D) env st
end
def MonoS (m : EndsD → Ev → Sto → Prop) : Prop := ∀ X Y env st, EndsD.Le X Y → m X env st → m Y env st
section
variable {K : PySem.W.Frag} {C : Nat → Addr} {H H' : Hp} {ι ι' : Io} {D : Ends}
theorem PostS.ext {R : L2.St → Hp → Prop} {env : Ev} {st : Sto} (h : PostS K C H ι R env st) (e : Ext H ι H' ι') : PostS K C H' ι' R env st := fun σ H2 ι2 e2 => h σ H2 ι2 (e.trans e2)
theorem toX_le (e : Ext H ι H' ι') : EndsD.Le (toX K C H ι D) (toX K C H' ι' D) := ⟨fun _ _ h => h.ext e, fun _ _ h => h.ext e, fun _ _ h => h.ext e, fun _ _ h => h.ext e⟩
end
section
variable {X : Cx} {C : Nat → Addr} {m m2 : EndsD → Ev → Sto → Prop} {st : Stmt} {rest a b : List Stmt} {e tg it c : Expr} {pos : Pos} {me : Ev → Sto → Kd → Prop} {vs : List Nat} {mg : D → Ev → Sto → (Ev → Sto → Prop) → Prop} {mc : Ev → Sto → (Bool → Sto → Prop) → Prop} {mi : Ev → Sto → (Its → Sto → Prop) → Prop}
theorem s_nil : PSs X [] (tS X.K C fun E env st => E.nx env st) := pss_nil.imp fun D σ H ⟨ι, env, st, S, E, q⟩ => q σ H ι (.refl _ _) S E
theorem s_cons (h1 : PS X st (tS X.K C m)) (h2 : PSs X rest (tS X.K C m2)) (o1 : MonoS m) (o2 : MonoS m2) : PSs X (st :: rest) (tS X.K C fun E env st => m { E with nx := m2 E } env st) :=
  (pss_cons h1 h2).imp fun D σ H ⟨ι, env, st, S, E, q⟩ => ⟨ι, env, st, S, E, o1 { toX X.K C H ι D with nx := m2 (toX X.K C H ι D) } _ _ _ ⟨fun env' st' q σ' H' ι' e' S' E' => ⟨ι', env', st', S', E', o2 _ _ _ _ (toX_le e') q⟩, fun _ _ h => h, fun _ _ h => h, fun _ _ h => h⟩ q⟩
theorem s_pass : PS X (.Pass pos) (tS X.K C fun E env st => E.nx env st) := ps_pass.imp fun D σ H ⟨ι, env, st, S, E, q⟩ => q σ H ι (.refl _ _) S E
theorem s_doc {x j pos pos'} : PS X (.Expr (.Constant (.str x) j pos) pos') (tS X.K C fun E env st => E.nx env st) := ps_doc.imp fun D σ H ⟨ι, env, st, S, E, q⟩ => q σ H ι (.refl _ _) S E
theorem s_break : PS X (.Break pos) (tS X.K C fun E env st => E.bk env st) := ps_break.imp fun D σ H ⟨ι, env, st, S, E, q⟩ => q σ H ι (.refl _ _) S E
theorem s_cont : PS X (.Continue pos) (tS X.K C fun E env st => E.ct env st) := ps_continue.imp fun D σ H ⟨ι, env, st, S, E, q⟩ => q σ H ι (.refl _ _) S E
theorem s_never : PS X st (tS X.K C fun _ _ _ => False) := ps_never.imp fun D σ H ⟨ι, env, st, S, E, q⟩ => q
theorem s_expr (he : PE X e (tE X.K C me)) (oe : MonoE me) (hs : swapsWith e none pos.line X.env = pure false) : PS X (.Expr e pos) (tS X.K C fun E env st => me env st fun _ s1 => E.nx env s1) :=
  (ps_expr he hs).imp fun D σ H ⟨ι, env, st, S, E, q⟩ => tE.step oe S E q fun d s1 x H1 ι1 q e1 S1 E1 r1 => q σ H1 ι1 e1 S1 E1
theorem s_ret (he : PE X e (tE X.K C me)) : PS X (.Return (some e) pos) (tS X.K C fun E env st => me env st E.rt) :=
  (ps_ret he).imp fun D σ H ⟨ι, env, st, S, E, q⟩ => ⟨ι, env, st, S, E, q⟩
theorem s_retN : PS X (.Return none pos) (tS X.K C fun E env st => E.rt .non st) :=
  ps_retN.imp fun D σ H ⟨ι, env, st, S, E, q⟩ => q _ H ι (.refl _ _) S rep_non
theorem s_if (hc : PT X c (MI.tB X.K C mc)) (ha : PSs X a (tS X.K C m)) (hb : PSs X b (tS X.K C m2)) (oc : MonoB mc) (o1 : MonoS m) (o2 : MonoS m2) : PS X (.If c a b pos) (tS X.K C fun E env st => mc env st fun k s1 => if k = true then m E env s1 else m2 E env s1) :=
  (ps_if hc ha hb).imp fun D σ H ⟨ι, env, st, S, E, q⟩ => tB.step oc S E q fun k s1 H1 ι1 q e1 S1 E1 => by
    cases k with
    | true =>
      simp only [if_true] at q ⊢
      exact ⟨ι1, env, s1, S1, E1, o1 _ _ _ _ (toX_le e1) q⟩
    | false =>
      simp only [Bool.false_eq_true, if_false] at q ⊢
      exact ⟨ι1, env, s1, S1, E1, o2 _ _ _ _ (toX_le e1) q⟩
theorem s_set_to {te : TE} {tg : TG} {D : Ends} {σ : L2.St} {H : Hp} (oe : MonoE me) (og : MonoG mg) (ht : ∀ σ H Q, tE X.K C me σ H Q → te σ H Q) (hg : ∀ v σ H Q, tG X.K C vs mg v σ H Q → tg v σ H Q)
    (h : tS X.K C (fun E env st => me env st fun x s1 => mg x env s1 E.nx) D σ H) : tAsg te tg D σ H := by
  obtain ⟨ι, env, st, S, E, q⟩ := h
  exact ht _ _ _ (tE.step oe S E q fun d s1 x H1 ι1 q e1 S1 E1 r1 => hg _ _ _ _ ⟨ι1, env, s1, d, S1, E1, r1, og _ _ _ _ _ (fun env' st' q σ' H' ι' e' S' E' _ => q σ' H' ι' (e1.trans e') S' E') q⟩)
theorem s_set (he : PE X e (tE X.K C me)) (hg : PG X tg (tG X.K C vs mg)) (oe : MonoE me) (og : MonoG mg) (hs : swapsWithSole [tg] e pos.line X.env = pure false) (hw : swappedStores [tg] e X.env = pure none)
    (h1 : (assignEach [tg] X.env).map (·.2) = [assign tg X.env]) : PS X (.Assign [tg] e pos) (tS X.K C fun E env st => me env st fun x s1 => mg x env s1 E.nx) :=
  (ps_asg he hg hs hw h1).imp fun D σ H q => s_set_to oe og (fun _ _ _ h => h) (fun _ _ _ _ h => h) q
theorem s_par {i j : Nat} {x y : Str} {a b : Expr} {ma mb : Ev → Sto → Kd → Prop} {px py pt : Pos} {kt k2 : Nat} {pt2 : Pos} (hc : X.calm = true) (hN : X.N.Nodup) (hi : X.N[i]? = some x) (hj : X.N[j]? = some y) (hij : i ≠ j)
    (hx : X.env.scope.names.lookup x = some .local) (hy : X.env.scope.names.lookup y = some .local) (ha : PE X a (tE X.K C ma)) (hb : PE X b (tE X.K C mb)) (oa : MonoE ma) (ob : MonoE mb) (h1 : isStar a = false) (h2 : isStar b = false)
    (hw : swappedStores [.Tuple [.Name x px, .Name y py] kt pt] (.Tuple [a, b] k2 pt2) X.env = pure (some [x, y])) :
    PS X (.Assign [.Tuple [.Name x px, .Name y py] kt pt] (.Tuple [a, b] k2 pt2) pos) (tS X.K C fun E env st => ma env st fun d s1 => mb env s1 fun f s2 => E.nx ((env.set i (some d)).set j (some f)) s2) :=
  (ps_par hc hN hi hj hij hx hy (pa_cons ha (pa_cons hb pa_nil (star_ok h2)) (star_ok h1)) hw).imp fun D σ H ⟨ι, env, st, S, E, q⟩ => tE.step oa S E q fun d s1 v H1 ι1 q e1 S1 E1 r1 => tE.step ob S1 E1 q fun f s2 u H2 ι2 q e2 S2 E2 r2 =>
    ⟨v, u, rfl, q _ H2 ι2 (e1.trans e2) S2 ((E2.set (r1.mono e2) i).set r2 j)⟩
theorem s_aug {i : Nat} {x : Str} {o : BOp} {pos' : Pos} (hN : X.N.Nodup) (hi : X.N[i]? = some x) (hx : Loc X.env.scope x) (hf : X.fn x = true ∨ X.env.scope.names.lookup x = some .local) (he : PE X e (tE X.K C me)) (oe : MonoE me) :
    PS X (.AugAssign (.Name x pos') o.py e pos) (tS X.K C fun E env st => (match env[i]? with
    | some (some x) => me env st fun y s1 => augD o x y s1 fun z s2 => E.nx (env.set i (some z)) s2
    | _ => False)) :=
  (ps_aug hN hi hx he (aug_ok o) hf).imp fun D σ H ⟨ι, env, st, S, E, q⟩ => by
    dsimp only at q
    split at q
    · rename_i d hd
      obtain ⟨v, h1, h2⟩ := E.get i d hd
      exact ⟨v, h1, tE.step oe S E q fun y s1 u H1 ι1 q e1 S1 E1 r1 => ⟨ι1, s1, d, y, S1, h2.mono e1, r1, augD_mono (fun z s2 q w H2 ι2 e2 S2 r2 => q _ H2 ι2 (e1.trans e2) S2 ((E1.mono e2).set r2 i)) q⟩⟩
    · exact q.elim
theorem getL_ok : PGet X (rD2 X.K C idxL) := by
  intro pins s σ H o i ov iv Q I ro ri h
  obtain ⟨ι, st, d, e, S, rd, re, h⟩ := h
  unfold idxL at h
  split at h
  · rename_i n k
    split at h
    · rename_i xs hn
      simp only [Rep] at re; subst re
      obtain ⟨t, rfl⟩ := ri
      obtain ⟨d', e2, h⟩ := opt_some h
      obtain ⟨a, vs, rfl, ha, h1, h2⟩ := loc_lst S rd hn
      obtain ⟨w, e3, rw'⟩ := atI_rep h2 e2
      cases ro
      obtain ⟨its, r, pl, hz⟩ := I.list (SqL.of h1)
      obtain ⟨j, j1, j2, j3, j4, j5⟩ := atI_get e3
      obtain ⟨u, eu, ru⟩ := r.get j2
      have hl := r.length
      have hn63 := line63
      have fin : EP X pins σ Q u s := ⟨w, H, I, ru, h.here S rw'⟩
      by_cases h0 : 0 ≤ k
      · have hj : k.toNat = j := by
          rw [seqIndex_of h0 j5] at j1
          exact Option.some.inj j1
        exact wpAny_getItem_list pl.isList h0 (by omega) (by rw [hj]; simpa using eu) fin
      · have hj : (k + (its.toArray.size : Int)).toNat = j := by
          rw [seqIndex_neg (by omega) j4] at j1
          rw [List.size_toArray, ← hl]
          exact Option.some.inj j1
        exact wpAny_getItem_list_neg pl.isList (by omega) (by rw [List.size_toArray]; omega) (by omega) (by rw [hj]; simpa using eu) fin
    · exact h.elim
  · exact h.elim
theorem s_augS {oe ie : Expr} {mo mi' : Ev → Sto → Kd → Prop} {o : BOp} {tpos : Pos} (ho : PE X oe (tE X.K C mo)) (hi : PE X ie (tE X.K C mi')) (he : PE X e (tE X.K C me)) (oo : MonoE mo) (oi : MonoE mi') (oe' : MonoE me)
    (ha : ∀ ov iv new, augStore ie ov iv new = (do holding [new, ov, iv] (setItem ov iv new); release [new, ov, iv] []; pure .next)) :
    PS X (.AugAssign (.Subscript oe ie tpos) o.py e pos) (tS X.K C fun E env st => mo env st fun x s1 => mi' env s1 fun y s2 => idxL x y s2 fun z s3 => me env s3 fun v s4 => augD o z v s4 fun r s5 => setD x y r s5 fun s6 => E.nx env s6) :=
  (ps_augS ho hi getL_ok he (aug_ok o) set_ok ha).imp fun D σ H ⟨ι, env, st, S, E, q⟩ => tE.step oo S E q fun x s1 vx H1 ι1 q e1 S1 E1 r1 => tE.step oi S1 E1 q fun y s2 vy H2 ι2 q e2 S2 E2 r2 =>
    ⟨ι2, s2, x, y, S2, r1.mono e2, r2, idxL_mono (fun z s3 q vz H3 ι3 e3 S3 r3 => tE.step oe' S3 (E2.mono e3) q fun v s4 vv H4 ι4 q e4 S4 E4 r4 =>
      ⟨ι4, s4, z, v, S4, r3.mono e4, r4, augD_mono (fun r s5 q vr H5 ι5 e5 S5 r5 => ⟨ι5, s5, x, y, r, S5, ((((r1.mono e2).mono e3).mono e4).mono e5), (((r2.mono e3).mono e4).mono e5), r5,
        setD_mono (fun s6 q H6 ι6 e6 S6 => q σ H6 ι6 (((((e1.trans e2).trans e3).trans e4).trans e5).trans e6) S6 ((E4.mono e5).mono e6)) q⟩) q⟩) q⟩
theorem s_for {body : List Stmt} (hp : PassesOwn (model X.prog X.w) X.A X.env X.xe) (hc : X.calm = true) (hi : PI X tg it (tIt X.K C mi)) (hg : PG X tg (tG X.K C vs mg)) (hb : PSs X body (tS X.K C m)) (oi : MonoI mi) (og : MonoG mg) (om : MonoS m)
    (hs : ∀ x, foldedSetIterable it X.env x = pure x) : PS X (.For tg it body [] pos) (tS X.K C fun E env st => mi env st fun J s1 => forW (fun x e s K => mg x e s K) m J.keep E J.items env s1) :=
  (ps_for hp hc hi hg hb hs).imp fun D σ H ⟨ι, env, st, S, E, q⟩ => by
    refine ⟨ι, env, st, S, E, oi _ _ _ _ (fun J s1 q T H1 ι1 e1 S1 its => ?_) q⟩
    refine ⟨fun i mm σ' H' => mm = J.items.length - i ∧ i ≤ J.items.length ∧ ∃ ι' env' st', Ext H1 ι1 H' ι' ∧ Sim X.K C H' ι' st' ∧ EnvR X.K C H' ι' σ' env' ∧ forW (fun x e s K => mg x e s K) m J.keep (toX X.K C H ι D) (J.items.drop i) env' st',
      ⟨J.items.length, by omega, Nat.zero_le _, ι1, env, s1, .refl _ _, S1, E.mono e1, q⟩, ?_⟩
    rintro i mm σ' H' ⟨rfl, hil, ι', env', st', e', S', E', q⟩
    by_cases hlt : i < J.items.length
    · rw [drop_cons hlt] at q
      obtain ⟨hk, q⟩ := q
      obtain ⟨go, yl⟩ := (its i H' ι' st' e'.toKp S' hk).1 hlt
      refine .inr ⟨go, fun σ' H' => ∃ ι' env' st', Ext H1 ι1 H' ι' ∧ Sim X.K C H' ι' st' ∧ EnvR X.K C H' ι' σ' env' ∧ forW (fun x e s K => mg x e s K) m J.keep (toX X.K C H ι D) (J.items.drop (i + 1)) env' st',
        fun σ' H' w => ⟨J.items.length - (i + 1), by omega, rfl, hlt, w⟩, fun x H2 y => ?_⟩
      obtain ⟨d, ed, e2, S2, r2⟩ := yl x H2 y
      rw [List.getElem?_eq_getElem hlt] at ed
      cases ed
      refine ⟨ι', env', st', _, S2, E'.mono e2, r2, og _ _ _ _ _ (fun env3 st3 q σ3 H3 ι3 e3 S3 E3 O3 => ?_) q⟩
      have e13 := (e'.trans e2).trans e3
      refine ⟨ι3, env3, st3, S3, E3, om _ _ _ _ ⟨fun env4 st4 q σ4 H4 ι4 e4 S4 E4 => ⟨ι4, env4, st4, e13.trans e4, S4, E4, q⟩, fun d4 s4 q => Post.ext q (e1.trans e13), fun env4 st4 q => PostS.ext q (e1.trans e13),
        fun env4 st4 q σ4 H4 ι4 e4 S4 E4 => ⟨ι4, env4, st4, e13.trans e4, S4, E4, q⟩⟩ q⟩
    · have e : i = J.items.length := by omega
      subst e
      rw [List.drop_length] at q
      exact .inl ⟨(its _ H' ι' st' e'.toKp S' q.1).2 (Nat.le_refl _), q.2 σ' H' ι' (e1.trans e') S' E'⟩
theorem s_while {body : List Stmt} (hp : PassesOwn (model X.prog X.w) X.A X.env X.xe) (hc : PT X c (MI.tB X.K C mc)) (hb : PSs X body (tS X.K C m)) (oc : MonoB mc) (om : MonoS m) :
    PS X (.While c body [] pos) (tS X.K C fun E env st => ∃ n, whileW (fun e s K => mc e s K) m E n env st) :=
  (ps_while hp hc hb).imp fun D σ H ⟨ι, env, st, S, E, n, q⟩ => by
    refine ⟨fun n σ' H' => ∃ ι' env' st', Ext H ι H' ι' ∧ Sim X.K C H' ι' st' ∧ EnvR X.K C H' ι' σ' env' ∧ whileW (fun e s K => mc e s K) m (toX X.K C H ι D) n env' st', ⟨n, ι, env, st, .refl _ _, S, E, q⟩, ?_⟩
    rintro n σ' H' ⟨ι', env', st', e', S', E', q⟩
    cases n with
    | zero => exact q.elim
    | succ n =>
      refine tB.step oc S' E' q fun k s1 H1 ι1 q e1 S1 E1 => ?_
      cases k with
      | true =>
        simp only [if_true] at q ⊢
        refine ⟨fun σ' H' => ∃ ι' env' st', Ext H ι H' ι' ∧ Sim X.K C H' ι' st' ∧ EnvR X.K C H' ι' σ' env' ∧ whileW (fun e s K => mc e s K) m (toX X.K C H ι D) n env' st', fun σ' H' w => ⟨n, Nat.lt_succ_self _, w⟩, ?_⟩
        have e01 := e'.trans e1
        exact ⟨ι1, env', s1, S1, E1, om _ _ _ _ ⟨fun env4 st4 q σ4 H4 ι4 e4 S4 E4 => ⟨ι4, env4, st4, e01.trans e4, S4, E4, q⟩, fun d4 s4 q => Post.ext q e01, fun env4 st4 q => PostS.ext q e01,
          fun env4 st4 q σ4 H4 ι4 e4 S4 E4 => ⟨ι4, env4, st4, e01.trans e4, S4, E4, q⟩⟩ q⟩
      | false =>
        simp only [Bool.false_eq_true, if_false] at q ⊢
        exact q σ' H1 ι1 (e'.trans e1) S1 E1
end
end MI

set_option maxRecDepth 100000
/-! MI, part 14: statements from the program's text; a def's promise from its body. -/
namespace MI
open PySem PySem.Spec PyProof.Rows L2

def isTupE : Expr → Bool
  | .Tuple _ _ _ => true
  | .List _ _ => true
  | _ => false
def Gam.isLoc (Γ : Gam) (x : Str) : Bool := match Γ.sc.names.lookup x with
  | some .local => true
  | _ => false
def Gam.st (Γ : Gam) (x : Str) : Option Nat := match Γ.sc.names.lookup x with
  | some .local => Γ.slot x
  | some .cell => if Γ.fn x then Γ.slot x else none
  | _ => none
def Gam.isFun (Γ : Gam) : Bool := match Γ.sc.kind with
  | .function => true
  | _ => false
def parOk (Γ : Gam) (x y : Str) (px py : Pos) (a b : Expr) : Bool :=
  Γ.isFun && Γ.isLoc x && Γ.isLoc y && (py.line == px.line) && !decide (x = y) && !([a, b].all (foldedForSure 8)) && !([a, b].all (constantsAlone 8))
mutual
def cS : Nat → Gam → Stmt → Option SS
  | 0, _, _ => none
  | n + 1, Γ, s => match s with
    | .Pass _ => some .pass
    | .Break _ => some .brk
    | .Continue _ => some .cont
    | .Raise _ _ _ => some .never
    | .Expr e _ => (match e with
      | .Constant (.str _) _ _ => some .pass
      | e => if isComp e then none else (cE n Γ e).map .expr)
    | .Return o _ => (match o with
      | none => some (.ret (.con .non))
      | some e => (cE n Γ e).map .ret)
    | .If c a b _ => do
      let c ← cB n Γ c
      let a ← cSs n Γ a
      let b ← cSs n Γ b
      some (.ite c a b)
    | .For tg it body orelse _ => (match orelse with
      | [] => if isSet it then none else do
        let it' ← cI n Γ tg it
        let tg' ← cT n Γ tg
        let body ← cSs n Γ body
        some (.for_ tg' it' body)
      | _ => none)
    | .While c body orelse _ => (match orelse with
      | [] => do
        let c ← cB n Γ c
        let body ← cSs n Γ body
        some (.while_ c body)
      | _ => none)
    | .AugAssign tg op e _ => (match tg with
      | .Name x _ => do
        let o ← bop op
        let i ← Γ.st x
        let e ← cE n Γ e
        some (.aug i o e)
      | .Subscript a i _ => if isSlice i then none else do
        let o ← bop op
        let a ← cE n Γ a
        let i ← cE n Γ i
        let e ← cE n Γ e
        some (.augS a i o e)
      | _ => none)
    | .Assign tgs e pos => (match tgs with
      | [tg] => (match tg, e with
        | .Tuple [.Name x px, .Name y py] _ _, .Tuple [a, b] _ _ => if parOk Γ x y px py a b then do
            let i ← Γ.slot x
            let j ← Γ.slot y
            let a ← cE n Γ a
            let b ← cE n Γ b
            if i = j then none else some (.par i j a b)
          else none
        | tg, e => if isTupE tg && isTupE e then none else do
            let t ← cT n Γ tg
            let e ← cE n Γ e
            some (.set t e))
      | _ => none)
    | _ => none
def cSs : Nat → Gam → List Stmt → Option (List SS)
  | 0, _, _ => none
  | n + 1, Γ, l => match l with
    | [] => some []
    | s :: r => do
      let s ← cS n Γ s
      let r ← cSs n Γ r
      some (s :: r)
end

theorem swapped_ok {x y : Str} {px py pt pt2 : Pos} {kt k2 : Nat} {a b : Expr} {env : Env} (hk : env.blockKind = .function) (hx : env.kindOf x = some .local) (hy : env.kindOf y = some .local) (hl : (py.line == px.line) = true) (hne : x ≠ y)
    (h1 : isStar a = false) (h2 : isStar b = false) (hf : [a, b].all (foldedForSure 8) = false) (hc : [a, b].all (constantsAlone 8) = false) :
    swappedStores [.Tuple [.Name x px, .Name y py] kt pt] (.Tuple [a, b] k2 pt2) env = pure (some [x, y]) := by
  have hl' : py.line = px.line := by simpa using hl
  have ed : [x, y].eraseDups.length = 2 := by
    have h : ¬ (y == x) = true := by simpa using fun e => hne e.symm
    simp [List.eraseDups_cons, h, hne.symm]
  unfold swappedStores
  simp only [List.length_cons, List.length_nil, hk, List.head?_cons, Option.map_some, Option.getD_some, Expr.pos, List.filterMap_cons, List.filterMap_nil, hx, hy, hl', beq_self_eq_true, Bool.and_self, if_true, ed, hf, hc, List.any_cons, List.any_nil]
  simp
  intro h
  exfalso
  rcases h with h | h
  · cases a <;> first | (cases h; done) | (cases h1; done)
  · cases b <;> first | (cases h; done) | (cases h2; done)

/-! ### the statements' theorem -/
structure Fs (Γ : Gam) (Φ : Fns) (C : Nat → Addr) (k : Nat) (X : Cx) : Prop where
  fx : Fx Γ Φ C k X
  pass : PassesOwn (model X.prog X.w) X.A X.env X.xe
structure SndS (Φ : Fns) (C : Nat → Addr) (k n : Nat) : Prop where
  s : ∀ {Γ X s p}, Fs Γ Φ C k X → cS n Γ s = some p → PS X s (tS X.K C (wS Φ p))
  ss : ∀ {Γ X l p}, Fs Γ Φ C k X → cSs n Γ l = some p → PSs X l (tS X.K C (wSs Φ p))
section
variable {Φ : Fns} {C : Nat → Addr} {k n : Nat} {Γ : Gam} {X : Cx}
theorem st_ok {x : Str} {i : Nat} (F : Fx Γ Φ C k X) (h : Γ.st x = some i) : X.N[i]? = some x ∧ Loc X.env.scope x ∧ (X.fn x = true ∨ X.env.scope.names.lookup x = some .local) := by
  unfold Gam.st at h
  split at h
  · rename_i e
    exact ⟨slot_ok F h, .inl (by rw [F.sc]; exact e), .inr (by rw [F.sc]; exact e)⟩
  · rename_i e
    obtain ⟨h0, h⟩ := if_some h
    exact ⟨slot_ok F h, .inr (by rw [F.sc]; exact e), .inl (by rw [F.fn]; exact h0)⟩
  · cases h
theorem swaps_no {e : Expr} {t : Option Expr} {l : Nat} {env : Env} (h : isComp e = false) : swapsWith e t l env = pure false := by
  cases e <;> first | rfl | cases h
theorem swapped_no {tg e : Expr} {env : Env} (h : (isTupE tg && isTupE e) = false) : swappedStores [tg] e env = pure none := by
  cases tg <;> first | rfl | (cases e <;> first | rfl | cases h)
theorem aug_plain {i : Expr} (h : isSlice i = false) : ∀ ov iv new, augStore i ov iv new = (do holding [new, ov, iv] (setItem ov iv new); release [new, ov, iv] []; pure .next) := by
  intro ov iv new
  cases i <;> first | rfl | cases h
theorem SndS.assign (F : Fs Γ Φ C k X) {tg e : Expr} {pos : Pos} {t : ST} {e' : SE} (h0 : (isTupE tg && isTupE e) = false) (ht : cT n Γ tg = some t) (he : cE n Γ e = some e') : PS X (.Assign [tg] e pos) (tS X.K C (wS Φ (.set t e'))) := by
  have S := snd_all (Φ := Φ) (C := C) (k := k) n
  obtain ⟨g1, g2⟩ := S.t F.fx ht
  have plain : swapsWithSole [tg] e pos.line X.env = pure false → PS X (.Assign [tg] e pos) (tS X.K C (wS Φ (.set t e'))) := fun hs =>
    s_set (S.e F.fx he).1 g1 (wE_mono F.fx.mono e') (wG_mono F.fx.mono t) hs (swapped_no h0) (by rw [assignEach_ok g2]; rfl)
  by_cases hc : isComp e = true
  · cases e with
    | ListComp elt gs scope ep =>
      cases n with
      | zero => cases he
      | succ n =>
      cases tg with
      | Name y py =>
        by_cases hb : (decide (X.env.blockKind = .function) && decide (X.env.kindOf y = some .local) && (py.line == ep.line) && !(scope.names.any fun (n, k) => n == y && (k == .local || k == .cell))) = true
        · simp only [Bool.and_eq_true, decide_eq_true_eq, Bool.not_eq_true'] at hb
          obtain ⟨⟨⟨b1, b2⟩, b3⟩, b4⟩ := hb
          have hl : X.env.scope.names.lookup y = some .local := b2
          have hsw : swapsWith (.ListComp elt gs scope ep) (some (.Name y py)) pos.line X.env = pure true := by
            unfold swapsWith
            simp only [b1, b2, b3, b4, Expr.pos]
            rfl
          have hcT : (match (generalizing := false) Γ.sc.names.lookup y with
            | some .local => (Γ.slot y).map ST.nm
            | some .cell => if Γ.fn y then (Γ.slot y).map ST.nm else none
            | _ => none) = some t := ht
          rw [← F.fx.sc, hl] at hcT
          obtain ⟨i, hi, rfl⟩ := map_some hcT
          obtain ⟨te, h1, h2⟩ := ((snd_all n).comp F.fx he).2 (slot_ok F.fx hi) hl hsw
          exact h1.imp fun D σ H q => s_set_to (vs := [i]) (wE_mono F.fx.mono e') (wG_mono F.fx.mono (.nm i)) h2 (fun v σ H Q ⟨ι, env, st, d, S, E, r, q⟩ => q _ H ι (.refl _ _) S (E.set r i) ⟨by simp, fun j hj => by
            rw [List.getElem?_set_ne]
            simpa using fun e => hj (by simp [e])⟩) q
        · refine plain ?_
          show swapsWith (.ListComp elt gs scope ep) (some (.Name y py)) pos.line X.env = pure false
          unfold swapsWith
          simp only [Expr.pos]
          show (pure (X.env.blockKind == .function && X.env.kindOf y == some .local && py.line == ep.line && !(scope.names.any fun (n, k) => n == y && (k == .local || k == .cell))) : Sem Bool) = pure false
          congr 1
          have hb := eq_false_of_ne_true hb
          rw [← hb, Bool.eq_iff_iff]
          simp
      | _ => exact plain rfl
    | SetComp _ _ _ _ => cases n <;> cases he
    | DictComp _ _ _ _ _ => cases n <;> cases he
    | _ => cases hc
  · exact plain (swaps_no (by simpa using hc))
theorem sndS_zero : SndS Φ C k 0 := ⟨fun {_ _ _ _} _ h => (by cases h), fun {_ _ _ _} _ h => (by cases h)⟩
theorem SndS.step (R : SndS Φ C k n) : SndS Φ C k (n + 1) := by
  have S := snd_all (Φ := Φ) (C := C) (k := k) n
  refine ⟨fun {Γ X s p} F h => ?_, fun {Γ X l p} F h => ?_⟩
  · cases s with
    | Pass _ => cases h; exact s_pass
    | Break _ => cases h; exact s_break
    | Continue _ => cases h; exact s_cont
    | Raise _ _ _ => cases h; exact s_never
    | Expr e pos =>
      have gen : (if isComp e then none else (cE n Γ e).map SS.expr) = some p → PS X (.Expr e pos) (tS X.K C (wS Φ p)) := fun h => by
        obtain ⟨h0, h⟩ := ifn_some h
        obtain ⟨e', he, h⟩ := map_some h
        subst h
        exact s_expr (S.e F.fx he).1 (wE_mono F.fx.mono e') (swaps_no h0)
      cases e with
      | Constant c kk cp =>
        cases c with
        | str x => cases h; exact s_doc
        | _ => exact gen h
      | _ => exact gen h
    | Return o _ =>
      cases o with
      | none => cases h; exact s_retN
      | some e =>
        obtain ⟨e', he, h⟩ := map_some (show (cE n Γ e).map SS.ret = some p from h)
        subst h
        exact s_ret (S.e F.fx he).1
    | If c a b _ =>
      obtain ⟨c', hc, h⟩ := bind_some h
      obtain ⟨a', ha, h⟩ := bind_some h
      obtain ⟨b', hb, h⟩ := bind_some h
      cases h
      exact s_if (S.b F.fx hc) (R.ss F ha) (R.ss F hb) (wT_mono F.fx.mono c') (fun _ _ _ _ => wSs_mono F.fx.mono a' _ _ _ _) (fun _ _ _ _ => wSs_mono F.fx.mono b' _ _ _ _)
    | For tg it body orelse _ =>
      cases orelse with
      | cons _ _ => cases h
      | nil =>
        obtain ⟨h0, h⟩ := ifn_some h
        obtain ⟨i', hi, h⟩ := bind_some h
        obtain ⟨t', ht, h⟩ := bind_some h
        obtain ⟨b', hb, h⟩ := bind_some h
        cases h
        exact s_for F.pass F.fx.calm (S.i F.fx hi) (S.t F.fx ht).1 (R.ss F hb) (wI_mono F.fx.mono i') (wG_mono F.fx.mono t') (fun _ _ _ _ => wSs_mono F.fx.mono b' _ _ _ _) (folded_ok h0)
    | While c body orelse _ =>
      cases orelse with
      | cons _ _ => cases h
      | nil =>
        obtain ⟨c', hc, h⟩ := bind_some h
        obtain ⟨b', hb, h⟩ := bind_some h
        cases h
        exact s_while F.pass (S.b F.fx hc) (R.ss F hb) (wT_mono F.fx.mono c') (fun _ _ _ _ => wSs_mono F.fx.mono b' _ _ _ _)
    | AugAssign tg op e _ =>
      cases tg with
      | Name x xp =>
        obtain ⟨o', ho, h⟩ := bind_some h
        obtain ⟨i', hi, h⟩ := bind_some h
        obtain ⟨e', he, h⟩ := bind_some h
        cases h
        obtain ⟨s1, s2, s3⟩ := st_ok F.fx hi
        rw [bop_ok ho]
        exact s_aug F.fx.nd s1 s2 s3 (S.e F.fx he).1 (wE_mono F.fx.mono e')
      | Subscript a i sp =>
        obtain ⟨h0, h⟩ := ifn_some h
        obtain ⟨o', ho, h⟩ := bind_some h
        obtain ⟨a', ha, h⟩ := bind_some h
        obtain ⟨i', hi, h⟩ := bind_some h
        obtain ⟨e', he, h⟩ := bind_some h
        cases h
        rw [bop_ok ho]
        exact s_augS (S.e F.fx ha).1 (S.e F.fx hi).1 (S.e F.fx he).1 (wE_mono F.fx.mono a') (wE_mono F.fx.mono i') (wE_mono F.fx.mono e') (aug_plain h0)
      | _ => cases h
    | Assign tgs e pos =>
      match tgs, h with
      | [], h => cases h
      | _ :: _ :: _, h => cases h
      | [tg], h =>
        replace h : (match (generalizing := false) tg, e with
        | .Tuple [.Name x px, .Name y py] _ _, .Tuple [a, b] _ _ => if parOk Γ x y px py a b then do
            let i ← Γ.slot x
            let j ← Γ.slot y
            let a ← cE n Γ a
            let b ← cE n Γ b
            if i = j then none else some (SS.par i j a b)
          else none
        | tg, e => if isTupE tg && isTupE e then none else do
            let t ← cT n Γ tg
            let e ← cE n Γ e
            some (SS.set t e)) = some p := h
        split at h
        · obtain ⟨h0, h⟩ := if_some h
          obtain ⟨i', hi, h⟩ := bind_some h
          obtain ⟨j', hj, h⟩ := bind_some h
          obtain ⟨a', ha, h⟩ := bind_some h
          obtain ⟨b', hb, h⟩ := bind_some h
          split at h
          · cases h
          · rename_i hij
            cases h
            unfold parOk at h0
            simp only [Bool.and_eq_true, Bool.not_eq_true', decide_eq_false_iff_not] at h0
            obtain ⟨⟨⟨⟨⟨⟨c1, c2⟩, c3⟩, c4⟩, c5⟩, c6⟩, c7⟩ := h0
            have lx : ∀ {x : Str}, Γ.isLoc x = true → X.env.scope.names.lookup x = some .local := fun {x} c => by
              unfold Gam.isLoc at c
              split at c
              · rw [F.fx.sc]; assumption
              · cases c
            have hk : X.env.blockKind = .function := by
              unfold Gam.isFun at c1
              split at c1
              · rename_i e
                unfold Env.blockKind
                rw [F.fx.sc, e]
                rfl
              · cases c1
            exact s_par F.fx.calm F.fx.nd (slot_ok F.fx hi) (slot_ok F.fx hj) hij (lx c2) (lx c3) (S.e F.fx ha).1 (S.e F.fx hb).1 (wE_mono F.fx.mono a') (wE_mono F.fx.mono b') (S.e F.fx ha).2 (S.e F.fx hb).2
              (swapped_ok hk (lx c2) (lx c3) c4 c5 (S.e F.fx ha).2 (S.e F.fx hb).2 c6 c7)
        · obtain ⟨h0, h⟩ := ifn_some h
          obtain ⟨t', ht, h⟩ := bind_some h
          obtain ⟨e', he, h⟩ := bind_some h
          cases h
          exact SndS.assign F h0 ht he
    | _ => cases h
  · cases l with
    | nil => cases h; exact s_nil
    | cons s r =>
      obtain ⟨s', hs, h⟩ := bind_some h
      obtain ⟨r', hr, h⟩ := bind_some h
      cases h
      exact s_cons (m := wS Φ s') (m2 := wSs Φ r') (R.s F hs) (R.ss F hr) (fun _ _ _ _ => wS_mono F.fx.mono s' _ _ _ _) (fun _ _ _ _ => wSs_mono F.fx.mono r' _ _ _ _)
theorem sndS_all : ∀ n, SndS Φ C k n
  | 0 => sndS_zero
  | n + 1 => (sndS_all n).step
end

/-! ### a def -/
/-- what a def may hand back: its value as it stands; or, where nothing newer than k is held by what stays, without the objects newer than k (a newer list, dict, instance that is handed back is from then on only read) -/
def Ret (k : Nat) (st : Sto) (d d' : D) : Prop := (Cl k d ∧ d' = d) ∨ ∃ n, d = .loc n ∧ k ≤ n ∧ st[n]? = some d' ∧ Cl k d' ∧ ∀ x, d' ≠ .lck x
def Fin (n0 : Nat) (Q : Kd) (d : D) (st : Sto) : Prop := Q d st ∨ ∃ k d', n0 ≤ k ∧ k ≤ st.length ∧ (∀ c ∈ st.take k, Cl k c) ∧ Ret k st d d' ∧ Q d' (st.take k)
def finX (n0 : Nat) (Q : Kd) : EndsD := ⟨fun _ st => Fin n0 Q .non st, Fin n0 Q, fun _ _ => False, fun _ _ => False⟩
theorem Fin.post {K : PySem.W.Frag} {C : Nat → Addr} {H : Hp} {ι : Io} {Q : VK} {d : D} {st : Sto} (h : Fin ι.l.length (Post K C H ι Q) d st) : Post K C H ι Q d st := by
  rcases h with h | ⟨k, d', h1, h2, h3, h4, h5⟩
  · exact h
  · intro v H' ι' e S r
    have e2 : Ext H ι H' (ι'.take k) := by
      refine ⟨⟨?_, fun a o q n => ⟨(e.keep a o q n).1, (e.keep a o q n).2.take⟩⟩, e.zeq, e.hid⟩
      show ι.l <+: ι'.l.take k
      obtain ⟨l, el⟩ := e.pre
      rw [← el, List.take_append, List.take_of_length_le h1]
      exact List.prefix_append _ _
    refine h5 v H' (ι'.take k) e2 (S.cut h3) ?_
    rcases h4 with ⟨c, rfl⟩ | ⟨n, rfl, hn, hs, c, hl⟩
    · exact r.cut c
    · exact S.frz hn r hs c hl
/-- THE RULE for a def: its compiled body asks no more than its promise gives -/
theorem fn_ok {P : Program} {w : World} {K : PySem.W.Frag} {mg : Str → Option Value} {base : Heap} {x qual : Str} {st : Stmt} {f : Addr} {fd : FuncData} {N ps : List Str} {k n : Nat} {Φ : Fns} {C : Nat → Addr} {φ : Fn} {body : List SS} {Γ : Gam} {fuel : Nat}
    (F : Fun K x qual st f fd) (S : FnScope N ps (defScope st)) (hΓ : Γ.N = N) (hsc : Γ.sc = defScope st) (hfn : Γ.fn = fun _ => true) (hn : ps.length = n) (hc : cSs fuel Γ (defBody st) = some body) (hφ : MonoFn φ)
    (mono : ∀ f, MonoFn (Φ f))
    (gfn : ∀ x i n, Γ.gl.lookup x = some (.fn i n) → ∃ f fd ps, mg x = some (.ref f) ∧ PySem.W.keepIn K (.ref f) = true ∧ Binds K fd ps [] ∧ FnOk P w K mg base CX0 k f fd ps (spD K C n (Φ i)))
    (gcon : ∀ x d, Γ.gl.lookup x = some (.con d) → ∃ u v, mg x = some u ∧ RelV v u ∧ ∀ H ι, Rep K C H ι d v)
    (gbl : ∀ x ∈ Γ.bl, mg x = none)
    (hb : ∀ ds st Q, ds.length = n → (∀ d ∈ st, Cl st.length d) → (∀ d ∈ ds, Cl st.length d) → φ ds st Q → wSs Φ body (finX st.length Q) (ds.map some ++ List.replicate (N.length - n) none) st) :
    FnOk P w K mg base CX0 (k + 1) f fd ps (spD K C n φ) := by
  subst hΓ hn
  refine F.ok S (fun vs H Q E h => ?_) (fun cdv A outer s H vs Q E hr h => ?_)
  · obtain ⟨ι, st, ds, _, r, hl, _⟩ := h
    rw [← r.length, hl]
  · obtain ⟨ι, sto, ds, Sm, r, hl, q⟩ := h
    have fx : Fs Γ Φ C k (cxOf CX0 P w K mg base Γ.N qual (defScope st) f cdv A outer s H E).nox :=
      ⟨⟨rfl, S.nd, hsc.symm, hfn.symm, rfl, hr, mono, gfn, gcon, gbl⟩, PassesOwn.never⟩
    refine ⟨_, (sndS_all fuel).ss fx hc, ι, ds.map some ++ List.replicate (Γ.N.length - ps.length) none, sto, Sm, ⟨?_, fun i d h => ?_⟩, ?_⟩
    · unfold L2.start
      rw [List.length_append, List.length_append, List.length_map, List.length_map, List.length_replicate, List.length_replicate, ← r.length, hl]
    · have hi : i < ds.length := by
        by_cases hi : i < ds.length
        · exact hi
        · rw [List.getElem?_append_right (by simpa using hi), List.getElem?_replicate] at h
          split at h <;> cases h
      rw [List.getElem?_append_left (by simpa using hi), List.getElem?_map] at h
      cases e : ds[i]? with
      | none => rw [e] at h; cases h
      | some d' =>
        rw [e] at h
        cases h
        obtain ⟨v, h1, h2⟩ := r.get e
        refine ⟨v, ?_, h2⟩
        unfold L2.start
        rw [List.getElem?_append_left (by rw [List.length_map, ← r.length]; exact hi), List.getElem?_map, h1]
        rfl
    · have h1 := hb ds sto _ hl Sm.cl (fun d hd => by
        have := r.cl
        rw [Sm.len] at this
        exact Cls'_iff.mp this d hd) q
      rw [← Sm.len] at h1
      exact wSs_mono mono body _ _ _ _ ⟨fun env st' q σ' H' ι' e' S' E' => Fin.post q _ _ _ e' S' rep_non, fun d st' q => Fin.post q, fun _ _ (q : False) => q.elim, fun _ _ (q : False) => q.elim⟩ h1
end MI

set_option maxRecDepth 100000
/-! MI, part 15: the same meaning in a dress that simp steps through from the front, not looking into what follows. -/
namespace MI
open PySem PySem.Spec PyProof.Rows L2

inductive Tg {α : Type} (a : α) : Type where | mk
section
variable (Φ : Fns)
def xE (e : SE) (env : Ev) (st : Sto) (Q : Kd) (_ : Tg Q) : Prop := wE Φ e env st Q
def xEs (e : List SE) (env : Ev) (st : Sto) (Q : List D → Sto → Prop) (_ : Tg Q) : Prop := wEs Φ e env st Q
def xO (e : Option SE) (env : Ev) (st : Sto) (Q : Option Int → Sto → Prop) (_ : Tg Q) : Prop := wO Φ e env st Q
def xC (e : Option SB) (env : Ev) (st : Sto) (Q : Bool → Sto → Prop) (_ : Tg Q) : Prop := wC Φ e env st Q
def xT (e : SB) (env : Ev) (st : Sto) (Q : Bool → Sto → Prop) (_ : Tg Q) : Prop := wT Φ e env st Q
def xI (e : SI) (env : Ev) (st : Sto) (Q : Its → Sto → Prop) (_ : Tg Q) : Prop := wI Φ e env st Q
def xG (e : ST) (d : D) (env : Ev) (st : Sto) (Q : Ev → Sto → Prop) (_ : Tg Q) : Prop := wG Φ e d env st Q
def xGs (e : List ST) (d : List D) (env : Ev) (st : Sto) (Q : Ev → Sto → Prop) (_ : Tg Q) : Prop := wGs Φ e d env st Q
def xS (e : SS) (nx : Ev → Sto → Prop) (rt : Kd) (bk ct : Ev → Sto → Prop) (_ : Tg nx) (_ : Tg rt) (_ : Tg bk) (_ : Tg ct) (env : Ev) (st : Sto) : Prop := wS Φ e ⟨nx, rt, bk, ct⟩ env st
def xSs (e : List SS) (nx : Ev → Sto → Prop) (rt : Kd) (bk ct : Ev → Sto → Prop) (_ : Tg nx) (_ : Tg rt) (_ : Tg bk) (_ : Tg ct) (env : Ev) (st : Sto) : Prop := wSs Φ e ⟨nx, rt, bk, ct⟩ env st
/-- a def's whole body -/
def xBody (e : List SS) (n : Nat) (Q : Kd) (_ : Tg Q) (env : Ev) (st : Sto) : Prop := wSs Φ e (finX n Q) env st
def xK (f : Nat) (vs : List D) (st : Sto) (Q : Kd) (_ : Tg Q) : Prop := Φ f vs st Q
end
def xfor (Φ : Fns) (t : ST) (b : List SS) (keep : Sto → Prop) (items : List D) (nx : Ev → Sto → Prop) (rt : Kd) (_ : Tg nx) (_ : Tg rt) (_ : Tg keep) (env : Ev) (st : Sto) : Prop := forW (fun x e s K => wG Φ t x e s K) (fun X' e s => wSs Φ b X' e s) keep ⟨nx, rt, nx, nx⟩ items env st
def xwh (Φ : Fns) (c : SB) (b : List SS) (nx : Ev → Sto → Prop) (rt : Kd) (_ : Tg nx) (_ : Tg rt) (env : Ev) (st : Sto) : Prop := ∃ n, whileW (fun e s K => wT Φ c e s K) (fun X' e s => wSs Φ b X' e s) ⟨nx, rt, nx, nx⟩ n env st
def xlc (Φ : Fns) (elt : SE) (tg : ST) (c : Option SB) (env : Ev) (keep : Sto → Prop) (Q : List D → Sto → Prop) (_ : Tg Q) (_ : Tg keep) (items acc : List D) (st : Sto) : Prop :=
  lcW (fun x s K => wG Φ tg x env s K) (fun e s K => wC Φ c e s K) (fun e s K => wE Φ elt e s K) keep Q items acc st
def xlc2 (Φ : Fns) (elt : SE) (tg : ST) (c : Option SB) (tg1 : ST) (it1 : SI) (c1 : Option SB) (own1 : List Nat) (env : Ev) (keep : Sto → Prop) (Q : List D → Sto → Prop) (_ : Tg Q) (_ : Tg keep) (items acc : List D) (st : Sto) : Prop :=
  lcW2 (fun x s K => wG Φ tg x env s K) (fun e s K => wC Φ c e s K)
    (fun e acc s K => wI Φ it1 e s fun J1 s' => lcW (fun x s K => wG Φ tg1 x (wipeE e own1) s K) (fun e s K => wC Φ c1 e s K) (fun e s K => wE Φ elt e s K) J1.keep K J1.items acc s')
    keep Q items acc st
def xrng3 (i j k : Int) (R : Its → Sto → Prop) (_ : Tg R) (st : Sto) : Prop := ∃ n, RgC i j k n ∧ R ⟨rngL i n k, fun _ => True⟩ st
/-- what has to hold at the end -/
@[reducible] def xend {α β : Type} (I : α → β → Prop) (a : α) (b : β) (_ : Tg I) : Prop := I a b
def xopt {α : Type} (o : Option α) (k : α → Prop) (_ : Tg k) : Prop := opt o k
def xnew (m : Bool) (d : D) (st : Sto) (Q : Kd) (_ : Tg Q) : Prop := new m d st Q
def xbin (m : Bool) (o : BOp) (x y : D) (st : Sto) (Q : Kd) (_ : Tg Q) : Prop := binD m o x y st Q
def xaug (o : BOp) (x y : D) (st : Sto) (Q : Kd) (_ : Tg Q) : Prop := augD o x y st Q
def xcmp (o : COp) (x y : D) (st : Sto) (Q : Bool → Sto → Prop) (_ : Tg Q) : Prop := cmpD o x y st Q
def xtru (x : D) (st : Sto) (Q : Bool → Sto → Prop) (_ : Tg Q) : Prop := truD x st Q
def xidx (x y : D) (st : Sto) (Q : Kd) (_ : Tg Q) : Prop := idxD x y st Q
def xidxL (x y : D) (st : Sto) (Q : Kd) (_ : Tg Q) : Prop := idxL x y st Q
def xslc (m : Bool) (x : D) (lo hi : Option Int) (st : Sto) (Q : Kd) (_ : Tg Q) : Prop := slcD m x lo hi st Q
def xrev (m : Bool) (x : D) (st : Sto) (Q : Kd) (_ : Tg Q) : Prop := revD m x st Q
def xset (o i v : D) (st : Sto) (Q : Sto → Prop) (_ : Tg Q) : Prop := setD o i v st Q
def xblt (b : Blt) (m : Bool) (vs : List D) (st : Sto) (Q : Kd) (_ : Tg Q) : Prop := bltD b m vs st Q
def xmth (b : Mth) (o : D) (vs : List D) (st : Sto) (Q : Kd) (_ : Tg Q) : Prop := mthD b o vs st Q
def xrecv (b : Mth) (o : D) (st : Sto) (R : Prop) (_ : Tg (fun (_ : Unit) => R)) : Prop := recv b o st ∧ R
/-- a fork -/
def xite (b : Bool) (A B : Unit → Prop) (_ : Tg A) (_ : Tg B) : Prop := if b = true then A () else B ()
/-- a value's kind -/
def xint (d : D) (k : Int → Prop) (_ : Tg k) : Prop := match d with
  | .int i => k i
  | _ => False
def xbl (d : D) (k : Bool → Prop) (_ : Tg k) : Prop := match d with
  | .bl i => k i
  | _ => False
def xvar (o : Option (Option D)) (k : D → Prop) (_ : Tg k) : Prop := match o with
  | some (some d) => k d
  | _ => False
def xtup (d : D) (n : Nat) (k : List D → Prop) (_ : Tg k) : Prop := match d with
  | .tup xs => xs.length = n ∧ k xs
  | _ => False
def xlist (o : Option D) (k : List D → Prop) (_ : Tg k) : Prop := match o with
  | some (.lst xs) => k xs
  | _ => False
/-- first A; and then what follows -/
def xand (A : Prop) (B : Unit → Prop) (_ : Tg B) : Prop := A ∧ B ()

section
variable {Φ : Fns} {env : Ev} {st : Sto}
theorem xite_t {A B u v} : xite true A B u v = A () := rfl
theorem xite_f {A B u v} : xite false A B u v = B () := rfl
theorem xite_mk {b : Bool} {A B : Unit → Prop} {u v} (h1 : b = true → A ()) (h2 : b = false → B ()) : xite b A B u v := by
  cases b
  · exact h2 rfl
  · exact h1 rfl
theorem xint_i {i k u} : xint (.int i) k u = k i := rfl
theorem xbl_i {i k u} : xbl (.bl i) k u = k i := rfl
theorem xvar_i {d k u} : xvar (some (some d)) k u = k d := rfl
theorem xtup_i {xs n k u} : xtup (.tup xs) n k u = xand (xs.length = n) (fun _ => k xs) ⟨⟩ := rfl
theorem xlist_i {xs k u} : xlist (some (.lst xs)) k u = k xs := rfl
theorem xopt_i {α : Type} {x : α} {k u} : xopt (some x) k u = k x := rfl
theorem xnew_t {d Q u} : xnew true d st Q u = Q (.loc st.length) (st ++ [d]) := rfl
theorem xnew_f {d Q u} : xnew false d st Q u = Q d st := rfl
theorem xand_t {B u} : xand True B u = B () := propext ⟨fun h => h.2, fun h => ⟨trivial, h⟩⟩
theorem xand_mk {A B u} (h1 : A) (h2 : A → B ()) : xand A B u := ⟨h1, h2 h1⟩

theorem xE_var {i Q u} : xE Φ (.var i) env st Q u = xvar env[i]? (fun d => Q d st) ⟨⟩ := rfl
theorem xE_con {d Q u} : xE Φ (.con d) env st Q u = Q d st := rfl
theorem xE_bin {o m a b Q u} : xE Φ (.bin o m a b) env st Q u = xE Φ a env st (fun x s1 => xE Φ b env s1 (fun y s2 => xbin m o x y s2 Q ⟨⟩) ⟨⟩) ⟨⟩ := rfl
theorem xE_neg {a Q u} : xE Φ (.neg a) env st Q u = xE Φ a env st (fun x s1 => xint x (fun i => Q (.int (-i)) s1) ⟨⟩) ⟨⟩ := rfl
theorem xE_cmp {o a b Q u} : xE Φ (.cmp o a b) env st Q u = xE Φ a env st (fun x s1 => xE Φ b env s1 (fun y s2 => xcmp o x y s2 (fun c s3 => Q (.bl c) s3) ⟨⟩) ⟨⟩) ⟨⟩ := rfl
theorem xE_chain {o o' a b c Q u} : xE Φ (.chain o o' a b c) env st Q u = xE Φ a env st (fun x s1 => xE Φ b env s1 (fun y s2 => xcmp o x y s2 (fun k s3 => xite k (fun _ => xE Φ c env s3 (fun z s4 => xcmp o' y z s4 (fun k' s5 => Q (.bl k') s5) ⟨⟩) ⟨⟩) (fun _ => Q (.bl false) s3) ⟨⟩ ⟨⟩) ⟨⟩) ⟨⟩) ⟨⟩ := rfl
theorem xE_land {a b Q u} : xE Φ (.land a b) env st Q u = xE Φ a env st (fun x s1 => xbl x (fun c => xite c (fun _ => xE Φ b env s1 Q ⟨⟩) (fun _ => Q (.bl false) s1) ⟨⟩ ⟨⟩) ⟨⟩) ⟨⟩ := rfl
theorem xE_lor {a b Q u} : xE Φ (.lor a b) env st Q u = xE Φ a env st (fun x s1 => xbl x (fun c => xite c (fun _ => Q (.bl true) s1) (fun _ => xE Φ b env s1 Q ⟨⟩) ⟨⟩ ⟨⟩) ⟨⟩) ⟨⟩ := rfl
theorem xE_lnot {a Q u} : xE Φ (.lnot a) env st Q u = xE Φ a env st (fun x s1 => xbl x (fun c => Q (.bl (!c)) s1) ⟨⟩) ⟨⟩ := rfl
theorem xE_ifx {t a b Q u} : xE Φ (.ifx t a b) env st Q u = xT Φ t env st (fun c s1 => xite c (fun _ => xE Φ a env s1 Q ⟨⟩) (fun _ => xE Φ b env s1 Q ⟨⟩) ⟨⟩ ⟨⟩) ⟨⟩ := rfl
theorem xE_tup {es Q u} : xE Φ (.tup es) env st Q u = xEs Φ es env st (fun xs s1 => xand (xs.length ≤ sizeLine) (fun _ => Q (.tup xs) s1) ⟨⟩) ⟨⟩ := rfl
theorem xE_lst {m es Q u} : xE Φ (.lst m es) env st Q u = xEs Φ es env st (fun xs s1 => xand (xs.length ≤ sizeLine) (fun _ => xnew m (.lst xs) s1 Q ⟨⟩) ⟨⟩) ⟨⟩ := rfl
theorem xE_idx {a i Q u} : xE Φ (.idx a i) env st Q u = xE Φ a env st (fun x s1 => xE Φ i env s1 (fun y s2 => xidx x y s2 Q ⟨⟩) ⟨⟩) ⟨⟩ := rfl
theorem xE_slc {m a lo hi Q u} : xE Φ (.slc m a lo hi) env st Q u = xE Φ a env st (fun x s1 => xO Φ lo env s1 (fun l s2 => xO Φ hi env s2 (fun h s3 => xslc m x l h s3 Q ⟨⟩) ⟨⟩) ⟨⟩) ⟨⟩ := rfl
theorem xE_rev {m a Q u} : xE Φ (.rev m a) env st Q u = xE Φ a env st (fun x s1 => xrev m x s1 Q ⟨⟩) ⟨⟩ := rfl
theorem xE_call {f es Q u} : xE Φ (.call f es) env st Q u = xEs Φ es env st (fun xs s1 => xK Φ f xs s1 Q ⟨⟩) ⟨⟩ := rfl
theorem xE_blt {b m es Q u} : xE Φ (.blt b m es) env st Q u = xEs Φ es env st (fun xs s1 => xblt b m xs s1 Q ⟨⟩) ⟨⟩ := rfl
theorem xE_mth {b o es Q u} : xE Φ (.mth b o es) env st Q u = xE Φ o env st (fun x s1 => xand (recv b x s1) (fun _ => xEs Φ es env s1 (fun xs s2 => xmth b x xs s2 Q ⟨⟩) ⟨⟩) ⟨⟩) ⟨⟩ := rfl
theorem xE_lc {m elt tg it c own Q u} : xE Φ (.lc m elt tg it c own) env st Q u = xI Φ it env st (fun J s1 => xlc Φ elt tg c (wipeE env own) J.keep (fun acc s2 => xnew m (.lst acc) s2 Q ⟨⟩) ⟨⟩ ⟨⟩ J.items [] s1) ⟨⟩ := rfl
theorem xE_lc2 {m elt tg it c tg1 it1 c1 own own1 Q u} : xE Φ (.lc2 m elt tg it c tg1 it1 c1 own own1) env st Q u = xI Φ it env st (fun J s1 => xlc2 Φ elt tg c tg1 it1 c1 own1 (wipeE env own) J.keep (fun acc s2 => xnew m (.lst acc) s2 Q ⟨⟩) ⟨⟩ ⟨⟩ J.items [] s1) ⟨⟩ := rfl
theorem xEs_nil {Q u} : xEs Φ [] env st Q u = Q [] st := rfl
theorem xEs_cons {e es Q u} : xEs Φ (e :: es) env st Q u = xE Φ e env st (fun x s1 => xEs Φ es env s1 (fun xs s2 => Q (x :: xs) s2) ⟨⟩) ⟨⟩ := rfl
theorem xO_none {Q u} : xO Φ none env st Q u = Q none st := rfl
theorem xO_some {e Q u} : xO Φ (some e) env st Q u = xE Φ e env st (fun x s1 => xint x (fun i => Q (some i) s1) ⟨⟩) ⟨⟩ := rfl
theorem xC_none {Q u} : xC Φ none env st Q u = Q true st := rfl
theorem xC_some {e Q u} : xC Φ (some e) env st Q u = xT Φ e env st Q ⟨⟩ := rfl
theorem xT_land {a b Q u} : xT Φ (.land a b) env st Q u = xT Φ a env st (fun c s1 => xite c (fun _ => xT Φ b env s1 Q ⟨⟩) (fun _ => Q false s1) ⟨⟩ ⟨⟩) ⟨⟩ := rfl
theorem xT_lor {a b Q u} : xT Φ (.lor a b) env st Q u = xT Φ a env st (fun c s1 => xite c (fun _ => Q true s1) (fun _ => xT Φ b env s1 Q ⟨⟩) ⟨⟩ ⟨⟩) ⟨⟩ := rfl
theorem xT_lnot {a Q u} : xT Φ (.lnot a) env st Q u = xT Φ a env st (fun c s1 => Q (!c) s1) ⟨⟩ := rfl
theorem xT_cmp {o a b Q u} : xT Φ (.cmp o a b) env st Q u = xE Φ a env st (fun x s1 => xE Φ b env s1 (fun y s2 => xcmp o x y s2 Q ⟨⟩) ⟨⟩) ⟨⟩ := rfl
theorem xT_chain {o o' a b c Q u} : xT Φ (.chain o o' a b c) env st Q u = xE Φ a env st (fun x s1 => xE Φ b env s1 (fun y s2 => xcmp o x y s2 (fun k s3 => xite k (fun _ => xE Φ c env s3 (fun z s4 => xcmp o' y z s4 Q ⟨⟩) ⟨⟩) (fun _ => Q false s3) ⟨⟩ ⟨⟩) ⟨⟩) ⟨⟩) ⟨⟩ := rfl
theorem xT_val {e Q u} : xT Φ (.val e) env st Q u = xE Φ e env st (fun x s1 => xtru x s1 Q ⟨⟩) ⟨⟩ := rfl
theorem xI_seq {e R u} : xI Φ (.seq e) env st R u = xE Φ e env st (fun x s1 => xopt (asSeq s1 x) (fun xs => R ⟨xs, fun s => asSeq s x = some xs⟩ s1) ⟨⟩) ⟨⟩ := rfl
theorem xI_rng1 {e R u} : xI Φ (.rng1 e) env st R u = xE Φ e env st (fun x s1 => xint x (fun j => xand (-(2 ^ 62) ≤ j ∧ j < 2 ^ 62) (fun _ => R ⟨rngL 0 j.toNat 1, fun _ => True⟩ s1) ⟨⟩) ⟨⟩) ⟨⟩ := by
  show wE Φ e env st _ = wE Φ e env st _
  congr; funext x s1
  cases x <;> first | rfl | exact propext ⟨fun ⟨a, b, c⟩ => ⟨⟨a, b⟩, c⟩, fun ⟨⟨a, b⟩, c⟩ => ⟨a, b, c⟩⟩
theorem xI_rng2 {a b R u} : xI Φ (.rng2 a b) env st R u = xE Φ a env st (fun x s1 => xE Φ b env s1 (fun y s2 => xint x (fun i => xint y (fun j => xand (-(2 ^ 62) ≤ i ∧ i < 2 ^ 62 ∧ -(2 ^ 62) ≤ j ∧ j < 2 ^ 62) (fun _ => R ⟨rngL i (j - i).toNat 1, fun _ => True⟩ s2) ⟨⟩) ⟨⟩) ⟨⟩) ⟨⟩) ⟨⟩ := by
  show wE Φ a env st _ = wE Φ a env st _
  congr; funext x s1
  show wE Φ b env s1 _ = wE Φ b env s1 _
  congr; funext y s2
  cases x <;> cases y <;> rfl
theorem xI_rng3 {a b c R u} : xI Φ (.rng3 a b c) env st R u = xE Φ a env st (fun x s1 => xE Φ b env s1 (fun y s2 => xE Φ c env s2 (fun z s3 => xint x (fun i => xint y (fun j => xint z (fun k => xrng3 i j k R ⟨⟩ s3) ⟨⟩) ⟨⟩) ⟨⟩) ⟨⟩) ⟨⟩) ⟨⟩ := by
  show wE Φ a env st _ = wE Φ a env st _
  congr; funext x s1
  show wE Φ b env s1 _ = wE Φ b env s1 _
  congr; funext y s2
  show wE Φ c env s2 _ = wE Φ c env s2 _
  congr; funext z s3
  cases x <;> cases y <;> cases z <;> rfl
theorem xI_enum {e R u} : xI Φ (.enum e) env st R u = xE Φ e env st (fun x s1 => xopt (asSeq s1 x) (fun xs => R ⟨enumL xs, fun s => asSeq s x = some xs⟩ s1) ⟨⟩) ⟨⟩ := rfl
theorem xG_nm {i d Q u} : xG Φ (.nm i) d env st Q u = Q (env.set i (some d)) st := rfl
theorem xG_tup {ts d Q u} : xG Φ (.tup ts) d env st Q u = xtup d ts.length (fun xs => xGs Φ ts xs env st Q ⟨⟩) ⟨⟩ := rfl
theorem xG_sub {o i d Q u} : xG Φ (.sub o i) d env st Q u = xE Φ o env st (fun x s1 => xE Φ i env s1 (fun y s2 => xset x y d s2 (fun s3 => Q env s3) ⟨⟩) ⟨⟩) ⟨⟩ := rfl
theorem xGs_nil {Q u} : xGs Φ [] [] env st Q u = Q env st := propext ⟨fun h => h.2, fun h => ⟨rfl, h⟩⟩
theorem xGs_cons {t ts x r Q u} : xGs Φ (t :: ts) (x :: r) env st Q u = xG Φ t x env st (fun e1 s1 => xGs Φ ts r e1 s1 Q ⟨⟩) ⟨⟩ := rfl
section
variable {nx : Ev → Sto → Prop} {rt : Kd} {bk ct : Ev → Sto → Prop} {u1 : Tg nx} {u2 : Tg rt} {u3 : Tg bk} {u4 : Tg ct}
theorem xBody_eq {b n Q u} : xBody Φ b n Q u env st = xSs Φ b (fun _ st => MI.Fin n Q .non st) (fun d st => MI.Fin n Q d st) (fun _ _ => False) (fun _ _ => False) ⟨⟩ ⟨⟩ ⟨⟩ ⟨⟩ env st := rfl
theorem xS_set {t e} : xS Φ (.set t e) nx rt bk ct u1 u2 u3 u4 env st = xE Φ e env st (fun x s1 => xG Φ t x env s1 nx ⟨⟩) ⟨⟩ := rfl
theorem xS_par {i j a b} : xS Φ (.par i j a b) nx rt bk ct u1 u2 u3 u4 env st = xE Φ a env st (fun x s1 => xE Φ b env s1 (fun y s2 => nx ((env.set i (some x)).set j (some y)) s2) ⟨⟩) ⟨⟩ := rfl
theorem xS_aug {i o e} : xS Φ (.aug i o e) nx rt bk ct u1 u2 u3 u4 env st = xvar env[i]? (fun x => xE Φ e env st (fun y s1 => xaug o x y s1 (fun z s2 => nx (env.set i (some z)) s2) ⟨⟩) ⟨⟩) ⟨⟩ := rfl
theorem xS_augS {o i op e} : xS Φ (.augS o i op e) nx rt bk ct u1 u2 u3 u4 env st = xE Φ o env st (fun x s1 => xE Φ i env s1 (fun y s2 => xidxL x y s2 (fun z s3 => xE Φ e env s3 (fun v s4 => xaug op z v s4 (fun r s5 => xset x y r s5 (fun s6 => nx env s6) ⟨⟩) ⟨⟩) ⟨⟩) ⟨⟩) ⟨⟩) ⟨⟩ := rfl
theorem xS_expr {e} : xS Φ (.expr e) nx rt bk ct u1 u2 u3 u4 env st = xE Φ e env st (fun _ s1 => nx env s1) ⟨⟩ := rfl
theorem xS_ret {e} : xS Φ (.ret e) nx rt bk ct u1 u2 u3 u4 env st = xE Φ e env st rt ⟨⟩ := rfl
theorem xS_ite {c a b} : xS Φ (.ite c a b) nx rt bk ct u1 u2 u3 u4 env st = xT Φ c env st (fun k s1 => xite k (fun _ => xSs Φ a nx rt bk ct ⟨⟩ ⟨⟩ ⟨⟩ ⟨⟩ env s1) (fun _ => xSs Φ b nx rt bk ct ⟨⟩ ⟨⟩ ⟨⟩ ⟨⟩ env s1) ⟨⟩ ⟨⟩) ⟨⟩ := rfl
theorem forW_ct {asg : D → Ev → Sto → (Ev → Sto → Prop) → Prop} {body : EndsD → Ev → Sto → Prop} {keep : Sto → Prop} {bk' ct' : Ev → Sto → Prop} : ∀ (xs : List D) (env : Ev) (st : Sto), forW asg body keep ⟨nx, rt, bk, ct⟩ xs env st = forW asg body keep ⟨nx, rt, bk', ct'⟩ xs env st
  | [], _, _ => rfl
  | x :: xs, env, st => by
    have : forW asg body keep ⟨nx, rt, bk, ct⟩ xs = forW asg body keep ⟨nx, rt, bk', ct'⟩ xs := by
      funext e s; exact forW_ct xs e s
    unfold forW
    rw [this]
theorem whileW_ct {c : Ev → Sto → (Bool → Sto → Prop) → Prop} {body : EndsD → Ev → Sto → Prop} {bk' ct' : Ev → Sto → Prop} : ∀ (n : Nat) (env : Ev) (st : Sto), whileW c body ⟨nx, rt, bk, ct⟩ n env st = whileW c body ⟨nx, rt, bk', ct'⟩ n env st
  | 0, _, _ => rfl
  | n + 1, env, st => by
    have : whileW c body ⟨nx, rt, bk, ct⟩ n = whileW c body ⟨nx, rt, bk', ct'⟩ n := by
      funext e s; exact whileW_ct n e s
    unfold whileW
    rw [this]
theorem xS_for {t it b} : xS Φ (.for_ t it b) nx rt bk ct u1 u2 u3 u4 env st = xI Φ it env st (fun J s1 => xfor Φ t b J.keep J.items nx rt ⟨⟩ ⟨⟩ ⟨⟩ env s1) ⟨⟩ := by
  show wI Φ it env st _ = wI Φ it env st _
  congr; funext J s1
  exact forW_ct _ _ _
theorem xS_while {c b} : xS Φ (.while_ c b) nx rt bk ct u1 u2 u3 u4 env st = xwh Φ c b nx rt ⟨⟩ ⟨⟩ env st := by
  show (∃ n, _) = (∃ n, _)
  congr; funext n
  exact whileW_ct _ _ _
theorem xS_pass : xS Φ .pass nx rt bk ct u1 u2 u3 u4 env st = nx env st := rfl
theorem xS_brk : xS Φ .brk nx rt bk ct u1 u2 u3 u4 env st = bk env st := rfl
theorem xS_cont : xS Φ .cont nx rt bk ct u1 u2 u3 u4 env st = ct env st := rfl
theorem xSs_nil : xSs Φ [] nx rt bk ct u1 u2 u3 u4 env st = nx env st := rfl
theorem xSs_cons {s r} : xSs Φ (s :: r) nx rt bk ct u1 u2 u3 u4 env st = xS Φ s (fun e s => xSs Φ r nx rt bk ct ⟨⟩ ⟨⟩ ⟨⟩ ⟨⟩ e s) rt bk ct ⟨⟩ ⟨⟩ ⟨⟩ ⟨⟩ env st := rfl
end

/-! the operators -/
theorem xbin_add {m i j Q u} : xbin m .add (.int i) (.int j) st Q u = Q (.int (i + j)) st := rfl
theorem xbin_addS {m x y Q u} : xbin m .add (.str x) (.str y) st Q u = xand (x.length + y.length ≤ sizeLine) (fun _ => Q (.str (x ++ y)) st) ⟨⟩ := rfl
theorem xbin_addT {m x y Q u} : xbin m .add (.tup x) (.tup y) st Q u = xand (x.length + y.length ≤ sizeLine) (fun _ => Q (.tup (x ++ y)) st) ⟨⟩ := rfl
theorem xbin_addL {m x y Q u} : xbin m .add (.lst x) y st Q u = xopt (asL st y) (fun ys => xand (x.length + ys.length ≤ sizeLine) (fun _ => xnew m (.lst (x ++ ys)) st Q ⟨⟩) ⟨⟩) ⟨⟩ := rfl
theorem xbin_addO {m n y Q u} : xbin m .add (.loc n) y st Q u = xopt (asL st (.loc n)) (fun xs => xopt (asL st y) (fun ys => xand (xs.length + ys.length ≤ sizeLine) (fun _ => xnew m (.lst (xs ++ ys)) st Q ⟨⟩) ⟨⟩) ⟨⟩) ⟨⟩ := rfl
theorem xbin_sub {m i j Q u} : xbin m .sub (.int i) (.int j) st Q u = Q (.int (i - j)) st := rfl
theorem xbin_mul {m i j Q u} : xbin m .mul (.int i) (.int j) st Q u = xand (CMulW i j) (fun _ => Q (.int (i * j)) st) ⟨⟩ := rfl
theorem xbin_mulL {m x k Q u} : xbin m .mul (.lst x) (.int k) st Q u = xand (-(2 ^ 63) ≤ k ∧ k < 2 ^ 63 ∧ x.length * k.toNat ≤ sizeLine) (fun _ => xnew m (.lst (List.replicate k.toNat x).flatten) st Q ⟨⟩) ⟨⟩ := propext ⟨fun ⟨a, b, c, d⟩ => ⟨⟨a, b, c⟩, d⟩, fun ⟨⟨a, b, c⟩, d⟩ => ⟨a, b, c, d⟩⟩
theorem xbin_mulO {m n k Q u} : xbin m .mul (.loc n) (.int k) st Q u = xopt (asL st (.loc n)) (fun x => xand (-(2 ^ 63) ≤ k ∧ k < 2 ^ 63 ∧ x.length * k.toNat ≤ sizeLine) (fun _ => xnew m (.lst (List.replicate k.toNat x).flatten) st Q ⟨⟩) ⟨⟩) ⟨⟩ := by
  show opt (asL st (.loc n)) _ = opt (asL st (.loc n)) _
  cases asL st (.loc n) with
  | none => rfl
  | some x => exact propext ⟨fun ⟨a, b, c, d⟩ => ⟨⟨a, b, c⟩, d⟩, fun ⟨⟨a, b, c⟩, d⟩ => ⟨a, b, c, d⟩⟩
theorem xbin_fdiv {m i j Q u} : xbin m .fdiv (.int i) (.int j) st Q u = xand (CDivW i j) (fun _ => Q (.int (i / j)) st) ⟨⟩ := rfl
theorem xbin_mod {m i j Q u} : xbin m .mod (.int i) (.int j) st Q u = xand (0 < j) (fun _ => Q (.int (i % j)) st) ⟨⟩ := rfl
theorem xbin_pow {m i j Q u} : xbin m .pow (.int i) (.int j) st Q u = xand (CPow i j) (fun _ => Q (.int (i ^ j.toNat)) st) ⟨⟩ := rfl
theorem xaug_add {i j Q u} : xaug .add (.int i) (.int j) st Q u = Q (.int (i + j)) st := rfl
theorem xaug_sub {i j Q u} : xaug .sub (.int i) (.int j) st Q u = Q (.int (i - j)) st := rfl
theorem xaug_fdiv {i j Q u} : xaug .fdiv (.int i) (.int j) st Q u = xand (CDiv i j) (fun _ => Q (.int (i / j)) st) ⟨⟩ := rfl
theorem xcmp_eqI {i j Q u} : xcmp .eq (.int i) (.int j) st Q u = Q (i == j) st := rfl
theorem xcmp_eqS {i j Q u} : xcmp .eq (.str i) (.str j) st Q u = Q (i == j) st := rfl
theorem xcmp_neI {i j Q u} : xcmp .ne (.int i) (.int j) st Q u = Q (!(i == j)) st := rfl
theorem xcmp_neS {i j Q u} : xcmp .ne (.str i) (.str j) st Q u = Q (!(i == j)) st := rfl
theorem xcmp_lt {i j Q u} : xcmp .lt (.int i) (.int j) st Q u = Q (decide (i < j)) st := rfl
theorem xcmp_le {i j Q u} : xcmp .le (.int i) (.int j) st Q u = Q (decide (i ≤ j)) st := rfl
theorem xcmp_gt {i j Q u} : xcmp .gt (.int i) (.int j) st Q u = Q (decide (j < i)) st := rfl
theorem xcmp_ge {i j Q u} : xcmp .ge (.int i) (.int j) st Q u = Q (decide (j ≤ i)) st := rfl
theorem xcmp_in {x y Q u} : xcmp .isIn x y st Q u = xopt (asSeq st y) (fun ys => xand (flat x = true ∧ ys.all flat = true) (fun _ => Q (ys.any fun z => eqF z x) st) ⟨⟩) ⟨⟩ := by
  show opt (asSeq st y) _ = opt (asSeq st y) _
  cases asSeq st y with
  | none => rfl
  | some ys => exact propext ⟨fun ⟨a, b, c⟩ => ⟨⟨a, b⟩, c⟩, fun ⟨⟨a, b⟩, c⟩ => ⟨a, b, c⟩⟩
theorem xcmp_notIn {x y Q u} : xcmp .notIn x y st Q u = xopt (asSeq st y) (fun ys => xand (flat x = true ∧ ys.all flat = true) (fun _ => Q (!ys.any fun z => eqF z x) st) ⟨⟩) ⟨⟩ := by
  show opt (asSeq st y) _ = opt (asSeq st y) _
  cases asSeq st y with
  | none => rfl
  | some ys => exact propext ⟨fun ⟨a, b, c⟩ => ⟨⟨a, b⟩, c⟩, fun ⟨⟨a, b⟩, c⟩ => ⟨a, b, c⟩⟩
/-- == of data -/
def xdat (n : Bool) (x y : D) (st : Sto) (Q : Bool → Sto → Prop) (_ : Tg Q) : Prop := opt (toPyL st x) fun d => opt (toPyL st y) fun e => SeqAt.shaped d = true ∧ SeqAt.shaped e = true ∧ Q (n ^^ PyData.eqv d e) st
theorem xcmp_eqT {x y Q u} : xcmp .eq (.tup x) y st Q u = xdat false (.tup x) y st Q ⟨⟩ := by
  unfold xcmp xdat
  simp only [cmpD, Bool.false_xor]
theorem xcmp_neT {x y Q u} : xcmp .ne (.tup x) y st Q u = xdat true (.tup x) y st Q ⟨⟩ := by
  unfold xcmp xdat
  simp only [cmpD, Bool.true_xor]
theorem xcmp_eqL {x y Q u} : xcmp .eq (.lst x) y st Q u = xdat false (.lst x) y st Q ⟨⟩ := by
  unfold xcmp xdat
  simp only [cmpD, Bool.false_xor]
theorem xcmp_neL {x y Q u} : xcmp .ne (.lst x) y st Q u = xdat true (.lst x) y st Q ⟨⟩ := by
  unfold xcmp xdat
  simp only [cmpD, Bool.true_xor]
theorem xcmp_eqN {y Q u} : xcmp .eq .non y st Q u = xdat false .non y st Q ⟨⟩ := by
  unfold xcmp xdat
  simp only [cmpD, Bool.false_xor]
theorem xcmp_neN {y Q u} : xcmp .ne .non y st Q u = xdat true .non y st Q ⟨⟩ := by
  unfold xcmp xdat
  simp only [cmpD, Bool.true_xor]
theorem xdat_NN {n Q u} : xdat n .non .non st Q u = Q (n ^^ true) st := by
  unfold xdat
  exact propext ⟨fun h => h.2.2, fun h => ⟨rfl, rfl, h⟩⟩
theorem xcmp_isN {Q u} : xcmp .is_ .non .non st Q u = Q true st := rfl
theorem xcmp_isIN {i Q u} : xcmp .is_ (.int i) .non st Q u = Q false st := rfl
theorem xcmp_isTN {i Q u} : xcmp .is_ (.tup i) .non st Q u = Q false st := rfl
theorem xcmp_isLN {i Q u} : xcmp .is_ (.lst i) .non st Q u = Q false st := rfl
theorem xcmp_isON {i Q u} : xcmp .is_ (.loc i) .non st Q u = Q false st := rfl
theorem xcmp_isntON {i Q u} : xcmp .isnt (.loc i) .non st Q u = Q true st := rfl
theorem xcmp_isSN {i Q u} : xcmp .is_ (.str i) .non st Q u = Q false st := rfl
theorem xcmp_isntSN {i Q u} : xcmp .isnt (.str i) .non st Q u = Q true st := rfl
theorem xcmp_isBN {i Q u} : xcmp .is_ (.bl i) .non st Q u = Q false st := rfl
theorem xcmp_isntBN {i Q u} : xcmp .isnt (.bl i) .non st Q u = Q true st := rfl
theorem xcmp_isB {a b Q u} : xcmp .is_ (.bl a) (.bl b) st Q u = Q (a == b) st := rfl
theorem xcmp_isntN {Q u} : xcmp .isnt .non .non st Q u = Q false st := rfl
theorem xcmp_isntIN {i Q u} : xcmp .isnt (.int i) .non st Q u = Q true st := rfl
theorem xcmp_isntTN {i Q u} : xcmp .isnt (.tup i) .non st Q u = Q true st := rfl
theorem xcmp_isntLN {i Q u} : xcmp .isnt (.lst i) .non st Q u = Q true st := rfl
theorem xcmp_isntB {a b Q u} : xcmp .isnt (.bl a) (.bl b) st Q u = Q (!(a == b)) st := rfl
theorem xtru_b {b Q u} : xtru (.bl b) st Q u = Q b st := rfl
theorem xtru_i {b Q u} : xtru (.int b) st Q u = Q (b != 0) st := rfl
theorem xtru_n {Q u} : xtru .non st Q u = Q false st := rfl
theorem xtru_t {xs Q u} : xtru (.tup xs) st Q u = Q (!xs.isEmpty) st := rfl
theorem xtru_l {xs Q u} : xtru (.lst xs) st Q u = Q (!xs.isEmpty) st := rfl
theorem xtru_o {n Q u} : xtru (.loc n) st Q u = xopt (asSeq st (.loc n)) (fun xs => Q (!xs.isEmpty) st) ⟨⟩ := rfl
theorem xidx_t {xs i Q u} : xidx (.tup xs) (.int i) st Q u = xopt (atI xs i) (fun d => Q d st) ⟨⟩ := rfl
theorem xidx_l {xs i Q u} : xidx (.lst xs) (.int i) st Q u = xopt (atI xs i) (fun d => Q d st) ⟨⟩ := rfl
theorem xidx_r {xs i Q u} : xidx (.ro xs) (.int i) st Q u = xopt (atI xs i) (fun d => Q d st) ⟨⟩ := rfl
theorem xidx_o {n i Q u} : xidx (.loc n) (.int i) st Q u = xopt (asSeq st (.loc n)) (fun xs => xopt (atI xs i) (fun d => Q d st) ⟨⟩) ⟨⟩ := rfl
theorem xidx_s {z i Q u} : xidx (.str z) (.int i) st Q u = xand (z.length ≤ sizeLine) (fun _ => xopt (atI z.cps.toList i) (fun c => Q (.str ⟨#[c]⟩) st) ⟨⟩) ⟨⟩ := rfl
theorem xidxL_o {n k Q u} : xidxL (.loc n) (.int k) st Q u = xlist st[n]? (fun xs => xopt (atI xs k) (fun d => Q d st) ⟨⟩) ⟨⟩ := rfl
theorem xslc_t {m xs lo hi Q u} : xslc m (.tup xs) lo hi st Q u = Q (.tup (cutD xs lo hi)) st := rfl
theorem xslc_l {m xs lo hi Q u} : xslc m (.lst xs) lo hi st Q u = xnew m (.lst (cutD xs lo hi)) st Q ⟨⟩ := rfl
theorem xslc_r {m xs lo hi Q u} : xslc m (.ro xs) lo hi st Q u = xnew m (.lst (cutD xs lo hi)) st Q ⟨⟩ := rfl
theorem xslc_o {m n lo hi Q u} : xslc m (.loc n) lo hi st Q u = xopt (asR st (.loc n)) (fun xs => xnew m (.lst (cutD xs lo hi)) st Q ⟨⟩) ⟨⟩ := rfl
theorem xrev_t {m xs Q u} : xrev m (.tup xs) st Q u = Q (.tup xs.reverse) st := rfl
theorem xrev_l {m xs Q u} : xrev m (.lst xs) st Q u = xnew m (.lst xs.reverse) st Q ⟨⟩ := rfl
theorem xrev_o {m n Q u} : xrev m (.loc n) st Q u = xopt (asR st (.loc n)) (fun xs => xnew m (.lst xs.reverse) st Q ⟨⟩) ⟨⟩ := rfl
theorem xset_o {n k v Q u} : xset (.loc n) (.int k) v st Q u = xlist st[n]? (fun xs => xopt (ixN xs.length k) (fun j => Q (st.set n (.lst (xs.set j v)))) ⟨⟩) ⟨⟩ := rfl
theorem xblt_len {m d Q u} : xblt .len m [d] st Q u = xopt (lenD st d) (fun n => Q (.int n) st) ⟨⟩ := rfl
theorem xblt_int {m i Q u} : xblt .int m [.int i] st Q u = Q (.int i) st := rfl
theorem xblt_intB {m k Q u} : xblt .int m [.bl k] st Q u = Q (.int (if k then 1 else 0)) st := rfl
theorem xblt_list {m d Q u} : xblt .list m [d] st Q u = xopt (asSeq st d) (fun xs => xnew m (.lst xs) st Q ⟨⟩) ⟨⟩ := rfl
theorem xblt_tuple {m d Q u} : xblt .tuple m [d] st Q u = xopt (asSeq st d) (fun xs => Q (.tup xs) st) ⟨⟩ := rfl
theorem xblt_sum {m d Q u} : xblt .sum m [d] st Q u = xopt (asR st d) (fun xs => xopt (ints? xs) (fun ns => Q (.int ns.sum) st) ⟨⟩) ⟨⟩ := rfl
theorem xblt_max2 {m i j Q u} : xblt .max2 m [.int i, .int j] st Q u = Q (.int (if j > i then j else i)) st := rfl
theorem xblt_min2 {m i j Q u} : xblt .min2 m [.int i, .int j] st Q u = Q (.int (if j < i then j else i)) st := rfl
theorem xblt_any {m d Q u} : xblt .any m [d] st Q u = xopt (asR st d) (fun xs => xopt (bls? xs) (fun bs => Q (.bl (bs.any id)) st) ⟨⟩) ⟨⟩ := rfl
theorem xblt_all {m d Q u} : xblt .all m [d] st Q u = xopt (asR st d) (fun xs => xopt (bls? xs) (fun bs => Q (.bl (bs.all id)) st) ⟨⟩) ⟨⟩ := rfl
theorem xblt_isTuple_tup {m xs Q u} : xblt .isTuple m [.tup xs] st Q u = Q (.bl true) st := rfl
theorem xblt_isTuple_int {m xs Q u} : xblt .isTuple m [.int xs] st Q u = Q (.bl false) st := rfl
theorem xblt_isTuple_bl {m xs Q u} : xblt .isTuple m [.bl xs] st Q u = Q (.bl false) st := rfl
theorem xblt_isTuple_str {m xs Q u} : xblt .isTuple m [.str xs] st Q u = Q (.bl false) st := rfl
theorem xblt_isTuple_non {m Q u} : xblt .isTuple m [.non] st Q u = Q (.bl false) st := rfl
theorem xblt_isInt_tup {m xs Q u} : xblt .isInt m [.tup xs] st Q u = Q (.bl false) st := rfl
theorem xblt_isInt_int {m xs Q u} : xblt .isInt m [.int xs] st Q u = Q (.bl true) st := rfl
theorem xblt_isInt_bl {m xs Q u} : xblt .isInt m [.bl xs] st Q u = Q (.bl true) st := rfl
theorem xblt_isInt_str {m xs Q u} : xblt .isInt m [.str xs] st Q u = Q (.bl false) st := rfl
theorem xblt_isInt_non {m Q u} : xblt .isInt m [.non] st Q u = Q (.bl false) st := rfl
theorem xblt_isBool_tup {m xs Q u} : xblt .isBool m [.tup xs] st Q u = Q (.bl false) st := rfl
theorem xblt_isBool_int {m xs Q u} : xblt .isBool m [.int xs] st Q u = Q (.bl false) st := rfl
theorem xblt_isBool_bl {m xs Q u} : xblt .isBool m [.bl xs] st Q u = Q (.bl true) st := rfl
theorem xblt_isBool_str {m xs Q u} : xblt .isBool m [.str xs] st Q u = Q (.bl false) st := rfl
theorem xblt_isBool_non {m Q u} : xblt .isBool m [.non] st Q u = Q (.bl false) st := rfl
theorem xblt_isStr_tup {m xs Q u} : xblt .isStr m [.tup xs] st Q u = Q (.bl false) st := rfl
theorem xblt_isStr_int {m xs Q u} : xblt .isStr m [.int xs] st Q u = Q (.bl false) st := rfl
theorem xblt_isStr_bl {m xs Q u} : xblt .isStr m [.bl xs] st Q u = Q (.bl false) st := rfl
theorem xblt_isStr_str {m xs Q u} : xblt .isStr m [.str xs] st Q u = Q (.bl true) st := rfl
theorem xblt_isStr_non {m Q u} : xblt .isStr m [.non] st Q u = Q (.bl false) st := rfl
theorem xmth_append {n v Q u} : xmth .append (.loc n) [v] st Q u = xlist st[n]? (fun xs => xand (xs.length < sizeLine) (fun _ => Q .non (st.set n (.lst (xs ++ [v])))) ⟨⟩) ⟨⟩ := rfl
theorem xmth_pop0 {n Q u} : xmth .pop0 (.loc n) [] st Q u = xlist st[n]? (fun xs => xopt (xs[xs.length - 1]?) (fun v => Q v (st.set n (.lst xs.dropLast))) ⟨⟩) ⟨⟩ := rfl
theorem xmth_pop1 {n i Q u} : xmth .pop1 (.loc n) [.int i] st Q u = xlist st[n]? (fun xs => xand (-(2 ^ 63) ≤ i ∧ i < 2 ^ 63) (fun _ => xopt (seqIndex? i xs.length) (fun k => xopt (xs[k]?) (fun v => Q v (st.set n (.lst (xs.eraseIdx k)))) ⟨⟩) ⟨⟩) ⟨⟩) ⟨⟩ := by
  show (match st[n]? with | some (.lst xs) => _ | _ => False) = (match st[n]? with | some (.lst xs) => _ | _ => False)
  split
  · exact propext ⟨fun ⟨a, b, c⟩ => ⟨⟨a, b⟩, c⟩, fun ⟨⟨a, b⟩, c⟩ => ⟨a, b, c⟩⟩
  · rfl
theorem xmth_extend {n d Q u} : xmth .extend (.loc n) [d] st Q u = xlist st[n]? (fun xs => xand (d ≠ .loc n) (fun _ => xopt (asL st d) (fun ys => xand (xs.length + ys.length ≤ sizeLine) (fun _ => Q .non (st.set n (.lst (xs ++ ys)))) ⟨⟩) ⟨⟩) ⟨⟩) ⟨⟩ := rfl
theorem recv_app {n : Nat} : recv .append (.loc n) st = xlist st[n]? (fun _ => True) ⟨⟩ := rfl
theorem recv_pop0 {n : Nat} : recv .pop0 (.loc n) st = xlist st[n]? (fun _ => True) ⟨⟩ := rfl
theorem recv_pop1 {n : Nat} : recv .pop1 (.loc n) st = xlist st[n]? (fun _ => True) ⟨⟩ := rfl
theorem recv_ext {n : Nat} : recv .extend (.loc n) st = xlist st[n]? (fun _ => True) ⟨⟩ := rfl
theorem asSeq_t {xs} : asSeq st (.tup xs) = some xs := rfl
theorem asSeq_l {xs} : asSeq st (.lst xs) = some xs := rfl
theorem asSeq_r {xs} : asSeq st (.ro xs) = some xs := rfl
theorem asR_l {xs} : asR st (.lst xs) = some xs := rfl
theorem asR_r {xs} : asR st (.ro xs) = some xs := rfl
theorem asL_l {xs} : asL st (.lst xs) = some xs := rfl
theorem asL_o {n xs} (h : st[n]? = some (.lst xs)) : asL st (.loc n) = some xs := by unfold asL; simp only [h]
theorem asR_o {n xs} (h : st[n]? = some (.lst xs)) : asR st (.loc n) = some xs := asL_o h
theorem asSeq_o {n xs} (h : st[n]? = some (.lst xs)) : asSeq st (.loc n) = some xs := asL_o h
/-- a list at a place -/
def asLo : Option D → Option (List D)
  | some (.lst xs) => some xs
  | _ => none
theorem asLo_l {xs} : asLo (some (.lst xs)) = some xs := rfl
theorem asL_oo {n : Nat} : asL st (.loc n) = asLo st[n]? := by
  unfold asL asLo
  rfl
theorem asR_oo {n : Nat} : asR st (.loc n) = asLo st[n]? := asL_oo
theorem asSeq_oo {n : Nat} : asSeq st (.loc n) = asLo st[n]? := asL_oo
theorem lenD_oo {n : Nat} : lenD st (.loc n) = (asLo st[n]?).map List.length := by
  rw [← asSeq_oo]; rfl
theorem lenD_t {xs} : lenD st (.tup xs) = some xs.length := rfl
theorem lenD_l {xs} : lenD st (.lst xs) = some xs.length := rfl
theorem lenD_r {xs} : lenD st (.ro xs) = some xs.length := rfl
theorem lenD_o {n xs} (h : st[n]? = some (.lst xs)) : lenD st (.loc n) = some xs.length := by
  show (asSeq st (.loc n)).map List.length = _
  rw [asSeq_o h]; rfl
end
end MI

set_option maxRecDepth 100000
/-! MI, part 16: loops by what stays true; ends of a def; calls. -/
namespace MI
open PySem PySem.Spec PyProof.Rows L2

section
variable {Φ : Fns}
theorem xite_of {b : Bool} {A B : Unit → Prop} {u v} (h : xite b A B u v) : if b = true then A () else B () := h
/-- two ways that meet again -/
theorem ite_join (hΦ : ∀ f, MonoFn (Φ f)) {c : Bool} {a b : List SS} {K : Ev → Sto → Prop} {rt : Kd} {bk ct : Ev → Sto → Prop} {u1 u2 u3 u4 v1 v2 v3 v4} {env : Ev} {st : Sto} (I : Ev → Sto → Prop)
    (h1 : c = true → xSs Φ a (fun e s => xend I e s ⟨⟩) rt bk ct ⟨⟩ ⟨⟩ ⟨⟩ ⟨⟩ env st) (h2 : c = false → xSs Φ b (fun e s => xend I e s ⟨⟩) rt bk ct ⟨⟩ ⟨⟩ ⟨⟩ ⟨⟩ env st) (h : ∀ env st, I env st → K env st) :
    xite c (fun _ => xSs Φ a K rt bk ct u1 u2 u3 u4 env st) (fun _ => xSs Φ b K rt bk ct v1 v2 v3 v4 env st) ⟨⟩ ⟨⟩ :=
  xite_mk (fun e => wSs_mono hΦ a ⟨I, rt, bk, ct⟩ _ env st ⟨h, fun _ _ q => q, fun _ _ q => q, fun _ _ q => q⟩ (h1 e)) (fun e => wSs_mono hΦ b ⟨I, rt, bk, ct⟩ _ env st ⟨h, fun _ _ q => q, fun _ _ q => q, fun _ _ q => q⟩ (h2 e))
theorem ifx_join (hΦ : ∀ f, MonoFn (Φ f)) {c : Bool} {a b : SE} {Q : Kd} {u v} {env : Ev} {st : Sto} (I : Kd) (h1 : c = true → xE Φ a env st (fun d s => xend I d s ⟨⟩) ⟨⟩) (h2 : c = false → xE Φ b env st (fun d s => xend I d s ⟨⟩) ⟨⟩) (h : ∀ d s, I d s → Q d s) :
    xite c (fun _ => xE Φ a env st Q u) (fun _ => xE Φ b env st Q v) ⟨⟩ ⟨⟩ :=
  xite_mk (fun e => wE_mono hΦ a env st _ _ h (h1 e)) (fun e => wE_mono hΦ b env st _ _ h (h2 e))
/-- a for: I i holds before the i-th item -/
theorem for_inv (hΦ : ∀ f, MonoFn (Φ f)) {t : ST} {b : List SS} {keep : Sto → Prop} {items : List D} {nx : Ev → Sto → Prop} {rt : Kd} {u v w} {env : Ev} {st : Sto} (I : Nat → Ev → Sto → Prop)
    (h0 : I 0 env st) (hk : ∀ i env st, i ≤ items.length → I i env st → keep st)
    (hs : ∀ i x env st, items[i]? = some x → I i env st → xG Φ t x env st (fun env' st' => xSs Φ b (fun e s => xend (I (i + 1)) e s ⟨⟩) rt nx (fun e s => xend (I (i + 1)) e s ⟨⟩) ⟨⟩ ⟨⟩ ⟨⟩ ⟨⟩ env' st') ⟨⟩)
    (he : ∀ env st, I items.length env st → nx env st) : xfor Φ t b keep items nx rt u v w env st := by
  have key : ∀ (xs : List D) (i : Nat) (env : Ev) (st : Sto), items.drop i = xs → i + xs.length = items.length → I i env st → forW (fun x e s K => wG Φ t x e s K) (fun X' e s => wSs Φ b X' e s) keep ⟨nx, rt, nx, nx⟩ xs env st := by
    intro xs
    induction xs with
    | nil =>
      intro i env st hd hl h
      have : i = items.length := by simpa using hl
      subst this
      exact ⟨hk _ _ _ (Nat.le_refl _) h, he _ _ h⟩
    | cons x r ih =>
      intro i env st hd hl h
      have hx : items[i]? = some x := by
        have := List.getElem?_drop (xs := items) (i := i) (j := 0)
        rw [hd] at this
        simpa using this.symm
      have hd' : items.drop (i + 1) = r := by
        rw [← List.drop_drop, hd]; rfl
      have hl' : i + 1 + r.length = items.length := by
        rw [List.length_cons] at hl; omega
      refine ⟨hk _ _ _ (by omega) h, ?_⟩
      have := hs i x env st hx h
      exact wG_mono hΦ t x env st _ _ (fun e s q => wSs_mono hΦ b ⟨fun e s => I (i + 1) e s, rt, nx, fun e s => I (i + 1) e s⟩ _ e s ⟨fun e s => ih (i + 1) e s hd' hl', fun _ _ q => q, fun _ _ q => q, fun e s => ih (i + 1) e s hd' hl'⟩ q) this
  exact key items 0 env st rfl (by omega) h0
/-- a while, by what falls -/
theorem wh_inv (hΦ : ∀ f, MonoFn (Φ f)) {c : SB} {b : List SS} {nx : Ev → Sto → Prop} {rt : Kd} {u v} {env : Ev} {st : Sto} (I : Nat → Ev → Sto → Prop) (n : Nat) (h0 : I n env st)
    (hs : ∀ i env st, I i env st → xT Φ c env st (fun k st' => xite k (fun _ => xSs Φ b (fun e s => xend (fun e s => ∃ j, j < i ∧ I j e s) e s ⟨⟩) rt nx (fun e s => xend (fun e s => ∃ j, j < i ∧ I j e s) e s ⟨⟩) ⟨⟩ ⟨⟩ ⟨⟩ ⟨⟩ env st') (fun _ => nx env st') ⟨⟩ ⟨⟩) ⟨⟩) : xwh Φ c b nx rt u v env st := by
  have key : ∀ n i env st, i < n → I i env st → whileW (fun e s K => wT Φ c e s K) (fun X' e s => wSs Φ b X' e s) ⟨nx, rt, nx, nx⟩ n env st := by
    intro n
    induction n with
    | zero => intro i env st h; exact absurd h (Nat.not_lt_zero _)
    | succ n ih =>
      intro i env st hi h
      refine wT_mono hΦ c env st _ _ (fun k s q => ?_) (hs i env st h)
      have hle : EndsD.Le ⟨fun e s => ∃ j, j < i ∧ I j e s, rt, nx, fun e s => ∃ j, j < i ∧ I j e s⟩ ⟨whileW (fun e s K => wT Φ c e s K) (fun X' e s => wSs Φ b X' e s) ⟨nx, rt, nx, nx⟩ n, rt, nx, whileW (fun e s K => wT Φ c e s K) (fun X' e s => wSs Φ b X' e s) ⟨nx, rt, nx, nx⟩ n⟩ :=
        ⟨fun e s ⟨j, hj, q⟩ => ih j e s (by omega) q, fun _ _ q => q, fun _ _ q => q, fun e s ⟨j, hj, q⟩ => ih j e s (by omega) q⟩
      exact ite_mono (wSs_mono hΦ b _ _ env s hle) id (xite_of q)
  exact ⟨n + 1, key (n + 1) n env st (Nat.lt_succ_self n) h0⟩
/-- a comprehension of one clause -/
theorem lc_inv (hΦ : ∀ f, MonoFn (Φ f)) {elt : SE} {tg : ST} {c : Option SB} {env : Ev} {keep : Sto → Prop} {Q : List D → Sto → Prop} {items acc : List D} {u v} {st : Sto} (I : Nat → List D → Sto → Prop)
    (h0 : I 0 acc st) (hl : acc.length + items.length ≤ sizeLine) (hk : ∀ i acc st, i ≤ items.length → I i acc st → keep st)
    (hs : ∀ i x acc st, items[i]? = some x → I i acc st → xG Φ tg x env st (fun e s => xC Φ c e s (fun k s2 => xite k (fun _ => xE Φ elt e s2 (fun d s3 => xend (I (i + 1)) (acc ++ [d]) s3 ⟨⟩) ⟨⟩) (fun _ => xend (I (i + 1)) acc s2 ⟨⟩) ⟨⟩ ⟨⟩) ⟨⟩) ⟨⟩)
    (he : ∀ acc st, I items.length acc st → Q acc st) : xlc Φ elt tg c env keep Q u v items acc st := by
  have key : ∀ (xs : List D) (i : Nat) (acc : List D) (st : Sto), items.drop i = xs → i + xs.length = items.length → acc.length + xs.length ≤ sizeLine → I i acc st →
      lcW (fun x s K => wG Φ tg x env s K) (fun e s K => wC Φ c e s K) (fun e s K => wE Φ elt e s K) keep Q xs acc st := by
    intro xs
    induction xs with
    | nil =>
      intro i acc st hd hl _ h
      have : i = items.length := by simpa using hl
      subst this
      exact ⟨hk _ _ _ (Nat.le_refl _) h, he _ _ h⟩
    | cons x r ih =>
      intro i acc st hd hl ha h
      have hx : items[i]? = some x := by
        have := List.getElem?_drop (xs := items) (i := i) (j := 0)
        rw [hd] at this
        simpa using this.symm
      have hd' : items.drop (i + 1) = r := by
        rw [← List.drop_drop, hd]; rfl
      have hl' : i + 1 + r.length = items.length := by
        rw [List.length_cons] at hl; omega
      rw [List.length_cons] at ha
      refine ⟨hk _ _ _ (by omega) h, ?_⟩
      refine wG_mono hΦ tg x env st _ _ (fun e s q => wC_mono hΦ c e s _ _ (fun k s2 q => ?_) q) (hs i x acc st hx h)
      exact ite_mono (wE_mono hΦ elt e s2 _ _ fun d s3 q => ⟨by omega, ih (i + 1) _ s3 hd' hl' (by rw [List.length_append, List.length_singleton]; omega) q⟩) (ih (i + 1) acc s2 hd' hl' (by omega)) (xite_of q)
  exact key items 0 acc st rfl (by omega) hl h0
/-- the plain comprehension: each item gives f x, or is left out; the store stays -/
theorem lc_map (hΦ : ∀ f, MonoFn (Φ f)) {elt : SE} {tg : ST} {c : Option SB} {env : Ev} {keep : Sto → Prop} {Q : List D → Sto → Prop} {items acc : List D} {u v} {st : Sto} (f : D → Option D)
    (hl : acc.length + items.length ≤ sizeLine) (hk : keep st)
    (hs : ∀ x ∈ items, xG Φ tg x env st (fun e s => xC Φ c e s (fun k s2 => xite k (fun _ => xE Φ elt e s2 (fun d s3 => xend (fun d s3 => s3 = st ∧ f x = some d) d s3 ⟨⟩) ⟨⟩) (fun _ => xend (fun s2 (_ : Unit) => s2 = st ∧ f x = none) s2 () ⟨⟩) ⟨⟩ ⟨⟩) ⟨⟩) ⟨⟩)
    (he : Q (acc ++ items.filterMap f) st) : xlc Φ elt tg c env keep Q u v items acc st := by
  refine lc_inv hΦ (fun i a s => s = st ∧ a = acc ++ (items.take i).filterMap f) ⟨rfl, by simp⟩ hl (fun i a s _ h => h.1 ▸ hk) (fun i x a s hx h => ?_) (fun a s h => ?_)
  · obtain ⟨rfl, rfl⟩ := h
    refine wG_mono hΦ tg x env _ _ _ (fun e s q => wC_mono hΦ c e s _ _ (fun k s2 q => ?_) q) (hs x (List.mem_of_getElem? hx))
    have eq1 : (items.take (i + 1)).filterMap f = (items.take i).filterMap f ++ (f x).toList := by
      rw [List.take_add_one, hx, List.filterMap_append]
      simp only [Option.toList_some, List.filterMap_cons, List.filterMap_nil]
      cases f x <;> rfl
    refine ite_mono (wE_mono hΦ elt e s2 _ _ fun d s3 q' => ?_) (fun q' => ?_) (xite_of q)
    · refine ⟨q'.1, ?_⟩
      rw [eq1, q'.2, List.append_assoc]; rfl
    · refine ⟨q'.1, ?_⟩
      rw [eq1, q'.2]; simp
  · obtain ⟨rfl, rfl⟩ := h
    rw [List.take_length]
    exact he
/-- all items in their form -/
theorem lc_mapT (hΦ : ∀ f, MonoFn (Φ f)) {elt : SE} {tg : ST} {c : Option SB} {env : Ev} {keep : Sto → Prop} {Q : List D → Sto → Prop} {α β : Type} {l : List α} {enc : α → D} {g : α → D} {acc : List D} {u v} {st : Sto}
    (hl : acc.length + l.length ≤ sizeLine) (hk : keep st)
    (hs : ∀ x ∈ l, xG Φ tg (enc x) env st (fun e s => xC Φ c e s (fun k s2 => xite k (fun _ => xE Φ elt e s2 (fun d s3 => xend (fun d s3 => s3 = st ∧ d = g x) d s3 ⟨⟩) ⟨⟩) (fun _ => False) ⟨⟩ ⟨⟩) ⟨⟩) ⟨⟩)
    (he : Q (acc ++ l.map g) st) : xlc Φ elt tg c env keep Q u v (l.map enc) acc st := by
  refine lc_inv hΦ (fun i a s => s = st ∧ a = acc ++ (l.take i).map g) ⟨rfl, by simp⟩ (by simpa using hl) (fun i a s _ h => h.1 ▸ hk) (fun i x a s hx h => ?_) (fun a s h => ?_)
  · obtain ⟨rfl, rfl⟩ := h
    rw [List.getElem?_map] at hx
    cases hy : l[i]? with
    | none => rw [hy] at hx; cases hx
    | some y =>
      rw [hy] at hx
      cases hx
      refine wG_mono hΦ tg _ env _ _ _ (fun e s q => wC_mono hΦ c e s _ _ (fun k s2 q => ?_) q) (hs y (List.mem_of_getElem? hy))
      have eq1 : (l.take (i + 1)).map g = (l.take i).map g ++ [g y] := by
        rw [List.take_add_one, hy, List.map_append]; rfl
      refine ite_mono (wE_mono hΦ elt e s2 _ _ fun d s3 q => ?_) (fun q => ?_) (xite_of q)
      · obtain ⟨rfl, rfl⟩ := q
        refine ⟨rfl, ?_⟩
        rw [eq1, List.append_assoc]
      · exact q.elim
  · obtain ⟨rfl, rfl⟩ := h
    rw [List.length_map, List.take_length]
    exact he
/-- two clauses: the outer one -/
theorem lc2_inv (hΦ : ∀ f, MonoFn (Φ f)) {elt : SE} {tg : ST} {c : Option SB} {tg1 : ST} {it1 : SI} {c1 : Option SB} {own1 : List Nat} {env : Ev} {keep : Sto → Prop} {Q : List D → Sto → Prop} {items acc : List D} {u v} {st : Sto} (I : Nat → List D → Sto → Prop)
    (h0 : I 0 acc st) (hk : ∀ i acc st, i ≤ items.length → I i acc st → keep st)
    (hs : ∀ i x acc st, items[i]? = some x → I i acc st → xG Φ tg x env st (fun e s => xC Φ c e s (fun k s2 => xite k
      (fun _ => xI Φ it1 e s2 (fun J s3 => xlc Φ elt tg1 c1 (wipeE e own1) J.keep (fun a s4 => xend (I (i + 1)) a s4 ⟨⟩) ⟨⟩ ⟨⟩ J.items acc s3) ⟨⟩) (fun _ => xend (I (i + 1)) acc s2 ⟨⟩) ⟨⟩ ⟨⟩) ⟨⟩) ⟨⟩)
    (he : ∀ acc st, I items.length acc st → Q acc st) : xlc2 Φ elt tg c tg1 it1 c1 own1 env keep Q u v items acc st := by
  have key : ∀ (xs : List D) (i : Nat) (acc : List D) (st : Sto), items.drop i = xs → i + xs.length = items.length → I i acc st →
      lcW2 (fun x s K => wG Φ tg x env s K) (fun e s K => wC Φ c e s K)
    (fun e acc s K => wI Φ it1 e s fun J1 s' => lcW (fun x s K => wG Φ tg1 x (wipeE e own1) s K) (fun e s K => wC Φ c1 e s K) (fun e s K => wE Φ elt e s K) J1.keep K J1.items acc s') keep Q xs acc st := by
    intro xs
    induction xs with
    | nil =>
      intro i acc st hd hl h
      have : i = items.length := by simpa using hl
      subst this
      exact ⟨hk _ _ _ (Nat.le_refl _) h, he _ _ h⟩
    | cons x r ih =>
      intro i acc st hd hl h
      have hx : items[i]? = some x := by
        have := List.getElem?_drop (xs := items) (i := i) (j := 0)
        rw [hd] at this
        simpa using this.symm
      have hd' : items.drop (i + 1) = r := by
        rw [← List.drop_drop, hd]; rfl
      have hl' : i + 1 + r.length = items.length := by
        rw [List.length_cons] at hl; omega
      refine ⟨hk _ _ _ (by omega) h, ?_⟩
      refine wG_mono hΦ tg x env st _ _ (fun e s q => wC_mono hΦ c e s _ _ (fun k s2 q => ?_) q) (hs i x acc st hx h)
      refine ite_mono (wI_mono hΦ it1 e s2 _ _ fun J s3 => ?_) (ih (i + 1) acc s2 hd' hl') (xite_of q)
      exact lcW_mono (fun x s K K' hK => wG_mono hΦ tg1 x _ s K K' hK) (fun e s K K' hK => wC_mono hΦ c1 e s K K' hK) (fun e s K K' hK => wE_mono hΦ elt e s K K' hK) (fun a s4 => ih (i + 1) a s4 hd' hl') _ _ _
  exact key items 0 acc st rfl (by omega) h0
theorem xlc_nil {Φ : Fns} {elt : SE} {tg : ST} {c : Option SB} {env : Ev} {keep : Sto → Prop} {Q : List D → Sto → Prop} {u v} {acc : List D} {st : Sto} : xlc Φ elt tg c env keep Q u v [] acc st = xand (keep st) (fun _ => Q acc st) ⟨⟩ := rfl
theorem xlc_cons {Φ : Fns} {elt : SE} {tg : ST} {c : Option SB} {env : Ev} {keep : Sto → Prop} {Q : List D → Sto → Prop} {u v} {x : D} {r acc : List D} {st : Sto} : xlc Φ elt tg c env keep Q u v (x :: r) acc st =
    xand (keep st) (fun _ => xG Φ tg x env st (fun e s => xC Φ c e s (fun b s2 => xite b (fun _ => xE Φ elt e s2 (fun d s3 => xand (acc.length < sizeLine) (fun _ => xlc Φ elt tg c env keep Q ⟨⟩ ⟨⟩ r (acc ++ [d]) s3) ⟨⟩) ⟨⟩) (fun _ => xlc Φ elt tg c env keep Q ⟨⟩ ⟨⟩ r acc s2) ⟨⟩ ⟨⟩) ⟨⟩) ⟨⟩) ⟨⟩ := rfl
theorem rng3_mk {i j k : Int} {R : Its → Sto → Prop} {u} {st : Sto} (n : Nat) (h : RgC i j k n) (q : R ⟨rngL i n k, fun _ => True⟩ st) : xrng3 i j k R u st := ⟨n, h, q⟩
theorem rng3_down {i j : Int} {R : Its → Sto → Prop} {u} {st : Sto} (h : -(2 ^ 62) ≤ i ∧ i < 2 ^ 62 ∧ -(2 ^ 62) ≤ j ∧ j < 2 ^ 62) (q : R ⟨rngL i (i - j).toNat (-1), fun _ => True⟩ st) : xrng3 i j (-1) R u st :=
  ⟨_, RgC.neg h.1 h.2.1 h.2.2.1 h.2.2.2, q⟩
end
/-! ### the end of a def -/
theorem fin_q {n : Nat} {Q : Kd} {d : D} {st : Sto} (h : Q d st) : MI.Fin n Q d st := .inl h
/-- the newer objects are dropped -/
theorem fin_cut {Q : Kd} {d : D} {st st' : Sto} (hst : ∀ d ∈ st, Cl st.length d) (hp : st'.take st.length = st) (hd : Cl st.length d) (h : Q d st) : MI.Fin st.length Q d st' :=
  .inr ⟨st.length, d, Nat.le_refl _, by rw [← hp]; simp; omega, by rw [hp]; exact hst, .inl ⟨hd, rfl⟩, by rw [hp]; exact h⟩
/-- the same, where older objects have changed -/
theorem fin_cutW {n : Nat} {Q : Kd} {d : D} {st1 st' : Sto} (hn : st1.length = n) (hst : ∀ d ∈ st1, Cl n d) (hp : st'.take n = st1) (hd : Cl n d) (h : Q d st1) : MI.Fin n Q d st' :=
  .inr ⟨n, d, Nat.le_refl _, by rw [← hn, ← hp]; simp; omega, by rw [hp]; exact hst, .inl ⟨hd, rfl⟩, by rw [hp]; exact h⟩
/-- a newer list is handed back, from now on read alone -/
theorem fin_frz {n m : Nat} {Q : Kd} {xs : List D} {st1 st' : Sto} (hn : st1.length = n) (hst : ∀ d ∈ st1, Cl n d) (hp : st'.take n = st1) (hm : n ≤ m) (hl : st'[m]? = some (.lst xs)) (hd : ∀ d ∈ xs, Cl n d) (h : Q (.lst xs) st1) : MI.Fin n Q (.loc m) st' :=
  .inr ⟨n, .lst xs, Nat.le_refl _, by rw [← hn, ← hp]; simp; omega, by rw [hp]; exact hst, .inr ⟨m, rfl, hm, hl, by simp only [Cl]; exact Cls'_iff.mpr hd, fun x e => by cases e⟩, by rw [hp]; exact h⟩
theorem cl_int {n : Nat} {i : Int} : Cl n (.int i) := by simp only [Cl]
theorem cl_bl {n : Nat} {i : Bool} : Cl n (.bl i) := by simp only [Cl]
theorem cl_str {n : Nat} {i : Str} : Cl n (.str i) := by simp only [Cl]
theorem cl_non {n : Nat} : Cl n .non := by simp only [Cl]
theorem cl_tup {n : Nat} {xs : List D} (h : ∀ d ∈ xs, Cl n d) : Cl n (.tup xs) := by simp only [Cl]; exact Cls'_iff.mpr h
theorem cl_lst {n : Nat} {xs : List D} (h : ∀ d ∈ xs, Cl n d) : Cl n (.lst xs) := by simp only [Cl]; exact Cls'_iff.mpr h
theorem cl_ints {n : Nat} {f : List Int} : ∀ d ∈ f.map D.int, Cl n d := fun d h => by
  obtain ⟨i, _, rfl⟩ := List.mem_map.mp h
  exact cl_int
theorem ints_map : ∀ (f : List Int), ints? (f.map .int) = some f
  | [] => rfl
  | i :: r => by
    show (ints? (r.map D.int)).map (i :: ·) = _
    rw [ints_map r]; rfl
theorem bls_map : ∀ (f : List Bool), bls? (f.map .bl) = some f
  | [] => rfl
  | i :: r => by
    show (bls? (r.map D.bl)).map (i :: ·) = _
    rw [bls_map r]; rfl
theorem ints_some : ∀ {xs : List D} {f : List Int}, ints? xs = some f → xs = f.map .int
  | [], f, h => by cases h; rfl
  | d :: r, f, h => by
    cases d with
    | int i =>
      replace h : (ints? r).map (i :: ·) = some f := h
      cases e : ints? r with
      | none => rw [e] at h; cases h
      | some g => rw [e] at h; cases h; rw [ints_some e]; rfl
    | _ => cases h
/-! ### the store, grown -/
theorem getA {st l : Sto} {k : Nat} : (st ++ l)[st.length + k]? = l[k]? := by
  rw [List.getElem?_append_right (Nat.le_add_right _ _), Nat.add_sub_cancel_left]
theorem getA0 {st l : Sto} : (st ++ l)[st.length]? = l[0]? := getA (k := 0)
theorem setA {st l : Sto} {k : Nat} {v : D} : (st ++ l).set (st.length + k) v = st ++ l.set k v := by
  rw [List.set_append_right _ _ (Nat.le_add_right _ _), Nat.add_sub_cancel_left]
theorem setA0 {st l : Sto} {v : D} : (st ++ l).set st.length v = st ++ l.set 0 v := setA (k := 0)
theorem getOld {st l : Sto} {n : Nat} {d : D} (h : st[n]? = some d) : (st ++ l)[n]? = some d := by
  rw [List.getElem?_append_left (List.getElem?_eq_some_iff.mp h).1, h]
theorem setOld {st l : Sto} {n : Nat} {d v : D} (h : st[n]? = some d) : (st ++ l).set n v = st.set n v ++ l := by
  rw [List.set_append_left _ _ (List.getElem?_eq_some_iff.mp h).1]
theorem asSeqOld {st l : Sto} {d : D} {xs : List D} (h : asSeq st d = some xs) : asSeq (st ++ l) d = some xs := by
  cases d with
  | loc n =>
    rw [asSeq_oo] at h ⊢
    cases e : st[n]? with
    | none => rw [e] at h; cases h
    | some x => rw [getOld e]; rw [e] at h; exact h
  | _ => first | exact h | cases h
theorem takeA {st l : Sto} : (st ++ l).take st.length = st := by simp
theorem getSet {st : Sto} {n : Nat} {v : D} : (st.set n v)[n]? = st[n]?.map (fun _ => v) := by
  rw [List.getElem?_set_self']; rfl
theorem takeSet {st : Sto} {n : Nat} {v : D} : (st.set n v).take st.length = st.set n v := by
  rw [show st.length = (st.set n v).length by simp, List.take_length]
/-! ### items -/
theorem atI_lit {α : Type} {xs : List α} {k : Nat} [NeZero k] : atI xs (no_index (OfNat.ofNat k : Int)) = xs[k]? := by
  unfold atI ixN
  have : (OfNat.ofNat k : Int) = (k : Int) := rfl
  rw [this, if_pos (by omega)]
  split
  · simp
  · have : xs.length ≤ k := by omega
    rw [List.getElem?_eq_none this]; rfl
theorem atI_cast {α : Type} {xs : List α} {k : Nat} : atI xs (k : Int) = xs[k]? := by
  unfold atI ixN
  rw [if_pos (by omega)]
  split
  · simp
  · have : xs.length ≤ k := by omega
    rw [List.getElem?_eq_none this]; rfl
theorem atI_zero {α : Type} {xs : List α} : atI xs 0 = xs[0]? := atI_cast (k := 0)
theorem atI_one {α : Type} {xs : List α} : atI xs 1 = xs[1]? := atI_cast (k := 1)
theorem atI_int {α : Type} {xs : List α} {i : Int} (h : 0 ≤ i) : atI xs i = xs[i.toNat]? := by
  have := atI_cast (xs := xs) (k := i.toNat)
  rwa [Int.toNat_of_nonneg h] at this
theorem atI_m1 {α : Type} {xs : List α} : atI xs (-1) = xs[xs.length - 1]? := by
  unfold atI ixN
  rw [if_neg (by omega)]
  cases xs with
  | nil => rfl
  | cons x r =>
    rw [if_pos (by simp; omega)]
    show (x :: r)[_]? = _
    congr 1
    simp
    omega
theorem atI_map {α β : Type} {xs : List α} {f : α → β} {i : Int} : atI (xs.map f) i = (atI xs i).map f := by
  unfold atI
  rw [List.length_map]
  cases ixN xs.length i with
  | none => rfl
  | some j => exact List.getElem?_map
theorem ixN_lit {n k : Nat} [NeZero k] : ixN n (no_index (OfNat.ofNat k : Int)) = if k < n then some k else none := by
  unfold ixN
  have : (OfNat.ofNat k : Int) = (k : Int) := rfl
  rw [this, if_pos (by omega)]
  simp
theorem ixN_cast {n k : Nat} : ixN n (k : Int) = if k < n then some k else none := by
  unfold ixN
  rw [if_pos (by omega)]
  simp
theorem ixN_zero {n : Nat} : ixN n 0 = if 0 < n then some 0 else none := ixN_cast (k := 0)
theorem ixN_one {n : Nat} : ixN n 1 = if 1 < n then some 1 else none := ixN_cast (k := 1)
theorem ixN_int {n : Nat} {i : Int} (h : 0 ≤ i) (h' : i < n) : ixN n i = some i.toNat := by
  unfold ixN
  rw [if_pos h, if_pos h']
/-! ### sizes -/
theorem sizeLine_ge : 100000 ≤ sizeLine := by decide
theorem cmulW {i j : Int} (h1 : i.natAbs < 2 ^ 200) (h2 : j.natAbs < 2 ^ 200) : CMulW i j := by
  have : ∀ n : Nat, n < 2 ^ 200 → n.log2 ≤ 200 := fun n h => by
    by_cases h0 : n = 0
    · subst h0; decide
    · exact Nat.le_of_lt ((Nat.log2_lt h0).mpr h)
  have a := this _ h1
  have b := this _ h2
  unfold CMulW
  omega
theorem cdivW {i j : Int} (h : 0 < j) (h1 : j.natAbs < 2 ^ 200) : CDivW i j := by
  refine ⟨h, ?_⟩
  have : j.natAbs ≠ 0 := by omega
  have := (Nat.log2_lt this).mpr h1
  omega
theorem cmul64 {i j : Int} (h1 : i.natAbs < 2 ^ 64) (h2 : j.natAbs < 2 ^ 64) : CMulW i j := cmulW (by omega) (by omega)
theorem natAdd {i k : Nat} : (i : Int) + (k : Int) = ((i + k : Nat) : Int) := (Int.natCast_add i k).symm
/-! ### reading tables -/
def GlOk (mg : Str → Option Value) (fnP : Str → Nat → Nat → Prop) (cn : Str → D → Prop) : List (Str × GK) → Prop
  | [] => True
  | (x, .fn i n) :: r => fnP x i n ∧ GlOk mg fnP cn r
  | (x, .con d) :: r => cn x d ∧ GlOk mg fnP cn r
theorem GlOk.fn {mg : Str → Option Value} {fnP : Str → Nat → Nat → Prop} {cn : Str → D → Prop} : ∀ {l : List (Str × GK)}, GlOk mg fnP cn l → ∀ x i n, l.lookup x = some (.fn i n) → fnP x i n
  | [], _, _, _, _, h => by cases h
  | (y, g) :: r, H, x, i, n, h => by
    rw [List.lookup_cons] at h
    cases e : x == y with
    | true =>
      rw [e] at h
      have := eq_of_beq e
      subst this
      cases h
      exact H.1
    | false =>
      rw [e] at h
      cases g with
      | fn _ _ => exact GlOk.fn H.2 x i n h
      | con _ => exact GlOk.fn H.2 x i n h
theorem GlOk.con {mg : Str → Option Value} {fnP : Str → Nat → Nat → Prop} {cn : Str → D → Prop} : ∀ {l : List (Str × GK)}, GlOk mg fnP cn l → ∀ x d, l.lookup x = some (.con d) → cn x d
  | [], _, _, _, h => by cases h
  | (y, g) :: r, H, x, d, h => by
    rw [List.lookup_cons] at h
    cases e : x == y with
    | true =>
      rw [e] at h
      have := eq_of_beq e
      subst this
      cases h
      exact H.1
    | false =>
      rw [e] at h
      cases g with
      | fn _ _ => exact GlOk.con H.2 x d h
      | con _ => exact GlOk.con H.2 x d h
/-- a def keeps its promise, at every room from k on -/
def FOk (P : Program) (w : World) (K : PySem.W.Frag) (mg : Str → Option Value) (base : Heap) (C : Nat → Addr) (k0 : Nat) (x : Str) (n : Nat) (φ : Fn) : Prop :=
  ∀ k, k0 ≤ k → ∃ f fd ps, mg x = some (.ref f) ∧ PySem.W.keepIn K (.ref f) = true ∧ Binds K fd ps [] ∧ FnOk P w K mg base CX0 k f fd ps (spD K C n φ)
/-- a def as it stands -/
structure Df (K : PySem.W.Frag) (mg : Str → Option Value) (x : Str) (st : Stmt) (ps : List Str) : Prop where
  ex : ∃ f fd, mg x = some (.ref f) ∧ Fun K x x st f fd ∧ Binds K fd ps []
theorem fok {P : Program} {w : World} {K : PySem.W.Frag} {mg : Str → Option Value} {base : Heap} {C : Nat → Addr} {x : Str} {st : Stmt} {N ps : List Str} {n k0 : Nat} {Φ : Fns} {φ : Fn} {body : List SS} {Γ : Gam} {fuel : Nat}
    (D0 : Df K mg x st ps) (S : FnScope N ps (defScope st)) (hΓ : Γ.N = N) (hsc : Γ.sc = defScope st) (hfn : Γ.fn = fun _ => true) (hn : ps.length = n) (hc : cSs fuel Γ (defBody st) = some body)
    (mono : ∀ f, MonoFn (Φ f)) (hφ : MonoFn φ)
    (hgl : GlOk mg (fun x i n => FOk P w K mg base C k0 x n (Φ i)) (fun x d => ∃ u v, mg x = some u ∧ RelV v u ∧ ∀ H ι, Rep K C H ι d v) Γ.gl)
    (gbl : ∀ x ∈ Γ.bl, mg x = none)
    (hb : ∀ ds st Q, ds.length = n → (∀ d ∈ st, Cl st.length d) → (∀ d ∈ ds, Cl st.length d) → φ ds st Q → xBody Φ body st.length Q ⟨⟩ (ds.map some ++ List.replicate (N.length - n) none) st) :
    FOk P w K mg base C (k0 + 1) x n φ := fun k hk => by
  obtain ⟨f, fd, h1, h2, h3⟩ := D0.ex
  obtain ⟨k, rfl⟩ : ∃ j, k = j + 1 := ⟨k - 1, by omega⟩
  exact ⟨f, fd, ps, h1, h2.kp, h3, fn_ok h2 S hΓ hsc hfn hn hc hφ mono (fun x i n h => hgl.fn x i n h k (by omega)) (hgl.con) gbl hb⟩
theorem fokF {P : Program} {w : World} {K : PySem.W.Frag} {mg : Str → Option Value} {base : Heap} {C : Nat → Addr} {x : Str} {st : Stmt} {f : Addr} {fd : FuncData} {N ps : List Str} {n k0 : Nat} {Φ : Fns} {φ : Fn} {body : List SS} {Γ : Gam} {fuel : Nat}
    (F : Fun K x x st f fd) (S : FnScope N ps (defScope st)) (hΓ : Γ.N = N) (hsc : Γ.sc = defScope st) (hfn : Γ.fn = fun _ => true) (hn : ps.length = n) (hc : cSs fuel Γ (defBody st) = some body)
    (mono : ∀ f, MonoFn (Φ f)) (hφ : MonoFn φ)
    (hgl : GlOk mg (fun x i n => FOk P w K mg base C k0 x n (Φ i)) (fun x d => ∃ u v, mg x = some u ∧ RelV v u ∧ ∀ H ι, Rep K C H ι d v) Γ.gl)
    (gbl : ∀ x ∈ Γ.bl, mg x = none)
    (hb : ∀ ds st Q, ds.length = n → (∀ d ∈ st, Cl st.length d) → (∀ d ∈ ds, Cl st.length d) → φ ds st Q → xBody Φ body st.length Q ⟨⟩ (ds.map some ++ List.replicate (N.length - n) none) st) :
    FnOk P w K mg base CX0 (k0 + 1) f fd ps (spD K C n φ) :=
  fn_ok F S hΓ hsc hfn hn hc hφ mono (fun x i n h => hgl.fn x i n h k0 (Nat.le_refl _)) (hgl.con) gbl hb
/-! ### the law -/
def f_law : Fn := fun ds st Q => ∃ ns : List Int, ds = [.ro (ns.map .int)] ∧ st = [] ∧ ns.length ≤ 63 ∧ ∀ st', Q (.bl true) st'
theorem m_law : MonoFn f_law := fun vs st Q Q' h ⟨ns, h1, h2, h3, q⟩ => ⟨ns, h1, h2, h3, fun s => h _ _ (q s)⟩
theorem law_start {K : PySem.W.Frag} {C : Nat → Addr} {H : Hp} {a : Addr} {ns : List Int} {E : XK} (hl : ns.length ≤ 63) (hS : SqL K H a (ns.map V.int)) : spD K C 1 f_law [.ref a] H (fun v _ => v = .bl true) E := by
  refine ⟨⟨[], []⟩, [], [.ro (ns.map .int)], ⟨rfl, List.nodup_nil, fun _ h => (by cases h), fun n d a h => (by simp at h)⟩, Reps.one ?_, rfl, ns, rfl, rfl, hl, fun st' v H' ι' _ _ r => ?_⟩
  · simp only [Rep]
    refine ⟨a, ns.map V.int, rfl, ?_, Reps.ints.mpr rfl⟩
    rcases hS with h | h
    · exact .inl ⟨h, by simp [Io.out]⟩
    · exact .inr h
  · simpa only [Rep] using r
theorem FOk.up {P : Program} {w : World} {K : PySem.W.Frag} {mg : Str → Option Value} {base : Heap} {C : Nat → Addr} {x : Str} {n k0 k1 : Nat} {φ : Fn} (h : FOk P w K mg base C k0 x n φ) (hk : k0 ≤ k1) : FOk P w K mg base C k1 x n φ :=
  fun k q => h k (Nat.le_trans hk q)
theorem FOk.weak {P : Program} {w : World} {K : PySem.W.Frag} {mg : Str → Option Value} {base : Heap} {C : Nat → Addr} {x : Str} {n k0 : Nat} {φ ψ : Fn} (h : FOk P w K mg base C k0 x n φ) (hw : ∀ ds st Q, ψ ds st Q → φ ds st Q) : FOk P w K mg base C k0 x n ψ := by
  intro k q
  obtain ⟨f, fd, ps, h1, h2, h3, h4⟩ := h k q
  exact ⟨f, fd, ps, h1, h2, h3, h4.imp (fun vs H Q E ⟨ι, st, ds, a, b, c, d⟩ => ⟨ι, st, ds, a, b, c, hw _ _ _ d⟩)⟩
end MI

namespace MI
open PySem PySem.Spec PyProof.Rows L2
local macro_rules | `(tactic| simp_wf) => `(tactic| simp -dsimp -failIfUnchanged -implicitDefEqProofs only [xite_t, xite_f, xint_i, xbl_i, xvar_i, xtup_i, xlist_i, xopt_i, xnew_t, xnew_f, xand_t, xE_var, xE_con, xE_bin, xE_neg, xE_cmp, xE_chain, xE_land, xE_lor, xE_lnot, xE_ifx, xE_tup, xE_lst, xE_idx, xE_slc, xE_rev, xE_call, xE_blt, xE_mth, xE_lc, xE_lc2, xEs_nil, xEs_cons, xO_none, xO_some, xC_none, xC_some, xT_land, xT_lor, xT_lnot, xT_cmp, xT_chain, xT_val, xI_seq, xI_rng1, xI_rng2, xI_rng3, xI_enum, xG_nm, xG_tup, xG_sub, xGs_nil, xGs_cons, xBody_eq, xS_set, xS_par, xS_aug, xS_augS, xS_expr, xS_ret, xS_ite, xS_for, xS_while, xS_pass, xS_brk, xS_cont, xSs_nil, xSs_cons, xbin_add, xbin_addS, xbin_addT, xbin_addL, xbin_addO, xbin_sub, xbin_mul, xbin_mulL, xbin_mulO, xbin_fdiv, xbin_mod, xbin_pow, xaug_add, xaug_sub, xaug_fdiv, xcmp_eqI, xcmp_eqS, xcmp_neI, xcmp_neS, xcmp_lt, xcmp_le, xcmp_gt, xcmp_ge, xcmp_in, xcmp_notIn, xcmp_eqT, xcmp_neT, xcmp_eqL, xcmp_neL, xcmp_isN, xcmp_isIN, xcmp_isTN, xcmp_isLN, xcmp_isON, xcmp_isntON, xcmp_isSN, xcmp_isntSN, xcmp_isBN, xcmp_isntBN, xcmp_eqN, xcmp_neN, xdat_NN, xcmp_isB, xcmp_isntN, xcmp_isntIN, xcmp_isntTN, xcmp_isntLN, xcmp_isntB, xtru_b, xtru_i, xtru_n, xtru_t, xtru_l, xtru_o, xidx_t, xidx_l, xidx_r, xidx_o, xidx_s, xidxL_o, xslc_t, xslc_l, xslc_r, xslc_o, xrev_t, xrev_l, xrev_o, xset_o, xblt_len, xblt_int, xblt_intB, xblt_list, xblt_tuple, xblt_sum, xblt_max2, xblt_min2, xblt_any, xblt_all, xblt_isTuple_tup, xblt_isTuple_int, xblt_isTuple_bl, xblt_isTuple_str, xblt_isTuple_non, xblt_isInt_tup, xblt_isInt_int, xblt_isInt_bl, xblt_isInt_str, xblt_isInt_non, xblt_isBool_tup, xblt_isBool_int, xblt_isBool_bl, xblt_isBool_str, xblt_isBool_non, xblt_isStr_tup, xblt_isStr_int, xblt_isStr_bl, xblt_isStr_str, xblt_isStr_non, xmth_append, xmth_pop0, xmth_pop1, xmth_extend, recv_app, recv_pop0, recv_pop1, recv_ext, asSeq_t, asSeq_l, asSeq_r, asR_l, asR_r, asL_l, asLo_l, asL_oo, asR_oo, asSeq_oo, lenD_oo, lenD_t, lenD_l, lenD_r, List.map_cons, List.map_nil, List.cons_append, List.nil_append, List.getElem?_cons_succ, List.getElem?_cons_zero, List.set_cons_zero, List.set_cons_succ, List.length_cons, List.length_nil, List.length_map, List.length_range, List.length_append, List.length_set, Option.map_some, wipeE, List.replicate_succ, List.replicate_zero, getSet, List.getElem?_map, List.set_set, atI_lit, atI_zero, atI_one, atI_cast, ixN_lit, ixN_zero, ixN_one, ixN_cast, Nat.reduceLT, ↓reduceIte, List.append_assoc, getA, getA0, setA, setA0, Bool.not_true, Bool.not_false, List.isEmpty_cons, List.isEmpty_nil, beq_self_eq_true, Bool.true_xor, Bool.false_xor, decide_true, decide_false, MI.ints_map, MI.bls_map, Nat.reduceAdd, Nat.reduceSub, Nat.reduceLeDiff, Bool.true_eq_false, Bool.false_eq_true, Int.reduceNeg, Int.reduceAdd, Int.reduceSub, Int.reduceMul, Int.reduceLT, Int.reduceLE, Int.reduceEq, Int.reduceBEq, Nat.zero_add])
local macro_rules | `(tactic| nomatch $es,*) => `(tactic| simp -dsimp -failIfUnchanged -implicitDefEqProofs only [$[$es:term],*, xite_t, xite_f, xint_i, xbl_i, xvar_i, xtup_i, xlist_i, xopt_i, xnew_t, xnew_f, xand_t, xE_var, xE_con, xE_bin, xE_neg, xE_cmp, xE_chain, xE_land, xE_lor, xE_lnot, xE_ifx, xE_tup, xE_lst, xE_idx, xE_slc, xE_rev, xE_call, xE_blt, xE_mth, xE_lc, xE_lc2, xEs_nil, xEs_cons, xO_none, xO_some, xC_none, xC_some, xT_land, xT_lor, xT_lnot, xT_cmp, xT_chain, xT_val, xI_seq, xI_rng1, xI_rng2, xI_rng3, xI_enum, xG_nm, xG_tup, xG_sub, xGs_nil, xGs_cons, xBody_eq, xS_set, xS_par, xS_aug, xS_augS, xS_expr, xS_ret, xS_ite, xS_for, xS_while, xS_pass, xS_brk, xS_cont, xSs_nil, xSs_cons, xbin_add, xbin_addS, xbin_addT, xbin_addL, xbin_addO, xbin_sub, xbin_mul, xbin_mulL, xbin_mulO, xbin_fdiv, xbin_mod, xbin_pow, xaug_add, xaug_sub, xaug_fdiv, xcmp_eqI, xcmp_eqS, xcmp_neI, xcmp_neS, xcmp_lt, xcmp_le, xcmp_gt, xcmp_ge, xcmp_in, xcmp_notIn, xcmp_eqT, xcmp_neT, xcmp_eqL, xcmp_neL, xcmp_isN, xcmp_isIN, xcmp_isTN, xcmp_isLN, xcmp_isON, xcmp_isntON, xcmp_isSN, xcmp_isntSN, xcmp_isBN, xcmp_isntBN, xcmp_eqN, xcmp_neN, xdat_NN, xcmp_isB, xcmp_isntN, xcmp_isntIN, xcmp_isntTN, xcmp_isntLN, xcmp_isntB, xtru_b, xtru_i, xtru_n, xtru_t, xtru_l, xtru_o, xidx_t, xidx_l, xidx_r, xidx_o, xidx_s, xidxL_o, xslc_t, xslc_l, xslc_r, xslc_o, xrev_t, xrev_l, xrev_o, xset_o, xblt_len, xblt_int, xblt_intB, xblt_list, xblt_tuple, xblt_sum, xblt_max2, xblt_min2, xblt_any, xblt_all, xblt_isTuple_tup, xblt_isTuple_int, xblt_isTuple_bl, xblt_isTuple_str, xblt_isTuple_non, xblt_isInt_tup, xblt_isInt_int, xblt_isInt_bl, xblt_isInt_str, xblt_isInt_non, xblt_isBool_tup, xblt_isBool_int, xblt_isBool_bl, xblt_isBool_str, xblt_isBool_non, xblt_isStr_tup, xblt_isStr_int, xblt_isStr_bl, xblt_isStr_str, xblt_isStr_non, xmth_append, xmth_pop0, xmth_pop1, xmth_extend, recv_app, recv_pop0, recv_pop1, recv_ext, asSeq_t, asSeq_l, asSeq_r, asR_l, asR_r, asL_l, asLo_l, asL_oo, asR_oo, asSeq_oo, lenD_oo, lenD_t, lenD_l, lenD_r, List.map_cons, List.map_nil, List.cons_append, List.nil_append, List.getElem?_cons_succ, List.getElem?_cons_zero, List.set_cons_zero, List.set_cons_succ, List.length_cons, List.length_nil, List.length_map, List.length_range, List.length_append, List.length_set, Option.map_some, wipeE, List.replicate_succ, List.replicate_zero, getSet, List.getElem?_map, List.set_set, atI_lit, atI_zero, atI_one, atI_cast, ixN_lit, ixN_zero, ixN_one, ixN_cast, Nat.reduceLT, ↓reduceIte, List.append_assoc, getA, getA0, setA, setA0, Bool.not_true, Bool.not_false, List.isEmpty_cons, List.isEmpty_nil, beq_self_eq_true, Bool.true_xor, Bool.false_xor, decide_true, decide_false, MI.ints_map, MI.bls_map, Nat.reduceAdd, Nat.reduceSub, Nat.reduceLeDiff, Bool.true_eq_false, Bool.false_eq_true, Int.reduceNeg, Int.reduceAdd, Int.reduceSub, Int.reduceMul, Int.reduceLT, Int.reduceLE, Int.reduceEq, Int.reduceBEq, Nat.zero_add])

/-! arithmetic modulo p -/
def ME (p x y : Int) : Prop := x % p = y % p
theorem ME.refl {p : Int} (x : Int) : ME p x x := rfl
theorem ME.symm {p x y : Int} (h : ME p x y) : ME p y x := Eq.symm h
theorem ME.trans {p x y z : Int} (h : ME p x y) (h' : ME p y z) : ME p x z := Eq.trans h h'
theorem ME.add {p x y z w : Int} (h : ME p x y) (h' : ME p z w) : ME p (x + z) (y + w) := by
  unfold ME at *
  rw [Int.add_emod, h, h', ← Int.add_emod]
theorem ME.sub {p x y z w : Int} (h : ME p x y) (h' : ME p z w) : ME p (x - z) (y - w) := by
  unfold ME at *
  rw [Int.sub_emod, h, h', ← Int.sub_emod]
theorem ME.mul {p x y z w : Int} (h : ME p x y) (h' : ME p z w) : ME p (x * z) (y * w) := by
  unfold ME at *
  rw [Int.mul_emod, h, h', ← Int.mul_emod]
theorem ME.neg {p x y : Int} (h : ME p x y) : ME p (-x) (-y) := by
  have := (ME.refl (p := p) 0).sub h
  simpa using this
theorem ME.md {p x : Int} : ME p (x % p) x := Int.emod_emod_of_dvd x (Int.dvd_refl p)
theorem ME.pow {p x y : Int} (h : ME p x y) : ∀ n : Nat, ME p (x ^ n) (y ^ n)
  | 0 => by
    rw [Int.pow_zero, Int.pow_zero]
    exact ME.refl _
  | n + 1 => by
    rw [Int.pow_succ, Int.pow_succ]
    exact (ME.pow h n).mul h
theorem ME.small {p x y : Int} (h : ME p x y) (h1 : 0 ≤ x) (h2 : x < p) : x = y % p := by
  rw [← h, Int.emod_eq_of_lt h1 h2]
theorem ME.uniq {p x y : Int} (h : ME p x y) (h1 : 0 ≤ x) (h2 : x < p) (h3 : 0 ≤ y) (h4 : y < p) : x = y := by
  rw [h.small h1 h2, Int.emod_eq_of_lt h3 h4]
theorem natAbs_lt {i : Int} {n : Nat} (h1 : 0 ≤ i) (h2 : i < (n : Int)) : i.natAbs < n := by omega
theorem mul_small {i j : Int} (h1 : 0 ≤ i) (h2 : i < 2 ^ 64) (h3 : 0 ≤ j) (h4 : j < 2 ^ 64) : CMulW i j :=
  cmulW (by omega) (by omega)
/-! power -/
def b_power : List SS := [.set (.nm 3) (.con (.int 1)),
  .set (.nm 4) (.bin .mod false (.var 1) (.var 0)),
  .while_ (.cmp .gt (.var 2) (.con (.int 0))) [.ite (.cmp .eq (.bin .mod false (.var 2) (.con (.int 2))) (.con (.int 1))) [.set (.nm 3) (.bin .mod false (.bin .mul false (.var 3) (.var 4)) (.var 0))] [],
  .set (.nm 4) (.bin .mod false (.bin .mul false (.var 4) (.var 4)) (.var 0)),
  .aug 2 .fdiv (.con (.int 2))],
  .ret (.var 3)]
def f_power : Fn := fun ds st Q => match ds with
  | [.int p, .int a, .int k] => (1 < p ∧ p < 2 ^ 64 ∧ 0 ≤ k) ∧ Q (.int (a ^ k.toNat % p)) st
  | _ => False
theorem m_power : MonoFn f_power := fun vs st Q Q' h q => by
  unfold f_power at *
  split at q
  · exact ⟨q.1, h _ _ q.2⟩
  · exact q
theorem e_power {p a k : Int} {st : Sto} {Q : Kd} : f_power [.int p, .int a, .int k] st Q = ((1 < p ∧ p < 2 ^ 64 ∧ 0 ≤ k) ∧ Q (.int (a ^ k.toNat % p)) st) := rfl
theorem o_power {Φ : Fns} (hΦ : ∀ f, MonoFn (Φ f)) {ds : List D} {st : Sto} {Q : Kd} (h : f_power ds st Q) : xBody Φ b_power st.length Q ⟨⟩ (ds.map some ++ List.replicate (5 - 3) none) st := by
  unfold f_power at h
  split at h
  · rename_i p a k
    obtain ⟨⟨hp, hp2, hk⟩, q⟩ := h
    unfold b_power
    simp_wf
    refine xand_mk (by omega) fun _ => ?_
    simp_wf
    refine wh_inv hΦ (fun i env s => ∃ k' r f : Int, env = [some (.int p), some (.int a), some (.int k'), some (.int r), some (.int f)] ∧ s = st ∧ 0 ≤ k' ∧ i = k'.toNat ∧ 0 ≤ r ∧ r < p ∧ 0 ≤ f ∧ f < p ∧ ME p (r * f ^ k'.toNat) (a ^ k.toNat)) k.toNat ?_ ?_
    · refine ⟨k, 1, a % p, rfl, rfl, hk, rfl, by omega, by omega, Int.emod_nonneg _ (by omega), Int.emod_lt_of_pos _ (by omega), ?_⟩
      rw [Int.one_mul]
      exact ME.md.pow _
    · rintro i env s ⟨k', r, f, rfl, rfl, hk', rfl, hr, hr2, hf, hf2, hm⟩
      simp_wf
      refine xite_mk (fun hc => ?_) (fun hc => ?_)
      · have hc := of_decide_eq_true hc
        simp_wf
        have hpow : k'.toNat = 2 * (k' / 2).toNat + (k' % 2).toNat := by omega
        have hff : ∀ x y : Int, 0 ≤ x % p ∧ x % p < p := fun x y => ⟨Int.emod_nonneg _ (by omega), Int.emod_lt_of_pos _ (by omega)⟩
        have base : ME p ((f * f % p) ^ (k' / 2).toNat) (f ^ (2 * (k' / 2).toNat)) := by
          have := (ME.md (p := p) (x := f * f)).pow (k' / 2).toNat
          rwa [show (f * f) ^ (k' / 2).toNat = f ^ (2 * (k' / 2).toNat) by rw [Int.pow_mul, Int.pow_succ, Int.pow_succ, Int.pow_zero, Int.one_mul]] at this
        refine xite_mk (fun hc2 => ?_) (fun hc2 => ?_)
        · have hc2 : k' % 2 = 1 := eq_of_beq hc2
          simp_wf
          refine xand_mk (mul_small hr (by omega) hf (by omega)) fun _ => ?_
          simp_wf
          refine xand_mk (by omega) fun _ => ?_
          simp_wf
          refine xand_mk (mul_small hf (by omega) hf (by omega)) fun _ => ?_
          simp_wf
          refine xand_mk (by omega) fun _ => ?_
          simp_wf
          refine xand_mk ⟨by decide, by decide⟩ fun _ => ?_
          refine ⟨_, ?_, k' / 2, r * f % p, f * f % p, rfl, rfl, by omega, rfl, (hff _ 0).1, (hff _ 0).2, (hff _ 0).1, (hff _ 0).2, ?_⟩
          · omega
          · refine ((ME.md (p := p) (x := r * f)).mul base).trans ?_
            rw [hpow, hc2] at hm
            rw [show r * f * f ^ (2 * (k' / 2).toNat) = r * f ^ (2 * (k' / 2).toNat + (1 : Int).toNat) by
              rw [show (1 : Int).toNat = 1 from rfl, Int.pow_succ]; grind]
            exact hm
        · have hc2 : k' % 2 = 0 := by
            have : ¬ k' % 2 = 1 := fun e => by rw [e] at hc2; cases hc2
            omega
          simp_wf
          refine xand_mk (mul_small hf (by omega) hf (by omega)) fun _ => ?_
          simp_wf
          refine xand_mk (by omega) fun _ => ?_
          simp_wf
          refine xand_mk ⟨by decide, by decide⟩ fun _ => ?_
          refine ⟨_, ?_, k' / 2, r, f * f % p, rfl, rfl, by omega, rfl, hr, hr2, (hff _ 0).1, (hff _ 0).2, ?_⟩
          · omega
          · refine ((ME.refl r).mul base).trans ?_
            rw [hpow, hc2] at hm
            exact hm
      · have hc := of_decide_eq_false hc
        have : k' = 0 := by omega
        subst this
        simp_wf
        refine fin_q ?_
        have hm : ME p (r * f ^ 0) (a ^ k.toNat) := hm
        rw [Int.pow_zero, Int.mul_one] at hm
        rw [hm.small hr hr2]
        exact q
  · exact h.elim

/-! the tape of numbers of a law -/
structure Cell where
  s : List Int
  i : Int
  a : Int
  k : Int
  z : Int
def cellD (c : Cell) : D := .lst [.lst (c.s.map .int), .int c.i, .int c.a, .int c.k, .int c.z]
structure Cell.ok (c : Cell) (b : Nat) : Prop where
  ln : c.s.length ≤ 63
  i0 : 0 ≤ c.i
  a0 : 0 ≤ c.a
  k0 : 0 ≤ c.k
  kb : c.k ≤ b
theorem Cell.ok.mono {c : Cell} {b b' : Nat} (h : c.ok b) (hb : b ≤ b') : c.ok b' := ⟨h.ln, h.i0, h.a0, h.k0, by have := h.kb; omega⟩
def b_start : List SS := [.ret (.lst true [(.lc false (.blt .int false [(.var 1)]) (.nm 1) (.seq (.slc false (.var 0) none (some (.con (.int 63))))) none [1]), (.con (.int 0)), (.con (.int 0)), (.con (.int 0)), (.con (.int 20))])]
def f_start : Fn := fun ds st Q => match ds with
  | [.ro xs] => opt (ints? xs) fun ns => ns.length ≤ 63 ∧ Q (.loc st.length) (st ++ [cellD ⟨ns, 0, 0, 0, 20⟩])
  | _ => False
theorem opt_mono' {α : Type} {o : Option α} {k k' : α → Prop} (h : ∀ x, k x → k' x) : opt o k → opt o k' := by
  cases o with
  | none => exact id
  | some x => exact h x
theorem m_start : MonoFn f_start := fun vs st Q Q' h q => by
  unfold f_start at *
  split at q
  · exact opt_mono' (fun _ q => ⟨q.1, h _ _ q.2⟩) q
  · exact q
theorem cut_hi {xs : List D} {k : Nat} (h : xs.length ≤ k) : cutD xs none (some (k : Int)) = xs := by
  unfold cutD
  rw [HT.sIx_none, HT.sIx_nat, Nat.min_eq_right h]
  simp
theorem o_start {Φ : Fns} (hΦ : ∀ f, MonoFn (Φ f)) {ds : List D} {st : Sto} {Q : Kd} (h : f_start ds st Q) : xBody Φ b_start st.length Q ⟨⟩ (ds.map some ++ List.replicate (2 - 1) none) st := by
  unfold f_start at h
  split at h
  · rename_i xs
    cases e : ints? xs with
    | none => rw [e] at h; exact h.elim
    | some ns =>
      rw [e] at h
      obtain ⟨hl, q⟩ := h
      rw [ints_some e]
      unfold b_start
      simp_wf
      rw [show ((63 : Int)) = ((63 : Nat) : Int) from rfl, cut_hi (by simpa using hl)]
      refine lc_mapT hΦ (g := D.int) (β := Int) (by have := sizeLine_ge; simp; omega) rfl (fun x hx => ?_) ?_
      · simp_wf
        exact ⟨rfl, rfl⟩
      · simp_wf
        refine xand_mk (by decide) fun _ => ?_
        simp_wf
        exact fin_q q
  · exact h.elim
def b_fill : List SS := [.set (.sub (.var 0) (.con (.int 3))) (.bin .add false (.idx (.var 0) (.con (.int 3))) (.con (.int 1))),
  .set (.nm 1) (.bin .add false (.bin .mul false (.idx (.var 0) (.con (.int 3))) (.con (.int 69621))) (.con (.int 12345))),
  .ite (.cmp .lt (.idx (.var 0) (.con (.int 1))) (.blt .len false [(.idx (.var 0) (.con (.int 0)))])) [.set (.nm 1) (.idx (.idx (.var 0) (.con (.int 0))) (.idx (.var 0) (.con (.int 1)))),
  .set (.sub (.var 0) (.con (.int 1))) (.bin .add false (.idx (.var 0) (.con (.int 1))) (.con (.int 1))),
  .ite (.cmp .lt (.var 1) (.con (.int 0))) [.set (.nm 1) (.bin .sub false (.bin .sub false (.con (.int 0)) (.con (.int 1))) (.var 1))] [],
  .ite (.cmp .ge (.var 1) (.bin .pow false (.con (.int 10)) (.con (.int 18)))) [.ret (.var 1)] []] [],
  .ite (.land (.val (.idx (.var 0) (.con (.int 0)))) (.cmp .ge (.idx (.var 0) (.con (.int 1))) (.blt .len false [(.idx (.var 0) (.con (.int 0)))]))) [.set (.nm 1) (.bin .add false (.var 1) (.bin .mod false (.blt .int false [(.idx (.idx (.var 0) (.con (.int 0))) (.neg (.con (.int 1))))]) (.con (.int 1000003))))] [],
  .set (.nm 1) (.bin .mod false (.blt .int false [(.bin .add false (.bin .mul false (.var 1) (.con (.int 48271))) (.bin .mul false (.idx (.var 0) (.con (.int 3))) (.con (.int 69621))))]) (.con (.int 2147483647))),
  .ret (.bin .add false (.bin .mod false (.blt .int false [(.bin .add false (.bin .add false (.bin .mul false (.var 1) (.var 1)) (.bin .mul false (.idx (.var 0) (.con (.int 3))) (.con (.int 7919)))) (.con (.int 11)))]) (.con (.int 2305843009213693951))) (.con (.int 2305843009213693951)))]
def f_fill : Fn := fun ds st Q => match ds with
  | [.loc n] => ∃ c b, st[n]? = some (cellD c) ∧ c.ok b ∧ b < 2 ^ 60 ∧ ∀ c' r, c'.ok (b + 1) → c'.z = c.z → c'.a = c.a → 0 ≤ r → Q (.int r) (st.set n (cellD c'))
  | _ => False
theorem m_fill : MonoFn f_fill := fun vs st Q Q' h q => by
  unfold f_fill at *
  split at q
  · obtain ⟨c, b, h1, h2, h3, h4⟩ := q
    exact ⟨c, b, h1, h2, h3, fun c' r a1 a2 a3 a4 => h _ _ (h4 c' r a1 a2 a3 a4)⟩
  · exact q
theorem o_fill {Φ : Fns} (hΦ : ∀ f, MonoFn (Φ f)) {ds : List D} {st : Sto} {Q : Kd} (h : f_fill ds st Q) : xBody Φ b_fill st.length Q ⟨⟩ (ds.map some ++ List.replicate (2 - 1) none) st := by
  unfold f_fill at h
  split at h
  · rename_i n
    obtain ⟨⟨s, i, a, k, z⟩, b, h1, ⟨g1, g2, g3, g4, g5⟩, h3, q⟩ := h
    have q : ∀ (i' : Int) (r : Int), 0 ≤ i' → 0 ≤ r → Q (.int r) (st.set n (.lst [.lst (s.map .int), .int i', .int a, .int (k + 1), .int z])) := fun i' r e1 e2 => q ⟨s, i', a, k + 1, z⟩ r ⟨g1, e1, g3, by simp only at g4 ⊢; omega, by simp only at g5 ⊢; omega⟩ rfl rfl e2
    unfold cellD at h1
    simp only at g1 g2 g3 g4 g5 h1
    have kb : 0 ≤ k + 1 ∧ k + 1 < 2 ^ 62 := by omega
    have last : ∀ (i' : Int), 0 ≤ i' → ∀ (e : Ev) (t : Sto), (∃ m : Int, e = [some (.loc n), some (.int m)] ∧ t = st.set n (.lst [.lst (s.map .int), .int i', .int a, .int (k + 1), .int z]) ∧ 0 ≤ m ∧ m < 2 ^ 101) → xSs Φ [.set (.nm 1) (.bin .mod false (.blt .int false [(.bin .add false (.bin .mul false (.var 1) (.con (.int 48271))) (.bin .mul false (.idx (.var 0) (.con (.int 3))) (.con (.int 69621))))]) (.con (.int 2147483647))),
  .ret (.bin .add false (.bin .mod false (.blt .int false [(.bin .add false (.bin .add false (.bin .mul false (.var 1) (.var 1)) (.bin .mul false (.idx (.var 0) (.con (.int 3))) (.con (.int 7919)))) (.con (.int 11)))]) (.con (.int 2305843009213693951))) (.con (.int 2305843009213693951)))] (fun _ st_1 => MI.Fin st.length Q .non st_1) (fun d st_1 => MI.Fin st.length Q d st_1) (fun _ _ => False) (fun _ _ => False) ⟨⟩ ⟨⟩ ⟨⟩ ⟨⟩ e t := by
      rintro i' hi' _ _ ⟨m, rfl, rfl, hm, hm2⟩
      nomatch h1
      refine xand_mk (cmulW (by omega) (by omega)) fun _ => ?_
      nomatch h1
      refine xand_mk (cmulW (by omega) (by omega)) fun _ => ?_
      nomatch h1
      have hb : 0 ≤ (m * 48271 + (k + 1) * 69621) % 2147483647 ∧ (m * 48271 + (k + 1) * 69621) % 2147483647 < 2147483647 := by omega
      generalize (m * 48271 + (k + 1) * 69621) % 2147483647 = w at hb
      refine xand_mk (cmulW (by omega) (by omega)) fun _ => ?_
      nomatch h1
      refine xand_mk (cmulW (by omega) (by omega)) fun _ => ?_
      nomatch h1
      refine fin_q (q _ _ hi' ?_)
      omega
    unfold b_fill
    nomatch h1
    refine xand_mk (cmulW (by omega) (by omega)) fun _ => ?_
    nomatch h1
    refine ite_join hΦ (fun e t => ∃ m i' : Int, e = [some (.loc n), some (.int m)] ∧ t = st.set n (.lst [.lst (s.map .int), .int i', .int a, .int (k + 1), .int z]) ∧ 0 ≤ i' ∧ 0 ≤ m ∧ m < 2 ^ 100) (fun hc => ?_) (fun hc => ?_) ?_
    · have hc := of_decide_eq_true hc
      nomatch h1, atI_int g2
      have hi : i.toNat < s.length := by omega
      rw [List.getElem?_eq_getElem hi]
      nomatch h1
      generalize s[i.toNat] = x
      refine ite_join hΦ (fun e t => ∃ m : Int, e = [some (.loc n), some (.int m)] ∧ t = st.set n (.lst [.lst (s.map .int), .int (i + 1), .int a, .int (k + 1), .int z]) ∧ 0 ≤ m) (fun hc => ?_) (fun hc => ?_) ?_
      · have hc := of_decide_eq_true hc
        simp_wf
        exact ⟨_, rfl, rfl, by omega⟩
      · have hc := of_decide_eq_false hc
        simp_wf
        exact ⟨_, rfl, rfl, by omega⟩
      · rintro _ _ ⟨m, rfl, rfl, hm⟩
        simp_wf
        refine xand_mk ⟨by decide, by decide, by decide⟩ fun _ => ?_
        simp_wf
        refine xite_mk (fun hc => ?_) (fun hc => ?_)
        · simp_wf
          exact fin_q (q _ _ (by omega) hm)
        · have hc := of_decide_eq_false hc
          simp_wf
          refine ⟨_, _, rfl, rfl, by omega, hm, ?_⟩
          have : m < 10 ^ 18 := by simpa using hc
          omega
    · simp_wf
      exact ⟨_, _, rfl, rfl, g2, by omega, by omega⟩
    · rintro _ _ ⟨m, i', rfl, rfl, hi', hm, hm2⟩
      nomatch h1
      refine xite_mk (fun hc => ?_) (fun hc => ?_)
      · nomatch h1
        refine ite_join hΦ (fun e t => ∃ m : Int, e = [some (.loc n), some (.int m)] ∧ t = st.set n (.lst [.lst (s.map .int), .int i', .int a, .int (k + 1), .int z]) ∧ 0 ≤ m ∧ m < 2 ^ 101) (fun hc2 => ?_) (fun hc2 => ?_) (last i' hi')
        · nomatch h1, atI_m1
          cases e : s[s.length - 1]? with
          | none =>
            exfalso
            have : s.length ≤ s.length - 1 := List.getElem?_eq_none_iff.mp e
            have : s = [] := List.eq_nil_of_length_eq_zero (by omega)
            subst this
            cases hc
          | some x =>
            simp_wf
            exact ⟨_, rfl, rfl, by omega, by omega⟩
        · nomatch h1
          exact ⟨_, rfl, rfl, hm, by omega⟩
      · nomatch h1
        exact last i' hi' _ _ ⟨_, rfl, rfl, hm, by omega⟩
  · exact h.elim
/-! a digit of the tape -/
def b_take (iF : Nat) : List SS := [.ite (.cmp .lt (.idx (.var 0) (.con (.int 2))) (.var 1)) [.set (.sub (.var 0) (.con (.int 2))) (.call iF [(.var 0)])] [],
  .set (.nm 2) (.bin .mod false (.blt .int false [(.idx (.var 0) (.con (.int 2)))]) (.var 1)),
  .set (.sub (.var 0) (.con (.int 2))) (.bin .fdiv false (.idx (.var 0) (.con (.int 2))) (.var 1)),
  .ret (.var 2)]
def f_take : Fn := fun ds st Q => match ds with
  | [.loc n, .int m] => ∃ c b, st[n]? = some (cellD c) ∧ c.ok b ∧ b < 2 ^ 60 ∧ 0 < m ∧ m < 2 ^ 190 ∧ ∀ c' r, c'.ok (b + 1) → c'.z = c.z → 0 ≤ r → r < m → Q (.int r) (st.set n (cellD c'))
  | _ => False
theorem m_take : MonoFn f_take := fun vs st Q Q' h q => by
  unfold f_take at *
  split at q
  · obtain ⟨c, b, h1, h2, h3, h4, h5, h6⟩ := q
    exact ⟨c, b, h1, h2, h3, h4, h5, fun c' r a1 a2 a3 a4 => h _ _ (h6 c' r a1 a2 a3 a4)⟩
  · exact q
theorem xK_fill {Φ : Fns} {i n : Nat} {st : Sto} {Q : Kd} {u} (hi : Φ i = f_fill) {c : Cell} {b : Nat} (h1 : st[n]? = some (cellD c)) (h2 : c.ok b) (h3 : b < 2 ^ 60)
    (h : ∀ c' r, c'.ok (b + 1) → c'.z = c.z → c'.a = c.a → 0 ≤ r → Q (.int r) (st.set n (cellD c'))) : xK Φ i [.loc n] st Q u := by
  unfold xK
  rw [hi]
  exact ⟨c, b, h1, h2, h3, h⟩
theorem o_take {Φ : Fns} (hΦ : ∀ f, MonoFn (Φ f)) {iF : Nat} (hF : Φ iF = f_fill) {ds : List D} {st : Sto} {Q : Kd} (h : f_take ds st Q) : xBody Φ (b_take iF) st.length Q ⟨⟩ (ds.map some ++ List.replicate (3 - 2) none) st := by
  unfold f_take at h
  split at h
  · rename_i n m
    obtain ⟨⟨s, i, a, k, z⟩, b, h1, hok, h3, hm, hm2, q⟩ := h
    unfold b_take
    have h1' := h1
    unfold cellD at h1'
    simp only at h1'
    have hs : n < st.length := (List.getElem?_eq_some_iff.mp h1).1
    nomatch h1'
    refine ite_join hΦ (fun e t => ∃ c' : Cell, e = [some (.loc n), some (.int m), none] ∧ t = st.set n (cellD c') ∧ c'.ok (b + 1) ∧ c'.z = z) (fun hc => ?_) (fun hc => ?_) ?_
    · simp_wf
      refine xK_fill hF h1 hok h3 fun c' r g1 g2 g3 g4 => ?_
      nomatch h1', cellD
      exact ⟨⟨c'.s, c'.i, r, c'.k, c'.z⟩, rfl, rfl, ⟨g1.ln, g1.i0, g4, g1.k0, g1.kb⟩, g2⟩
    · simp_wf
      refine ⟨⟨s, i, a, k, z⟩, rfl, ?_, ⟨hok.ln, hok.i0, hok.a0, hok.k0, by have := hok.kb; simp only at this ⊢; omega⟩, rfl⟩
      have := (List.set_getElem_self hs).symm
      rw [List.getElem?_eq_getElem hs] at h1
      rw [Option.some.inj h1] at this
      exact this
    · rintro _ _ ⟨c', rfl, rfl, g1, g2⟩
      nomatch h1', cellD
      refine xand_mk hm fun _ => ?_
      nomatch h1'
      refine xand_mk (cdivW hm (by omega)) fun _ => ?_
      nomatch h1'
      exact fin_q (q ⟨c'.s, c'.i, c'.a / m, c'.k, c'.z⟩ _ ⟨g1.ln, g1.i0, Int.ediv_nonneg g1.a0 (by omega), g1.k0, g1.kb⟩ g2 (Int.emod_nonneg _ (by omega)) (Int.emod_lt_of_pos _ hm))
  · exact h.elim
theorem xK_take {Φ : Fns} {i n : Nat} {m : Int} {st : Sto} {Q : Kd} {u} (hi : Φ i = f_take) {c : Cell} {b : Nat} (h1 : st[n]? = some (cellD c)) (h2 : c.ok b) (h3 : b < 2 ^ 60) (h4 : 0 < m) (h5 : m < 2 ^ 190)
    (h : ∀ c' r, c'.ok (b + 1) → c'.z = c.z → 0 ≤ r → r < m → Q (.int r) (st.set n (cellD c'))) : xK Φ i [.loc n, .int m] st Q u := by
  unfold xK
  rw [hi]
  exact ⟨c, b, h1, h2, h3, h4, h5, h⟩
theorem xK_start {Φ : Fns} {i : Nat} {ns : List Int} {st : Sto} {Q : Kd} {u} (hi : Φ i = f_start) (hl : ns.length ≤ 63) (h : Q (.loc st.length) (st ++ [cellD ⟨ns, 0, 0, 0, 20⟩])) : xK Φ i [.ro (ns.map .int)] st Q u := by
  unfold xK
  rw [hi]
  show opt (ints? (ns.map .int)) _
  rw [MI.ints_map]
  exact ⟨hl, h⟩

/-! inverse -/
def b_inverse (iP : Nat) : List SS := [.ret (.call iP [(.var 0), (.var 1), (.bin .sub false (.var 0) (.con (.int 2)))])]
def inv (p a : Int) : Int := a ^ (p - 2).toNat % p
def f_inverse : Fn := fun ds st Q => match ds with
  | [.int p, .int a] => (1 < p ∧ p < 2 ^ 64) ∧ Q (.int (inv p a)) st
  | _ => False
theorem m_inverse : MonoFn f_inverse := fun vs st Q Q' h q => by
  unfold f_inverse at *
  split at q
  · exact ⟨q.1, h _ _ q.2⟩
  · exact q
theorem xK_power {Φ : Fns} {i : Nat} {p a k : Int} {st : Sto} {Q : Kd} {u} (hi : Φ i = f_power) (h1 : 1 < p ∧ p < 2 ^ 64 ∧ 0 ≤ k) (h : Q (.int (a ^ k.toNat % p)) st) : xK Φ i [.int p, .int a, .int k] st Q u := by
  unfold xK
  rw [hi]
  exact ⟨h1, h⟩
theorem o_inverse {Φ : Fns} (hΦ : ∀ f, MonoFn (Φ f)) {iP : Nat} (hP : Φ iP = f_power) {ds : List D} {st : Sto} {Q : Kd} (h : f_inverse ds st Q) : xBody Φ (b_inverse iP) st.length Q ⟨⟩ (ds.map some ++ List.replicate (2 - 2) none) st := by
  unfold f_inverse at h
  split at h
  · rename_i p a
    obtain ⟨hp, q⟩ := h
    unfold b_inverse
    simp_wf
    refine xK_power hP (by omega) ?_
    exact fin_q q
  · exact h.elim
theorem xK_inverse {Φ : Fns} {i : Nat} {p a : Int} {st : Sto} {Q : Kd} {u} (hi : Φ i = f_inverse) (h1 : 1 < p ∧ p < 2 ^ 64) (h : Q (.int (inv p a)) st) : xK Φ i [.int p, .int a] st Q u := by
  unfold xK
  rw [hi]
  exact ⟨h1, h⟩
/-! lists of numbers without zeros at the end -/
def trimZ : List Int → List Int
  | [] => []
  | x :: r => match trimZ r with
    | [] => if x = 0 then [] else [x]
    | y :: t => x :: y :: t
theorem trimZ_zero : ∀ (l : List Int), trimZ (l ++ [0]) = trimZ l
  | [] => rfl
  | x :: r => by
    show trimZ (x :: (r ++ [0])) = trimZ (x :: r)
    unfold trimZ
    rw [trimZ_zero r]
theorem trimZ_last {z : Int} (hz : z ≠ 0) : ∀ (l : List Int), trimZ (l ++ [z]) = l ++ [z]
  | [] => by
    show trimZ [z] = [z]
    simp [trimZ, hz]
  | x :: r => by
    show trimZ (x :: (r ++ [z])) = x :: (r ++ [z])
    have := trimZ_last hz r
    unfold trimZ
    rw [this]
    cases r <;> rfl
theorem trimZ_mem {y : Int} : ∀ {l : List Int}, y ∈ trimZ l → y ∈ l
  | [], h => h
  | x :: r, h => by
    unfold trimZ at h
    split at h
    · split at h
      · cases h
      · simp at h; simp [h]
    · rename_i z t e
      rcases List.mem_cons.mp h with h | h
      · simp [h]
      · rw [← e] at h
        exact List.mem_cons_of_mem _ (trimZ_mem h)
theorem trimZ_len : ∀ (l : List Int), (trimZ l).length ≤ l.length
  | [] => Nat.le_refl _
  | x :: r => by
    have := trimZ_len r
    unfold trimZ
    split
    · split <;> simp
    · rename_i z t e
      rw [e] at this
      simp at this ⊢
      omega
theorem trimZ_idem : ∀ (l : List Int), trimZ (trimZ l) = trimZ l := fun l => by
  rcases List.eq_nil_or_concat (trimZ l) with h | ⟨i, z, h⟩
  · rw [h]; rfl
  · rw [h]
    have hz : z ≠ 0 := by
      intro hz
      subst hz
      have key : ∀ (l i : List Int), trimZ l ≠ i ++ [0] := by
        intro l
        induction l with
        | nil => intro i h; simp [trimZ] at h
        | cons x r ih =>
          intro i h
          unfold trimZ at h
          split at h
          · split at h
            · simp at h
            · rename_i hx
              cases i with
              | nil => simp at h; exact hx h
              | cons y t => simp at h
          · rename_i y t e
            cases i with
            | nil => simp at h
            | cons w u =>
              simp at h
              exact ih u (by rw [e]; exact h.2)
      exact key l i (by simpa using h)
    simpa using trimZ_last hz i
def trim (p : Int) (f : List Int) : List Int := trimZ (f.map (· % p))
/-- the value by sums and products -/
def pe (f : List Int) (x : Int) : Int := f.foldr (fun c r => r * x + c) 0
theorem pe_cons {c : Int} {f : List Int} {x : Int} : pe (c :: f) x = pe f x * x + c := rfl
theorem pe_nil {x : Int} : pe [] x = 0 := rfl
theorem pe_trimZ {x : Int} : ∀ (f : List Int), pe (trimZ f) x = pe f x
  | [] => rfl
  | c :: r => by
    have ih := pe_trimZ (x := x) r
    unfold trimZ
    split
    · rename_i e
      rw [e, pe_nil] at ih
      split
      · rename_i hc
        rw [pe_cons, ← ih, hc, pe_nil]; simp
      · rw [pe_cons, pe_cons, ← ih, pe_nil]
    · rename_i y t e
      rw [e] at ih
      rw [pe_cons, ih, ← pe_cons]
theorem pe_map {p x : Int} : ∀ (f : List Int), ME p (pe (f.map (· % p)) x) (pe f x)
  | [] => ME.refl _
  | c :: r => by
    show ME p (pe (r.map (· % p)) x * x + c % p) (pe r x * x + c)
    exact ((pe_map r).mul (ME.refl x)).add ME.md
theorem pe_trim {p x : Int} (f : List Int) : ME p (pe (trim p f) x) (pe f x) := by
  unfold trim
  rw [pe_trimZ]
  exact pe_map f
def b_trimmed : List SS := [.set (.nm 2) (.lc true (.bin .mod false (.var 3) (.var 0)) (.nm 3) (.seq (.var 1)) none [3]),
  .while_ (.land (.val (.var 2)) (.cmp .eq (.idx (.var 2) (.neg (.con (.int 1)))) (.con (.int 0)))) [.expr (.mth .pop0 (.var 2) [])],
  .ret (.blt .tuple false [(.var 2)])]
def b_ltrimmed : List SS := [.set (.nm 2) (.lc true (.bin .mod false (.blt .int false [(.var 3)]) (.var 0)) (.nm 3) (.seq (.var 1)) none [3]),
  .while_ (.land (.val (.var 2)) (.cmp .eq (.idx (.var 2) (.neg (.con (.int 1)))) (.con (.int 0)))) [.expr (.mth .pop0 (.var 2) [])],
  .ret (.blt .tuple false [(.var 2)])]
abbrev iT (f : List Int) : D := .tup (f.map .int)
abbrev iL (f : List Int) : D := .lst (f.map .int)
def f_trimmed : Fn := fun ds st Q => match ds with
  | [.int p, d] => ∃ f : List Int, asSeq st d = some (f.map .int) ∧ (0 < p ∧ f.length ≤ 100000) ∧ Q (iT (trim p f)) st
  | _ => False
theorem m_trimmed : MonoFn f_trimmed := fun vs st Q Q' h q => by
  unfold f_trimmed at *
  split at q
  · obtain ⟨f, h1, h2, q⟩ := q
    exact ⟨f, h1, h2, h _ _ q⟩
  · exact q
/-- the loop of both -/
theorem trim_loop {Φ : Fns} (hΦ : ∀ f, MonoFn (Φ f)) {e0 e1 e3 : Option D} {st : Sto} {Q : Kd} (hst : ∀ d ∈ st, Cl st.length d) (g : List Int) (q : Q (iT (trimZ g)) st) :
    xwh Φ (.land (.val (.var 2)) (.cmp .eq (.idx (.var 2) (.neg (.con (.int 1)))) (.con (.int 0)))) [.expr (.mth .pop0 (.var 2) [])]
      (fun e s => xSs Φ [.ret (.blt .tuple false [(.var 2)])] (fun _ st_1 => MI.Fin st.length Q .non st_1) (fun d st_1 => MI.Fin st.length Q d st_1) (fun _ _ => False) (fun _ _ => False) ⟨⟩ ⟨⟩ ⟨⟩ ⟨⟩ e s)
      (fun d st_1 => MI.Fin st.length Q d st_1) ⟨⟩ ⟨⟩ [e0, e1, some (.loc st.length), e3] (st ++ [iL g]) := by
  refine wh_inv hΦ (fun i e s => ∃ l : List Int, e = [e0, e1, some (.loc st.length), e3] ∧ s = st ++ [iL l] ∧ i = l.length ∧ trimZ l = trimZ g) g.length ⟨g, rfl, rfl, rfl, rfl⟩ ?_
  rintro i _ _ ⟨l, rfl, rfl, rfl, hl⟩
  simp_wf
  refine xite_mk (fun hc => ?_) (fun hc => ?_)
  · nomatch atI_m1
    rcases List.eq_nil_or_concat l with rfl | ⟨t, z, rfl⟩
    · cases hc
    · rw [show ((t.concat z)[(t.concat z).length - 1]?) = some z by simp]
      simp_wf
      refine xite_mk (fun hz => ?_) (fun hz => ?_)
      · have hz : z = 0 := eq_of_beq hz
        subst hz
        simp_wf
        rw [show ((t.concat 0)[(t.concat 0).length - 1]?) = some 0 by simp]
        simp_wf
        refine ⟨t.length, by simp, t, rfl, ?_, rfl, ?_⟩
        · rw [show (List.map D.int (t.concat 0)).dropLast = t.map D.int by simp]
        · rw [← hl]; simp [trimZ_zero]
      · have hz : z ≠ 0 := fun e => by rw [e] at hz; cases hz
        simp_wf
        refine fin_cut hst takeA (cl_tup cl_ints) ?_
        rw [← hl] at q
        rw [List.concat_eq_append, trimZ_last hz] at q
        simpa [iT] using q
  · have : l = [] := by
      cases l with
      | nil => rfl
      | cons _ _ => cases hc
    subst this
    simp_wf
    refine fin_cut hst takeA (cl_tup (cl_ints (f := []))) ?_
    rw [← hl] at q
    exact q
theorem o_trimmed {Φ : Fns} (hΦ : ∀ f, MonoFn (Φ f)) {ds : List D} {st : Sto} {Q : Kd} (hst : ∀ d ∈ st, Cl st.length d) (h : f_trimmed ds st Q) : xBody Φ b_trimmed st.length Q ⟨⟩ (ds.map some ++ List.replicate (4 - 2) none) st := by
  unfold f_trimmed at h
  split at h
  · rename_i p d
    obtain ⟨f, hd, ⟨hp, hl⟩, q⟩ := h
    unfold b_trimmed
    nomatch hd
    refine lc_mapT hΦ (β := Int) (g := fun x => .int (x % p)) (by have := sizeLine_ge; simp; omega) hd (fun x hx => ?_) ?_
    · simp_wf
      refine xand_mk hp fun _ => ?_
      exact ⟨rfl, rfl⟩
    · simp_wf
      rw [show (List.map (fun x => D.int (x % p)) f) = (f.map (· % p)).map .int by simp]
      exact trim_loop hΦ hst _ q
  · exact h.elim
theorem o_ltrimmed {Φ : Fns} (hΦ : ∀ f, MonoFn (Φ f)) {ds : List D} {st : Sto} {Q : Kd} (hst : ∀ d ∈ st, Cl st.length d) (h : f_trimmed ds st Q) : xBody Φ b_ltrimmed st.length Q ⟨⟩ (ds.map some ++ List.replicate (4 - 2) none) st := by
  unfold f_trimmed at h
  split at h
  · rename_i p d
    obtain ⟨f, hd, ⟨hp, hl⟩, q⟩ := h
    unfold b_ltrimmed
    nomatch hd
    refine lc_mapT hΦ (β := Int) (g := fun x => .int (x % p)) (by have := sizeLine_ge; simp; omega) hd (fun x hx => ?_) ?_
    · simp_wf
      refine xand_mk hp fun _ => ?_
      exact ⟨rfl, rfl⟩
    · simp_wf
      rw [show (List.map (fun x => D.int (x % p)) f) = (f.map (· % p)).map .int by simp]
      exact trim_loop hΦ hst _ q
  · exact h.elim
theorem xK_trimmed {Φ : Fns} {i : Nat} {p : Int} {d : D} {f : List Int} {st : Sto} {Q : Kd} {u} (hi : Φ i = f_trimmed) (hd : asSeq st d = some (f.map .int)) (h1 : 0 < p ∧ f.length ≤ 100000) (h : Q (iT (trim p f)) st) : xK Φ i [.int p, d] st Q u := by
  unfold xK
  rw [hi]
  exact ⟨f, hd, h1, h⟩

/-! value -/
def vf (p x : Int) (r c : Int) : Int := (r * x + c) % p
theorem vf_pe {p x : Int} : ∀ (f : List Int), f.reverse.foldl (vf p x) 0 = pe f x % p := fun f => by
  rw [List.foldl_reverse]
  induction f with
  | nil => rfl
  | cons c r ih =>
    show vf p x (List.foldr (fun x_1 y => vf p x y x_1) 0 r) c = pe (c :: r) x % p
    rw [ih, pe_cons]
    show (pe r x % p * x + c) % p = _
    exact ((ME.md (p := p)).mul (ME.refl x)).add (ME.refl c)
theorem foldl_step {α β : Type} {f : β → α → β} {b : β} {l : List α} {i : Nat} {c : α} (h : l[i]? = some c) : (l.take (i + 1)).foldl f b = f ((l.take i).foldl f b) c := by
  rw [List.take_add_one, h, List.foldl_append]; rfl
theorem vf_range {p x : Int} (hp : 0 < p) : ∀ (l : List Int), 0 ≤ l.foldl (vf p x) 0 ∧ l.foldl (vf p x) 0 < p := fun l => by
  rcases List.eq_nil_or_concat l with rfl | ⟨t, z, rfl⟩
  · exact ⟨Int.le_refl _, hp⟩
  · rw [List.concat_eq_append, List.foldl_append]
    exact ⟨Int.emod_nonneg _ (by omega), Int.emod_lt_of_pos _ hp⟩
def b_value : List SS := [.set (.nm 3) (.con (.int 0)),
  .for_ (.nm 4) (.seq (.rev false (.var 1))) [.set (.nm 3) (.bin .mod false (.bin .add false (.bin .mul false (.var 3) (.var 2)) (.var 4)) (.var 0))],
  .ret (.var 3)]
def f_value : Fn := fun ds st Q => match ds with
  | [.int p, .tup xs, .int x] => ∃ f : List Int, xs = f.map .int ∧ (0 < p ∧ p < 2 ^ 64 ∧ x.natAbs < 2 ^ 64) ∧ Q (.int (pe f x % p)) st
  | _ => False
theorem m_value : MonoFn f_value := fun vs st Q Q' h q => by
  unfold f_value at *
  split at q
  · obtain ⟨f, h1, h2, q⟩ := q
    exact ⟨f, h1, h2, h _ _ q⟩
  · exact q
theorem o_value {Φ : Fns} (hΦ : ∀ f, MonoFn (Φ f)) {ds : List D} {st : Sto} {Q : Kd} (h : f_value ds st Q) : xBody Φ b_value st.length Q ⟨⟩ (ds.map some ++ List.replicate (5 - 3) none) st := by
  unfold f_value at h
  split at h
  · rename_i p xs x
    obtain ⟨f, rfl, ⟨hp, hp2, hx⟩, q⟩ := h
    unfold b_value
    simp_wf
    refine for_inv hΦ (fun i e s => ∃ o, e = [some (.int p), some (.tup (f.map .int)), some (.int x), some (.int ((f.reverse.take i).foldl (vf p x) 0)), o] ∧ s = st) ⟨none, rfl, rfl⟩ (fun i e s _ h => ?_) ?_ ?_
    · trivial
    · rintro i c _ _ hc ⟨o, rfl, rfl⟩
      rw [← List.map_reverse, List.getElem?_map] at hc
      cases hc' : f.reverse[i]? with
      | none => rw [hc'] at hc; cases hc
      | some c' =>
        rw [hc'] at hc
        cases hc
        simp_wf
        have hr := vf_range hp (x := x) (f.reverse.take i)
        refine xand_mk (cmulW (by omega) (by omega)) fun _ => ?_
        simp_wf
        refine xand_mk hp fun _ => ?_
        simp_wf
        rw [foldl_step hc']
        exact ⟨_, rfl, rfl⟩
    · rintro _ _ ⟨o, rfl, rfl⟩
      simp_wf
      refine fin_q ?_
      rw [List.take_of_length_le (by simp), vf_pe]
      exact q
  · exact h.elim
theorem xK_value {Φ : Fns} {i : Nat} {p x : Int} {f : List Int} {st : Sto} {Q : Kd} {u} (hi : Φ i = f_value) (h1 : 0 < p ∧ p < 2 ^ 64 ∧ x.natAbs < 2 ^ 64) (h : Q (.int (pe f x % p)) st) : xK Φ i [.int p, .tup (f.map .int), .int x] st Q u := by
  unfold xK
  rw [hi]
  exact ⟨f, rfl, h1, h⟩
/-! the law's own value -/
def b_lvalue : List SS := [.set (.nm 3) (.con (.int 0)),
  .for_ (.nm 4) (.rng3 (.bin .sub false (.blt .len false [(.var 1)]) (.con (.int 1))) (.bin .sub false (.con (.int 0)) (.con (.int 1))) (.bin .sub false (.con (.int 0)) (.con (.int 1)))) [.set (.nm 3) (.bin .mod false (.blt .int false [(.bin .add false (.bin .mul false (.var 3) (.var 2)) (.idx (.var 1) (.var 4)))]) (.var 0))],
  .ret (.var 3)]
def f_lvalue : Fn := fun ds st Q => match ds with
  | [.int p, d, .int x] => ∃ f : List Int, asSeq st d = some (f.map .int) ∧ (d = iT f ∨ d = iL f ∨ ∃ n, d = .loc n) ∧ (0 < p ∧ p < 2 ^ 64 ∧ x.natAbs < 2 ^ 64 ∧ f.length ≤ 100000) ∧ Q (.int (pe f x % p)) st
  | _ => False
theorem m_lvalue : MonoFn f_lvalue := fun vs st Q Q' h q => by
  unfold f_lvalue at *
  split at q
  · obtain ⟨f, h1, h2, h3, q⟩ := q
    exact ⟨f, h1, h2, h3, h _ _ q⟩
  · exact q
theorem rngL_at {lo c : Int} {n i : Nat} {d : D} (h : (rngL lo n c)[i]? = some d) : i < n ∧ d = .int (lo + (i : Int) * c) := by
  unfold rngL at h
  rw [List.getElem?_map] at h
  cases e : (List.range n)[i]? with
  | none => rw [e] at h; cases h
  | some j =>
    rw [e] at h
    obtain ⟨h1, h2⟩ := List.getElem?_eq_some_iff.mp e
    simp at h1 h2
    subst h2
    cases h
    exact ⟨h1, rfl⟩
theorem rngL_len {lo c : Int} {n : Nat} : (rngL lo n c).length = n := by
  unfold rngL; simp
theorem o_lvalue {Φ : Fns} (hΦ : ∀ f, MonoFn (Φ f)) {ds : List D} {st : Sto} {Q : Kd} (h : f_lvalue ds st Q) : xBody Φ b_lvalue st.length Q ⟨⟩ (ds.map some ++ List.replicate (5 - 3) none) st := by
  unfold f_lvalue at h
  split at h
  · rename_i p d x
    obtain ⟨f, hd, hd', ⟨hp, hp2, hx, hl⟩, q⟩ := h
    have hlen : lenD st d = some f.length := by
      rcases hd' with rfl | rfl | ⟨n, rfl⟩
      · simp [lenD, asSeq, asR, asL]
      · simp [lenD, asSeq, asR, asL]
      · show (asSeq st (.loc n)).map List.length = _
        rw [hd]; simp
    have hix : ∀ (i : Int) (Q : Kd) (u), xidx d (.int i) st Q u = xopt (atI (f.map .int) i) (fun d => Q d st) ⟨⟩ := by
      rcases hd' with rfl | rfl | ⟨n, rfl⟩
      · exact fun _ _ _ => rfl
      · exact fun _ _ _ => rfl
      · intro i Q u
        rw [xidx_o, hd]; rfl
    unfold b_lvalue
    nomatch hlen
    refine rng3_down (by omega) ?_
    simp_wf
    refine for_inv hΦ (fun i e s => ∃ o, e = [some (.int p), some d, some (.int x), some (.int ((f.reverse.take i).foldl (vf p x) 0)), o] ∧ s = st) ⟨none, rfl, rfl⟩ (fun i e s _ h => ?_) ?_ ?_
    · trivial
    · rintro i c _ _ hc ⟨o, rfl, rfl⟩
      obtain ⟨hi, rfl⟩ := rngL_at hc
      have hi : i < f.length := by omega
      have hc' : f.reverse[i]? = some f[f.length - 1 - i] := by
        rw [List.getElem?_reverse hi, List.getElem?_eq_getElem (by omega)]
      have hr := vf_range hp (x := x) (f.reverse.take i)
      simp_wf
      refine xand_mk (cmulW (by omega) (by omega)) fun _ => ?_
      nomatch hix
      rw [show ((f.length : Int) - 1 + (i : Int) * -1) = ((f.length - 1 - i : Nat) : Int) by omega]
      simp_wf
      rw [List.getElem?_eq_getElem (by omega)]
      simp_wf
      refine xand_mk hp fun _ => ?_
      simp_wf
      rw [foldl_step hc']
      exact ⟨_, rfl, rfl⟩
    · rintro _ _ ⟨o, rfl, rfl⟩
      simp_wf
      refine fin_q ?_
      rw [rngL_len, List.take_of_length_le (by simp), vf_pe]
      exact q
  · exact h.elim
theorem xK_lvalueT {Φ : Fns} {i : Nat} {p x : Int} {f : List Int} {st : Sto} {Q : Kd} {u} (hi : Φ i = f_lvalue) (h1 : 0 < p ∧ p < 2 ^ 64 ∧ x.natAbs < 2 ^ 64 ∧ f.length ≤ 100000) (h : Q (.int (pe f x % p)) st) : xK Φ i [.int p, .tup (f.map .int), .int x] st Q u := by
  unfold xK
  rw [hi]
  exact ⟨f, rfl, .inl rfl, h1, h⟩
theorem xK_lvalueL {Φ : Fns} {i : Nat} {p x : Int} {f : List Int} {st : Sto} {Q : Kd} {u} (hi : Φ i = f_lvalue) (h1 : 0 < p ∧ p < 2 ^ 64 ∧ x.natAbs < 2 ^ 64 ∧ f.length ≤ 100000) (h : Q (.int (pe f x % p)) st) : xK Φ i [.int p, .lst (f.map .int), .int x] st Q u := by
  unfold xK
  rw [hi]
  exact ⟨f, rfl, .inr (.inl rfl), h1, h⟩
/-! the law's own power -/
def b_lpower : List SS := [.set (.nm 3) (.con (.int 1)),
  .for_ (.nm 4) (.rng1 (.var 2)) [.set (.nm 3) (.bin .mod false (.blt .int false [(.bin .mul false (.var 3) (.var 1))]) (.var 0))],
  .ret (.var 3)]
def f_lpower : Fn := fun ds st Q => match ds with
  | [.int p, .int a, .int k] => (1 < p ∧ p < 2 ^ 64 ∧ a.natAbs < 2 ^ 64 ∧ 0 ≤ k ∧ k < 2 ^ 62) ∧ Q (.int (a ^ k.toNat % p)) st
  | _ => False
theorem m_lpower : MonoFn f_lpower := fun vs st Q Q' h q => by
  unfold f_lpower at *
  split at q
  · exact ⟨q.1, h _ _ q.2⟩
  · exact q
theorem o_lpower {Φ : Fns} (hΦ : ∀ f, MonoFn (Φ f)) {ds : List D} {st : Sto} {Q : Kd} (h : f_lpower ds st Q) : xBody Φ b_lpower st.length Q ⟨⟩ (ds.map some ++ List.replicate (5 - 3) none) st := by
  unfold f_lpower at h
  split at h
  · rename_i p a k
    obtain ⟨⟨hp, hp2, ha, hk, hk2⟩, q⟩ := h
    unfold b_lpower
    simp_wf
    refine xand_mk (by omega) fun _ => ?_
    refine for_inv hΦ (fun i e s => ∃ o, e = [some (.int p), some (.int a), some (.int k), some (.int (a ^ i % p)), o] ∧ s = st) ⟨none, ?_, rfl⟩ (fun i e s _ h => ?_) ?_ ?_
    · rw [Int.pow_zero, Int.emod_eq_of_lt (by omega) hp]
    · trivial
    · rintro i c _ _ hc ⟨o, rfl, rfl⟩
      simp_wf
      have hb : 0 ≤ a ^ i % p ∧ a ^ i % p < p := ⟨Int.emod_nonneg _ (by omega), Int.emod_lt_of_pos _ (by omega)⟩
      refine xand_mk (cmulW (by omega) (by omega)) fun _ => ?_
      simp_wf
      refine xand_mk (by omega) fun _ => ?_
      simp_wf
      rw [show (a ^ i % p * a) % p = a ^ (i + 1) % p by
        rw [Int.pow_succ]
        exact (ME.md (p := p)).mul (ME.refl a)]
      exact ⟨_, rfl, rfl⟩
    · rintro _ _ ⟨o, rfl, rfl⟩
      simp_wf
      refine fin_q ?_
      rw [rngL_len]
      exact q
  · exact h.elim
theorem xK_lpower {Φ : Fns} {i : Nat} {p a k : Int} {st : Sto} {Q : Kd} {u} (hi : Φ i = f_lpower) (h1 : 1 < p ∧ p < 2 ^ 64 ∧ a.natAbs < 2 ^ 64 ∧ 0 ≤ k ∧ k < 2 ^ 62) (h : Q (.int (a ^ k.toNat % p)) st) : xK Φ i [.int p, .int a, .int k] st Q u := by
  unfold xK
  rw [hi]
  exact ⟨h1, h⟩

/-! sums and products of polynomials -/
def addAt (l : List Int) (n : Nat) (v : Int) : List Int := l.set n (l.getD n 0 + v)
theorem addAt_len {l : List Int} {n : Nat} {v : Int} : (addAt l n v).length = l.length := by unfold addAt; simp
theorem pe_addAt {x v : Int} : ∀ {l : List Int} {n : Nat}, n < l.length → pe (addAt l n v) x = pe l x + v * x ^ n
  | [], _, h => by simp at h
  | c :: r, 0, _ => by
    show pe r x * x + (c + v) = pe r x * x + c + v * x ^ 0
    rw [Int.pow_zero]; omega
  | c :: r, n + 1, h => by
    have ih := pe_addAt (x := x) (v := v) (l := r) (n := n) (by simpa using h)
    show pe (addAt r n v) x * x + c = pe r x * x + c + v * x ^ (n + 1)
    rw [ih, Int.pow_succ]; grind
def addRow : List Int → Nat → List Int → List Int
  | l, _, [] => l
  | l, j, b :: r => addRow (addAt l j b) (j + 1) r
def mulRow (a : Int) (l : List Int) (j : Nat) (g : List Int) : List Int := addRow l j (g.map (a * ·))
def mulAll (g : List Int) : List Int → Nat → List Int → List Int
  | l, _, [] => l
  | l, j, a :: r => mulAll g (mulRow a l j g) (j + 1) r
theorem addRow_snoc : ∀ {l : List Int} {j : Nat} {r : List Int} {b : Int}, addRow l j (r ++ [b]) = addAt (addRow l j r) (j + r.length) b
  | l, j, [], b => rfl
  | l, j, c :: r, b => by
    show addRow (addAt l j c) (j + 1) (r ++ [b]) = addAt (addRow (addAt l j c) (j + 1) r) (j + (r.length + 1)) b
    rw [addRow_snoc, show j + 1 + r.length = j + (r.length + 1) by omega]
theorem mulAll_snoc {g : List Int} : ∀ {l : List Int} {j : Nat} {r : List Int} {b : Int}, mulAll g l j (r ++ [b]) = mulRow b (mulAll g l j r) (j + r.length) g
  | l, j, [], b => rfl
  | l, j, c :: r, b => by
    show mulAll g (mulRow c l j g) (j + 1) (r ++ [b]) = mulRow b (mulAll g (mulRow c l j g) (j + 1) r) (j + (r.length + 1)) g
    rw [mulAll_snoc, show j + 1 + r.length = j + (r.length + 1) by omega]
theorem addRow_len : ∀ {l : List Int} {j : Nat} {r : List Int}, (addRow l j r).length = l.length
  | l, j, [] => rfl
  | l, j, c :: r => by
    show (addRow (addAt l j c) (j + 1) r).length = _
    rw [addRow_len, addAt_len]
theorem mulAll_len {g : List Int} : ∀ {l : List Int} {j : Nat} {r : List Int}, (mulAll g l j r).length = l.length
  | l, j, [] => rfl
  | l, j, c :: r => by
    show (mulAll g (mulRow c l j g) (j + 1) r).length = _
    rw [mulAll_len]; exact addRow_len
theorem pe_addRow {x : Int} : ∀ {l : List Int} {j : Nat} {r : List Int}, j + r.length ≤ l.length → pe (addRow l j r) x = pe l x + pe r x * x ^ j
  | l, j, [], _ => by
    show pe l x = pe l x + 0 * x ^ j
    omega
  | l, j, c :: r, h => by
    rw [List.length_cons] at h
    show pe (addRow (addAt l j c) (j + 1) r) x = pe l x + (pe r x * x + c) * x ^ j
    rw [pe_addRow (by rw [addAt_len]; omega), pe_addAt (by omega), Int.pow_succ]; grind
theorem pe_scale {a x : Int} : ∀ (g : List Int), pe (g.map (a * ·)) x = a * pe g x
  | [] => by rw [List.map_nil, pe_nil]; omega
  | c :: r => by
    show pe (r.map (a * ·)) x * x + a * c = a * (pe r x * x + c)
    rw [pe_scale r]; grind
theorem pe_mulAll {x : Int} {g : List Int} : ∀ {l : List Int} {j : Nat} {r : List Int}, j + r.length + g.length ≤ l.length + 1 → pe (mulAll g l j r) x = pe l x + pe r x * pe g x * x ^ j
  | l, j, [], _ => by
    show pe l x = pe l x + 0 * pe g x * x ^ j
    simp
  | l, j, c :: r, h => by
    rw [List.length_cons] at h
    show pe (mulAll g (mulRow c l j g) (j + 1) r) x = pe l x + (pe r x * x + c) * pe g x * x ^ j
    have hl : (mulRow c l j g).length = l.length := addRow_len
    rw [pe_mulAll (by rw [hl]; omega)]
    unfold mulRow
    rw [pe_addRow (by rw [List.length_map]; omega), pe_scale, Int.pow_succ]; grind
theorem pe_zeros {x : Int} : ∀ (n : Nat), pe (List.replicate n 0) x = 0
  | 0 => rfl
  | n + 1 => by
    show pe (List.replicate n 0) x * x + 0 = 0
    rw [pe_zeros n]; omega
theorem pe_append_zeros {x : Int} {n : Nat} : ∀ (f : List Int), pe (f ++ List.replicate n 0) x = pe f x
  | [] => pe_zeros n
  | c :: r => by
    show pe (r ++ List.replicate n 0) x * x + c = pe r x * x + c
    rw [pe_append_zeros r]
def addL (f g : List Int) : List Int := addRow (f ++ List.replicate (g.length - f.length) 0) 0 g
def mulL (f g : List Int) : List Int := mulAll g (List.replicate (f.length + g.length) 0) 0 f
theorem addL_len (f g : List Int) : (addL f g).length = max f.length g.length := by
  unfold addL
  rw [addRow_len]; simp; omega
theorem mulL_len (f g : List Int) : (mulL f g).length = f.length + g.length := by
  unfold mulL
  rw [mulAll_len]; simp
theorem pe_addL {x : Int} (f g : List Int) : pe (addL f g) x = pe f x + pe g x := by
  unfold addL
  rw [pe_addRow (by simp; omega), pe_append_zeros]; simp
theorem pe_mulL {x : Int} (f g : List Int) : pe (mulL f g) x = pe f x * pe g x := by
  unfold mulL
  rw [pe_mulAll (by simp), pe_zeros]; simp
/-! plus -/
def b_plus (iT : Nat) : List SS := [.set (.nm 3) (.blt .max2 false [(.blt .len false [(.var 1)]), (.blt .len false [(.var 2)])]),
  .set (.nm 4) (.bin .add true (.blt .list false [(.var 1)]) (.bin .mul false (.lst false [(.con (.int 0))]) (.bin .sub false (.var 3) (.blt .len false [(.var 1)])))),
  .for_ (.tup [(.nm 5), (.nm 6)]) (.enum (.var 2)) [.augS (.var 4) (.var 5) .add (.var 6)],
  .ret (.call iT [(.var 0), (.var 4)])]
def f_plus : Fn := fun ds st Q => match ds with
  | [.int p, .tup xs, .tup ys] => ∃ f g : List Int, xs = f.map .int ∧ ys = g.map .int ∧ (0 < p ∧ f.length ≤ 1000 ∧ g.length ≤ 1000) ∧ Q (iT (trim p (addL f g))) st
  | _ => False
theorem m_plus : MonoFn f_plus := fun vs st Q Q' h q => by
  unfold f_plus at *
  split at q
  · obtain ⟨f, g, h1, h2, h3, q⟩ := q
    exact ⟨f, g, h1, h2, h3, h _ _ q⟩
  · exact q
theorem zeros_flat : ∀ (n : Nat), (List.replicate n [D.int 0]).flatten = (List.replicate n (0 : Int)).map .int
  | 0 => rfl
  | n + 1 => by
    show D.int 0 :: (List.replicate n [D.int 0]).flatten = D.int 0 :: (List.replicate n (0 : Int)).map .int
    rw [zeros_flat n]
theorem set_ints {l : List Int} {n : Nat} {v : Int} : (l.map D.int).set n (.int v) = (l.set n v).map .int := List.map_set.symm
theorem enum_at {l : List D} {i : Nat} {d : D} (h : (enumL l)[i]? = some d) : ∃ x, l[i]? = some x ∧ d = .tup [.int (i : Int), x] := by
  have hi : i < l.length := by
    have := (List.getElem?_eq_some_iff.mp h).1
    rwa [enumL_length] at this
  refine ⟨l[i], List.getElem?_eq_getElem hi, ?_⟩
  have := enumL_get (List.getElem?_eq_getElem hi)
  rw [this] at h
  exact (Option.some.inj h).symm
theorem map_at {α : Type} {f : α → D} {l : List α} {i : Nat} {d : D} (h : (l.map f)[i]? = some d) : ∃ x, l[i]? = some x ∧ d = f x := by
  rw [List.getElem?_map] at h
  cases e : l[i]? with
  | none => rw [e] at h; cases h
  | some x => rw [e] at h; cases h; exact ⟨x, rfl, rfl⟩
theorem getD_of {l : List Int} {n : Nat} (h : n < l.length) : l[n]? = some (l.getD n 0) := by
  rw [List.getD_eq_getElem?_getD, List.getElem?_eq_getElem h]; rfl
theorem o_plus {Φ : Fns} (hΦ : ∀ f, MonoFn (Φ f)) {iT : Nat} (hT : Φ iT = f_trimmed) {ds : List D} {st : Sto} {Q : Kd} (hst : ∀ d ∈ st, Cl st.length d) (h : f_plus ds st Q) : xBody Φ (b_plus iT) st.length Q ⟨⟩ (ds.map some ++ List.replicate (7 - 3) none) st := by
  unfold f_plus at h
  split at h
  · rename_i p xs ys
    obtain ⟨f, g, rfl, rfl, ⟨hp, hf, hg⟩, q⟩ := h
    have hz := sizeLine_ge
    unfold b_plus
    simp_wf
    refine xand_mk (by omega) fun _ => ?_
    simp_wf
    have hm : ((if (g.length : Int) > (f.length : Int) then (g.length : Int) else (f.length : Int)) - (f.length : Int)).toNat = g.length - f.length := by
      split <;> omega
    refine xand_mk (by rw [hm]; split <;> omega) fun _ => ?_
    rw [hm, zeros_flat]
    simp_wf
    refine xand_mk (by simp; omega) fun _ => ?_
    rw [← List.map_append]
    simp_wf
    refine for_inv hΦ (fun i e s => ∃ a b, e = [some (.int p), some (.tup (f.map .int)), some (.tup (g.map .int)), some (.int (if (g.length : Int) > (f.length : Int) then (g.length : Int) else (f.length : Int))), some (.loc st.length), a, b] ∧ s = st ++ [iL (addRow (f ++ List.replicate (g.length - f.length) 0) 0 (g.take i))]) ⟨none, none, rfl, rfl⟩ (fun i e s _ h => ?_) ?_ ?_
    · rfl
    · rintro i c _ _ hc ⟨a, b, rfl, rfl⟩
      obtain ⟨d, hd, rfl⟩ := enum_at hc
      obtain ⟨x, hx, rfl⟩ := map_at hd
      have hi : i < g.length := (List.getElem?_eq_some_iff.mp hx).1
      have hl : i < (addRow (f ++ List.replicate (g.length - f.length) 0) 0 (g.take i)).length := by
        rw [addRow_len]; simp; omega
      nomatch getD_of hl
      nomatch hl
      rw [set_ints]
      refine ⟨_, _, rfl, ?_⟩
      rw [List.take_add_one, hx]
      show _ = st ++ [iL (addRow _ 0 (g.take i ++ [x]))]
      rw [addRow_snoc, show 0 + (g.take i).length = i by simp; omega]
      rfl
    · rintro _ _ ⟨a, b, rfl, rfl⟩
      simp_wf
      rw [enumL_length, List.length_map, List.take_of_length_le (Nat.le_refl _)]
      refine xK_trimmed hT (f := addL f g) ?_ ⟨hp, by rw [addL_len]; omega⟩ ?_
      · simp_wf
        rfl
      · exact fin_cut hst takeA (cl_tup cl_ints) q
  · exact h.elim
theorem xK_plus {Φ : Fns} {i : Nat} {p : Int} {f g : List Int} {st : Sto} {Q : Kd} {u} (hi : Φ i = f_plus) (h1 : 0 < p ∧ f.length ≤ 1000 ∧ g.length ≤ 1000) (h : Q (iT (trim p (addL f g))) st) : xK Φ i [.int p, .tup (f.map .int), .tup (g.map .int)] st Q u := by
  unfold xK
  rw [hi]
  exact ⟨f, g, rfl, rfl, h1, h⟩
/-! times -/
def b_times (iT : Nat) : List SS := [.set (.nm 3) (.bin .mul true (.lst false [(.con (.int 0))]) (.bin .add false (.blt .len false [(.var 1)]) (.blt .len false [(.var 2)]))),
  .for_ (.tup [(.nm 4), (.nm 5)]) (.enum (.var 1)) [.for_ (.tup [(.nm 6), (.nm 7)]) (.enum (.var 2)) [.augS (.var 3) (.bin .add false (.var 4) (.var 6)) .add (.bin .mul false (.var 5) (.var 7))]],
  .ret (.call iT [(.var 0), (.var 3)])]
def f_times : Fn := fun ds st Q => match ds with
  | [.int p, .tup xs, .tup ys] => ∃ f g : List Int, xs = f.map .int ∧ ys = g.map .int ∧ (0 < p ∧ f.length ≤ 1000 ∧ g.length ≤ 1000 ∧ (∀ x ∈ f, x.natAbs < 2 ^ 64) ∧ ∀ x ∈ g, x.natAbs < 2 ^ 64) ∧ Q (iT (trim p (mulL f g))) st
  | _ => False
theorem m_times : MonoFn f_times := fun vs st Q Q' h q => by
  unfold f_times at *
  split at q
  · obtain ⟨f, g, h1, h2, h3, q⟩ := q
    exact ⟨f, g, h1, h2, h3, h _ _ q⟩
  · exact q
theorem o_times {Φ : Fns} (hΦ : ∀ f, MonoFn (Φ f)) {iT : Nat} (hT : Φ iT = f_trimmed) {ds : List D} {st : Sto} {Q : Kd} (hst : ∀ d ∈ st, Cl st.length d) (h : f_times ds st Q) : xBody Φ (b_times iT) st.length Q ⟨⟩ (ds.map some ++ List.replicate (8 - 3) none) st := by
  unfold f_times at h
  split at h
  · rename_i p xs ys
    obtain ⟨f, g, rfl, rfl, ⟨hp, hf, hg, hfs, hgs⟩, q⟩ := h
    have hz := sizeLine_ge
    unfold b_times
    simp_wf
    have hm : ((f.length : Int) + (g.length : Int)).toNat = f.length + g.length := by omega
    refine xand_mk (by omega) fun _ => ?_
    simp_wf
    refine xand_mk (by rw [hm]; omega) fun _ => ?_
    rw [hm, zeros_flat]
    simp_wf
    refine for_inv hΦ (fun i e s => ∃ a b c d, e = [some (.int p), some (.tup (f.map .int)), some (.tup (g.map .int)), some (.loc st.length), a, b, c, d] ∧ s = st ++ [iL (mulAll g (List.replicate (f.length + g.length) 0) 0 (f.take i))]) ⟨none, none, none, none, rfl, rfl⟩ (fun i e s _ h => ?_) ?_ ?_
    · rfl
    · rintro i c _ _ hc ⟨a, b, c1, d1, rfl, rfl⟩
      obtain ⟨d, hd, rfl⟩ := enum_at hc
      obtain ⟨x, hx, rfl⟩ := map_at hd
      have hi : i < f.length := (List.getElem?_eq_some_iff.mp hx).1
      simp_wf
      refine for_inv hΦ (fun k e s => ∃ c d, e = [some (.int p), some (.tup (f.map .int)), some (.tup (g.map .int)), some (.loc st.length), some (.int i), some (.int x), c, d] ∧ s = st ++ [iL (mulRow x (mulAll g (List.replicate (f.length + g.length) 0) 0 (f.take i)) i (g.take k))]) ⟨c1, d1, rfl, rfl⟩ (fun i e s _ h => ?_) ?_ ?_
      · rfl
      · rintro k c _ _ hc ⟨a, b, rfl, rfl⟩
        obtain ⟨d, hd, rfl⟩ := enum_at hc
        obtain ⟨y, hy, rfl⟩ := map_at hd
        have hk : k < g.length := (List.getElem?_eq_some_iff.mp hy).1
        have hl : i + k < (mulRow x (mulAll g (List.replicate (f.length + g.length) 0) 0 (f.take i)) i (g.take k)).length := by
          unfold mulRow
          rw [addRow_len, mulAll_len]; simp; omega
        nomatch natAdd, getD_of hl
        refine xand_mk (cmul64 (hfs x (List.mem_of_getElem? hx)) (hgs y (List.mem_of_getElem? hy))) fun _ => ?_
        nomatch natAdd, hl
        rw [set_ints]
        refine ⟨_, _, rfl, ?_⟩
        unfold mulRow
        rw [List.take_add_one, hy, List.map_append]
        show _ = st ++ [iL (addRow _ i ((g.take k).map _ ++ [x * y]))]
        rw [addRow_snoc, show i + ((g.take k).map (x * ·)).length = i + k by simp; omega]
        rfl
      · rintro _ _ ⟨a, b, rfl, rfl⟩
        refine ⟨_, _, _, _, rfl, ?_⟩
        rw [enumL_length, List.length_map, List.take_of_length_le (Nat.le_refl _), List.take_add_one, hx]
        show _ = st ++ [iL (mulAll g _ 0 (f.take i ++ [x]))]
        rw [mulAll_snoc, show 0 + (f.take i).length = i by simp; omega]
    · rintro _ _ ⟨a, b, c, d, rfl, rfl⟩
      simp_wf
      rw [enumL_length, List.length_map, List.take_of_length_le (Nat.le_refl _)]
      refine xK_trimmed hT (f := mulL f g) ?_ ⟨hp, by rw [mulL_len]; omega⟩ ?_
      · simp_wf
        rfl
      · exact fin_cut hst takeA (cl_tup cl_ints) q
  · exact h.elim
theorem xK_times {Φ : Fns} {i : Nat} {p : Int} {f g : List Int} {st : Sto} {Q : Kd} {u} (hi : Φ i = f_times) (h1 : 0 < p ∧ f.length ≤ 1000 ∧ g.length ≤ 1000 ∧ (∀ x ∈ f, x.natAbs < 2 ^ 64) ∧ ∀ x ∈ g, x.natAbs < 2 ^ 64) (h : Q (iT (trim p (mulL f g))) st) : xK Φ i [.int p, .tup (f.map .int), .tup (g.map .int)] st Q u := by
  unfold xK
  rw [hi]
  exact ⟨f, g, rfl, rfl, h1, h⟩

/-! interpolate -/
theorem trim_mem {p : Int} (hp : 0 < p) {f : List Int} {x : Int} (h : x ∈ trim p f) : 0 ≤ x ∧ x < p := by
  unfold trim at h
  have := trimZ_mem h
  obtain ⟨y, _, rfl⟩ := List.mem_map.mp this
  exact ⟨Int.emod_nonneg _ (by omega), Int.emod_lt_of_pos _ hp⟩
theorem trim_len {p : Int} {f : List Int} : (trim p f).length ≤ f.length := by
  have := trimZ_len (f.map (· % p))
  rwa [List.length_map] at this
theorem inv_range {p a : Int} (hp : 0 < p) : 0 ≤ inv p a ∧ inv p a < p := ⟨Int.emod_nonneg _ (by omega), Int.emod_lt_of_pos _ hp⟩
def tms (p : Int) (f g : List Int) : List Int := trim p (mulL f g)
def pls (p : Int) (f g : List Int) : List Int := trim p (addL f g)
def termS (p x : Int) (k : Nat) (t : List Int) (j : Nat) (o : Int) : List Int := if j = k then t else tms p t [-o * inv p (x - o) % p, inv p (x - o)]
def termL (p x : Int) (k : Nat) : List Int → Nat → List (Int × Int) → List Int
  | t, _, [] => t
  | t, j, q :: r => termL p x k (termS p x k t j q.1) (j + 1) r
def intS (p : Int) (ps : List (Int × Int)) (R : List Int) (k : Nat) (q : Int × Int) : List Int := pls p R (termL p q.1 k [q.2 % p] 0 ps)
def intL (p : Int) (ps : List (Int × Int)) : List Int → Nat → List (Int × Int) → List Int
  | R, _, [] => R
  | R, k, q :: r => intL p ps (intS p ps R k q) (k + 1) r
def interp (p : Int) (ps : List (Int × Int)) : List Int := intL p ps [] 0 ps
theorem termL_snoc {p x : Int} {k : Nat} : ∀ {t : List Int} {j : Nat} {r : List (Int × Int)} {q : Int × Int}, termL p x k t j (r ++ [q]) = termS p x k (termL p x k t j r) (j + r.length) q.1
  | t, j, [], q => rfl
  | t, j, c :: r, q => by
    show termL p x k (termS p x k t j c.1) (j + 1) (r ++ [q]) = termS p x k (termL p x k (termS p x k t j c.1) (j + 1) r) (j + (r.length + 1)) q.1
    rw [termL_snoc, show j + 1 + r.length = j + (r.length + 1) by omega]
theorem intL_snoc {p : Int} {ps : List (Int × Int)} : ∀ {R : List Int} {k : Nat} {r : List (Int × Int)} {q : Int × Int}, intL p ps R k (r ++ [q]) = intS p ps (intL p ps R k r) (k + r.length) q
  | R, k, [], q => rfl
  | R, k, c :: r, q => by
    show intL p ps (intS p ps R k c) (k + 1) (r ++ [q]) = intS p ps (intL p ps (intS p ps R k c) (k + 1) r) (k + (r.length + 1)) q
    rw [intL_snoc, show k + 1 + r.length = k + (r.length + 1) by omega]
/-- in range, and not longer than n -/
def Rg (p : Int) (n : Nat) (f : List Int) : Prop := f.length ≤ n ∧ ∀ x ∈ f, 0 ≤ x ∧ x < p
theorem Rg.mono {p : Int} {n m : Nat} {f : List Int} (h : Rg p n f) (hm : n ≤ m) : Rg p m f := ⟨Nat.le_trans h.1 hm, h.2⟩
theorem Rg.trim {p : Int} (hp : 0 < p) {f : List Int} : Rg p f.length (trim p f) := ⟨trim_len, fun _ h => trim_mem hp h⟩
theorem mulL2_len {p : Int} {f : List Int} {a b : Int} (hp : 0 < p) : Rg p (f.length + 1) (tms p f [a, b]) := by
  have h : ∃ g, mulL f [a, b] = g ++ [0] ∧ g.length = f.length + 1 := by
    have hl := mulL_len f [a, b]
    rcases List.eq_nil_or_concat (mulL f [a, b]) with e | ⟨g, z, e⟩
    · rw [e] at hl; simp at hl
    · refine ⟨g, ?_, ?_⟩
      · rw [List.concat_eq_append] at e
        rw [e]
        congr 1
        have key : ∀ (r l : List Int) (j : Nat), j + r.length + 1 < l.length → (mulAll [a, b] l j r)[l.length - 1]? = l[l.length - 1]? := by
          intro r
          induction r with
          | nil => intro l j _; rfl
          | cons c r ih =>
            intro l j hj
            rw [List.length_cons] at hj
            have hl2 : (mulRow c l j [a, b]).length = l.length := addRow_len
            show (mulAll [a, b] (mulRow c l j [a, b]) (j + 1) r)[l.length - 1]? = _
            rw [← hl2, ih _ _ (by rw [hl2]; omega), hl2]
            show (addAt (addAt l j (c * a)) (j + 1) (c * b))[l.length - 1]? = _
            unfold addAt
            rw [List.getElem?_set_ne (by omega), List.getElem?_set_ne (by omega)]
        have h2 := key f (List.replicate (f.length + [a, b].length) 0) 0 (by simp)
        have h3 : mulL f [a, b] = mulAll [a, b] (List.replicate (f.length + [a, b].length) 0) 0 f := rfl
        rw [← h3, e] at h2
        simp at h2
        have h4 : g.length = f.length + 1 := by
          rw [e] at hl; simp at hl; omega
        rw [← h4] at h2
        simpa using h2
      · rw [e] at hl; simp at hl; omega
  obtain ⟨g, hg, hl⟩ := h
  refine ⟨?_, fun _ h => trim_mem hp h⟩
  unfold tms trim
  rw [hg, List.map_append]
  show (trimZ (g.map (· % p) ++ [0 % p])).length ≤ _
  rw [Int.zero_emod, trimZ_zero]
  have := trimZ_len (g.map (· % p))
  rw [List.length_map] at this
  omega
theorem termS_rg {p x : Int} {k n j : Nat} {t : List Int} {o : Int} (hp : 0 < p) (h : Rg p n t) : Rg p (n + if j = k then 0 else 1) (termS p x k t j o) := by
  unfold termS
  by_cases e : j = k
  · rw [if_pos e, if_pos e]; exact h
  · rw [if_neg e, if_neg e]
    exact (mulL2_len hp).mono (by have := h.1; omega)
theorem termL_rg {p x : Int} {k : Nat} (hp : 0 < p) : ∀ {t : List Int} {j n : Nat} {r : List (Int × Int)}, Rg p n t → Rg p (n + r.length - if j ≤ k ∧ k < j + r.length then 1 else 0) (termL p x k t j r)
  | t, j, n, [], h => by
    show Rg p (n + 0 - if j ≤ k ∧ k < j + 0 then 1 else 0) t
    rw [if_neg (by omega)]; exact h
  | t, j, n, q :: r, h => by
    have h1 := termL_rg hp (t := termS p x k t j q.1) (j := j + 1) (r := r) (k := k) (x := x) (termS_rg (k := k) (j := j) (o := q.1) (x := x) hp h)
    refine Rg.mono h1 ?_
    rw [List.length_cons]
    repeat' split
    all_goals omega
def b_interpolate (iI iX iP : Nat) : List SS := [.set (.nm 2) (.tup []),
  .for_ (.tup [(.nm 3), (.tup [(.nm 4), (.nm 5)])]) (.enum (.var 1)) [.set (.nm 6) (.tup [(.bin .mod false (.var 5) (.var 0))]),
  .for_ (.tup [(.nm 7), (.tup [(.nm 8), (.nm 9)])]) (.enum (.var 1)) [.ite (.cmp .ne (.var 7) (.var 3)) [.set (.nm 10) (.call iI [(.var 0), (.bin .sub false (.var 4) (.var 8))]),
  .set (.nm 6) (.call iX [(.var 0), (.var 6), (.tup [(.bin .mod false (.bin .mul false (.neg (.var 8)) (.var 10)) (.var 0)), (.var 10)])])] []],
  .set (.nm 2) (.call iP [(.var 0), (.var 2), (.var 6)])],
  .ret (.var 2)]
def prD (q : Int × Int) : D := .tup [.int q.1, .int q.2]
def f_interpolate : Fn := fun ds st Q => match ds with
  | [.int p, d] => ∃ ps : List (Int × Int), asSeq st d = some (ps.map prD) ∧ (1 < p ∧ p < 2 ^ 64 ∧ ps.length ≤ 300 ∧ ∀ q ∈ ps, q.1.natAbs < 2 ^ 64) ∧ Q (iT (interp p ps)) st
  | _ => False
theorem m_interpolate : MonoFn f_interpolate := fun vs st Q Q' h q => by
  unfold f_interpolate at *
  split at q
  · obtain ⟨f, h1, h2, q⟩ := q
    exact ⟨f, h1, h2, h _ _ q⟩
  · exact q
theorem interp_rg {p : Int} (hp : 0 < p) {ps : List (Int × Int)} : ∀ {r : List (Int × Int)} {R : List Int} {k : Nat}, Rg p ps.length R → k + r.length ≤ ps.length → Rg p ps.length (intL p ps R k r)
  | [], R, k, h, _ => h
  | q :: r, R, k, h, hk => by
    rw [List.length_cons] at hk
    refine interp_rg hp (r := r) ?_ (by omega)
    have h1 : Rg p (1 + ps.length - if 0 ≤ k ∧ k < 0 + ps.length then 1 else 0) (termL p q.1 k [q.2 % p] 0 ps) := termL_rg hp ⟨Nat.le_refl _, fun x hx => by
      simp at hx; subst hx
      exact ⟨Int.emod_nonneg _ (by omega), Int.emod_lt_of_pos _ hp⟩⟩
    rw [if_pos (by omega)] at h1
    unfold intS pls
    refine Rg.mono (Rg.trim hp) ?_
    rw [addL_len]
    have := h.1
    have := h1.1
    omega
theorem o_interpolate {Φ : Fns} (hΦ : ∀ f, MonoFn (Φ f)) {iI iX iP : Nat} (hI : Φ iI = f_inverse) (hX : Φ iX = f_times) (hP : Φ iP = f_plus) {ds : List D} {st : Sto} {Q : Kd} (h : f_interpolate ds st Q) : xBody Φ (b_interpolate iI iX iP) st.length Q ⟨⟩ (ds.map some ++ List.replicate (11 - 2) none) st := by
  unfold f_interpolate at h
  split at h
  · rename_i p d
    obtain ⟨ps, hd, ⟨hp, hp2, hl, hs⟩, q⟩ := h
    unfold b_interpolate
    nomatch hd
    refine xand_mk (by decide) fun _ => ?_
    nomatch hd
    refine for_inv hΦ (fun i e s => ∃ x3 x4 x5 x6 x7 x8 x9 x10, e = [some (.int p), some d, some (iT (intL p ps [] 0 (ps.take i))), x3, x4, x5, x6, x7, x8, x9, x10] ∧ s = st) ⟨none, none, none, none, none, none, none, none, rfl, rfl⟩ (fun i e s _ h => ?_) ?_ ?_
    · obtain ⟨_, _, _, _, _, _, _, _, _, rfl⟩ := h
      exact hd
    · rintro k c _ st' hc ⟨x3, x4, x5, x6, x7, x8, x9, x10, rfl, rfl⟩
      obtain ⟨c, hc', rfl⟩ := enum_at hc
      obtain ⟨⟨x, y⟩, hq, rfl⟩ := map_at hc'
      have hk : k < ps.length := (List.getElem?_eq_some_iff.mp hq).1
      have hR := interp_rg (p := p) (by omega) (ps := ps) (r := ps.take k) (R := []) (k := 0) ⟨by simp, fun x hx => by cases hx⟩ (by simp; omega)
      nomatch prD
      refine xand_mk (by omega) fun _ => ?_
      nomatch hd
      refine xand_mk (by decide) fun _ => ?_
      nomatch hd
      have h0 : Rg p 1 [y % p] := ⟨Nat.le_refl _, fun x hx => by
        simp at hx; subst hx
        exact ⟨Int.emod_nonneg _ (by omega), Int.emod_lt_of_pos _ (by omega)⟩⟩
      refine for_inv hΦ (fun j e s => ∃ x7 x8 x9 x10, e = [some (.int p), some d, some (iT (intL p ps [] 0 (ps.take k))), some (.int k), some (.int x), some (.int y), some (iT (termL p x k [y % p] 0 (ps.take j))), x7, x8, x9, x10] ∧ s = st') ⟨x7, x8, x9, x10, rfl, rfl⟩ (fun i e s _ h => ?_) ?_ ?_
      · obtain ⟨_, _, _, _, _, rfl⟩ := h
        exact hd
      · rintro j c _ _ hc ⟨x7, x8, x9, x10, rfl, rfl⟩
        obtain ⟨c, hc', rfl⟩ := enum_at hc
        obtain ⟨⟨o, z⟩, hq2, rfl⟩ := map_at hc'
        have hj : j < ps.length := (List.getElem?_eq_some_iff.mp hq2).1
        have ho := hs _ (List.mem_of_getElem? hq2)
        have hT : Rg p (1 + (ps.take j).length) (termL p x k [y % p] 0 (ps.take j)) := Rg.mono (termL_rg (by omega) h0) (by omega)
        have hst : termL p x k [y % p] 0 (ps.take (j + 1)) = termS p x k (termL p x k [y % p] 0 (ps.take j)) j o := by
          rw [List.take_add_one, hq2]
          show termL p x k [y % p] 0 (ps.take j ++ [(o, z)]) = _
          rw [termL_snoc, show 0 + (ps.take j).length = j by simp; omega]
        nomatch prD
        refine xite_mk (fun hc => ?_) (fun hc => ?_)
        · have hjk : j ≠ k := fun e => by subst e; simp at hc
          simp_wf
          refine xK_inverse hI ⟨hp, hp2⟩ ?_
          have hi := inv_range (p := p) (a := x - o) (by omega)
          simp_wf
          refine xand_mk (cmul64 (by simp only at ho; omega) (by omega)) fun _ => ?_
          simp_wf
          refine xand_mk (by omega) fun _ => ?_
          simp_wf
          refine xand_mk (by decide) fun _ => ?_
          simp_wf
          refine xK_times (g := [-o * inv p (x - o) % p, inv p (x - o)]) hX ⟨by omega, ?_, by simp, fun w hx => ?_, fun w hx => ?_⟩ ?_
          · have := hT.1
            simp at this
            omega
          · have := hT.2 w hx
            omega
          · have hm : 0 ≤ -o * inv p (x - o) % p ∧ -o * inv p (x - o) % p < p := ⟨Int.emod_nonneg _ (by omega), Int.emod_lt_of_pos _ (by omega)⟩
            simp at hx
            rcases hx with rfl | rfl <;> omega
          · simp_wf
            rw [hst]
            unfold termS
            rw [if_neg hjk]
            exact ⟨_, _, _, _, rfl, rfl⟩
        · have hjk : j = k := by
            have : (j : Int) = k := by simpa using hc
            omega
          simp_wf
          rw [hst]
          unfold termS
          rw [if_pos hjk]
          exact ⟨_, _, _, _, rfl, rfl⟩
      · rintro _ _ ⟨x7, x8, x9, x10, rfl, rfl⟩
        rw [enumL_length, List.length_map, List.take_of_length_le (Nat.le_refl _)]
        simp_wf
        have h1 : Rg p (1 + ps.length) (termL p x k [y % p] 0 ps) := Rg.mono (termL_rg (by omega) h0) (by omega)
        refine xK_plus hP ⟨by omega, by have := hR.1; omega, by have := h1.1; omega⟩ ?_
        simp_wf
        rw [show intL p ps [] 0 (ps.take (k + 1)) = intS p ps (intL p ps [] 0 (ps.take k)) k (x, y) by
          rw [List.take_add_one, hq]
          show intL p ps [] 0 (ps.take k ++ [(x, y)]) = _
          rw [intL_snoc, show 0 + (ps.take k).length = k by simp; omega]]
        exact ⟨_, _, _, _, _, _, _, _, rfl, rfl⟩
    · rintro _ _ ⟨x3, x4, x5, x6, x7, x8, x9, x10, rfl, rfl⟩
      simp_wf
      rw [enumL_length, List.length_map, List.take_of_length_le (Nat.le_refl _)]
      exact fin_q q
  · exact h.elim
theorem xK_interpolate {Φ : Fns} {i : Nat} {p : Int} {d : D} {ps : List (Int × Int)} {st : Sto} {Q : Kd} {u} (hi : Φ i = f_interpolate) (hd : asSeq st d = some (ps.map prD)) (h1 : 1 < p ∧ p < 2 ^ 64 ∧ ps.length ≤ 300 ∧ ∀ q ∈ ps, q.1.natAbs < 2 ^ 64) (h : Q (iT (interp p ps)) st) : xK Φ i [.int p, d] st Q u := by
  unfold xK
  rw [hi]
  exact ⟨ps, hd, h1, h⟩

/-! == of tuples of numbers -/
theorem toPys_ints {st : Sto} : ∀ (f : List Int), toPys st (f.map .int) = some (f.map .int)
  | [] => rfl
  | i :: r => by
    show (match toPy st (.int i), toPys st (r.map .int) with | some x, some y => some (x :: y) | _, _ => none) = _
    rw [toPys_ints r]; rfl
theorem lay_ints : ∀ (f : List Int), PyData.canLayAll0 (f.map .int) = true
  | [] => rfl
  | i :: r => by
    show (PyData.canLay0 (.int i) && PyData.canLayAll0 (r.map .int)) = true
    rw [lay_ints r]; rfl
theorem depth_ints : ∀ (f : List Int), PyData.depthAll (f.map .int) = 0
  | [] => rfl
  | i :: r => by
    show max (PyData.depth (.int i)) (PyData.depthAll (r.map .int)) = 0
    rw [depth_ints r]; rfl
theorem shaped_ints (f : List Int) : SeqAt.shaped (.tuple (f.map .int)) = true := by
  unfold SeqAt.shaped
  rw [show PyData.canLay0 (.tuple (f.map .int)) = PyData.canLayAll0 (f.map .int) from rfl, lay_ints,
    show PyData.depth (.tuple (f.map .int)) = PyData.depthAll (f.map .int) + 1 from rfl, depth_ints]
  rfl
theorem eqv_ints : ∀ (f g : List Int), PyData.eqvAll (f.map .int) (g.map .int) = (f == g)
  | [], [] => rfl
  | [], _ :: _ => rfl
  | _ :: _, [] => rfl
  | a :: f, b :: g => by
    show (PyData.eqv (.int a) (.int b) && PyData.eqvAll (f.map .int) (g.map .int)) = _
    rw [eqv_ints f g]
    rfl
theorem xdat_ints {n : Bool} {f g : List Int} {st : Sto} {Q : Bool → Sto → Prop} {u} : xdat n (.tup (f.map .int)) (.tup (g.map .int)) st Q u = Q (n ^^ (f == g)) st := by
  unfold xdat
  rw [show toPyL st (.tup (f.map .int)) = some (.tuple (f.map .int)) by show (toPys st (f.map .int)).map PyData.tuple = _; rw [toPys_ints]; rfl,
    show toPyL st (.tup (g.map .int)) = some (.tuple (g.map .int)) by show (toPys st (g.map .int)).map PyData.tuple = _; rw [toPys_ints]; rfl]
  show (_ ∧ _ ∧ Q (n ^^ PyData.eqvAll (f.map .int) (g.map .int)) st) = _
  rw [eqv_ints]
  exact propext ⟨fun h => h.2.2, fun h => ⟨shaped_ints f, shaped_ints g, h⟩⟩
/-! numbers modulo the primes of the laws -/
def primes : List Nat := [11, 13, 17, 31, 101]
theorem fermat_tab : (primes.all fun p => (List.range p).all fun a => a == 0 || (((a : Int) ^ (p - 2) % (p : Int) * (a : Int)) % (p : Int) == 1)) = true := by decide +kernel
theorem prime_ge {p : Int} (hp : ∃ n ∈ primes, p = (n : Int)) : 10 < p ∧ p < 102 := by
  obtain ⟨n, hn, rfl⟩ := hp
  simp [primes] at hn
  omega
theorem inv_ok {p a : Int} (hp : ∃ n ∈ primes, p = (n : Int)) (ha : a % p ≠ 0) : ME p (inv p a * a) 1 := by
  obtain ⟨n, hn, rfl⟩ := hp
  have hb := prime_ge ⟨n, hn, rfl⟩
  have h1 := List.all_eq_true.mp fermat_tab n hn
  have hr : 0 ≤ a % (n : Int) ∧ a % (n : Int) < n := ⟨Int.emod_nonneg _ (by omega), Int.emod_lt_of_pos _ (by omega)⟩
  have h2 := List.all_eq_true.mp h1 (a % (n : Int)).toNat (List.mem_range.mpr (by omega))
  simp only [Bool.or_eq_true, beq_iff_eq] at h2
  have h3 : ((a % (n : Int)).toNat : Int) = a % (n : Int) := by omega
  rcases h2 with h2 | h2
  · omega
  · rw [h3] at h2
    unfold inv
    rw [show ((n : Int) - 2).toNat = n - 2 by omega]
    have e1 : ME (n : Int) ((a % n) ^ (n - 2)) (a ^ (n - 2)) := (ME.md (p := (n : Int)) (x := a)).pow (n - 2)
    have e2 : ME (n : Int) (a ^ (n - 2) % n * a) ((a % n) ^ (n - 2) % n * (a % n)) := by
      have e3 : a ^ (n - 2) % n = (a % n) ^ (n - 2) % n := e1.symm
      rw [e3]
      exact (ME.refl _).mul ME.md.symm
    refine e2.trans ?_
    show _ = 1 % (n : Int)
    rw [h2, Int.emod_eq_of_lt (by omega) (by omega)]
theorem inv_pos {p a : Int} (hp : ∃ n ∈ primes, p = (n : Int)) (ha : a % p ≠ 0) : 1 ≤ inv p a ∧ inv p a < p ∧ inv p a * a % p = 1 := by
  have hb := prime_ge hp
  have h1 := inv_ok hp ha
  have h2 := inv_range (p := p) (a := a) (by omega)
  have h3 : inv p a * a % p = 1 := by
    have h4 : inv p a * a % p = 1 % p := h1
    rw [h4, Int.emod_eq_of_lt (by omega) (by omega)]
  refine ⟨?_, h2.2, h3⟩
  by_cases e : inv p a = 0
  · rw [e] at h3; simp at h3
  · omega
/-! what interpolate gives -/
theorem pe_termS {p x z : Int} {k j : Nat} {t : List Int} {o : Int} (h : j ≠ k) : ME p (pe (termS p x k t j o) z) (pe t z * ((z - o) * inv p (x - o))) := by
  unfold termS
  rw [if_neg h]
  unfold tms
  refine (pe_trim _).trans ?_
  rw [pe_mulL]
  refine (ME.refl _).mul ?_
  show ME p ((0 * z + inv p (x - o)) * z + -o * inv p (x - o) % p) _
  refine ((ME.refl _).add ME.md).trans ?_
  rw [show (0 * z + inv p (x - o)) * z + -o * inv p (x - o) = (z - o) * inv p (x - o) by grind]
  exact ME.refl _
theorem termS_at {p x : Int} {k : Nat} {t : List Int} {o : Int} : termS p x k t k o = t := by
  unfold termS
  rw [if_pos rfl]
theorem termL_dead {p x z : Int} {k : Nat} : ∀ {r : List (Int × Int)} {t : List Int} {j : Nat}, ME p (pe t z) 0 → ME p (pe (termL p x k t j r) z) 0
  | [], _, _, h => h
  | q :: r, t, j, h => by
    refine termL_dead (r := r) (j := j + 1) ?_
    by_cases e : j = k
    · subst e; rw [termS_at]; exact h
    · refine (pe_termS e).trans ?_
      have := h.mul (ME.refl ((z - q.1) * inv p (x - q.1)))
      rwa [Int.zero_mul] at this
theorem termL_zero {p x z : Int} {k : Nat} : ∀ {r : List (Int × Int)} {t : List Int} {j i : Nat} {q : Int × Int}, r[i]? = some q → j + i ≠ k → ME p z q.1 → ME p (pe (termL p x k t j r) z) 0
  | [], _, _, _, _, h, _, _ => by simp at h
  | c :: r, t, j, 0, q, h, hk, hz => by
    have : c = q := by simpa using h
    subst this
    refine termL_dead (r := r) (j := j + 1) ?_
    refine (pe_termS (by omega)).trans ?_
    have h1 : ME p (z - c.1) 0 := by
      have := hz.sub (ME.refl c.1)
      rwa [Int.sub_self] at this
    have := (ME.refl (pe t z)).mul (h1.mul (ME.refl (inv p (x - c.1))))
    rwa [Int.zero_mul, Int.mul_zero] at this
  | c :: r, t, j, i + 1, q, h, hk, hz => termL_zero (r := r) (j := j + 1) (i := i) (q := q) (by simpa using h) (by omega) hz
theorem termL_one {p x : Int} {k : Nat} (hp : ∃ n ∈ primes, p = (n : Int)) : ∀ {r : List (Int × Int)} {t : List Int} {j : Nat}, (∀ i q, r[i]? = some q → j + i ≠ k → (x - q.1) % p ≠ 0) → ME p (pe (termL p x k t j r) x) (pe t x)
  | [], _, _, _ => ME.refl _
  | c :: r, t, j, h => by
    refine (termL_one hp (r := r) (j := j + 1) fun i q hq hi => h (i + 1) q (by simpa using hq) (by omega)).trans ?_
    by_cases e : j = k
    · subst e; rw [termS_at]; exact ME.refl _
    · refine (pe_termS e).trans ?_
      have h1 := inv_ok hp (h 0 c rfl (by omega))
      rw [show (x - c.1) * inv p (x - c.1) = inv p (x - c.1) * (x - c.1) by grind]
      have := (ME.refl (pe t x)).mul h1
      rwa [Int.mul_one] at this
theorem intL_pe {p : Int} (hp : ∃ n ∈ primes, p = (n : Int)) {ps : List (Int × Int)} (hd : ∀ (i j : Nat) (a b : Int × Int), ps[i]? = some a → ps[j]? = some b → i ≠ j → (a.1 - b.1) % p ≠ 0) {i : Nat} {q : Int × Int} (hq : ps[i]? = some q) :
    ∀ {r : List (Int × Int)} {R : List Int} {k : Nat}, ps.drop k = r → ME p (pe (intL p ps R k r) q.1) (pe R q.1 + if k ≤ i ∧ i < k + r.length then q.2 else 0)
  | [], R, k, _ => by
    show ME p (pe R q.1) (pe R q.1 + if k ≤ i ∧ i < k + 0 then q.2 else 0)
    rw [if_neg (by omega), Int.add_zero]
    exact ME.refl _
  | c :: r, R, k, h => by
    have hk : ps[k]? = some c := by
      have := List.getElem?_drop (xs := ps) (i := k) (j := 0)
      rw [h] at this
      simpa using this.symm
    have h' : ps.drop (k + 1) = r := by rw [← List.drop_drop, h]; rfl
    refine (intL_pe hp hd hq (r := r) (k := k + 1) h').trans ?_
    have h1 : ME p (pe (intS p ps R k c) q.1) (pe R q.1 + pe (termL p c.1 k [c.2 % p] 0 ps) q.1) := by
      unfold intS pls
      refine (pe_trim _).trans ?_
      rw [pe_addL]
      exact ME.refl _
    rw [List.length_cons]
    by_cases e : i = k
    · subst e
      rw [hk] at hq
      cases hq
      rw [if_neg (by omega), if_pos (by omega), Int.add_zero]
      refine h1.trans ((ME.refl _).add ?_)
      refine (termL_one hp fun i' q' hq' hi' => hd i i' q q' hk hq' (by omega)).trans ?_
      show ME p (0 * q.1 + q.2 % p) q.2
      rw [Int.zero_mul, Int.zero_add]
      exact ME.md
    · have h2 : ME p (pe (termL p c.1 k [c.2 % p] 0 ps) q.1) 0 := termL_zero hq (by omega) (ME.refl _)
      have h3 := (ME.refl (pe R q.1)).add h2
      rw [Int.add_zero] at h3
      refine ((h1.trans h3).add (ME.refl _)).trans ?_
      by_cases e2 : k + 1 ≤ i ∧ i < k + 1 + r.length
      · rw [if_pos e2, if_pos (by omega)]; exact ME.refl _
      · rw [if_neg e2, if_neg (by omega)]; exact ME.refl _
theorem interp_pe {p : Int} (hp : ∃ n ∈ primes, p = (n : Int)) {ps : List (Int × Int)} (hd : ∀ (i j : Nat) (a b : Int × Int), ps[i]? = some a → ps[j]? = some b → i ≠ j → (a.1 - b.1) % p ≠ 0) {i : Nat} {q : Int × Int} (hq : ps[i]? = some q) :
    ME p (pe (interp p ps) q.1) q.2 := by
  have h := intL_pe hp hd hq (r := ps) (R := []) (k := 0) rfl
  have hi := (List.getElem?_eq_some_iff.mp hq).1
  rw [if_pos (by omega), pe_nil, Int.zero_add] at h
  exact h
theorem map_id_rg {p : Int} : ∀ {f : List Int}, (∀ x ∈ f, 0 ≤ x ∧ x < p) → f.map (· % p) = f
  | [], _ => rfl
  | a :: r, h => by
    rw [List.map_cons, map_id_rg fun x hx => h x (List.mem_cons_of_mem _ hx)]
    have := h a List.mem_cons_self
    rw [Int.emod_eq_of_lt this.1 this.2]
theorem trim_trim {p : Int} (hp : 0 < p) (f : List Int) : trim p (trim p f) = trim p f := by
  have h : (trim p f).map (· % p) = trim p f := map_id_rg fun x hx => trim_mem hp hx
  unfold trim at h ⊢
  rw [h, trimZ_idem]
theorem interp_form {p : Int} (hp : 0 < p) (ps : List (Int × Int)) : interp p ps = [] ∨ ∃ f, interp p ps = trim p f := by
  unfold interp
  rcases List.eq_nil_or_concat ps with h | ⟨r, q, h⟩
  · rw [h]; exact .inl rfl
  · refine .inr ?_
    have : intL p ps [] 0 ps = intS p ps (intL p ps [] 0 r) (0 + r.length) q := by
      rw [← intL_snoc]
      congr 1
      rw [h, List.concat_eq_append]
    rw [this]
    exact ⟨_, rfl⟩
theorem interp_canon {p : Int} (hp : 0 < p) (ps : List (Int × Int)) : trim p (interp p ps) = interp p ps := by
  rcases interp_form hp ps with h | ⟨f, h⟩
  · rw [h]; rfl
  · rw [h, trim_trim hp]
theorem addL_get (f g : List Int) : addL f g = (List.range (max f.length g.length)).map fun j => f.getD j 0 + g.getD j 0 := by
  have key : ∀ (r l : List Int) (j i : Nat), (addRow l j r)[i]? = l[i]?.map fun v => if j ≤ i ∧ i < j + r.length then v + r.getD (i - j) 0 else v := by
    intro r
    induction r with
    | nil =>
      intro l j i
      show l[i]? = _
      cases l[i]? with
      | none => rfl
      | some v => simp only [Option.map_some]; rw [if_neg (by simp)]
    | cons c r ih =>
      intro l j i
      show (addRow (addAt l j c) (j + 1) r)[i]? = _
      rw [ih]
      unfold addAt
      rw [List.getElem?_set]
      by_cases e : j = i
      · subst e
        rw [if_pos rfl]
        by_cases hl : j < l.length
        · rw [if_pos hl, getD_of hl]
          simp only [Option.map_some]
          rw [if_neg (by omega), if_pos (by simp)]
          simp
        · rw [if_neg hl, List.getElem?_eq_none (by omega)]; rfl
      · rw [if_neg e]
        cases l[i]? with
        | none => rfl
        | some v =>
          simp only [Option.map_some, List.length_cons]
          by_cases e2 : j + 1 ≤ i ∧ i < j + 1 + r.length
          · rw [if_pos e2, if_pos (by omega)]
            rw [show i - j = (i - (j + 1)) + 1 by omega]
            rfl
          · rw [if_neg e2, if_neg (by omega)]
  apply List.ext_getElem?
  intro i
  unfold addL
  rw [key, List.getElem?_map]
  by_cases hi : i < max f.length g.length
  · rw [List.getElem?_range hi]
    have h1 : (f ++ List.replicate (g.length - f.length) 0)[i]? = some (f.getD i 0) := by
      by_cases hf : i < f.length
      · rw [List.getElem?_append_left hf, getD_of hf]
      · rw [List.getElem?_append_right (by omega), List.getElem?_replicate, if_pos (by omega), List.getD_eq_getElem?_getD, List.getElem?_eq_none (by omega)]; rfl
    rw [h1]
    simp only [Option.map_some, Nat.zero_add, Nat.sub_zero, Nat.zero_le, true_and]
    by_cases hg : i < g.length
    · rw [if_pos hg]
    · rw [if_neg hg, List.getD_eq_getElem?_getD (l := g), List.getElem?_eq_none (by omega)]
      simp
  · rw [List.getElem?_eq_none (l := f ++ _) (by simp; omega), List.getElem?_eq_none (by simp; omega)]
    rfl

/-! sums -/
def sm : Nat → (Nat → Int) → Int
  | 0, _ => 0
  | n + 1, g => sm n g + g n
theorem sm_congr {n : Nat} {g h : Nat → Int} (e : ∀ k, k < n → g k = h k) : sm n g = sm n h := by
  induction n with
  | zero => rfl
  | succ n ih =>
    show sm n g + g n = sm n h + h n
    rw [ih fun k hk => e k (by omega), e n (by omega)]
theorem sm_me {p : Int} {n : Nat} {g h : Nat → Int} (e : ∀ k, k < n → ME p (g k) (h k)) : ME p (sm n g) (sm n h) := by
  induction n with
  | zero => exact ME.refl _
  | succ n ih => exact (ih fun k hk => e k (by omega)).add (e n (by omega))
theorem sm_add {n : Nat} {g h : Nat → Int} : sm n (fun k => g k + h k) = sm n g + sm n h := by
  induction n with
  | zero => rfl
  | succ n ih =>
    show sm n (fun k => g k + h k) + (g n + h n) = sm n g + g n + (sm n h + h n)
    rw [ih]; omega
theorem sm_mul {n : Nat} {g : Nat → Int} {c : Int} : sm n (fun k => g k * c) = sm n g * c := by
  induction n with
  | zero => show (0 : Int) = 0 * c; simp
  | succ n ih =>
    show sm n (fun k => g k * c) + g n * c = (sm n g + g n) * c
    rw [ih, Int.add_mul]
theorem sm_zero {n : Nat} : sm n (fun _ => 0) = 0 := by
  induction n with
  | zero => rfl
  | succ n ih => show sm n (fun _ => 0) + 0 = 0; rw [ih]; rfl
theorem sm_swap {n m : Nat} {g : Nat → Nat → Int} : sm n (fun a => sm m fun b => g a b) = sm m (fun b => sm n fun a => g a b) := by
  induction n with
  | zero => exact sm_zero.symm
  | succ n ih =>
    show sm n (fun a => sm m fun b => g a b) + sm m (fun b => g n b) = sm m (fun b => sm n (fun a => g a b) + g n b)
    rw [ih, sm_add]
theorem pe_snoc {x c : Int} : ∀ (f : List Int), pe (f ++ [c]) x = pe f x + c * x ^ f.length
  | [] => by
    show 0 * x + c = 0 + c * x ^ 0
    rw [Int.pow_zero]; omega
  | d :: r => by
    show pe (r ++ [c]) x * x + d = pe r x * x + d + c * x ^ (r.length + 1)
    rw [pe_snoc r, Int.pow_succ]; grind
theorem pe_range {x : Int} {g : Nat → Int} : ∀ (n : Nat), pe ((List.range n).map g) x = sm n fun k => g k * x ^ k
  | 0 => rfl
  | n + 1 => by
    rw [List.range_succ, List.map_append]
    show pe ((List.range n).map g ++ [g n]) x = _
    rw [pe_snoc, pe_range n, List.length_map, List.length_range]; rfl
/-! square tables -/
def mk (n : Nat) (h : Nat → Nat → Int) : List (List Int) := (List.range n).map fun a => (List.range n).map (h a)
def upd2 (h : Nat → Nat → Int) (j k : Nat) (v : Int) : Nat → Nat → Int := fun a b => if a = j ∧ b = k then v else h a b
theorem mk_get {n j : Nat} {h : Nat → Nat → Int} (hj : j < n) : (mk n h)[j]? = some ((List.range n).map (h j)) := by
  unfold mk
  rw [List.getElem?_map, List.getElem?_range hj]; rfl
theorem row_get {n j : Nat} {h : Nat → Int} (hj : j < n) : ((List.range n).map h)[j]? = some (h j) := by
  rw [List.getElem?_map, List.getElem?_range hj]; rfl
theorem row_set {n k : Nat} {h : Nat → Int} {v : Int} : ((List.range n).map h).set k v = (List.range n).map fun b => if b = k then v else h b := by
  apply List.ext_getElem?
  intro i
  rw [List.getElem?_set]
  by_cases hi : i < n
  · rw [row_get hi]
    by_cases e : k = i
    · subst e
      rw [if_pos rfl, if_pos (by simpa using hi), row_get hi, if_pos rfl]
    · rw [if_neg e, row_get hi, if_neg (fun z => e z.symm)]
  · by_cases e : k = i
    · subst e
      rw [if_pos rfl, if_neg (by simpa using hi), List.getElem?_eq_none (by simp; omega)]
    · rw [if_neg e, List.getElem?_eq_none (by simp; omega), List.getElem?_eq_none (by simp; omega)]
theorem mk_set {n j k : Nat} {h : Nat → Nat → Int} {v : Int} : (mk n h).set j (((List.range n).map (h j)).set k v) = mk n (upd2 h j k v) := by
  apply List.ext_getElem?
  intro i
  rw [List.getElem?_set]
  by_cases hi : i < n
  · rw [mk_get hi]
    by_cases e : j = i
    · subst e
      rw [if_pos rfl, if_pos (by simpa [mk] using hi), row_set, mk_get hi]
      unfold upd2
      congr 2
      funext b
      simp
    · rw [if_neg e, mk_get hi]
      unfold upd2
      congr 2
      funext b
      rw [if_neg (fun z => e z.1.symm)]
  · have hl : ∀ h, (mk n h)[i]? = none := fun h => List.getElem?_eq_none (by simp [mk]; omega)
    by_cases e : j = i
    · subst e
      rw [if_pos rfl, if_neg (by simpa [mk] using hi), hl]
    · rw [if_neg e, hl, hl]
theorem mk_congr {n : Nat} {g h : Nat → Nat → Int} (e : ∀ a b, a < n → b < n → g a b = h a b) : mk n g = mk n h := by
  unfold mk
  apply List.map_congr_left
  intro a ha
  apply List.map_congr_left
  intro b hb
  exact e a b (List.mem_range.mp ha) (List.mem_range.mp hb)
/-! the table of a tape -/
def cnt (n : Nat) : Nat → Nat
  | 0 => 0
  | j + 1 => cnt n j + (n - j)
def symF (n : Nat) (tp : Nat → Int) (a b : Nat) : Int := tp (cnt n (min a b) + (max a b - min a b))
/-- what stands before the k-th item of row j -/
def part (n : Nat) (tp : Nat → Int) (j k : Nat) (a b : Nat) : Int := if min a b < j ∨ (min a b = j ∧ max a b < k) then symF n tp a b else 0
theorem part_step {n j k : Nat} {tp : Nat → Int} (hjk : j ≤ k) (a b : Nat) : upd2 (upd2 (part n tp j k) j k (tp (cnt n j + (k - j)))) k j (tp (cnt n j + (k - j))) a b = part n tp j (k + 1) a b := by
  unfold upd2 part
  by_cases e : (a = k ∧ b = j) ∨ (a = j ∧ b = k)
  · have h1 : min a b = j ∧ max a b = k := by omega
    rw [if_pos (show min a b < j ∨ (min a b = j ∧ max a b < k + 1) by omega)]
    have h2 : symF n tp a b = tp (cnt n j + (k - j)) := by unfold symF; rw [h1.1, h1.2]
    rw [h2]
    by_cases e1 : a = k ∧ b = j
    · rw [if_pos e1]
    · rw [if_neg e1]
      rcases e with e | e
      · exact absurd e e1
      · rw [if_pos e]
  · rw [if_neg (fun z => e (.inl z)), if_neg (fun z => e (.inr z))]
    by_cases h : min a b < j ∨ (min a b = j ∧ max a b < k)
    · rw [if_pos h, if_pos (by omega)]
    · rw [if_neg h, if_neg (by omega)]
theorem part_next {n j : Nat} {tp : Nat → Int} (a b : Nat) (ha : a < n) (hb : b < n) : part n tp j n a b = part n tp (j + 1) (j + 1) a b := by
  unfold part
  by_cases h : min a b < j ∨ (min a b = j ∧ max a b < n)
  · rw [if_pos h, if_pos (by omega)]
  · rw [if_neg h, if_neg (by omega)]
theorem part_zero {n : Nat} {tp : Nat → Int} (a b : Nat) : part n tp 0 0 a b = 0 := by
  unfold part
  rw [if_neg (by omega)]
theorem part_row {n j : Nat} {tp : Nat → Int} (a b : Nat) : part n tp j j a b = part n tp j 0 a b := by
  unfold part
  by_cases h : min a b < j ∨ (min a b = j ∧ max a b < j)
  · rw [if_pos h, if_pos (by omega)]
  · rw [if_neg h, if_neg (by omega)]
theorem part_all {n k : Nat} {tp : Nat → Int} (a b : Nat) (ha : a < n) (hb : b < n) : part n tp n k a b = symF n tp a b := by
  unfold part
  rw [if_pos (by omega)]
theorem symF_comm {n : Nat} {tp : Nat → Int} (a b : Nat) : symF n tp a b = symF n tp b a := by
  unfold symF
  rw [Nat.min_comm, Nat.max_comm]
theorem rows_set {st : Sto} {n j k : Nat} {h : Nat → Nat → Int} {v : Int} (hj : j < n) : (st ++ (mk n h).map iL).set (st.length + j) (.lst (((List.range n).map (h j)).set k v |>.map .int)) = st ++ (mk n (upd2 h j k v)).map iL := by
  rw [setA]
  congr 1
  rw [← mk_set]
  exact List.map_set.symm
theorem rows_get {st : Sto} {n j : Nat} {h : Nat → Nat → Int} (hj : j < n) : (st ++ (mk n h).map iL)[st.length + j]? = some (iL ((List.range n).map (h j))) := by
  rw [getA, List.getElem?_map, mk_get hj]; rfl
theorem zeros_row {n : Nat} : List.replicate n (0 : Int) = (List.range n).map fun _ => 0 := by
  apply List.ext_getElem?
  intro i
  by_cases hi : i < n
  · rw [row_get hi, List.getElem?_replicate, if_pos hi]
  · rw [List.getElem?_eq_none (by simp; omega), List.getElem?_eq_none (by simp; omega)]
def locs (s n : Nat) : List D := (List.range n).map fun j => .loc (s + j)
theorem locs_get {s n j : Nat} (hj : j < n) : (locs s n)[j]? = some (.loc (s + j)) := by
  unfold locs
  rw [List.getElem?_map, List.getElem?_range hj]; rfl
/-! from_tape -/
def b_from_tape : List SS := [.set (.nm 3) (.lc false (.bin .mul true (.lst false [(.con (.int 0))]) (.bin .add false (.var 1) (.con (.int 1)))) (.nm 5) (.rng1 (.bin .add false (.var 1) (.con (.int 1)))) none [5]),
  .set (.nm 4) (.con (.int 0)),
  .for_ (.nm 5) (.rng1 (.bin .add false (.var 1) (.con (.int 1)))) [.for_ (.nm 6) (.rng2 (.var 5) (.bin .add false (.var 1) (.con (.int 1)))) [.set (.nm 7) (.ifx (.cmp .lt (.var 4) (.blt .len false [(.var 2)])) (.bin .mod false (.idx (.var 2) (.var 4)) (.var 0)) (.con (.int 0))),
  .set (.sub (.idx (.var 3) (.var 5)) (.var 6)) (.var 7),
  .set (.sub (.idx (.var 3) (.var 6)) (.var 5)) (.var 7),
  .aug 4 .add (.con (.int 1))]],
  .ret (.blt .tuple false [(.lc false (.blt .tuple false [(.var 8)]) (.nm 8) (.seq (.var 3)) none [8])])]
def tpF (p : Int) (tape : List Int) (x : Nat) : Int := if x < tape.length then tape.getD x 0 % p else 0
def f_from_tape : Fn := fun ds st Q => match ds with
  | [.int p, .int t, .tup xs] => ∃ tape : List Int, xs = tape.map .int ∧ (0 < p ∧ 0 ≤ t ∧ t ≤ 100) ∧ Q (.tup ((mk (t.toNat + 1) (symF (t.toNat + 1) (tpF p tape))).map iT)) st
  | _ => False
theorem m_from_tape : MonoFn f_from_tape := fun vs st Q Q' h q => by
  unfold f_from_tape at *
  split at q
  · obtain ⟨f, h1, h2, q⟩ := q
    exact ⟨f, h1, h2, h _ _ q⟩
  · exact q
/-- rows of zeros, each an object of its own -/
theorem new_rows {Φ : Fns} (hΦ : ∀ f, MonoFn (Φ f)) {i0 i1 n : Nat} {env : Ev} {keep : Sto → Prop} {Q : List D → Sto → Prop} {u v} {st : Sto} (hk : ∀ s, keep s) (hn : n ≤ 1000) (he : env[i1]? = some (some (.int ((n : Int) - 1)))) (hne : i0 ≠ i1)
    (h : Q (locs st.length n) (st ++ (mk n (fun _ _ => 0)).map iL)) :
    xlc Φ (.bin .mul true (.lst false [(.con (.int 0))]) (.bin .add false (.var i1) (.con (.int 1)))) (.nm i0) none env keep Q u v (rngL 0 n 1) [] st := by
  have hz := sizeLine_ge
  refine lc_inv hΦ (fun i a s => a = locs st.length i ∧ s = st ++ (List.replicate i (iL (List.replicate n 0)))) ⟨rfl, by simp⟩ (by rw [rngL_len]; simp; omega) (fun _ _ s _ _ => hk s) ?_ ?_
  · rintro i x a s hx ⟨rfl, rfl⟩
    obtain ⟨hi, rfl⟩ := rngL_at hx
    have he' : (env.set i0 (some (D.int (0 + (i : Int) * 1))))[i1]? = some (some (.int ((n : Int) - 1))) := by
      rw [List.getElem?_set_ne hne]; exact he
    nomatch he'
    refine xand_mk (by omega) fun _ => ?_
    nomatch he'
    have hm : ((n : Int) - 1 + 1).toNat = n := by omega
    refine xand_mk (by rw [hm]; omega) fun _ => ?_
    rw [hm, zeros_flat]
    simp_wf
    refine ⟨?_, ?_⟩
    · unfold locs
      rw [List.range_succ, List.map_append, List.length_replicate]; rfl
    · rw [List.replicate_succ']
  · rintro a s ⟨rfl, rfl⟩
    rw [rngL_len]
    have : List.replicate n (iL (List.replicate n 0)) = (mk n (fun _ _ => 0)).map iL := by
      rw [zeros_row]
      apply List.ext_getElem?
      intro i
      by_cases hi : i < n
      · rw [List.getElem?_replicate, if_pos hi, List.getElem?_map, mk_get hi]; rfl
      · rw [List.getElem?_eq_none (by simp; omega), List.getElem?_eq_none (by simp [mk]; omega)]
    rw [this]
    exact h
theorem rows_tup {Φ : Fns} (hΦ : ∀ f, MonoFn (Φ f)) {i0 n : Nat} {env : Ev} {keep : Sto → Prop} {Q : List D → Sto → Prop} {u v} {st : Sto} {h : Nat → Nat → Int} (hn : n ≤ 1000) (hi0 : i0 < env.length) (hk : keep (st ++ (mk n h).map iL)) (q : Q ((mk n h).map iT) (st ++ (mk n h).map iL)) :
    xlc Φ (.blt .tuple false [(.var i0)]) (.nm i0) none env keep Q u v (locs st.length n) [] (st ++ (mk n h).map iL) := by
  have hz := sizeLine_ge
  refine lc_mapT hΦ (l := List.range n) (enc := fun j => D.loc (st.length + j)) (g := fun j => iT ((List.range n).map (h j))) (β := Int) (by simp; omega) hk (fun j hj => ?_) ?_
  · have hj := List.mem_range.mp hj
    simp_wf
    rw [List.getElem?_set_self hi0]
    nomatch mk_get hj
    exact ⟨rfl, rfl⟩
  · rw [List.nil_append, show (List.range n).map (fun j => iT ((List.range n).map (h j))) = (mk n h).map iT by unfold mk; rw [List.map_map]; rfl]
    exact q

theorem rowset {n j k : Nat} {h : Nat → Nat → Int} {v : Int} : ((mk n h).map iL).set j (.lst ((((List.range n).map (h j)).map .int).set k (.int v))) = (mk n (upd2 h j k v)).map iL := by
  rw [set_ints, ← mk_set]
  exact List.map_set.symm
theorem o_from_tape {Φ : Fns} (hΦ : ∀ f, MonoFn (Φ f)) {ds : List D} {st : Sto} {Q : Kd} (hst : ∀ d ∈ st, Cl st.length d) (h : f_from_tape ds st Q) : xBody Φ b_from_tape st.length Q ⟨⟩ (ds.map some ++ List.replicate (9 - 3) none) st := by
  unfold f_from_tape at h
  split at h
  · rename_i p t xs
    obtain ⟨tape, rfl, ⟨hp, ht, ht2⟩, q⟩ := h
    have hz := sizeLine_ge
    obtain ⟨n, hn⟩ : ∃ n, n = t.toNat + 1 := ⟨_, rfl⟩
    have hnt : t = (n : Int) - 1 := by omega
    rw [← hn] at q
    have hn1 : n ≤ 101 := by omega
    subst hnt
    have hnn : ((n : Int) - 1 + 1).toNat = n := by omega
    unfold b_from_tape
    simp_wf
    refine xand_mk (by omega) fun _ => ?_
    rw [hnn]
    refine new_rows hΦ (fun _ => trivial) (by omega) rfl (by decide) ?_
    simp_wf
    refine xand_mk (by omega) fun _ => ?_
    rw [hnn]
    refine for_inv hΦ (fun j e s => ∃ x5 x6 x7, e = [some (.int p), some (.int ((n : Int) - 1)), some (.tup (tape.map .int)), some (.lst (locs st.length n)), some (.int (cnt n j : Nat)), x5, x6, x7, none] ∧ s = st ++ (mk n (part n (tpF p tape) j j)).map iL) ⟨none, none, none, rfl, ?_⟩ (fun i e s _ h => trivial) ?_ ?_
    · rw [mk_congr fun a b _ _ => part_zero a b]
    · rintro j c e s hc ⟨x5, x6, x7, rfl, rfl⟩
      obtain ⟨hj, rfl⟩ := rngL_at hc
      rw [show (0 + (j : Int) * 1) = (j : Int) by omega]
      simp_wf
      refine xand_mk (by omega) fun _ => ?_
      rw [show ((n : Int) - 1 + 1 - (j : Int)).toNat = n - j by omega]
      refine for_inv hΦ (fun i e s => ∃ x6 x7, e = [some (.int p), some (.int ((n : Int) - 1)), some (.tup (tape.map .int)), some (.lst (locs st.length n)), some (.int ((cnt n j + i : Nat) : Int)), some (.int j), x6, x7, none] ∧ s = st ++ (mk n (part n (tpF p tape) j (j + i))).map iL) ⟨x6, x7, rfl, rfl⟩ (fun i e s _ h => trivial) ?_ ?_
      · rintro i c e s hc ⟨x6, x7, rfl, rfl⟩
        obtain ⟨hi, rfl⟩ := rngL_at hc
        rw [show ((j : Int) + (i : Int) * 1) = ((j + i : Nat) : Int) by omega]
        have hk : j + i < n := by omega
        simp_wf
        refine ifx_join hΦ (fun d s => d = .int (tpF p tape (cnt n j + i)) ∧ s = st ++ (mk n (part n (tpF p tape) j (j + i))).map iL) (fun hc => ?_) (fun hc => ?_) ?_
        · have hc : cnt n j + i < tape.length := by have := of_decide_eq_true hc; omega
          nomatch getD_of hc
          refine xand_mk hp fun _ => ?_
          refine ⟨?_, rfl⟩
          unfold tpF
          rw [if_pos hc]
        · have hc : ¬ cnt n j + i < tape.length := by have := of_decide_eq_false hc; omega
          simp_wf
          refine ⟨?_, rfl⟩
          unfold tpF
          rw [if_neg hc]
        · rintro d s ⟨rfl, rfl⟩
          nomatch locs_get hj, locs_get hk, mk_get hj, mk_get hk, hj, hk, rowset
          rw [show (((cnt n j + i : Nat) : Int) + 1) = ((cnt n j + (i + 1) : Nat) : Int) by omega]
          refine ⟨_, _, rfl, ?_⟩
          have this := mk_congr (n := n) (fun a b _ _ => part_step (n := n) (tp := tpF p tape) (show j ≤ j + i by omega) a b)
          rw [Nat.add_sub_cancel_left] at this
          rw [this]
          rfl
      · rintro e s ⟨x6, x7, rfl, rfl⟩
        rw [rngL_len]
        simp_wf
        rw [show j + (n - j) = n by omega, mk_congr fun a b ha hb => part_next a b ha hb]
        exact ⟨_, _, _, rfl, rfl⟩
    · rintro e s ⟨x5, x6, x7, rfl, rfl⟩
      rw [rngL_len, mk_congr fun a b ha hb => part_all a b ha hb]
      simp_wf
      refine rows_tup hΦ (by omega) (by simp) rfl ?_
      simp_wf
      refine fin_cut hst takeA (cl_tup fun d hd => ?_) q
      obtain ⟨r, _, rfl⟩ := List.mem_map.mp hd
      exact cl_tup cl_ints
  · exact h.elim
theorem xK_from_tape {Φ : Fns} {i : Nat} {p t : Int} {tape : List Int} {st : Sto} {Q : Kd} {u} (hi : Φ i = f_from_tape) (h1 : 0 < p ∧ 0 ≤ t ∧ t ≤ 100) (h : Q (.tup ((mk (t.toNat + 1) (symF (t.toNat + 1) (tpF p tape))).map iT)) st) : xK Φ i [.int p, .int t, .tup (tape.map .int)] st Q u := by
  unfold xK
  rw [hi]
  exact ⟨tape, rfl, h1, h⟩
/-! row, value_at -/
def b_row (iV iT : Nat) : List SS := [.set (.nm 3) (.lst true []),
  .for_ (.nm 4) (.rng1 (.blt .len false [(.var 1)])) [.expr (.mth .append (.var 3) [(.call iV [(.var 0), (.blt .tuple false [(.lc false (.idx (.idx (.var 1) (.var 5)) (.var 4)) (.nm 5) (.rng1 (.blt .len false [(.var 1)])) none [5])]), (.var 2)])])],
  .ret (.call iT [(.var 0), (.var 3)])]
def colV (p : Int) (n : Nat) (h : Nat → Nat → Int) (i : Int) (k : Nat) : Int := pe ((List.range n).map fun j => h j k) i % p
def rowL (p : Int) (n : Nat) (h : Nat → Nat → Int) (i : Int) : List Int := (List.range n).map (colV p n h i)
def f_row : Fn := fun ds st Q => match ds with
  | [.int p, .tup xs, .int i] => ∃ (n : Nat) (h : Nat → Nat → Int), xs = (mk n h).map iT ∧ (0 < p ∧ p < 2 ^ 64 ∧ n ≤ 1000 ∧ i.natAbs < 2 ^ 64) ∧ Q (iT (trim p (rowL p n h i))) st
  | _ => False
theorem m_row : MonoFn f_row := fun vs st Q Q' h q => by
  unfold f_row at *
  split at q
  · obtain ⟨f, g, h1, h2, q⟩ := q
    exact ⟨f, g, h1, h2, h _ _ q⟩
  · exact q
theorem mk_len {n : Nat} {h : Nat → Nat → Int} : (mk n h).length = n := by simp [mk]
theorem o_row {Φ : Fns} (hΦ : ∀ f, MonoFn (Φ f)) {iV iT : Nat} (hV : Φ iV = f_value) (hT : Φ iT = f_trimmed) {ds : List D} {st : Sto} {Q : Kd} (hst : ∀ d ∈ st, Cl st.length d) (h : f_row ds st Q) : xBody Φ (b_row iV iT) st.length Q ⟨⟩ (ds.map some ++ List.replicate (6 - 3) none) st := by
  unfold f_row at h
  split at h
  · rename_i p xs i
    obtain ⟨n, M, rfl, ⟨hp, hp2, hn, hi⟩, q⟩ := h
    have hz := sizeLine_ge
    unfold b_row
    nomatch mk_len
    refine xand_mk (by omega) fun _ => ?_
    nomatch mk_len
    refine xand_mk (by omega) fun _ => ?_
    rw [show ((n : Int)).toNat = n by omega]
    refine for_inv hΦ (fun k e s => ∃ x4, e = [some (.int p), some (.tup ((mk n M).map MI.iT)), some (.int i), some (.loc st.length), x4, none] ∧ s = st ++ [iL ((List.range k).map (colV p n M i))]) ⟨none, rfl, rfl⟩ (fun i e s _ h => trivial) ?_ ?_
    · rintro k c e s hc ⟨x4, rfl, rfl⟩
      obtain ⟨hk, rfl⟩ := rngL_at hc
      rw [show (0 + (k : Int) * 1) = (k : Int) by omega]
      nomatch mk_len
      refine xand_mk (by omega) fun _ => ?_
      rw [show ((n : Int)).toNat = n by omega]
      refine lc_mapT hΦ (l := List.range n) (enc := fun j : Nat => D.int (0 + (j : Int) * 1)) (g := fun j : Nat => D.int (M j k)) (β := Int) (by simp; omega) trivial (fun j hj => ?_) ?_
      · have hj := List.mem_range.mp hj
        rw [show (0 + (j : Int) * 1) = (j : Int) by omega]
        nomatch mk_get hj, List.getElem?_range hk
        exact ⟨rfl, rfl⟩
      · simp_wf
        rw [show (List.range n).map (fun j : Nat => D.int (M j k)) = ((List.range n).map fun j => M j k).map .int by rw [List.map_map]; rfl]
        refine xK_value hV ⟨hp, hp2, hi⟩ ?_
        simp_wf
        refine xand_mk (by omega) fun _ => ?_
        simp_wf
        refine ⟨_, rfl, ?_⟩
        rw [List.range_succ, List.map_append, iL, List.map_append]; rfl
    · rintro e s ⟨x4, rfl, rfl⟩
      rw [rngL_len]
      simp_wf
      refine xK_trimmed hT (f := rowL p n M i) ?_ ⟨hp, by simp [rowL]; omega⟩ ?_
      · simp_wf
        rfl
      · exact fin_cut hst takeA (cl_tup cl_ints) q
  · exact h.elim
theorem xK_row {Φ : Fns} {ix : Nat} {p i : Int} {n : Nat} {M : Nat → Nat → Int} {st : Sto} {Q : Kd} {u} (hi : Φ ix = f_row) (h1 : 0 < p ∧ p < 2 ^ 64 ∧ n ≤ 1000 ∧ i.natAbs < 2 ^ 64) (h : Q (iT (trim p (rowL p n M i))) st) : xK Φ ix [.int p, .tup ((mk n M).map iT), .int i] st Q u := by
  unfold xK
  rw [hi]
  exact ⟨n, M, rfl, h1, h⟩
def b_value_at (iV iR : Nat) : List SS := [.ret (.call iV [(.var 0), (.call iR [(.var 0), (.var 1), (.var 2)]), (.var 3)])]
def f_value_at : Fn := fun ds st Q => match ds with
  | [.int p, .tup xs, .int i, .int j] => ∃ (n : Nat) (h : Nat → Nat → Int), xs = (mk n h).map iT ∧ (0 < p ∧ p < 2 ^ 64 ∧ n ≤ 1000 ∧ i.natAbs < 2 ^ 64 ∧ j.natAbs < 2 ^ 64) ∧ Q (.int (pe (trim p (rowL p n h i)) j % p)) st
  | _ => False
theorem m_value_at : MonoFn f_value_at := fun vs st Q Q' h q => by
  unfold f_value_at at *
  split at q
  · obtain ⟨f, g, h1, h2, q⟩ := q
    exact ⟨f, g, h1, h2, h _ _ q⟩
  · exact q
theorem o_value_at {Φ : Fns} (hΦ : ∀ f, MonoFn (Φ f)) {iV iR : Nat} (hV : Φ iV = f_value) (hR : Φ iR = f_row) {ds : List D} {st : Sto} {Q : Kd} (h : f_value_at ds st Q) : xBody Φ (b_value_at iV iR) st.length Q ⟨⟩ (ds.map some ++ List.replicate (4 - 4) none) st := by
  unfold f_value_at at h
  split at h
  · rename_i p xs i j
    obtain ⟨n, M, rfl, ⟨hp, hp2, hn, hi, hj⟩, q⟩ := h
    unfold b_value_at
    simp_wf
    refine xK_row hR ⟨hp, hp2, hn, hi⟩ ?_
    simp_wf
    refine xK_value hV ⟨hp, hp2, hj⟩ ?_
    exact fin_q q
  · exact h.elim
theorem xK_value_at {Φ : Fns} {ix : Nat} {p i j : Int} {n : Nat} {M : Nat → Nat → Int} {st : Sto} {Q : Kd} {u} (hi : Φ ix = f_value_at) (h1 : 0 < p ∧ p < 2 ^ 64 ∧ n ≤ 1000 ∧ i.natAbs < 2 ^ 64 ∧ j.natAbs < 2 ^ 64) (h : Q (.int (pe (trim p (rowL p n M i)) j % p)) st) : xK Φ ix [.int p, .tup ((mk n M).map iT), .int i, .int j] st Q u := by
  unfold xK
  rw [hi]
  exact ⟨n, M, rfl, h1, h⟩

/-! the law's own tables -/
def b_lmany : List SS := [.ret (.bin .fdiv false (.bin .mul false (.bin .add false (.idx (.var 0) (.con (.int 2))) (.con (.int 1))) (.bin .add false (.idx (.var 0) (.con (.int 2))) (.con (.int 2)))) (.con (.int 2)))]
def manyF (t : Int) : Int := (t + 1) * (t + 2) / 2
def f_lmany : Fn := fun ds st Q => match ds with
  | [.tup [_, _, .int t, _]] => (0 ≤ t ∧ t ≤ 1000) ∧ Q (.int (manyF t)) st
  | _ => False
theorem m_lmany : MonoFn f_lmany := fun vs st Q Q' h q => by
  unfold f_lmany at *
  split at q
  · exact ⟨q.1, h _ _ q.2⟩
  · exact q
theorem o_lmany {Φ : Fns} (hΦ : ∀ f, MonoFn (Φ f)) {ds : List D} {st : Sto} {Q : Kd} (h : f_lmany ds st Q) : xBody Φ b_lmany st.length Q ⟨⟩ (ds.map some ++ List.replicate (1 - 1) none) st := by
  unfold f_lmany at h
  split at h
  · rename_i a b t d
    obtain ⟨ht, q⟩ := h
    unfold b_lmany
    simp_wf
    refine xand_mk (cmul64 (by omega) (by omega)) fun _ => ?_
    simp_wf
    refine xand_mk (cdivW (by decide) (by decide)) fun _ => ?_
    exact fin_q q
  · exact h.elim
theorem xK_lmany {Φ : Fns} {i : Nat} {a b d : D} {t : Int} {st : Sto} {Q : Kd} {u} (hi : Φ i = f_lmany) (h1 : 0 ≤ t ∧ t ≤ 1000) (h : Q (.int (manyF t)) st) : xK Φ i [.tup [a, b, .int t, d]] st Q u := by
  unfold xK
  rw [hi]
  exact ⟨h1, h⟩
theorem many_range {t : Int} (h : 0 ≤ t ∧ t ≤ 1000) : 0 ≤ manyF t ∧ manyF t < 2000000 := by
  unfold manyF
  have h1 : 0 ≤ (t + 1) * (t + 2) := Int.mul_nonneg (by omega) (by omega)
  have h2 : (t + 1) * (t + 2) ≤ 1001 * 1002 := Int.mul_le_mul (by omega) (by omega) (by omega) (by omega)
  omega
def b_ltable (iM : Nat) : List SS := [.set (.tup [(.nm 3), (.nm 4), (.nm 5), (.nm 6)]) (.var 0),
  .set (.nm 7) (.lc false (.bin .mul true (.lst false [(.con (.int 0))]) (.bin .add false (.var 5) (.con (.int 1)))) (.nm 9) (.rng1 (.bin .add false (.var 5) (.con (.int 1)))) none [9]),
  .set (.nm 8) (.bin .mul false (.var 2) (.call iM [(.var 0)])),
  .for_ (.nm 9) (.rng1 (.bin .add false (.var 5) (.con (.int 1)))) [.for_ (.nm 10) (.rng2 (.var 9) (.bin .add false (.var 5) (.con (.int 1)))) [.ite (.cmp .lt (.var 8) (.blt .len false [(.var 1)])) [.set (.sub (.idx (.var 7) (.var 9)) (.var 10)) (.idx (.var 1) (.var 8)),
  .set (.sub (.idx (.var 7) (.var 10)) (.var 9)) (.idx (.var 1) (.var 8))] [],
  .set (.nm 8) (.bin .add false (.var 8) (.con (.int 1)))]],
  .ret (.var 7)]
def tpA (A : Nat) (tape : List Int) (x : Nat) : Int := tape.getD (A + x) 0
def f_ltable : Fn := fun ds st Q => match ds with
  | [.tup [.int p, .int m1, .int t, .int m2], .tup xs, .int a] => ∃ tape : List Int, xs = tape.map .int ∧ (0 ≤ t ∧ t ≤ 100 ∧ 0 ≤ a ∧ a ≤ 1000) ∧
      Q (.lst (locs st.length (t.toNat + 1))) (st ++ (mk (t.toNat + 1) (symF (t.toNat + 1) (tpA (a * manyF t).toNat tape))).map iL)
  | _ => False
theorem m_ltable : MonoFn f_ltable := fun vs st Q Q' h q => by
  unfold f_ltable at *
  split at q
  · obtain ⟨f, h1, h2, q⟩ := q
    exact ⟨f, h1, h2, h _ _ q⟩
  · exact q
theorem part_same {n j k : Nat} {tp : Nat → Int} (hjk : j ≤ k) (h0 : tp (cnt n j + (k - j)) = 0) (a b : Nat) : part n tp j k a b = part n tp j (k + 1) a b := by
  unfold part
  by_cases h : min a b < j ∨ (min a b = j ∧ max a b < k)
  · rw [if_pos h, if_pos (by omega)]
  · rw [if_neg h]
    by_cases h2 : min a b < j ∨ (min a b = j ∧ max a b < k + 1)
    · rw [if_pos h2]
      have h1 : min a b = j ∧ max a b = k := by omega
      unfold symF
      rw [h1.1, h1.2, h0]
    · rw [if_neg h2]
theorem o_ltable {Φ : Fns} (hΦ : ∀ f, MonoFn (Φ f)) {iM : Nat} (hM : Φ iM = f_lmany) {ds : List D} {st : Sto} {Q : Kd} (h : f_ltable ds st Q) : xBody Φ (b_ltable iM) st.length Q ⟨⟩ (ds.map some ++ List.replicate (11 - 3) none) st := by
  unfold f_ltable at h
  split at h
  · rename_i p m1 t m2 xs a
    obtain ⟨tape, rfl, ⟨ht, ht2, ha, ha2⟩, q⟩ := h
    have hz := sizeLine_ge
    obtain ⟨n, hn⟩ : ∃ n, n = t.toNat + 1 := ⟨_, rfl⟩
    have hmr := many_range (t := t) ⟨ht, by omega⟩
    obtain ⟨A, hA⟩ : ∃ A, A = (a * manyF t).toNat := ⟨_, rfl⟩
    have hA0 : 0 ≤ a * manyF t := Int.mul_nonneg ha hmr.1
    have hA1 : a * manyF t = (A : Int) := by omega
    rw [← hn, ← hA] at q
    have hn1 : n ≤ 101 := by omega
    have hnt : t = (n : Int) - 1 := by omega
    have hnn : (t + 1).toNat = n := by omega
    unfold b_ltable
    simp_wf
    refine xand_mk (by omega) fun _ => ?_
    rw [hnn]
    refine new_rows hΦ (fun _ => trivial) (by omega) (i1 := 5) (by rw [hnt]; rfl) (by decide) ?_
    simp_wf
    refine xK_lmany hM (by omega) ?_
    simp_wf
    refine xand_mk (cmul64 (by omega) (by omega)) fun _ => ?_
    simp_wf
    refine xand_mk (by omega) fun _ => ?_
    rw [hnn, hA1]
    refine for_inv hΦ (fun j e s => ∃ x9 x10, e = [some (.tup [.int p, .int m1, .int t, .int m2]), some (.tup (tape.map .int)), some (.int a), some (.int p), some (.int m1), some (.int t), some (.int m2), some (.lst (locs st.length n)), some (.int ((A + cnt n j : Nat) : Int)), x9, x10] ∧ s = st ++ (mk n (part n (tpA A tape) j j)).map iL) ⟨none, none, rfl, ?_⟩ (fun i e s _ h => trivial) ?_ ?_
    · rw [mk_congr fun a b _ _ => part_zero a b]
    · rintro j c e s hc ⟨x9, x10, rfl, rfl⟩
      obtain ⟨hj, rfl⟩ := rngL_at hc
      rw [show (0 + (j : Int) * 1) = (j : Int) by omega]
      simp_wf
      refine xand_mk (by omega) fun _ => ?_
      rw [show (t + 1 - (j : Int)).toNat = n - j by omega]
      refine for_inv hΦ (fun i e s => ∃ x10, e = [some (.tup [.int p, .int m1, .int t, .int m2]), some (.tup (tape.map .int)), some (.int a), some (.int p), some (.int m1), some (.int t), some (.int m2), some (.lst (locs st.length n)), some (.int ((A + (cnt n j + i) : Nat) : Int)), some (.int j), x10] ∧ s = st ++ (mk n (part n (tpA A tape) j (j + i))).map iL) ⟨x10, rfl, rfl⟩ (fun i e s _ h => trivial) ?_ ?_
      · rintro i c e s hc ⟨x10, rfl, rfl⟩
        obtain ⟨hi, rfl⟩ := rngL_at hc
        rw [show ((j : Int) + (i : Int) * 1) = ((j + i : Nat) : Int) by omega]
        have hk : j + i < n := by omega
        simp_wf
        refine ite_join hΦ (fun e s => e = [some (.tup [.int p, .int m1, .int t, .int m2]), some (.tup (tape.map .int)), some (.int a), some (.int p), some (.int m1), some (.int t), some (.int m2), some (.lst (locs st.length n)), some (.int ((A + (cnt n j + i) : Nat) : Int)), some (.int j), some (.int ((j + i : Nat) : Int))] ∧ s = st ++ (mk n (part n (tpA A tape) j (j + i + 1))).map iL) (fun hc => ?_) (fun hc => ?_) ?_
        · have hc : A + (cnt n j + i) < tape.length := by have := of_decide_eq_true hc; omega
          nomatch getD_of hc, locs_get hj, locs_get hk, mk_get hj, mk_get hk, hj, hk, rowset
          have this := mk_congr (n := n) (fun a b _ _ => part_step (n := n) (tp := tpA A tape) (show j ≤ j + i by omega) a b)
          rw [Nat.add_sub_cancel_left] at this
          rw [← this]
          exact ⟨rfl, rfl⟩
        · have hc : ¬ A + (cnt n j + i) < tape.length := by have := of_decide_eq_false hc; omega
          simp_wf
          rw [← mk_congr (n := n) fun a b _ _ => part_same (tp := tpA A tape) (show j ≤ j + i by omega) (by
            rw [Nat.add_sub_cancel_left]
            unfold tpA
            rw [List.getD_eq_getElem?_getD, List.getElem?_eq_none (by omega)]; rfl) a b]
          exact ⟨rfl, rfl⟩
        · rintro e s ⟨rfl, rfl⟩
          simp_wf
          rw [show (((A + (cnt n j + i) : Nat) : Int) + 1) = ((A + (cnt n j + (i + 1)) : Nat) : Int) by omega]
          exact ⟨_, rfl, rfl⟩
      · rintro e s ⟨x10, rfl, rfl⟩
        rw [rngL_len]
        simp_wf
        rw [show j + (n - j) = n by omega, mk_congr fun a b ha hb => part_next a b ha hb]
        exact ⟨_, _, rfl, rfl⟩
    · rintro e s ⟨x9, x10, rfl, rfl⟩
      rw [rngL_len, mk_congr fun a b ha hb => part_all a b ha hb]
      simp_wf
      exact fin_q q
  · exact h.elim
theorem xK_ltable {Φ : Fns} {i : Nat} {p m1 t m2 a : Int} {tape : List Int} {st : Sto} {Q : Kd} {u} (hi : Φ i = f_ltable) (h1 : 0 ≤ t ∧ t ≤ 100 ∧ 0 ≤ a ∧ a ≤ 1000)
    (h : Q (.lst (locs st.length (t.toNat + 1))) (st ++ (mk (t.toNat + 1) (symF (t.toNat + 1) (tpA (a * manyF t).toNat tape))).map iL)) : xK Φ i [.tup [.int p, .int m1, .int t, .int m2], .tup (tape.map .int), .int a] st Q u := by
  unfold xK
  rw [hi]
  exact ⟨tape, rfl, h1, h⟩
def b_lrow (iV : Nat) : List SS := [.ret (.lc true (.call iV [(.var 0), (.lc false (.idx (.idx (.var 1) (.var 4)) (.var 3)) (.nm 4) (.rng1 (.blt .len false [(.var 1)])) none [4]), (.var 2)]) (.nm 3) (.rng1 (.blt .len false [(.var 1)])) none [3])]
def f_lrow : Fn := fun ds st Q => match ds with
  | [.int p, .lst xs, .int i] => ∃ (s n : Nat) (M : Nat → Nat → Int), xs = locs s n ∧ (∀ j, j < n → st[s + j]? = some (iL ((List.range n).map (M j)))) ∧ (0 < p ∧ p < 2 ^ 64 ∧ n ≤ 1000 ∧ i.natAbs < 2 ^ 64) ∧ Q (.loc st.length) (st ++ [iL (rowL p n M i)])
  | _ => False
theorem m_lrow : MonoFn f_lrow := fun vs st Q Q' h q => by
  unfold f_lrow at *
  split at q
  · obtain ⟨s, n, M, h1, h2, h3, q⟩ := q
    exact ⟨s, n, M, h1, h2, h3, h _ _ q⟩
  · exact q
theorem locs_len {s n : Nat} : (locs s n).length = n := by simp [locs]
theorem o_lrow {Φ : Fns} (hΦ : ∀ f, MonoFn (Φ f)) {iV : Nat} (hV : Φ iV = f_lvalue) {ds : List D} {st : Sto} {Q : Kd} (h : f_lrow ds st Q) : xBody Φ (b_lrow iV) st.length Q ⟨⟩ (ds.map some ++ List.replicate (5 - 3) none) st := by
  unfold f_lrow at h
  split at h
  · rename_i p xs i
    obtain ⟨s, n, M, rfl, hrow, ⟨hp, hp2, hn, hi⟩, q⟩ := h
    have hz := sizeLine_ge
    unfold b_lrow
    nomatch locs_len
    refine xand_mk (by omega) fun _ => ?_
    rw [show ((n : Int)).toNat = n by omega]
    refine lc_mapT hΦ (l := List.range n) (enc := fun j : Nat => D.int (0 + (j : Int) * 1)) (g := fun k : Nat => D.int (colV p n M i k)) (β := Int) (by simp; omega) trivial (fun k hk => ?_) ?_
    · have hk := List.mem_range.mp hk
      rw [show (0 + (k : Int) * 1) = (k : Int) by omega]
      nomatch locs_len
      refine xand_mk (by omega) fun _ => ?_
      rw [show ((n : Int)).toNat = n by omega]
      refine lc_mapT hΦ (l := List.range n) (enc := fun j : Nat => D.int (0 + (j : Int) * 1)) (g := fun j : Nat => D.int (M j k)) (β := Int) (by simp; omega) trivial (fun j hj => ?_) ?_
      · have hj := List.mem_range.mp hj
        rw [show (0 + (j : Int) * 1) = (j : Int) by omega]
        nomatch locs_get hj, hrow j hj, List.getElem?_range hk
        exact ⟨rfl, rfl⟩
      · simp_wf
        rw [show (List.range n).map (fun j : Nat => D.int (M j k)) = ((List.range n).map fun j => M j k).map .int by rw [List.map_map]; rfl]
        refine xK_lvalueL hV ⟨hp, hp2, hi, by simp; omega⟩ ?_
        exact ⟨rfl, rfl⟩
    · simp_wf
      rw [show (List.range n).map (fun k : Nat => D.int (colV p n M i k)) = (rowL p n M i).map .int by unfold rowL; rw [List.map_map]; rfl]
      exact fin_q q
  · exact h.elim
theorem xK_lrow {Φ : Fns} {ix : Nat} {p i : Int} {s n : Nat} {M : Nat → Nat → Int} {st : Sto} {Q : Kd} {u} (hi : Φ ix = f_lrow) (h0 : ∀ j, j < n → st[s + j]? = some (iL ((List.range n).map (M j)))) (h1 : 0 < p ∧ p < 2 ^ 64 ∧ n ≤ 1000 ∧ i.natAbs < 2 ^ 64) (h : Q (.loc st.length) (st ++ [iL (rowL p n M i)])) : xK Φ ix [.int p, .lst (locs s n), .int i] st Q u := by
  unfold xK
  rw [hi]
  exact ⟨s, n, M, rfl, h0, h1, h⟩

/-! a polynomial with more roots than its degree -/
def quo : List Int → Int → List Int
  | [], _ => []
  | [_], _ => []
  | _ :: d :: t, r => pe (d :: t) r :: quo (d :: t) r
theorem quo_len : ∀ (h : List Int) (r : Int), (quo h r).length = h.length - 1
  | [], _ => rfl
  | [_], _ => rfl
  | c :: d :: t, r => by
    show (quo (d :: t) r).length + 1 = (d :: t).length + 1 - 1
    rw [quo_len (d :: t) r]
    simp
theorem quo_pe (x r : Int) : ∀ (h : List Int), pe h x = pe (quo h r) x * (x - r) + pe h r
  | [] => by show (0 : Int) = 0 * (x - r) + 0; simp
  | [c] => by show 0 * x + c = 0 * (x - r) + (0 * r + c); simp
  | c :: d :: t => by
    have ih := quo_pe x r (d :: t)
    show pe (d :: t) x * x + c = (pe (quo (d :: t) r) x * x + pe (d :: t) r) * (x - r) + (pe (d :: t) r * r + c)
    rw [ih]; grind
theorem zero_tails {p r : Int} : ∀ (h : List Int), ME p (pe h r) 0 → (∀ q ∈ quo h r, ME p q 0) → ∀ c ∈ h, ME p c 0
  | [], _, _, c, hc => by cases hc
  | [a], h0, _, c, hc => by
    simp at hc
    subst hc
    have : pe [c] r = c := by show 0 * r + c = c; simp
    rwa [this] at h0
  | a :: d :: t, h0, hq, c, hc => by
    have h1 : ME p (pe (d :: t) r) 0 := hq _ List.mem_cons_self
    rcases List.mem_cons.mp hc with rfl | hc
    · have h2 : ME p (pe (d :: t) r * r) 0 := by
        have := h1.mul (ME.refl r)
        rwa [Int.zero_mul] at this
      have h3 := h0.sub h2
      rw [show pe (c :: d :: t) r - pe (d :: t) r * r = c by show pe (d :: t) r * r + c - _ = c; omega] at h3
      exact h3
    · exact zero_tails (d :: t) h1 (fun q hq' => hq q (List.mem_cons_of_mem _ hq')) c hc
theorem cancel {p a b : Int} (hp : ∃ n ∈ primes, p = (n : Int)) (ha : a % p ≠ 0) (h : ME p (b * a) 0) : ME p b 0 := by
  have h1 := inv_ok hp ha
  have h2 := h.mul (ME.refl (inv p a))
  rw [Int.zero_mul, show b * a * inv p a = b * (inv p a * a) by grind] at h2
  have h3 := (ME.refl (p := p) b).mul h1
  rw [Int.mul_one] at h3
  exact h3.symm.trans h2
theorem roots_zero {p : Int} (hp : ∃ n ∈ primes, p = (n : Int)) : ∀ (xs h : List Int), xs.Pairwise (fun a b => (a - b) % p ≠ 0) → h.length ≤ xs.length → (∀ x ∈ xs, ME p (pe h x) 0) → ∀ c ∈ h, ME p c 0
  | [], h, _, hl, _ => by
    have : h = [] := List.eq_nil_of_length_eq_zero (by simpa using hl)
    subst this
    intro c hc; cases hc
  | r :: xs, h, hd, hl, hz => by
    rw [List.pairwise_cons] at hd
    refine zero_tails (r := r) h (hz r List.mem_cons_self) ?_
    refine roots_zero hp xs (quo h r) hd.2 (by rw [quo_len]; rw [List.length_cons] at hl; omega) fun x hx => ?_
    have h1 := hz x (List.mem_cons_of_mem _ hx)
    rw [quo_pe x r h] at h1
    have h2 := h1.sub (hz r List.mem_cons_self)
    rw [show pe (quo h r) x * (x - r) + pe h r - pe h r = pe (quo h r) x * (x - r) by omega, Int.sub_zero] at h2
    refine cancel hp (a := x - r) (fun e => hd.1 x hx ?_) h2
    have : (r - x) % p = 0 := by
      have h3 : p ∣ x - r := Int.dvd_of_emod_eq_zero e
      have h4 : p ∣ r - x := by
        have := Int.dvd_neg.mpr h3
        rwa [show -(x - r) = r - x by omega] at this
      exact Int.emod_eq_zero_of_dvd h4
    exact this
/-- two polynomials without zeros at the end, of at most n parts, alike at n places -/
def canon (p : Int) (f : List Int) : Prop := trimZ f = f ∧ ∀ x ∈ f, 0 ≤ x ∧ x < p
theorem pe_neg {x : Int} (g : List Int) : pe (g.map fun c => -c) x = -pe g x := by
  induction g with
  | nil => rfl
  | cons c r ih =>
    show pe (r.map fun c => -c) x * x + -c = -(pe r x * x + c)
    rw [ih]; grind
theorem getD_eq {p : Int} {f g : List Int} (hf : ∀ x ∈ f, 0 ≤ x ∧ x < p) (hg : ∀ x ∈ g, 0 ≤ x ∧ x < p) (hp : 0 < p) (j : Nat) (h : ME p (f.getD j 0 - g.getD j 0) 0) : f.getD j 0 = g.getD j 0 := by
  have r : ∀ {f : List Int}, (∀ x ∈ f, 0 ≤ x ∧ x < p) → 0 ≤ f.getD j 0 ∧ f.getD j 0 < p := fun {f} hf => by
    by_cases hj : j < f.length
    · exact hf _ (List.mem_of_getElem? (getD_of hj))
    · rw [List.getD_eq_getElem?_getD, List.getElem?_eq_none (by omega)]
      exact ⟨Int.le_refl _, hp⟩
  have h2 := h.add (ME.refl (g.getD j 0))
  rw [Int.zero_add, show f.getD j 0 - g.getD j 0 + g.getD j 0 = f.getD j 0 by omega] at h2
  exact h2.uniq (r hf).1 (r hf).2 (r hg).1 (r hg).2
theorem trimZ_ext : ∀ (f g : List Int), (∀ j, f.getD j 0 = g.getD j 0) → trimZ f = trimZ g
  | [], [], _ => rfl
  | [], b :: g, h => by
    have hb : b = 0 := (h 0).symm
    have := trimZ_ext [] g fun j => by
      have := h (j + 1)
      simpa using this
    unfold trimZ
    rw [← this]
    simp [trimZ, hb]
  | a :: f, [], h => by
    have ha : a = 0 := h 0
    have := trimZ_ext f [] fun j => by
      have := h (j + 1)
      simpa using this
    unfold trimZ
    rw [this]
    simp [trimZ, ha]
  | a :: f, b :: g, h => by
    have hab : a = b := h 0
    have := trimZ_ext f g fun j => by
      have := h (j + 1)
      simpa using this
    unfold trimZ
    rw [this, hab]
theorem same_poly {p : Int} (hp : ∃ n ∈ primes, p = (n : Int)) {xs f g : List Int} (hd : xs.Pairwise (fun a b => (a - b) % p ≠ 0)) (hf : ∀ x ∈ f, 0 ≤ x ∧ x < p) (hg : ∀ x ∈ g, 0 ≤ x ∧ x < p) (hfl : f.length ≤ xs.length) (hgl : g.length ≤ xs.length)
    (h : ∀ x ∈ xs, ME p (pe f x) (pe g x)) : trimZ f = trimZ g := by
  have hb := prime_ge hp
  have hz := roots_zero hp xs (addL f (g.map fun c => -c)) hd (by rw [addL_len, List.length_map]; omega) fun x hx => by
    rw [pe_addL, pe_neg]
    have := (h x hx).sub (ME.refl (pe g x))
    rwa [Int.sub_self, show pe f x - pe g x = pe f x + -pe g x by omega] at this
  refine trimZ_ext f g fun j => getD_eq hf hg (by omega) j ?_
  by_cases hj : j < max f.length g.length
  · have h1 : (addL f (g.map fun c => -c))[j]? = some (f.getD j 0 - g.getD j 0) := by
      rw [addL_get, List.length_map, List.getElem?_map, List.getElem?_range hj]
      have : (g.map fun c => -c).getD j 0 = -g.getD j 0 := by
        rw [List.getD_eq_getElem?_getD, List.getD_eq_getElem?_getD, List.getElem?_map]
        cases g[j]? <;> simp
      simp only [Option.map_some, this]
      rfl
    exact hz _ (List.mem_of_getElem? h1)
  · rw [List.getD_eq_getElem?_getD, List.getD_eq_getElem?_getD, List.getElem?_eq_none (by omega), List.getElem?_eq_none (by omega)]
    exact ME.refl _

/-- items kept or left out -/
theorem lc_mapF {Φ : Fns} (hΦ : ∀ f, MonoFn (Φ f)) {elt : SE} {tg : ST} {c : Option SB} {env : Ev} {keep : Sto → Prop} {Q : List D → Sto → Prop} {α : Type} {l : List α} {enc : α → D} {g : α → Option D} {acc : List D} {u v} {st : Sto}
    (hl : acc.length + l.length ≤ sizeLine) (hk : keep st)
    (hs : ∀ x ∈ l, xG Φ tg (enc x) env st (fun e s => xC Φ c e s (fun k s2 => xite k (fun _ => xE Φ elt e s2 (fun d s3 => xend (fun d s3 => s3 = st ∧ some d = g x) d s3 ⟨⟩) ⟨⟩) (fun _ => xend (fun s2 (_ : Unit) => s2 = st ∧ g x = none) s2 () ⟨⟩) ⟨⟩ ⟨⟩) ⟨⟩) ⟨⟩)
    (he : Q (acc ++ l.filterMap g) st) : xlc Φ elt tg c env keep Q u v (l.map enc) acc st := by
  refine lc_inv hΦ (fun i a s => s = st ∧ a = acc ++ (l.take i).filterMap g) ⟨rfl, by simp⟩ (by simpa using hl) (fun i a s _ h => h.1 ▸ hk) (fun i x a s hx h => ?_) (fun a s h => ?_)
  · obtain ⟨rfl, rfl⟩ := h
    obtain ⟨y, hy, rfl⟩ := map_at hx
    refine wG_mono hΦ tg _ env _ _ _ (fun e s q => wC_mono hΦ c e s _ _ (fun k s2 q => ?_) q) (hs y (List.mem_of_getElem? hy))
    have eq1 : (l.take (i + 1)).filterMap g = (l.take i).filterMap g ++ (g y).toList := by
      rw [List.take_add_one, hy, List.filterMap_append]
      simp only [Option.toList_some, List.filterMap_cons, List.filterMap_nil]
      cases g y <;> rfl
    refine ite_mono (wE_mono hΦ elt e s2 _ _ fun d s3 q' => ?_) (fun q' => ?_) (xite_of q)
    · refine ⟨q'.1, ?_⟩
      rw [eq1, ← q'.2, List.append_assoc]; rfl
    · refine ⟨q'.1, ?_⟩
      rw [eq1, q'.2]; simp
  · obtain ⟨rfl, rfl⟩ := h
    rw [List.length_map, List.take_length]
    exact he
/-! agreeing -/
def b_agreeing (iV : Nat) : List SS := [.ret (.blt .sum false [(.lc false (.con (.int 1)) (.tup [(.nm 3), (.nm 4)]) (.seq (.var 2)) (some (.cmp .eq (.call iV [(.var 0), (.var 1), (.var 3)]) (.bin .mod false (.var 4) (.var 0)))) [3, 4])])]
def agr (p : Int) (f : List Int) (ps : List (Int × Int)) : Nat := ps.countP fun q => pe f q.1 % p == q.2 % p
def f_agreeing : Fn := fun ds st Q => match ds with
  | [.int p, .tup xs, d] => ∃ (f : List Int) (ps : List (Int × Int)), xs = f.map .int ∧ asSeq st d = some (ps.map prD) ∧ (0 < p ∧ p < 2 ^ 64 ∧ ps.length ≤ 1000 ∧ ∀ q ∈ ps, q.1.natAbs < 2 ^ 64) ∧ Q (.int (agr p f ps : Nat)) st
  | _ => False
theorem m_agreeing : MonoFn f_agreeing := fun vs st Q Q' h q => by
  unfold f_agreeing at *
  split at q
  · obtain ⟨f, g, h1, h2, h3, q⟩ := q
    exact ⟨f, g, h1, h2, h3, h _ _ q⟩
  · exact q
theorem ones_map {α : Type} {c : α → Bool} : ∀ (l : List α), l.filterMap (fun x => if c x then some (D.int 1) else none) = (List.replicate (l.countP c) (1 : Int)).map .int
  | [] => rfl
  | x :: r => by
    rw [List.filterMap_cons, List.countP_cons, ones_map r]
    cases c x
    · simp
    · simp [List.replicate_succ]
theorem sum_ones : ∀ (n : Nat), (List.replicate n (1 : Int)).sum = n
  | 0 => rfl
  | n + 1 => by
    rw [List.replicate_succ, List.sum_cons, sum_ones n]; omega
theorem o_agreeing {Φ : Fns} (hΦ : ∀ f, MonoFn (Φ f)) {iV : Nat} (hV : Φ iV = f_value) {ds : List D} {st : Sto} {Q : Kd} (h : f_agreeing ds st Q) : xBody Φ (b_agreeing iV) st.length Q ⟨⟩ (ds.map some ++ List.replicate (5 - 3) none) st := by
  unfold f_agreeing at h
  split at h
  · rename_i p xs d
    obtain ⟨f, ps, rfl, hd, ⟨hp, hp2, hl, hs⟩, q⟩ := h
    have hz := sizeLine_ge
    unfold b_agreeing
    nomatch hd
    refine lc_mapF hΦ (g := fun q : Int × Int => if (pe f q.1 % p == q.2 % p) then some (D.int 1) else none) (by simp; omega) hd (fun q hq => ?_) ?_
    · nomatch prD
      refine xK_value hV ⟨hp, hp2, hs q hq⟩ ?_
      simp_wf
      refine xand_mk hp fun _ => ?_
      simp_wf
      refine xite_mk (fun hc => ?_) (fun hc => ?_)
      · exact ⟨rfl, (if_pos hc).symm⟩
      · exact ⟨rfl, if_neg (by rw [hc]; decide)⟩
    · rw [List.nil_append, ones_map]
      nomatch sum_ones
      exact fin_q q
  · exact h.elim
theorem xK_agreeing {Φ : Fns} {i : Nat} {p : Int} {f : List Int} {d : D} {ps : List (Int × Int)} {st : Sto} {Q : Kd} {u} (hi : Φ i = f_agreeing) (hd : asSeq st d = some (ps.map prD)) (h1 : 0 < p ∧ p < 2 ^ 64 ∧ ps.length ≤ 1000 ∧ ∀ q ∈ ps, q.1.natAbs < 2 ^ 64) (h : Q (.int (agr p f ps : Nat)) st) : xK Φ i [.int p, .tup (f.map .int), d] st Q u := by
  unfold xK
  rw [hi]
  exact ⟨f, ps, rfl, hd, h1, h⟩
/-! subsets -/
def b_subsets : List SS := [.set (.nm 2) (.lst false [(.tup [])]),
  .for_ (.nm 3) (.rng1 (.var 1)) [.set (.nm 2) (.lc2 false (.bin .add false (.var 4) (.tup [(.var 5)])) (.nm 4) (.seq (.var 2)) none (.nm 5) (.rng2 (.ifx (.val (.var 4)) (.bin .add false (.idx (.var 4) (.neg (.con (.int 1)))) (.con (.int 1))) (.con (.int 0))) (.var 0)) none [4, 5] [5])],
  .ret (.var 2)]
def nT (s : List Nat) : D := .tup (s.map fun k : Nat => .int k)
def lo (s : List Nat) : Nat := match s.getLast? with
  | some l => l + 1
  | none => 0
def subE (m : Nat) (s : List Nat) : List (List Nat) := (List.range (m - lo s)).map fun i => s ++ [lo s + i]
def subF (m : Nat) : Nat → List (List Nat)
  | 0 => [[]]
  | k + 1 => (subF m k).flatMap (subE m)
theorem subE_len {m : Nat} (s : List Nat) : (subE m s).length ≤ m := by simp [subE]
theorem flat_len {m : Nat} : ∀ (L : List (List Nat)), (L.flatMap (subE m)).length ≤ L.length * m
  | [] => by simp
  | s :: L => by
    rw [List.flatMap_cons, List.length_append, List.length_cons, Nat.add_mul]
    have := flat_len L (m := m)
    have := subE_len (m := m) s
    omega
theorem subF_len {m : Nat} : ∀ (k : Nat), (subF m k).length ≤ m ^ k
  | 0 => Nat.le_refl _
  | k + 1 => by
    have h1 := flat_len (m := m) (subF m k)
    have h2 := Nat.mul_le_mul_right m (subF_len (m := m) k)
    show ((subF m k).flatMap (subE m)).length ≤ m ^ (k + 1)
    rw [Nat.pow_succ]; omega
/-- what subsets tells: ascending places -/
def asc (m : Nat) : List Nat → Prop := fun s => s.Pairwise (· < ·) ∧ ∀ x ∈ s, x < m
theorem subF_mem {m : Nat} : ∀ {k : Nat} {s : List Nat}, s ∈ subF m k ↔ (s.length = k ∧ asc m s)
  | 0, s => by
    show s ∈ [[]] ↔ _
    constructor
    · intro h
      simp at h; subst h
      exact ⟨rfl, List.Pairwise.nil, fun x hx => by cases hx⟩
    · intro h
      have : s = [] := List.eq_nil_of_length_eq_zero h.1
      subst this; simp
  | k + 1, s => by
    show s ∈ (subF m k).flatMap (subE m) ↔ _
    rw [List.mem_flatMap]
    constructor
    · rintro ⟨t, ht, hs⟩
      obtain ⟨h1, h2, h3⟩ := subF_mem.mp ht
      unfold subE at hs
      obtain ⟨i, hi, rfl⟩ := List.mem_map.mp hs
      have hi := List.mem_range.mp hi
      refine ⟨by simp [h1], ?_, ?_⟩
      · rw [List.pairwise_append]
        refine ⟨h2, by simp, fun a ha b hb => ?_⟩
        simp at hb; subst hb
        rcases List.eq_nil_or_concat t with rfl | ⟨t', z, rfl⟩
        · cases ha
        · have hlo : lo (t'.concat z) = z + 1 := by simp [lo]
          rw [hlo]
          rw [List.concat_eq_append] at ha h2
          rcases List.mem_append.mp ha with ha | ha
          · have := (List.pairwise_append.mp h2).2.2 a ha z (by simp)
            omega
          · simp at ha; omega
      · intro x hx
        rcases List.mem_append.mp hx with hx | hx
        · exact h3 x hx
        · simp at hx; omega
    · rintro ⟨h1, h2, h3⟩
      rcases List.eq_nil_or_concat s with rfl | ⟨t, z, rfl⟩
      · simp at h1
      · rw [List.concat_eq_append] at *
        have hp := List.pairwise_append.mp h2
        refine ⟨t, subF_mem.mpr ⟨by simpa using h1, hp.1, fun x hx => h3 x (List.mem_append_left _ hx)⟩, ?_⟩
        have hz : z < m := h3 z (by simp)
        have hlz : lo t ≤ z := by
          rcases List.eq_nil_or_concat t with rfl | ⟨t', y, rfl⟩
          · exact Nat.zero_le _
          · have hlo : lo (t'.concat y) = y + 1 := by simp [lo]
            rw [hlo]
            exact hp.2.2 y (by simp) z (by simp)
        unfold subE
        exact List.mem_map.mpr ⟨z - lo t, List.mem_range.mpr (by omega), by rw [show lo t + (z - lo t) = z by omega]⟩

def f_subsets : Fn := fun ds st Q => match ds with
  | [.int m, .int k] => (0 ≤ m ∧ 0 ≤ k ∧ m ≤ 1000 ∧ k ≤ 1000 ∧ ∀ i, i ≤ k.toNat → m.toNat ^ i ≤ 100000) ∧ Q (.lst ((subF m.toNat k.toNat).map nT)) st
  | _ => False
theorem m_subsets : MonoFn f_subsets := fun vs st Q Q' h q => by
  unfold f_subsets at *
  split at q
  · exact ⟨q.1, h _ _ q.2⟩
  · exact q
theorem nT_lo {Φ : Fns} {i0 : Nat} {env : Ev} {st : Sto} {s : List Nat} {Q : Kd} {u} (he : env[i0]? = some (some (nT s))) (h : Q (.int (lo s : Nat)) st) :
    xtru (nT s) st (fun c s1 => xite c (fun _ => xE Φ (.bin .add false (.idx (.var i0) (.neg (.con (.int 1)))) (.con (.int 1))) env s1 Q ⟨⟩) (fun _ => xE Φ (.con (.int 0)) env s1 Q ⟨⟩) ⟨⟩ ⟨⟩) u := by
  rcases List.eq_nil_or_concat s with rfl | ⟨t, z, rfl⟩
  · exact h
  · have hlo : lo (t.concat z) = z + 1 := by simp [lo]
    rw [hlo] at h
    have hn : nT (t.concat z) = .tup ((t.map fun k : Nat => D.int k) ++ [D.int z]) := by simp [nT]
    rw [hn] at he ⊢
    have hne : ((t.map fun k : Nat => D.int k) ++ [D.int z]).isEmpty = false := by simp
    nomatch he, atI_m1, hne
    rw [show (((t.map fun k : Nat => D.int k) ++ [D.int z])[t.length + 1 - 1]?) = some (D.int z) by simp]
    simp_wf
    exact h
theorem lo_le {m : Nat} {s : List Nat} (h : asc m s) : lo s ≤ m := by
  rcases List.eq_nil_or_concat s with rfl | ⟨t, z, rfl⟩
  · exact Nat.zero_le _
  · have hlo : lo (t.concat z) = z + 1 := by simp [lo]
    rw [hlo]
    exact h.2 z (by simp)
theorem o_subsets {Φ : Fns} (hΦ : ∀ f, MonoFn (Φ f)) {ds : List D} {st : Sto} {Q : Kd} (h : f_subsets ds st Q) : xBody Φ b_subsets st.length Q ⟨⟩ (ds.map some ++ List.replicate (6 - 2) none) st := by
  unfold f_subsets at h
  split at h
  · rename_i m k
    obtain ⟨⟨hm, hk, hm2, hk2, hb⟩, q⟩ := h
    have hz := sizeLine_ge
    obtain ⟨mn, rfl⟩ : ∃ mn : Nat, m = mn := ⟨m.toNat, by omega⟩
    obtain ⟨kn, rfl⟩ : ∃ kn : Nat, k = kn := ⟨k.toNat, by omega⟩
    rw [Int.toNat_natCast, Int.toNat_natCast] at q
    rw [Int.toNat_natCast, Int.toNat_natCast] at hb
    unfold b_subsets
    simp_wf
    refine xand_mk (by omega) fun _ => ?_
    simp_wf
    refine xand_mk (by omega) fun _ => ?_
    simp_wf
    refine xand_mk (by omega) fun _ => ?_
    rw [Int.toNat_natCast]
    refine for_inv hΦ (fun i e s => ∃ x3, e = [some (.int mn), some (.int kn), some (.lst ((subF mn i).map nT)), x3, none, none] ∧ s = st) ⟨none, rfl, rfl⟩ (fun i e s _ h => trivial) ?_ ?_
    · rintro i c e st' hc ⟨x3, rfl, rfl⟩
      obtain ⟨hi, rfl⟩ := rngL_at hc
      simp_wf
      have hbi := hb (i + 1) (by omega)
      have hlen := subF_len (m := mn) (i + 1)
      refine lc2_inv hΦ (fun j acc s => acc = (((subF mn i).take j).flatMap (subE mn)).map nT ∧ s = st') ⟨rfl, rfl⟩ (fun j a s _ h => ?_) ?_ ?_
      · rw [h.2]; rfl
      · rintro j x acc s hx ⟨rfl, rfl⟩
        obtain ⟨sj, hsj, rfl⟩ := map_at hx
        simp_wf
        refine nT_lo rfl ?_
        simp_wf
        have htl : (((subF mn i).take j).flatMap (subE mn)).length + (mn - lo sj) ≤ (subF mn (i + 1)).length := by
          have e1 : subF mn (i + 1) = ((subF mn i).take j).flatMap (subE mn) ++ (subE mn sj ++ ((subF mn i).drop (j + 1)).flatMap (subE mn)) := by
            show (subF mn i).flatMap (subE mn) = _
            conv => lhs; rw [← List.take_append_drop j (subF mn i)]
            rw [List.flatMap_append]
            congr 1
            have : (subF mn i).drop j = sj :: (subF mn i).drop (j + 1) := by
              have hj := (List.getElem?_eq_some_iff.mp hsj)
              rw [← hj.2]
              exact (List.drop_eq_getElem_cons hj.1)
            rw [this, List.flatMap_cons]
          rw [e1, List.length_append, List.length_append]
          simp [subE]
        have hm1 := subF_mem.mp (List.mem_of_getElem? hsj)
        have hlo := lo_le hm1.2
        refine xand_mk (by omega) fun _ => ?_
        rw [show ((mn : Int) - (lo sj : Int)).toNat = mn - lo sj by omega]
        refine lc_mapT hΦ (l := List.range (mn - lo sj)) (enc := fun a : Nat => D.int ((lo sj : Int) + (a : Int) * 1)) (g := fun a : Nat => nT (sj ++ [lo sj + a])) (β := Int) (by rw [List.length_map, List.length_range]; omega) trivial (fun a ha => ?_) ?_
        · rw [show ((lo sj : Int) + (a : Int) * 1) = ((lo sj + a : Nat) : Int) by omega]
          simp_wf
          refine xand_mk (by omega) fun _ => ?_
          nomatch nT
          refine xand_mk (by omega) fun _ => ?_
          refine ⟨rfl, ?_⟩
          simp [nT]
        · refine ⟨?_, rfl⟩
          rw [List.take_add_one, hsj, List.flatMap_append, List.map_append]
          simp [subE]
      · rintro acc s ⟨rfl, rfl⟩
        rw [List.length_map, List.take_length]
        simp_wf
        exact ⟨_, rfl, rfl⟩
    · rintro e s ⟨x3, rfl, rfl⟩
      rw [rngL_len]
      simp_wf
      exact fin_q q
  · exact h.elim
theorem xK_subsets {Φ : Fns} {i : Nat} {m k : Nat} {st : Sto} {Q : Kd} {u} (hi : Φ i = f_subsets) (h1 : m ≤ 1000 ∧ k ≤ 1000 ∧ ∀ i, i ≤ k → m ^ i ≤ 100000) (h : Q (.lst ((subF m k).map nT)) st) : xK Φ i [.int m, .int k] st Q u := by
  unfold xK
  rw [hi]
  refine ⟨⟨by omega, by omega, by omega, by omega, ?_⟩, h⟩
  rw [Int.toNat_natCast, Int.toNat_natCast]
  exact h1.2.2
/-! decode -/
def b_decode (iI iS iA : Nat) : List SS := [.ite (.cmp .le (.blt .len false [(.var 1)]) (.var 2)) [.ret (.call iI [(.var 0), (.var 1)])] [],
  .for_ (.nm 4) (.seq (.call iS [(.blt .len false [(.var 1)]), (.bin .add false (.var 2) (.con (.int 1)))])) [.set (.nm 5) (.call iI [(.var 0), (.lc false (.idx (.var 1) (.var 6)) (.nm 6) (.seq (.var 4)) none [6])]),
  .ite (.cmp .ge (.call iA [(.var 0), (.var 5), (.var 1)]) (.bin .sub false (.blt .len false [(.var 1)]) (.var 3))) [.ret (.var 5)] []],
  .ret (.con .non)]
def pick (ps : List (Int × Int)) (s : List Nat) : List (Int × Int) := s.map fun k => ps.getD k (0, 0)
def good (p : Int) (ps : List (Int × Int)) (e : Int) (s : List Nat) : Bool := decide ((ps.length : Int) - e ≤ (agr p (interp p (pick ps s)) ps : Nat))
def decF (p : Int) (ps : List (Int × Int)) (deg : Nat) (e : Int) : Option (List Int) :=
  if ps.length ≤ deg then some (interp p ps) else ((subF ps.length (deg + 1)).find? (good p ps e)).map fun s => interp p (pick ps s)
def optT : Option (List Int) → D
  | none => .non
  | some f => iT f
def f_decode : Fn := fun ds st Q => match ds with
  | [.int p, .tup xs, .int deg, .int e] => ∃ ps : List (Int × Int), xs = ps.map prD ∧ (1 < p ∧ p < 2 ^ 64 ∧ 0 ≤ deg ∧ deg ≤ 200 ∧ ps.length ≤ 300 ∧ (∀ q ∈ ps, q.1.natAbs < 2 ^ 64) ∧ ∀ i, i ≤ deg.toNat + 1 → ps.length ^ i ≤ 100000) ∧ Q (optT (decF p ps deg.toNat e)) st
  | _ => False
theorem m_decode : MonoFn f_decode := fun vs st Q Q' h q => by
  unfold f_decode at *
  split at q
  · obtain ⟨f, h1, h2, q⟩ := q
    exact ⟨f, h1, h2, h _ _ q⟩
  · exact q
theorem o_decode {Φ : Fns} (hΦ : ∀ f, MonoFn (Φ f)) {iI iS iA : Nat} (hI : Φ iI = f_interpolate) (hS : Φ iS = f_subsets) (hA : Φ iA = f_agreeing) {ds : List D} {st : Sto} {Q : Kd} (h : f_decode ds st Q) : xBody Φ (b_decode iI iS iA) st.length Q ⟨⟩ (ds.map some ++ List.replicate (7 - 4) none) st := by
  unfold f_decode at h
  split at h
  · rename_i p xs deg e
    obtain ⟨ps, rfl, ⟨hp, hp2, hd0, hd1, hl, hs, hb⟩, q⟩ := h
    have hz := sizeLine_ge
    obtain ⟨dn, rfl⟩ : ∃ dn : Nat, deg = dn := ⟨deg.toNat, by omega⟩
    rw [Int.toNat_natCast] at q hb
    unfold decF at q
    unfold b_decode
    simp_wf
    refine xite_mk (fun hc => ?_) (fun hc => ?_)
    · have hc : ps.length ≤ dn := by have := of_decide_eq_true hc; omega
      rw [if_pos hc] at q
      simp_wf
      refine xK_interpolate hI rfl ⟨hp, hp2, hl, hs⟩ ?_
      exact fin_q q
    · have hc : ¬ ps.length ≤ dn := by have := of_decide_eq_false hc; omega
      rw [if_neg hc] at q
      simp_wf
      rw [show ((dn : Int) + 1) = ((dn + 1 : Nat) : Int) by omega]
      refine xK_subsets hS ⟨by omega, by omega, hb⟩ ?_
      simp_wf
      refine for_inv hΦ (fun i e1 s => ∃ x4 x5, e1 = [some (.int p), some (.tup (ps.map prD)), some (.int dn), some (.int e), x4, x5, none] ∧ s = st ∧ (subF ps.length (dn + 1)).find? (good p ps e) = ((subF ps.length (dn + 1)).drop i).find? (good p ps e)) ⟨none, none, rfl, rfl, rfl⟩ (fun i e s _ h => rfl) ?_ ?_
      · rintro i c e1 st' hc ⟨x4, x5, rfl, rfl, hf⟩
        obtain ⟨s, hs', rfl⟩ := map_at hc
        have hsm := subF_mem.mp (List.mem_of_getElem? hs')
        have hdrop : (subF ps.length (dn + 1)).drop i = s :: (subF ps.length (dn + 1)).drop (i + 1) := by
          have hj := (List.getElem?_eq_some_iff.mp hs')
          rw [← hj.2]
          exact (List.drop_eq_getElem_cons hj.1)
        nomatch nT
        refine lc_mapT hΦ (l := s) (enc := fun k : Nat => D.int k) (g := fun k : Nat => prD (ps.getD k (0, 0))) (β := Int) (by simp; omega) rfl (fun k hk => ?_) ?_
        · have hk := hsm.2.2 k hk
          simp_wf
          rw [List.getElem?_eq_getElem hk]
          simp_wf
          refine ⟨rfl, ?_⟩
          rw [List.getD_eq_getElem?_getD, List.getElem?_eq_getElem hk]; rfl
        · simp_wf
          rw [show s.map (fun k : Nat => prD (ps.getD k (0, 0))) = (pick ps s).map prD by unfold pick; rw [List.map_map]; rfl]
          refine xK_interpolate hI rfl ⟨hp, hp2, by unfold pick; rw [List.length_map]; omega, fun q hq => ?_⟩ ?_
          · unfold pick at hq
            obtain ⟨k, hk, rfl⟩ := List.mem_map.mp hq
            have hk := hsm.2.2 k hk
            rw [List.getD_eq_getElem?_getD, List.getElem?_eq_getElem hk]
            exact hs _ (List.getElem_mem hk)
          · simp_wf
            refine xK_agreeing hA rfl ⟨by omega, hp2, by omega, hs⟩ ?_
            simp_wf
            refine xite_mk (fun hg => ?_) (fun hg => ?_)
            · simp_wf
              refine fin_q ?_
              have hgood : good p ps e s = true := hg
              rw [hdrop, List.find?_cons, hgood] at hf
              rw [hf] at q
              exact q
            · simp_wf
              refine ⟨_, _, rfl, rfl, ?_⟩
              have hgood : good p ps e s = false := hg
              rw [hf, hdrop, List.find?_cons, hgood]
      · rintro e1 s ⟨x4, x5, rfl, rfl, hf⟩
        rw [List.length_map, List.drop_length] at hf
        simp_wf
        refine fin_q ?_
        rw [hf] at q
        exact q
  · exact h.elim
theorem xK_decode {Φ : Fns} {i : Nat} {p deg e : Int} {ps : List (Int × Int)} {st : Sto} {Q : Kd} {u} (hi : Φ i = f_decode) (h1 : 1 < p ∧ p < 2 ^ 64 ∧ 0 ≤ deg ∧ deg ≤ 200 ∧ ps.length ≤ 300 ∧ (∀ q ∈ ps, q.1.natAbs < 2 ^ 64) ∧ ∀ i, i ≤ deg.toNat + 1 → ps.length ^ i ≤ 100000) (h : Q (optT (decF p ps deg.toNat e)) st) : xK Φ i [.int p, .tup (ps.map prD), .int deg, .int e] st Q u := by
  unfold xK
  rw [hi]
  exact ⟨ps, rfl, h1, h⟩

/-! the law's own choices -/
def chF (k : Nat) : Nat → List (List Nat)
  | 0 => [[]]
  | j + 1 => chF k j ++ (chF k j).filterMap fun s => if s.length < k then some (s ++ [j]) else none
theorem chF_len {k : Nat} : ∀ (j : Nat), (chF k j).length ≤ 2 ^ j
  | 0 => Nat.le_refl _
  | j + 1 => by
    have h1 := chF_len (k := k) j
    have h2 := List.length_filterMap_le (fun s : List Nat => if s.length < k then some (s ++ [j]) else none) (chF k j)
    show (chF k j ++ _).length ≤ 2 ^ (j + 1)
    rw [List.length_append, Nat.pow_succ]; omega
theorem chF_mem {k : Nat} : ∀ {j : Nat} {s : List Nat}, s ∈ chF k j ↔ (s.length ≤ k ∧ asc j s)
  | 0, s => by
    show s ∈ [[]] ↔ _
    constructor
    · intro h
      simp at h; subst h
      exact ⟨Nat.zero_le _, List.Pairwise.nil, fun x hx => by cases hx⟩
    · rintro ⟨_, _, h⟩
      cases s with
      | nil => simp
      | cons x r => exact absurd (h x List.mem_cons_self) (Nat.not_lt_zero _)
  | j + 1, s => by
    show s ∈ chF k j ++ _ ↔ _
    rw [List.mem_append, List.mem_filterMap]
    constructor
    · rintro (h | ⟨t, ht, h⟩)
      · obtain ⟨h1, h2, h3⟩ := chF_mem.mp h
        exact ⟨h1, h2, fun x hx => Nat.lt_succ_of_lt (h3 x hx)⟩
      · obtain ⟨h1, h2, h3⟩ := chF_mem.mp ht
        split at h
        · cases h
          refine ⟨by rw [List.length_append, List.length_singleton]; omega, ?_, ?_⟩
          · rw [List.pairwise_append]
            refine ⟨h2, by simp, fun a ha b hb => ?_⟩
            simp at hb; subst hb
            exact h3 a ha
          · intro x hx
            rcases List.mem_append.mp hx with hx | hx
            · exact Nat.lt_succ_of_lt (h3 x hx)
            · simp at hx; omega
        · cases h
    · rintro ⟨h1, h2, h3⟩
      rcases List.eq_nil_or_concat s with rfl | ⟨t, z, rfl⟩
      · exact .inl (chF_mem.mpr ⟨h1, h2, fun x hx => by cases hx⟩)
      · rw [List.concat_eq_append] at *
        have hp := List.pairwise_append.mp h2
        have hz : z < j + 1 := h3 z (by simp)
        have htz : ∀ a ∈ t, a < z := fun a ha => hp.2.2 a ha z (by simp)
        rw [List.length_append, List.length_singleton] at h1
        by_cases hj : z = j
        · subst hj
          exact .inr ⟨t, chF_mem.mpr ⟨by omega, hp.1, htz⟩, if_pos (by omega)⟩
        · refine .inl (chF_mem.mpr ⟨by rw [List.length_append, List.length_singleton]; omega, h2, fun x hx => ?_⟩)
          rcases List.mem_append.mp hx with hx | hx
          · have := htz x hx
            omega
          · simp at hx; omega
def b_choices : List SS := [.set (.nm 2) (.lst false [(.tup [])]),
  .for_ (.nm 3) (.rng1 (.var 0)) [.set (.nm 2) (.bin .add false (.var 2) (.lc false (.bin .add false (.var 4) (.tup [(.var 3)])) (.nm 4) (.seq (.var 2)) (some (.cmp .lt (.blt .len false [(.var 4)]) (.var 1))) [4]))],
  .ret (.lc false (.var 4) (.nm 4) (.seq (.var 2)) (some (.cmp .eq (.blt .len false [(.var 4)]) (.var 1))) [4])]
def choF (m k : Nat) : List (List Nat) := (chF k m).filter fun s => s.length == k
theorem choF_mem {m k : Nat} {s : List Nat} : s ∈ choF m k ↔ (s.length = k ∧ asc m s) := by
  unfold choF
  rw [List.mem_filter, chF_mem]
  constructor
  · rintro ⟨⟨h1, h2⟩, h3⟩
    exact ⟨eq_of_beq h3, h2⟩
  · rintro ⟨h1, h2⟩
    exact ⟨⟨by omega, h2⟩, by simp [h1]⟩
def f_choices : Fn := fun ds st Q => match ds with
  | [.int m, .int k] => (0 ≤ m ∧ 0 ≤ k ∧ m ≤ 16 ∧ k ≤ 1000) ∧ Q (.lst ((choF m.toNat k.toNat).map nT)) st
  | _ => False
theorem m_choices : MonoFn f_choices := fun vs st Q Q' h q => by
  unfold f_choices at *
  split at q
  · exact ⟨q.1, h _ _ q.2⟩
  · exact q
theorem o_choices {Φ : Fns} (hΦ : ∀ f, MonoFn (Φ f)) {ds : List D} {st : Sto} {Q : Kd} (h : f_choices ds st Q) : xBody Φ b_choices st.length Q ⟨⟩ (ds.map some ++ List.replicate (5 - 2) none) st := by
  unfold f_choices at h
  split at h
  · rename_i m k
    obtain ⟨⟨hm, hk, hm2, hk2⟩, q⟩ := h
    have hz := sizeLine_ge
    obtain ⟨mn, rfl⟩ : ∃ mn : Nat, m = mn := ⟨m.toNat, by omega⟩
    obtain ⟨kn, rfl⟩ : ∃ kn : Nat, k = kn := ⟨k.toNat, by omega⟩
    rw [Int.toNat_natCast, Int.toNat_natCast] at q
    have hpow : ∀ j, j ≤ 16 → (chF kn j).length ≤ 65536 := fun j hj => Nat.le_trans (chF_len j) (Nat.pow_le_pow_right (n := 2) (by decide) hj)
    unfold b_choices
    simp_wf
    refine xand_mk (by omega) fun _ => ?_
    simp_wf
    refine xand_mk (by omega) fun _ => ?_
    simp_wf
    refine xand_mk (by omega) fun _ => ?_
    rw [Int.toNat_natCast]
    refine for_inv hΦ (fun i e s => ∃ x3, e = [some (.int mn), some (.int kn), some (.lst ((chF kn i).map nT)), x3, none] ∧ s = st) ⟨none, rfl, rfl⟩ (fun i e s _ h => trivial) ?_ ?_
    · rintro i c e st' hc ⟨x3, rfl, rfl⟩
      obtain ⟨hi, rfl⟩ := rngL_at hc
      rw [show (0 + (i : Int) * 1) = (i : Int) by omega]
      have h1 := hpow i (by omega)
      have h2 := hpow (i + 1) (by omega)
      simp_wf
      refine lc_mapF hΦ (g := fun s : List Nat => if s.length < kn then some (nT (s ++ [i])) else none) (by simp; omega) rfl (fun s hs => ?_) ?_
      · have hsl := (chF_mem.mp hs).1
        nomatch nT
        refine xite_mk (fun hc => ?_) (fun hc => ?_)
        · have hc : s.length < kn := by have := of_decide_eq_true hc; omega
          simp_wf
          refine xand_mk (by omega) fun _ => ?_
          simp_wf
          refine xand_mk (by omega) fun _ => ?_
          refine ⟨rfl, ?_⟩
          rw [if_pos hc]
          simp [nT]
        · have hc : ¬ s.length < kn := by have := of_decide_eq_false hc; omega
          exact ⟨rfl, if_neg hc⟩
      · simp_wf
        have e1 : (chF kn i).filterMap (fun s : List Nat => if s.length < kn then some (nT (s ++ [i])) else none) = ((chF kn i).filterMap fun s => if s.length < kn then some (s ++ [i]) else none).map nT := by
          rw [List.map_filterMap]
          congr 1
          funext s
          split <;> rfl
        rw [e1]
        have e2 : (chF kn i).length + ((chF kn i).filterMap fun s => if s.length < kn then some (s ++ [i]) else none).length = (chF kn (i + 1)).length := by
          show _ = (chF kn i ++ _).length
          rw [List.length_append]
        refine xand_mk (by rw [List.length_map, e2]; omega) fun _ => ?_
        rw [← List.map_append]
        simp_wf
        exact ⟨_, rfl, rfl⟩
    · rintro e s ⟨x3, rfl, rfl⟩
      rw [rngL_len]
      have h1 := hpow mn (by omega)
      simp_wf
      refine lc_mapF hΦ (g := fun s : List Nat => if s.length == kn then some (nT s) else none) (by simp; omega) rfl (fun s hs => ?_) ?_
      · have hsl := (chF_mem.mp hs).1
        nomatch nT
        refine xite_mk (fun hc => ?_) (fun hc => ?_)
        · have hc : s.length = kn := by have := eq_of_beq hc; omega
          simp_wf
          refine ⟨rfl, ?_⟩
          rw [if_pos (by simp [hc])]
          rfl
        · have hc : ¬ s.length = kn := fun e => by rw [e] at hc; simp at hc
          refine ⟨rfl, ?_⟩
          rw [if_neg (by simpa using hc)]
      · simp_wf
        have e1 : (chF kn mn).filterMap (fun s : List Nat => if s.length == kn then some (nT s) else none) = (choF mn kn).map nT := by
          unfold choF
          rw [← List.filterMap_eq_filter, List.map_filterMap]
          congr 1
          funext s
          by_cases h : (s.length == kn) = true <;> simp [h, Option.guard]
        rw [e1]
        exact fin_q q
  · exact h.elim
theorem xK_choices {Φ : Fns} {i : Nat} {m k : Nat} {st : Sto} {Q : Kd} {u} (hi : Φ i = f_choices) (h1 : m ≤ 16 ∧ k ≤ 1000) (h : Q (.lst ((choF m k).map nT)) st) : xK Φ i [.int m, .int k] st Q u := by
  unfold xK
  rw [hi]
  exact ⟨⟨by omega, by omega, by omega, by omega⟩, h⟩

/-! the law's own line through points -/
def xAt (ps : List (Int × Int)) (j : Nat) : Int := (ps.getD j (0, 0)).1
def yAt (ps : List (Int × Int)) (j : Nat) : Int := (ps.getD j (0, 0)).2
def mulT (p : Int) (n : Nat) (t : List Int) (x fc : Int) : List Int := (List.range n).map fun u => (0 - x * t.getD u 0 * fc + (if 0 < u then t.getD (u - 1) 0 * fc else 0)) % p
def lt (p : Int) (ps : List (Int × Int)) (k : Nat) : Nat → List Int
  | 0 => yAt ps k :: List.replicate (ps.length - 1) 0
  | j + 1 => if j = k then lt p ps k j else mulT p ps.length (lt p ps k j) (xAt ps j) (inv p ((xAt ps k - xAt ps j) % p))
def lf (p : Int) (ps : List (Int × Int)) : Nat → List Int
  | 0 => List.replicate ps.length 0
  | k + 1 => (List.range ps.length).map fun u => ((lf p ps k).getD u 0 + (lt p ps k ps.length).getD u 0) % p
theorem lt_len {p : Int} {ps : List (Int × Int)} {k : Nat} (h : 1 ≤ ps.length) : ∀ (j : Nat), (lt p ps k j).length = ps.length
  | 0 => by
    show (_ :: _ : List Int).length = _
    rw [List.length_cons, List.length_replicate]; omega
  | j + 1 => by
    unfold lt
    split
    · exact lt_len h j
    · simp [mulT]
theorem lf_len {p : Int} {ps : List (Int × Int)} : ∀ (j : Nat), (lf p ps j).length = ps.length
  | 0 => by simp [lf]
  | j + 1 => by simp [lf]
theorem pe_getD {x : Int} {n : Nat} {t : List Int} (h : t.length = n) : pe t x = sm n fun u => t.getD u 0 * x ^ u := by
  rw [← pe_range]
  congr 1
  apply List.ext_getElem?
  intro i
  by_cases hi : i < n
  · rw [row_get hi, getD_of (by omega)]
  · rw [List.getElem?_eq_none (by omega), List.getElem?_eq_none (by simp; omega)]
theorem sm_shift {g : Nat → Int} {x : Int} : ∀ (n : Nat), sm (n + 1) (fun u => (if 0 < u then g (u - 1) else 0) * x ^ u) = sm n (fun u => g u * x ^ u) * x
  | 0 => by show (0 : Int) + 0 * x ^ 0 = 0 * x; simp
  | n + 1 => by
    show sm (n + 1) (fun u => (if 0 < u then g (u - 1) else 0) * x ^ u) + (if 0 < n + 1 then g (n + 1 - 1) else 0) * x ^ (n + 1) = (sm n (fun u => g u * x ^ u) + g n * x ^ n) * x
    rw [sm_shift n, if_pos (by omega), Nat.add_sub_cancel, Int.pow_succ]; grind
theorem mulT_pe {p x z fc : Int} {n : Nat} {t : List Int} (hn : 1 ≤ n) (hl : t.length = n) (h0 : t.getD (n - 1) 0 = 0) : ME p (pe (mulT p n t x fc) z) (pe t z * ((z - x) * fc)) := by
  unfold mulT
  rw [pe_range]
  have h1 : ME p (sm n fun u => (0 - x * t.getD u 0 * fc + (if 0 < u then t.getD (u - 1) 0 * fc else 0)) % p * z ^ u) (sm n fun u => (0 - x * t.getD u 0 * fc + (if 0 < u then t.getD (u - 1) 0 * fc else 0)) * z ^ u) :=
    sm_me fun u _ => ME.md.mul (ME.refl _)
  refine h1.trans ?_
  have h2 : (sm n fun u => (0 - x * t.getD u 0 * fc + (if 0 < u then t.getD (u - 1) 0 * fc else 0)) * z ^ u) = sm n (fun u => t.getD u 0 * z ^ u * (-(x * fc))) + sm n (fun u => (if 0 < u then t.getD (u - 1) 0 else 0) * z ^ u * fc) := by
    rw [← sm_add]
    refine sm_congr fun u _ => ?_
    split <;> grind
  rw [h2, sm_mul, sm_mul, ← pe_getD hl]
  obtain ⟨m, rfl⟩ : ∃ m, n = m + 1 := ⟨n - 1, by omega⟩
  rw [sm_shift m (g := fun u => t.getD u 0)]
  have h3 : pe t z = sm m fun u => t.getD u 0 * z ^ u := by
    rw [pe_getD hl]
    show sm m _ + t.getD m 0 * z ^ m = _
    rw [Nat.add_sub_cancel] at h0
    rw [h0]; simp
  rw [← h3, show pe t z * -(x * fc) + pe t z * z * fc = pe t z * ((z - x) * fc) by grind]
  exact ME.refl _
theorem deg_mulT {p x fc : Int} {n m : Nat} {t : List Int} (h : ∀ u, m ≤ u → t.getD u 0 = 0) (u : Nat) (hu : m + 1 ≤ u) : (mulT p n t x fc).getD u 0 = 0 := by
  by_cases hn : u < n
  · have : (mulT p n t x fc)[u]? = some ((0 - x * t.getD u 0 * fc + (if 0 < u then t.getD (u - 1) 0 * fc else 0)) % p) := row_get hn
    rw [List.getD_eq_getElem?_getD, this, h u (by omega), h (u - 1) (by omega)]
    simp
  · rw [List.getD_eq_getElem?_getD, List.getElem?_eq_none (by simp [mulT]; omega)]; rfl
theorem lt_deg {p : Int} {ps : List (Int × Int)} {k : Nat} : ∀ (j : Nat) (u : Nat), (1 + if k < j then j - 1 else j) ≤ u → (lt p ps k j).getD u 0 = 0
  | 0, u, h => by
    rw [if_neg (by omega)] at h
    obtain ⟨v, rfl⟩ : ∃ v, u = v + 1 := ⟨u - 1, by omega⟩
    show (List.replicate (ps.length - 1) (0 : Int)).getD v 0 = 0
    rw [List.getD_eq_getElem?_getD, List.getElem?_replicate]
    split <;> rfl
  | j + 1, u, h => by
    unfold lt
    split
    · rename_i e
      refine lt_deg j u ?_
      subst e
      rw [if_pos (by omega)] at h
      rw [if_neg (by omega)]; omega
    · rename_i e
      have key := deg_mulT (p := p) (n := ps.length) (x := xAt ps j) (fc := inv p ((xAt ps k - xAt ps j) % p)) (fun u hu => lt_deg (p := p) (ps := ps) (k := k) j u hu) u
      refine key ?_
      by_cases hk : k < j
      · rw [if_pos hk]
        rw [if_pos (by omega)] at h; omega
      · rw [if_neg hk]
        rw [if_neg (by omega)] at h; omega
theorem lt_step {p z : Int} {ps : List (Int × Int)} {k j : Nat} (hk : k < ps.length) (hj : j < ps.length) (hne : j ≠ k) : ME p (pe (lt p ps k (j + 1)) z) (pe (lt p ps k j) z * ((z - xAt ps j) * inv p ((xAt ps k - xAt ps j) % p))) := by
  have e : lt p ps k (j + 1) = mulT p ps.length (lt p ps k j) (xAt ps j) (inv p ((xAt ps k - xAt ps j) % p)) := by
    show (if j = k then _ else _) = _
    rw [if_neg hne]
  rw [e]
  refine mulT_pe (by omega) (lt_len (by omega) j) (lt_deg j _ ?_)
  by_cases h : k < j
  · rw [if_pos h]; omega
  · rw [if_neg h]; omega
theorem lt_skip {p : Int} {ps : List (Int × Int)} {k : Nat} : lt p ps k (k + 1) = lt p ps k k := by
  show (if k = k then _ else _) = _
  rw [if_pos rfl]
theorem lt_zero {p : Int} {ps : List (Int × Int)} {k i : Nat} (hk : k < ps.length) (hi : i < ps.length) (hne : i ≠ k) : ∀ (j : Nat), j ≤ ps.length → i < j → ME p (pe (lt p ps k j) (xAt ps i)) 0
  | 0, _, h => absurd h (Nat.not_lt_zero _)
  | j + 1, hj, h => by
    by_cases hjk : j = k
    · subst hjk
      rw [lt_skip]
      exact lt_zero hk hi hne j (by omega) (by omega)
    · refine (lt_step hk (by omega) hjk).trans ?_
      by_cases hij : i = j
      · subst hij
        rw [Int.sub_self, Int.zero_mul, Int.mul_zero]
        exact ME.refl _
      · have := (lt_zero (p := p) hk hi hne j (by omega) (by omega)).mul (ME.refl ((xAt ps i - xAt ps j) * inv p ((xAt ps k - xAt ps j) % p)))
        rwa [Int.zero_mul] at this
theorem lt_one {p : Int} (hp : ∃ n ∈ primes, p = (n : Int)) {ps : List (Int × Int)} {k : Nat} (hk : k < ps.length) (hd : ∀ j, j < ps.length → j ≠ k → (xAt ps k - xAt ps j) % p ≠ 0) : ∀ (j : Nat), j ≤ ps.length → ME p (pe (lt p ps k j) (xAt ps k)) (yAt ps k)
  | 0, _ => by
    show ME p (pe (List.replicate (ps.length - 1) 0) (xAt ps k) * xAt ps k + yAt ps k) _
    rw [pe_zeros]; simp [ME.refl]
  | j + 1, hj => by
    by_cases hjk : j = k
    · subst hjk
      rw [lt_skip]
      exact lt_one hp hk hd j (by omega)
    · refine (lt_step hk (by omega) hjk).trans ?_
      have h0 := hd j (by omega) hjk
      have h1 : ((xAt ps k - xAt ps j) % p) % p ≠ 0 := by rw [Int.emod_emod_of_dvd _ (Int.dvd_refl p)]; exact h0
      have h2 := inv_ok hp h1
      have h3 : ME p ((xAt ps k - xAt ps j) * inv p ((xAt ps k - xAt ps j) % p)) 1 := by
        have h4 := (ME.refl (p := p) (inv p ((xAt ps k - xAt ps j) % p))).mul (ME.md (p := p) (x := xAt ps k - xAt ps j)).symm
        rw [show (xAt ps k - xAt ps j) * inv p ((xAt ps k - xAt ps j) % p) = inv p ((xAt ps k - xAt ps j) % p) * (xAt ps k - xAt ps j) by grind]
        exact h4.trans h2
      have := (lt_one hp hk hd j (by omega)).mul h3
      rwa [Int.mul_one] at this
theorem lf_pe {p : Int} (hp : ∃ n ∈ primes, p = (n : Int)) {ps : List (Int × Int)} (hd : ∀ i j, i < ps.length → j < ps.length → j ≠ i → (xAt ps i - xAt ps j) % p ≠ 0) {i : Nat} (hi : i < ps.length) : ∀ (k : Nat), k ≤ ps.length → ME p (pe (lf p ps k) (xAt ps i)) (if i < k then yAt ps i else 0)
  | 0, _ => by
    rw [if_neg (by omega)]
    show ME p (pe (List.replicate ps.length 0) _) 0
    rw [pe_zeros]; exact ME.refl _
  | k + 1, hk => by
    have ih := lf_pe hp hd hi k (by omega)
    have h1 : ME p (pe (lf p ps (k + 1)) (xAt ps i)) (pe (lf p ps k) (xAt ps i) + pe (lt p ps k ps.length) (xAt ps i)) := by
      show ME p (pe ((List.range ps.length).map _) _) _
      rw [pe_range, pe_getD (lf_len k), pe_getD (lt_len (by omega) ps.length), ← sm_add]
      refine sm_me fun u _ => ?_
      rw [← Int.add_mul]
      exact ME.md.mul (ME.refl _)
    refine h1.trans ?_
    by_cases hik : i = k
    · subst hik
      rw [if_neg (by omega)] at ih
      rw [if_pos (by omega)]
      have := ih.add (lt_one hp hi (fun j hj hne => hd i j hi hj hne) ps.length (Nat.le_refl _))
      rwa [Int.zero_add] at this
    · have h2 := lt_zero (p := p) (by omega : k < ps.length) hi hik ps.length (Nat.le_refl _) hi
      have h3 := ih.add h2
      rw [Int.add_zero] at h3
      by_cases hik2 : i < k
      · rw [if_pos hik2] at h3
        rw [if_pos (by omega)]; exact h3
      · rw [if_neg hik2] at h3
        rw [if_neg (by omega)]; exact h3
theorem lf_rg {p : Int} (hp : 0 < p) {ps : List (Int × Int)} : ∀ (k : Nat), ∀ x ∈ lf p ps k, 0 ≤ x ∧ x < p
  | 0, x, hx => by
    have := (List.mem_replicate.mp hx).2
    omega
  | k + 1, x, hx => by
    obtain ⟨u, _, rfl⟩ := List.mem_map.mp hx
    exact ⟨Int.emod_nonneg _ (by omega), Int.emod_lt_of_pos _ hp⟩
def b_line (iP : Nat) : List SS := [.set (.nm 2) (.bin .mul false (.lst false [(.con (.int 0))]) (.blt .len false [(.var 1)])),
  .for_ (.nm 3) (.rng1 (.blt .len false [(.var 1)])) [.set (.nm 4) (.bin .add false (.lst false [(.idx (.idx (.var 1) (.var 3)) (.con (.int 1)))]) (.bin .mul false (.lst false [(.con (.int 0))]) (.bin .sub false (.blt .len false [(.var 1)]) (.con (.int 1))))),
  .for_ (.nm 5) (.rng1 (.blt .len false [(.var 1)])) [.ite (.cmp .ne (.var 5) (.var 3)) [.set (.nm 6) (.call iP [(.var 0), (.bin .mod false (.blt .int false [(.bin .sub false (.idx (.idx (.var 1) (.var 3)) (.con (.int 0))) (.idx (.idx (.var 1) (.var 5)) (.con (.int 0))))]) (.var 0)), (.bin .sub false (.var 0) (.con (.int 2)))]),
  .set (.nm 7) (.bin .mul true (.lst false [(.con (.int 0))]) (.blt .len false [(.var 1)])),
  .for_ (.nm 8) (.rng1 (.blt .len false [(.var 1)])) [.set (.sub (.var 7) (.var 8)) (.bin .sub false (.idx (.var 7) (.var 8)) (.bin .mul false (.bin .mul false (.idx (.idx (.var 1) (.var 5)) (.con (.int 0))) (.idx (.var 4) (.var 8))) (.var 6))),
  .ite (.cmp .gt (.var 8) (.con (.int 0))) [.set (.sub (.var 7) (.var 8)) (.bin .add false (.idx (.var 7) (.var 8)) (.bin .mul false (.idx (.var 4) (.bin .sub false (.var 8) (.con (.int 1)))) (.var 6)))] []],
  .set (.nm 4) (.lc false (.bin .mod false (.blt .int false [(.var 9)]) (.var 0)) (.nm 9) (.seq (.var 7)) none [9])] []],
  .set (.nm 2) (.lc true (.bin .mod false (.blt .int false [(.bin .add false (.idx (.var 2) (.var 8)) (.idx (.var 4) (.var 8)))]) (.var 0)) (.nm 8) (.rng1 (.blt .len false [(.var 1)])) none [8])],
  .ret (.var 2)]
def f_line : Fn := fun ds st Q => match ds with
  | [.int p, .lst xs] => ∃ ps : List (Int × Int), xs = ps.map prD ∧ (2 < p ∧ p < 2 ^ 20 ∧ 1 ≤ ps.length ∧ ps.length ≤ 300 ∧ ∀ q ∈ ps, 0 ≤ q.1 ∧ q.1 < p ∧ 0 ≤ q.2 ∧ q.2 < p) ∧
      ∀ (G : Sto) (m : Nat), (st ++ G)[st.length + m]? = some (iL (lf p ps ps.length)) → Q (.loc (st.length + m)) (st ++ G)
  | _ => False
theorem m_line : MonoFn f_line := fun vs st Q Q' h q => by
  unfold f_line at *
  split at q
  · obtain ⟨f, h1, h2, q⟩ := q
    exact ⟨f, h1, h2, fun G m hg => h _ _ (q G m hg)⟩
  · exact q

theorem mul_nat {x y : Int} (h1 : x.natAbs < 2 ^ 64) (h2 : y.natAbs < 2 ^ 64) : (x * y).natAbs < 2 ^ 128 := by
  rw [Int.natAbs_mul]
  have := Nat.mul_le_mul (Nat.le_of_lt_succ (show x.natAbs < (2 ^ 64 - 1) + 1 by omega)) (Nat.le_of_lt_succ (show y.natAbs < (2 ^ 64 - 1) + 1 by omega))
  omega
theorem getP {ps : List (Int × Int)} {k : Nat} (h : k < ps.length) : ps[k]? = some (xAt ps k, yAt ps k) := by
  rw [List.getElem?_eq_getElem h]
  unfold xAt yAt
  rw [List.getD_eq_getElem?_getD, List.getElem?_eq_getElem h]; rfl
/-- a list by itself, or by its place -/
def Holds (s : Sto) (d : D) (F : List Int) : Prop := d = iL F ∨ ∃ m, d = .loc m ∧ s[m]? = some (iL F)
theorem Holds.more {s l : Sto} {d : D} {F : List Int} (h : Holds s d F) : Holds (s ++ l) d F := by
  rcases h with h | ⟨m, h1, h2⟩
  · exact .inl h
  · exact .inr ⟨m, h1, getOld h2⟩
theorem Holds.ix {s : Sto} {d : D} {F : List Int} (h : Holds s d F) (i : Int) (Q : Kd) (u) : xidx d (.int i) s Q u = xopt (atI (F.map .int) i) (fun d => Q d s) ⟨⟩ := by
  rcases h with rfl | ⟨m, rfl, h2⟩
  · rfl
  · show opt (asSeq s (.loc m)) _ = _
    rw [asSeq_o h2]; rfl
/-- one row of the law's longer list -/
def lrow (n : Nat) (t : List Int) (x fc : Int) (u : Nat) : List Int := (List.range n).map fun v => if v < u then 0 - x * t.getD v 0 * fc + (if 0 < v then t.getD (v - 1) 0 * fc else 0) else 0
theorem lrow_zero {n : Nat} {t : List Int} {x fc : Int} : lrow n t x fc 0 = List.replicate n 0 := by
  rw [zeros_row]; rfl
theorem lrow_all {p x fc : Int} {n : Nat} {t : List Int} : (lrow n t x fc n).map (· % p) = mulT p n t x fc := by
  unfold lrow mulT
  rw [List.map_map]
  apply List.map_congr_left
  intro v hv
  show (if v < n then _ else _) % p = _
  rw [if_pos (List.mem_range.mp hv)]
theorem lrow_len {x fc : Int} {n u : Nat} {t : List Int} : (lrow n t x fc u).length = n := by simp [lrow]
theorem lrow_get {x fc : Int} {n u : Nat} {t : List Int} (h : u < n) : (lrow n t x fc u)[u]? = some 0 := by
  unfold lrow
  rw [row_get h, if_neg (Nat.lt_irrefl u)]
theorem lrow_set {x fc : Int} {n u : Nat} {t : List Int} {v : Int} (hv : v = 0 - x * t.getD u 0 * fc + (if 0 < u then t.getD (u - 1) 0 * fc else 0)) : (lrow n t x fc u).set u v = lrow n t x fc (u + 1) := by
  unfold lrow
  rw [row_set]
  apply List.map_congr_left
  intro b _
  by_cases h : b = u
  · subst h
    rw [if_pos rfl, if_pos (Nat.lt_succ_self b), hv]
  · rw [if_neg h]
    by_cases h2 : b < u
    · rw [if_pos h2, if_pos (show b < u + 1 by omega)]
    · rw [if_neg h2, if_neg (show ¬ b < u + 1 by omega)]
theorem lt_rg {p : Int} (hp : 0 < p) {ps : List (Int × Int)} (hs : ∀ q ∈ ps, 0 ≤ q.1 ∧ q.1 < p ∧ 0 ≤ q.2 ∧ q.2 < p) {k : Nat} (hk : k < ps.length) : ∀ (j : Nat), ∀ x ∈ lt p ps k j, 0 ≤ x ∧ x < p
  | 0, x, hx => by
    rcases List.mem_cons.mp hx with rfl | hx
    · have := hs _ (List.mem_of_getElem? (getP hk))
      exact ⟨this.2.2.1, this.2.2.2⟩
    · have := (List.mem_replicate.mp hx).2
      omega
  | j + 1, x, hx => by
    unfold lt at hx
    split at hx
    · exact lt_rg hp hs hk j x hx
    · obtain ⟨u, _, rfl⟩ := List.mem_map.mp hx
      exact ⟨Int.emod_nonneg _ (by omega), Int.emod_lt_of_pos _ hp⟩
theorem cut_zeros {n : Nat} (h : 1 ≤ n) : ((n : Int) - 1).toNat = n - 1 := by omega
theorem o_line {Φ : Fns} (hΦ : ∀ f, MonoFn (Φ f)) {iP : Nat} (hP : Φ iP = f_lpower) {ds : List D} {st : Sto} {Q : Kd} (h : f_line ds st Q) : xBody Φ (b_line iP) st.length Q ⟨⟩ (ds.map some ++ List.replicate (10 - 2) none) st := by
  unfold f_line at h
  split at h
  · rename_i p xs
    obtain ⟨ps, rfl, ⟨hp, hp2, hl1, hl2, hs⟩, q⟩ := h
    have hz := sizeLine_ge
    obtain ⟨n, hn⟩ : ∃ n, n = ps.length := ⟨_, rfl⟩
    unfold b_line
    simp_wf
    refine xand_mk (by omega) fun _ => ?_
    simp_wf
    refine xand_mk (by rw [Int.toNat_natCast]; omega) fun _ => ?_
    rw [Int.toNat_natCast, zeros_flat]
    simp_wf
    refine xand_mk (by omega) fun _ => ?_
    rw [Int.toNat_natCast]
    refine for_inv hΦ (fun k e s => ∃ (G : Sto) (d2 : D) (x3 x4 x5 x6 x7 x8 : Option D), e = [some (.int p), some (.lst (ps.map prD)), some d2, x3, x4, x5, x6, x7, x8, none] ∧ s = st ++ G ∧ Holds s d2 (lf p ps k) ∧ (0 < k → ∃ m, d2 = .loc (st.length + m))) ⟨[], _, none, none, none, none, none, none, rfl, by simp, .inl rfl, fun h => absurd h (Nat.lt_irrefl 0)⟩ (fun i e s _ h => trivial) ?_ ?_
    · rintro k c e s hc ⟨G, d2, x3, x4, x5, x6, x7, x8, rfl, rfl, hd2, _⟩
      obtain ⟨hk, rfl⟩ := rngL_at hc
      rw [show (0 + (k : Int) * 1) = (k : Int) by omega]
      nomatch getP hk, prD
      refine xand_mk (by omega) fun _ => ?_
      simp_wf
      refine xand_mk (by omega) fun _ => ?_
      simp_wf
      refine xand_mk (by rw [cut_zeros hl1]; omega) fun _ => ?_
      rw [cut_zeros hl1, zeros_flat]
      simp_wf
      refine xand_mk (by simp; omega) fun _ => ?_
      simp_wf
      refine xand_mk (by omega) fun _ => ?_
      rw [Int.toNat_natCast]
      have hxk := hs _ (List.mem_of_getElem? (getP hk))
      refine for_inv hΦ (fun j e s => ∃ (G : Sto) (x5 x6 x7 x8 : Option D), e = [some (.int p), some (.lst (ps.map prD)), some d2, some (.int k), some (iL (lt p ps k j)), x5, x6, x7, x8, none] ∧ s = st ++ G ∧ Holds s d2 (lf p ps k)) ⟨G, x5, x6, x7, x8, rfl, rfl, hd2⟩ (fun i e s _ h => trivial) ?_ ?_
      · rintro j c e s hc ⟨G, x5, x6, x7, x8, rfl, rfl, hd2⟩
        obtain ⟨hj, rfl⟩ := rngL_at hc
        rw [show (0 + (j : Int) * 1) = (j : Int) by omega]
        simp_wf
        refine xite_mk (fun hc => ?_) (fun hc => ?_)
        · have hjk : j ≠ k := fun e => by subst e; simp at hc
          have hxj := hs _ (List.mem_of_getElem? (getP hj))
          nomatch getP hk, getP hj, prD
          refine xand_mk (by omega) fun _ => ?_
          simp_wf
          have hmr : 0 ≤ (xAt ps k - xAt ps j) % p ∧ (xAt ps k - xAt ps j) % p < p := ⟨Int.emod_nonneg _ (by omega), Int.emod_lt_of_pos _ (by omega)⟩
          refine xK_lpower hP (by omega) ?_
          rw [show ((xAt ps k - xAt ps j) % p) ^ (p - 2).toNat % p = inv p ((xAt ps k - xAt ps j) % p) from rfl]
          have hir := inv_range (p := p) (a := (xAt ps k - xAt ps j) % p) (by omega)
          obtain ⟨fc, hfc⟩ : ∃ fc, fc = inv p ((xAt ps k - xAt ps j) % p) := ⟨_, rfl⟩
          obtain ⟨t, ht⟩ : ∃ t, t = lt p ps k j := ⟨_, rfl⟩
          have htl : t.length = ps.length := by rw [ht]; exact lt_len hl1 j
          have htr : ∀ u, u < ps.length → 0 ≤ t.getD u 0 ∧ t.getD u 0 < p := fun u hu => by
            refine lt_rg (by omega) hs hk j _ ?_
            rw [← ht]
            exact List.mem_of_getElem? (getD_of (by omega))
          rw [← hfc] at hir ⊢
          rw [← ht]
          simp_wf
          refine xand_mk (by omega) fun _ => ?_
          simp_wf
          refine xand_mk (by rw [Int.toNat_natCast]; omega) fun _ => ?_
          rw [Int.toNat_natCast, zeros_flat]
          simp_wf
          refine xand_mk (by omega) fun _ => ?_
          rw [Int.toNat_natCast]
          refine for_inv hΦ (fun u e s => ∃ x8, e = [some (.int p), some (.lst (ps.map prD)), some d2, some (.int k), some (iL t), some (.int j), some (.int fc), some (.loc (st.length + G.length)), x8, none] ∧ s = st ++ (G ++ [iL (lrow ps.length t (xAt ps j) fc u)])) ⟨_, rfl, by rw [lrow_zero]⟩ (fun i e s _ h => trivial) ?_ ?_
          · rintro u c e s hc ⟨x8, rfl, rfl⟩
            obtain ⟨hu, rfl⟩ := rngL_at hc
            rw [show (0 + (u : Int) * 1) = (u : Int) by omega]
            have htu := htr u hu
            have hgt := getD_of (show u < t.length by omega)
            nomatch lrow_get hu, getP hj, prD, hgt
            refine xand_mk (cmul64 (by omega) (by omega)) fun _ => ?_
            simp_wf
            have hmn := mul_nat (x := xAt ps j) (y := t.getD u 0) (by omega) (by omega)
            refine xand_mk (cmulW (Nat.lt_trans hmn (by decide)) (by omega)) fun _ => ?_
            nomatch lrow_len, hu, set_ints
            refine xite_mk (fun h0 => ?_) (fun h0 => ?_)
            · have h0 : 0 < u := by have := of_decide_eq_true h0; omega
              have htu1 := htr (u - 1) (by omega)
              have hgt1 := getD_of (show u - 1 < t.length by omega)
              have hset : ∀ v, ((lrow ps.length t (xAt ps j) fc u).set u v)[u]? = some v := fun v => List.getElem?_set_self (by rw [lrow_len]; exact hu)
              nomatch hset, (show ((u : Int) - 1) = ((u - 1 : Nat) : Int) by omega), hgt1
              refine xand_mk (cmul64 (by omega) (by omega)) fun _ => ?_
              nomatch lrow_len, hu, set_ints
              rw [lrow_set (v := 0 - xAt ps j * t.getD u 0 * fc + t.getD (u - 1) 0 * fc) (by rw [if_pos h0])]
              exact ⟨_, rfl, rfl⟩
            · have h0 : ¬ 0 < u := by have := of_decide_eq_false h0; omega
              simp_wf
              rw [lrow_set (v := 0 - xAt ps j * t.getD u 0 * fc) (by rw [if_neg h0, Int.add_zero])]
              exact ⟨_, rfl, rfl⟩
          · rintro e s ⟨x8, rfl, rfl⟩
            rw [rngL_len]
            simp_wf
            refine lc_mapT hΦ (β := Int) (g := fun x => .int (x % p)) (by rw [lrow_len]; simp; omega) (asSeq_o (by simp_wf)) (fun x hx => ?_) ?_
            · simp_wf
              refine xand_mk (by omega) fun _ => ?_
              exact ⟨rfl, rfl⟩
            · simp_wf
              rw [show (lrow ps.length t (xAt ps j) fc ps.length).map (fun x => D.int (x % p)) = (lt p ps k (j + 1)).map .int by
                rw [show lt p ps k (j + 1) = mulT p ps.length t (xAt ps j) fc by
                  rw [ht, hfc]
                  show (if j = k then _ else _) = _
                  rw [if_neg hjk], ← lrow_all, List.map_map]; rfl]
              refine ⟨G ++ [iL (lrow ps.length t (xAt ps j) fc ps.length)], _, _, _, _, rfl, rfl, ?_⟩
              rw [← List.append_assoc]
              exact hd2.more
        · have hjk : j = k := by
            have : (j : Int) = k := by simpa using hc
            omega
          simp_wf
          subst hjk
          rw [lt_skip]
          exact ⟨_, _, _, _, _, rfl, rfl, hd2⟩
      · rintro e s ⟨G, x5, x6, x7, x8, rfl, rfl, hd2⟩
        rw [rngL_len]
        simp_wf
        refine xand_mk (by omega) fun _ => ?_
        rw [Int.toNat_natCast]
        refine lc_mapT hΦ (l := List.range ps.length) (enc := fun u : Nat => D.int (0 + (u : Int) * 1)) (g := fun u : Nat => D.int (((lf p ps k).getD u 0 + (lt p ps k ps.length).getD u 0) % p)) (β := Int) (by simp; omega) trivial (fun u hu => ?_) ?_
        · have hu := List.mem_range.mp hu
          rw [show (0 + (u : Int) * 1) = (u : Int) by omega]
          nomatch hd2.ix, getD_of (show u < (lf p ps k).length by rw [lf_len]; exact hu), getD_of (show u < (lt p ps k ps.length).length by rw [lt_len hl1]; exact hu)
          refine xand_mk (by omega) fun _ => ?_
          exact ⟨rfl, rfl⟩
        · simp_wf
          rw [show (List.range ps.length).map (fun u : Nat => D.int (((lf p ps k).getD u 0 + (lt p ps k ps.length).getD u 0) % p)) = (lf p ps (k + 1)).map .int by
            show _ = (List.map _ _).map _
            rw [List.map_map]; rfl]
          refine ⟨G ++ [iL (lf p ps (k + 1))], .loc (st.length + G.length), _, _, _, _, _, _, rfl, rfl, .inr ⟨_, rfl, by simp_wf⟩, fun _ => ⟨_, rfl⟩⟩
    · rintro e s ⟨G, d2, x3, x4, x5, x6, x7, x8, rfl, rfl, hd2, hm⟩
      rw [rngL_len] at hd2 hm
      obtain ⟨m, rfl⟩ := hm (by omega)
      simp_wf
      refine fin_q (q G m ?_)
      rcases hd2 with h | ⟨m', h1, h2⟩
      · cases h
      · cases h1; exact h2
  · exact h.elim
theorem xK_line {Φ : Fns} {i : Nat} {p : Int} {ps : List (Int × Int)} {st : Sto} {Q : Kd} {u} (hi : Φ i = f_line) (h1 : 2 < p ∧ p < 2 ^ 20 ∧ 1 ≤ ps.length ∧ ps.length ≤ 300 ∧ ∀ q ∈ ps, 0 ≤ q.1 ∧ q.1 < p ∧ 0 ≤ q.2 ∧ q.2 < p)
    (h : ∀ (G : Sto) (m : Nat), (st ++ G)[st.length + m]? = some (iL (lf p ps ps.length)) → Q (.loc (st.length + m)) (st ++ G)) : xK Φ i [.int p, .lst (ps.map prD)] st Q u := by
  unfold xK
  rw [hi]
  exact ⟨ps, rfl, h1, h⟩

/-! decode: all choices tell the same -/
theorem count_two {α : Type} {a b : α → Bool} : ∀ (l : List α), l.countP a + l.countP b ≤ l.length + l.countP fun x => a x && b x
  | [] => by simp
  | x :: r => by
    have ih := count_two (a := a) (b := b) r
    rw [List.countP_cons, List.countP_cons, List.countP_cons, List.length_cons]
    cases a x <;> cases b x <;> simp <;> omega
def Diff (p : Int) (ps : List (Int × Int)) : Prop := ∀ (i j : Nat) (a b : Int × Int), ps[i]? = some a → ps[j]? = some b → i ≠ j → (a.1 - b.1) % p ≠ 0
theorem Diff.pair {p : Int} {ps : List (Int × Int)} (h : Diff p ps) : ps.Pairwise fun a b => (a.1 - b.1) % p ≠ 0 := by
  rw [List.pairwise_iff_getElem]
  intro i j hi hj hij
  exact h i j _ _ (List.getElem?_eq_getElem hi) (List.getElem?_eq_getElem hj) (by omega)
theorem pick_get {ps : List (Int × Int)} {s : List Nat} {i : Nat} {a : Int × Int} (hs : ∀ x ∈ s, x < ps.length) (h : (pick ps s)[i]? = some a) : ∃ k, s[i]? = some k ∧ ps[k]? = some a := by
  unfold pick at h
  rw [List.getElem?_map] at h
  cases e : s[i]? with
  | none => rw [e] at h; cases h
  | some k =>
    rw [e] at h
    have hk := hs k (List.mem_of_getElem? e)
    refine ⟨k, rfl, ?_⟩
    rw [List.getElem?_eq_getElem hk]
    have : ps.getD k (0, 0) = a := Option.some.inj h
    rw [List.getD_eq_getElem?_getD, List.getElem?_eq_getElem hk] at this
    exact congrArg some this
theorem pick_diff {p : Int} {ps : List (Int × Int)} {s : List Nat} (h : Diff p ps) (ha : asc ps.length s) : Diff p (pick ps s) := by
  intro i j a b h1 h2 hne
  obtain ⟨k, e1, g1⟩ := pick_get ha.2 h1
  obtain ⟨l, e2, g2⟩ := pick_get ha.2 h2
  refine h k l a b g1 g2 fun e => hne ?_
  subst e
  have hi := List.getElem?_eq_some_iff.mp e1
  have hj := List.getElem?_eq_some_iff.mp e2
  have hp := List.pairwise_iff_getElem.mp ha.1
  rcases Nat.lt_trichotomy i j with q | q | q
  · have := hp i j hi.1 hj.1 q
    omega
  · exact q
  · have := hp j i hj.1 hi.1 q
    omega
theorem Diff.at {p : Int} {ps : List (Int × Int)} (h : Diff p ps) : ∀ i j, i < ps.length → j < ps.length → j ≠ i → (xAt ps i - xAt ps j) % p ≠ 0 := by
  intro i j hi hj hne
  exact h i j _ _ (getP hi) (getP hj) (by omega)
theorem trim_self {p : Int} {f : List Int} (h : ∀ x ∈ f, 0 ≤ x ∧ x < p) : trim p f = trimZ f := by
  unfold trim
  rw [map_id_rg h]
theorem interp_all {p : Int} (hp : 0 < p) (ps : List (Int × Int)) : Rg p ps.length (interp p ps) :=
  interp_rg hp ⟨Nat.zero_le _, fun x hx => by cases hx⟩ (by omega)
theorem interp_trimZ {p : Int} (hp : 0 < p) (ps : List (Int × Int)) : trimZ (interp p ps) = interp p ps := by
  have h := interp_canon hp ps
  rwa [trim_self (interp_all hp ps).2] at h
/-- the law's line is the program's, but for zeros at its end -/
theorem line_interp {p : Int} (hp : ∃ n ∈ primes, p = (n : Int)) {ps : List (Int × Int)} (hd : Diff p ps) : trimZ (lf p ps ps.length) = interp p ps := by
  have hb := prime_ge hp
  rw [← interp_trimZ (by omega) ps]
  refine same_poly hp (xs := ps.map (·.1)) ?_ (lf_rg (by omega) _) (interp_all (by omega) ps).2 (by rw [lf_len, List.length_map]; exact Nat.le_refl _) (by rw [List.length_map]; exact (interp_all (by omega) ps).1) ?_
  · rw [List.pairwise_map]
    exact hd.pair
  · intro x hx
    obtain ⟨q, hq, rfl⟩ := List.mem_map.mp hx
    obtain ⟨i, hi, e⟩ := List.mem_iff_getElem.mp hq
    have hq' : ps[i]? = some q := by rw [List.getElem?_eq_getElem hi, e]
    have h1 := lf_pe hp hd.at hi ps.length (Nat.le_refl _)
    rw [if_pos hi] at h1
    have hg := getP hi
    rw [hq'] at hg
    have hg := Option.some.inj hg
    rw [← show q.1 = xAt ps i by rw [hg], ← show q.2 = yAt ps i by rw [hg]] at h1
    exact h1.trans (interp_pe hp hd hq').symm
theorem agr_eq {p : Int} {f g : List Int} {ps : List (Int × Int)} (h : trimZ f = g) : agr p f ps = agr p g ps := by
  subst h
  unfold agr
  congr 1
  funext q
  rw [pe_trimZ]
/-- two good choices tell one polynomial -/
theorem good_one {p : Int} (hp : ∃ n ∈ primes, p = (n : Int)) {ps : List (Int × Int)} (hd : Diff p ps) {f g : List Int} {m : Nat} {e : Int} (hf : Rg p m f) (hg : Rg p m g) (hm : (m : Int) + 2 * e ≤ ps.length)
    (h1 : (ps.length : Int) - e ≤ (agr p f ps : Nat)) (h2 : (ps.length : Int) - e ≤ (agr p g ps : Nat)) : trimZ f = trimZ g := by
  obtain ⟨xs, hxs⟩ : ∃ xs, xs = (ps.filter fun q => (pe f q.1 % p == q.2 % p) && (pe g q.1 % p == q.2 % p)) := ⟨_, rfl⟩
  have hc := count_two (a := fun q : Int × Int => pe f q.1 % p == q.2 % p) (b := fun q : Int × Int => pe g q.1 % p == q.2 % p) ps
  have hl : xs.length = ps.countP fun q => (pe f q.1 % p == q.2 % p) && (pe g q.1 % p == q.2 % p) := by
    rw [hxs, List.countP_eq_length_filter]
  have hmx : m ≤ xs.length := by
    unfold agr at h1 h2
    omega
  refine same_poly hp (xs := xs.map (·.1)) ?_ hf.2 hg.2 (by rw [List.length_map]; have := hf.1; omega) (by rw [List.length_map]; have := hg.1; omega) ?_
  · rw [List.pairwise_map, hxs]
    exact hd.pair.filter _
  · intro x hx
    obtain ⟨q, hq, rfl⟩ := List.mem_map.mp hx
    rw [hxs, List.mem_filter, Bool.and_eq_true] at hq
    have a1 : pe f q.1 % p = q.2 % p := eq_of_beq hq.2.1
    have a2 : pe g q.1 % p = q.2 % p := eq_of_beq hq.2.2
    exact a1.trans a2.symm
/-- the law's search and the program's -/
theorem dec_same {p : Int} (hp : ∃ n ∈ primes, p = (n : Int)) {ps : List (Int × Int)} (hd : Diff p ps) {d : Nat} {e : Int} (hl : (d : Int) + 1 + 2 * e ≤ ps.length) (he : 0 ≤ e) {gl : List Nat → Bool}
    (hgl : ∀ s, asc ps.length s → s.length = d + 1 → gl s = decide ((ps.length : Int) - e ≤ (agr p (lf p (pick ps s) (d + 1)) ps : Nat))) :
    decF p ps d e = ((choF ps.length (d + 1)).find? gl).map fun s => trimZ (lf p (pick ps s) (d + 1)) := by
  have hb := prime_ge hp
  have hli : ∀ s, asc ps.length s → s.length = d + 1 → trimZ (lf p (pick ps s) (d + 1)) = interp p (pick ps s) := fun s h1 h2 => by
    have := line_interp hp (pick_diff hd h1)
    rwa [show (pick ps s).length = d + 1 by unfold pick; rw [List.length_map]; exact h2] at this
  have hg : ∀ s, asc ps.length s → s.length = d + 1 → good p ps e s = gl s := fun s h1 h2 => by
    rw [hgl s h1 h2, agr_eq (hli s h1 h2)]; rfl
  have hrg : ∀ s, s.length = d + 1 → Rg p (d + 1) (interp p (pick ps s)) := fun s h2 => by
    have := interp_all (p := p) (by omega) (pick ps s)
    rwa [show (pick ps s).length = d + 1 by unfold pick; rw [List.length_map]; exact h2] at this
  have hgood : ∀ s, good p ps e s = true → (ps.length : Int) - e ≤ (agr p (interp p (pick ps s)) ps : Nat) := fun s h => of_decide_eq_true h
  unfold decF
  rw [if_neg (by omega)]
  cases h1 : (subF ps.length (d + 1)).find? (good p ps e) with
  | none =>
    cases h2 : (choF ps.length (d + 1)).find? gl with
    | none => rfl
    | some t =>
      exfalso
      have ht := choF_mem.mp (List.mem_of_find?_eq_some h2)
      have := List.find?_eq_none.mp h1 t (subF_mem.mpr ht)
      rw [hg t ht.2 ht.1, List.find?_some h2] at this
      exact this rfl
  | some s =>
    have hs := subF_mem.mp (List.mem_of_find?_eq_some h1)
    have gs := List.find?_some h1
    cases h2 : (choF ps.length (d + 1)).find? gl with
    | none =>
      exfalso
      have := List.find?_eq_none.mp h2 s (choF_mem.mpr hs)
      rw [← hg s hs.2 hs.1, gs] at this
      exact this rfl
    | some t =>
      have ht := choF_mem.mp (List.mem_of_find?_eq_some h2)
      have gt := List.find?_some h2
      rw [← hg t ht.2 ht.1] at gt
      show some (interp p (pick ps s)) = some (trimZ (lf p (pick ps t) (d + 1)))
      rw [hli t ht.2 ht.1, ← interp_trimZ (by omega) (pick ps s), ← interp_trimZ (by omega) (pick ps t)]
      exact congrArg some (good_one hp hd (hrg s hs.1) (hrg t ht.1) (by omega) (hgood s gs) (hgood t gt))
theorem xK_lvalueO {Φ : Fns} {i n : Nat} {p x : Int} {f : List Int} {st : Sto} {Q : Kd} {u} (hi : Φ i = f_lvalue) (hn : st[n]? = some (iL f)) (h1 : 0 < p ∧ p < 2 ^ 64 ∧ x.natAbs < 2 ^ 64 ∧ f.length ≤ 100000) (h : Q (.int (pe f x % p)) st) : xK Φ i [.int p, .loc n, .int x] st Q u := by
  unfold xK
  rw [hi]
  exact ⟨f, asSeq_o hn, .inr (.inr ⟨n, rfl⟩), h1, h⟩

def topS (i : Nat) : Stmt := PySem.Challenge.pw_sortes_k02_decoding.main.body.getD i (.Pass ⟨0, 0, 0, 0⟩)
abbrev s_q_power : Stmt := topS 1
def G_q_power : Gam := ⟨["p", "a", "k", "result", "factor"], defScope s_q_power, fun _ => true, [], [], []⟩
theorem sc_q_power : FnScope ["p", "a", "k", "result", "factor"] ["p", "a", "k"] (defScope s_q_power) := ⟨rfl, rfl, rfl, by decide +kernel, rfl, by decide +kernel, by decide +kernel⟩
def p_q_power : List SS := b_power
theorem c_q_power : cSs 60 G_q_power (defBody s_q_power) = some p_q_power := rfl
abbrev s_q_inverse : Stmt := topS 2
def G_q_inverse : Gam := ⟨["p", "a"], defScope s_q_inverse, fun _ => true, [("power", .fn 0 3)], [], []⟩
theorem sc_q_inverse : FnScope ["p", "a"] ["p", "a"] (defScope s_q_inverse) := ⟨rfl, rfl, rfl, by decide +kernel, rfl, by decide +kernel, by decide +kernel⟩
def p_q_inverse : List SS := b_inverse 0
theorem c_q_inverse : cSs 60 G_q_inverse (defBody s_q_inverse) = some p_q_inverse := rfl
abbrev s_q_trimmed : Stmt := topS 4
def G_q_trimmed : Gam := ⟨["p", "coefficients", "found", "one"], defScope s_q_trimmed, fun _ => true, [], ["tuple"], [(15, 12, 45)]⟩
theorem sc_q_trimmed : FnScope ["p", "coefficients", "found", "one"] ["p", "coefficients"] (defScope s_q_trimmed) := ⟨rfl, rfl, rfl, by decide +kernel, rfl, by decide +kernel, by decide +kernel⟩
def p_q_trimmed : List SS := b_trimmed
theorem c_q_trimmed : cSs 60 G_q_trimmed (defBody s_q_trimmed) = some p_q_trimmed := rfl
abbrev s_q_value : Stmt := topS 5
def G_q_value : Gam := ⟨["p", "f", "x", "result", "one"], defScope s_q_value, fun _ => true, [], [], []⟩
theorem sc_q_value : FnScope ["p", "f", "x", "result", "one"] ["p", "f", "x"] (defScope s_q_value) := ⟨rfl, rfl, rfl, by decide +kernel, rfl, by decide +kernel, by decide +kernel⟩
def p_q_value : List SS := b_value
theorem c_q_value : cSs 60 G_q_value (defBody s_q_value) = some p_q_value := rfl
abbrev s_q_plus : Stmt := topS 6
def G_q_plus : Gam := ⟨["p", "f", "g", "many", "longer", "k", "one"], defScope s_q_plus, fun _ => true, [("trimmed", .fn 2 2)], ["max", "enumerate", "len", "list"], [(26, 13, 44)]⟩
theorem sc_q_plus : FnScope ["p", "f", "g", "many", "longer", "k", "one"] ["p", "f", "g"] (defScope s_q_plus) := ⟨rfl, rfl, rfl, by decide +kernel, rfl, by decide +kernel, by decide +kernel⟩
def p_q_plus : List SS := b_plus 2
theorem c_q_plus : cSs 60 G_q_plus (defBody s_q_plus) = some p_q_plus := rfl
abbrev s_q_times : Stmt := topS 7
def G_q_times : Gam := ⟨["p", "f", "g", "found", "j", "one", "k", "other"], defScope s_q_times, fun _ => true, [("trimmed", .fn 2 2)], ["enumerate", "len"], [(31, 12, 35)]⟩
theorem sc_q_times : FnScope ["p", "f", "g", "found", "j", "one", "k", "other"] ["p", "f", "g"] (defScope s_q_times) := ⟨rfl, rfl, rfl, by decide +kernel, rfl, by decide +kernel, by decide +kernel⟩
def p_q_times : List SS := b_times 2
theorem c_q_times : cSs 60 G_q_times (defBody s_q_times) = some p_q_times := rfl
abbrev s_q_interpolate : Stmt := topS 8
def G_q_interpolate : Gam := ⟨["p", "pairs", "result", "k", "x", "y", "term", "j", "other", "z", "factor"], defScope s_q_interpolate, fun _ => true, [("plus", .fn 4 3), ("inverse", .fn 1 2), ("times", .fn 5 3)], ["enumerate"], []⟩
theorem sc_q_interpolate : FnScope ["p", "pairs", "result", "k", "x", "y", "term", "j", "other", "z", "factor"] ["p", "pairs"] (defScope s_q_interpolate) := ⟨rfl, rfl, rfl, by decide +kernel, rfl, by decide +kernel, by decide +kernel⟩
def p_q_interpolate : List SS := b_interpolate 1 5 4
theorem c_q_interpolate : cSs 60 G_q_interpolate (defBody s_q_interpolate) = some p_q_interpolate := rfl
abbrev s_q_subsets : Stmt := topS 10
def G_q_subsets : Gam := ⟨["many", "size", "found", "step", "one", "k"], defScope s_q_subsets, fun _ => true, [], ["range"], []⟩
theorem sc_q_subsets : FnScope ["many", "size", "found", "step", "one", "k"] ["many", "size"] (defScope s_q_subsets) := ⟨rfl, rfl, rfl, by decide +kernel, rfl, by decide +kernel, by decide +kernel⟩
def p_q_subsets : List SS := b_subsets
theorem c_q_subsets : cSs 60 G_q_subsets (defBody s_q_subsets) = some p_q_subsets := rfl
abbrev s_q_agreeing : Stmt := topS 11
def G_q_agreeing : Gam := ⟨["p", "f", "pairs", "x", "y"], defScope s_q_agreeing, fun _ => true, [("value", .fn 3 3)], ["sum"], []⟩
theorem sc_q_agreeing : FnScope ["p", "f", "pairs", "x", "y"] ["p", "f", "pairs"] (defScope s_q_agreeing) := ⟨rfl, rfl, rfl, by decide +kernel, rfl, by decide +kernel, by decide +kernel⟩
def p_q_agreeing : List SS := b_agreeing 3
theorem c_q_agreeing : cSs 60 G_q_agreeing (defBody s_q_agreeing) = some p_q_agreeing := rfl
abbrev s_q_decode : Stmt := topS 12
def G_q_decode : Gam := ⟨["p", "pairs", "degree", "errors", "places", "f", "k"], defScope s_q_decode, fun _ => true, [("subsets", .fn 7 2), ("interpolate", .fn 6 2), ("agreeing", .fn 8 3)], ["len"], []⟩
theorem sc_q_decode : FnScope ["p", "pairs", "degree", "errors", "places", "f", "k"] ["p", "pairs", "degree", "errors"] (defScope s_q_decode) := ⟨rfl, rfl, rfl, by decide +kernel, rfl, by decide +kernel, by decide +kernel⟩
def p_q_decode : List SS := b_decode 6 7 8
theorem c_q_decode : cSs 60 G_q_decode (defBody s_q_decode) = some p_q_decode := rfl
abbrev s_l_start : Stmt := topS 14
def G_l_start : Gam := ⟨["_law_script", "_law_cell"], defScope s_l_start, fun _ => true, [], ["int"], [(64, 11, 76)]⟩
theorem sc_l_start : FnScope ["_law_script", "_law_cell"] ["_law_script"] (defScope s_l_start) := ⟨rfl, rfl, rfl, by decide +kernel, rfl, by decide +kernel, by decide +kernel⟩
def p_l_start : List SS := b_start
theorem c_l_start : cSs 60 G_l_start (defBody s_l_start) = some p_l_start := rfl
abbrev s_l_fill : Stmt := topS 15
def G_l_fill : Gam := ⟨["_law_c", "_law_number"], defScope s_l_fill, fun _ => true, [], ["len", "int"], []⟩
theorem sc_l_fill : FnScope ["_law_c", "_law_number"] ["_law_c"] (defScope s_l_fill) := ⟨rfl, rfl, rfl, by decide +kernel, rfl, by decide +kernel, by decide +kernel⟩
def p_l_fill : List SS := b_fill
theorem c_l_fill : cSs 60 G_l_fill (defBody s_l_fill) = some p_l_fill := rfl
abbrev s_l_take : Stmt := topS 16
def G_l_take : Gam := ⟨["_law_c", "_law_many", "_law_digit"], defScope s_l_take, fun _ => true, [("_law_fill", .fn 11 1)], ["int"], []⟩
theorem sc_l_take : FnScope ["_law_c", "_law_many", "_law_digit"] ["_law_c", "_law_many"] (defScope s_l_take) := ⟨rfl, rfl, rfl, by decide +kernel, rfl, by decide +kernel, by decide +kernel⟩
def p_l_take : List SS := b_take 11
theorem c_l_take : cSs 60 G_l_take (defBody s_l_take) = some p_l_take := rfl
abbrev s_l_power : Stmt := topS 17
def G_l_power : Gam := ⟨["_law_p", "_law_a", "_law_k", "_law_found", "_law_j"], defScope s_l_power, fun _ => true, [], ["range", "int"], []⟩
theorem sc_l_power : FnScope ["_law_p", "_law_a", "_law_k", "_law_found", "_law_j"] ["_law_p", "_law_a", "_law_k"] (defScope s_l_power) := ⟨rfl, rfl, rfl, by decide +kernel, rfl, by decide +kernel, by decide +kernel⟩
def p_l_power : List SS := b_lpower
theorem c_l_power : cSs 60 G_l_power (defBody s_l_power) = some p_l_power := rfl
abbrev s_l_line : Stmt := topS 18
def G_l_line : Gam := ⟨["_law_p", "_law_pairs", "_law_found", "_law_k", "_law_term", "_law_j", "_law_factor", "_law_longer", "_law_u", "_law_x"], defScope s_l_line, fun _ => true, [("_law_power", .fn 13 3)], ["range", "len", "int"], [(103, 21, 112), (97, 30, 51)]⟩
theorem sc_l_line : FnScope ["_law_p", "_law_pairs", "_law_found", "_law_k", "_law_term", "_law_j", "_law_factor", "_law_longer", "_law_u", "_law_x"] ["_law_p", "_law_pairs"] (defScope s_l_line) := ⟨rfl, rfl, rfl, by decide +kernel, rfl, by decide +kernel, by decide +kernel⟩
def p_l_line : List SS := b_line 13
theorem c_l_line : cSs 60 G_l_line (defBody s_l_line) = some p_l_line := rfl
abbrev s_l_choices : Stmt := topS 19
def G_l_choices : Gam := ⟨["_law_many", "_law_k", "_law_found", "_law_j", "_law_one"], defScope s_l_choices, fun _ => true, [], ["range", "len"], []⟩
theorem sc_l_choices : FnScope ["_law_many", "_law_k", "_law_found", "_law_j", "_law_one"] ["_law_many", "_law_k"] (defScope s_l_choices) := ⟨rfl, rfl, rfl, by decide +kernel, rfl, by decide +kernel, by decide +kernel⟩
def p_l_choices : List SS := b_choices
theorem c_l_choices : cSs 60 G_l_choices (defBody s_l_choices) = some p_l_choices := rfl
abbrev s_l_value : Stmt := topS 20
def G_l_value : Gam := ⟨["_law_p", "_law_f", "_law_x", "_law_total", "_law_k"], defScope s_l_value, fun _ => true, [], ["range", "len", "int"], []⟩
theorem sc_l_value : FnScope ["_law_p", "_law_f", "_law_x", "_law_total", "_law_k"] ["_law_p", "_law_f", "_law_x"] (defScope s_l_value) := ⟨rfl, rfl, rfl, by decide +kernel, rfl, by decide +kernel, by decide +kernel⟩
def p_l_value : List SS := b_lvalue
theorem c_l_value : cSs 60 G_l_value (defBody s_l_value) = some p_l_value := rfl
abbrev s_law : Stmt := topS 21
def G_law : Gam := ⟨["_law_script", "_law_c", "_law_p", "_law_d", "_law_e", "_law_many", "_law_f", "_law_left", "_law_rows", "_law_row", "_law_k", "_law_pairs", "_law_due", "_law_chosen", "_law_g", "_law_j", "_law_x", "_law_y"], defScope s_law, fun _ => true, [("_law_start", .fn 10 1), ("_law_take", .fn 12 2), ("_law_choices", .fn 15 2), ("_law_value", .fn 16 3), ("_law_line", .fn 14 2), ("decode", .fn 9 4)], ["range", "tuple", "int", "len"], [(125, 17, 71), (131, 21, 61), (124, 16, 52), (142, 19, 34)]⟩
theorem sc_law : FnScope ["_law_script", "_law_c", "_law_p", "_law_d", "_law_e", "_law_many", "_law_f", "_law_left", "_law_rows", "_law_row", "_law_k", "_law_pairs", "_law_due", "_law_chosen", "_law_g", "_law_j", "_law_x", "_law_y"] ["_law_script"] (defScope s_law) := ⟨rfl, rfl, rfl, by decide +kernel, rfl, by decide +kernel, by decide +kernel⟩
def p_law : List SS := [.set (.nm 1) (.call 10 [(.var 0)]),
  .set (.nm 2) (.idx (.lst false [(.con (.int 11)), (.con (.int 13)), (.con (.int 17)), (.con (.int 31)), (.con (.int 101))]) (.call 12 [(.var 1), (.con (.int 5))])),
  .set (.nm 3) (.call 12 [(.var 1), (.con (.int 4))]),
  .set (.nm 4) (.call 12 [(.var 1), (.idx (.lst false [(.con (.int 3)), (.con (.int 5))]) (.blt .int false [(.cmp .lt (.var 3) (.con (.int 2)))]))]),
  .set (.nm 5) (.bin .add false (.bin .add false (.bin .add false (.var 3) (.bin .mul false (.con (.int 2)) (.var 4))) (.con (.int 1))) (.call 12 [(.var 1), (.con (.int 3))])),
  .ite (.cmp .gt (.var 5) (.con (.int 10))) [.set (.nm 5) (.bin .add false (.bin .add false (.var 3) (.bin .mul false (.con (.int 2)) (.var 4))) (.con (.int 1)))] [],
  .set (.nm 6) (.lc false (.call 12 [(.var 1), (.var 2)]) (.nm 15) (.rng1 (.bin .add false (.var 3) (.con (.int 1)))) none [15]),
  .set (.nm 7) (.lc true (.var 15) (.nm 15) (.rng1 (.var 2)) none [15]),
  .set (.nm 8) (.lc false (.lst true [(.mth .pop1 (.var 7) [(.call 12 [(.var 1), (.bin .sub false (.var 2) (.var 15))])]), (.con (.int 0))]) (.nm 15) (.rng1 (.var 5)) none [15]),
  .for_ (.nm 9) (.seq (.var 8)) [.set (.sub (.var 9) (.con (.int 1))) (.call 16 [(.var 2), (.var 6), (.idx (.var 9) (.con (.int 0)))])],
  .for_ (.nm 10) (.rng1 (.call 12 [(.var 1), (.bin .add false (.var 4) (.con (.int 2)))])) [.set (.sub (.idx (.var 8) (.call 12 [(.var 1), (.var 5)])) (.con (.int 1))) (.call 12 [(.var 1), (.var 2)])],
  .ite (.cmp .eq (.call 12 [(.var 1), (.con (.int 8))]) (.con (.int 0))) [.set (.nm 8) (.lc false (.lst true [(.idx (.var 9) (.con (.int 0))), (.call 12 [(.var 1), (.var 2)])]) (.nm 9) (.seq (.var 8)) none [9])] [],
  .set (.nm 11) (.blt .tuple false [(.lc false (.tup [(.idx (.var 9) (.con (.int 0))), (.idx (.var 9) (.con (.int 1)))]) (.nm 9) (.seq (.var 8)) none [9])]),
  .set (.nm 12) (.con .non),
  .for_ (.nm 13) (.seq (.call 15 [(.var 5), (.bin .add false (.var 3) (.con (.int 1)))])) [.set (.nm 14) (.call 14 [(.var 2), (.lc false (.idx (.var 11) (.var 10)) (.nm 10) (.seq (.var 13)) none [10])]),
  .ite (.land (.cmp .is_ (.var 12) (.con .non)) (.cmp .ge (.blt .len false [(.lc false (.con (.int 1)) (.tup [(.nm 16), (.nm 17)]) (.seq (.var 11)) (some (.cmp .eq (.call 16 [(.var 2), (.var 14), (.var 16)]) (.var 17))) [16, 17])]) (.bin .sub false (.var 5) (.var 4)))) [.set (.nm 12) (.var 14)] []],
  .ite (.cmp .isnt (.var 12) (.con .non)) [.for_ (.nm 10) (.rng1 (.bin .add false (.var 3) (.con (.int 1)))) [.ite (.land (.val (.var 12)) (.cmp .eq (.idx (.var 12) (.neg (.con (.int 1)))) (.con (.int 0)))) [.expr (.mth .pop0 (.var 12) [])] []],
  .set (.nm 12) (.blt .tuple true [(.var 12)])] [],
  .ret (.cmp .eq (.call 9 [(.var 2), (.var 11), (.var 3), (.var 4)]) (.var 12))]
theorem c_law : cSs 60 G_law (defBody s_law) = some p_law := rfl
def PHI : Fns := fun i => match i with
  | 0 => f_power
  | 1 => f_inverse
  | 2 => f_trimmed
  | 3 => f_value
  | 4 => f_plus
  | 5 => f_times
  | 6 => f_interpolate
  | 7 => f_subsets
  | 8 => f_agreeing
  | 9 => f_decode
  | 10 => f_start
  | 11 => f_fill
  | 12 => f_take
  | 13 => f_lpower
  | 14 => f_line
  | 15 => f_choices
  | 16 => f_lvalue
  | 17 => f_law
  | _ => fun _ _ _ => False
theorem mono : ∀ f, MonoFn (PHI f) := fun f => by
  unfold PHI
  split
  · exact m_power
  · exact m_inverse
  · exact m_trimmed
  · exact m_value
  · exact m_plus
  · exact m_times
  · exact m_interpolate
  · exact m_subsets
  · exact m_agreeing
  · exact m_decode
  · exact m_start
  · exact m_fill
  · exact m_take
  · exact m_lpower
  · exact m_line
  · exact m_choices
  · exact m_lvalue
  · exact m_law
  · exact fun _ _ _ _ _ h => h
theorem seqIndex_in {r : Int} {n : Nat} (h0 : 0 ≤ r) (h1 : r < n) : seqIndex? r n = some r.toNat := by
  unfold seqIndex?
  have h : ¬ r < 0 := by omega
  simp only [if_neg h]
  rw [if_pos (by simp; omega)]
theorem erase_map {α β : Type} {f : α → β} : ∀ (l : List α) (i : Nat), (l.map f).eraseIdx i = (l.eraseIdx i).map f
  | [], _ => rfl
  | _ :: _, 0 => rfl
  | x :: r, i + 1 => congrArg (f x :: ·) (erase_map r i)
theorem erase_perm {α : Type} : ∀ (l : List α) (i : Nat) (h : i < l.length), l.Perm (l[i] :: l.eraseIdx i)
  | [], _, h => by simp at h
  | x :: r, 0, _ => List.Perm.refl _
  | x :: r, i + 1, h => (List.Perm.cons x (erase_perm r i (by simpa using h))).trans (List.Perm.swap _ _ _)
theorem take_list {st : Sto} {Q : Kd} {u} {m : Int} {c : Cell} {b : Nat} {rest : Sto} (hs : st = cellD c :: rest) (h2 : c.ok b) (h3 : b < 2 ^ 60) (h4 : 0 < m) (h5 : m < 2 ^ 64)
    (h : ∀ c' r, c'.ok (b + 1) → 0 ≤ r → r < m → Q (.int r) (cellD c' :: rest)) : xK PHI 12 [.loc 0, .int m] st Q u := by
  subst hs
  exact xK_take rfl (c := c) rfl h2 h3 h4 (by omega) fun c' r g1 g2 g3 g4 => h c' r g1 g3 g4
/-- the numbers that a comprehension over a range takes -/
theorem take_many {elt : SE} {i0 : Nat} {env : Ev} {keep : Sto → Prop} {Q : List D → Sto → Prop} {u v} {c : Cell} {b n : Nat} {rest : Sto} (hk : ∀ s, keep s) (h2 : c.ok b) (h3 : b + n < 2 ^ 60) (hn : n ≤ 10000)
    (good : Int → Prop) (hs : ∀ (i : Nat) (c : Cell) (b : Nat) (K : Kd), c.ok b → b < 2 ^ 60 → (∀ c' r, c'.ok (b + 1) → good r → K (.int r) (cellD c' :: rest)) → xE PHI elt (env.set i0 (some (.int (0 + (i : Int) * 1)))) (cellD c :: rest) K ⟨⟩)
    (h : ∀ (c' : Cell) (l : List Int), c'.ok (b + n) → l.length = n → (∀ x ∈ l, good x) → Q (l.map .int) (cellD c' :: rest)) :
    xlc PHI elt (.nm i0) none env keep Q u v (rngL 0 n 1) [] (cellD c :: rest) := by
  refine lc_inv mono (fun i a s => ∃ (c' : Cell) (l : List Int), c'.ok (b + i) ∧ l.length = i ∧ (∀ x ∈ l, good x) ∧ a = l.map .int ∧ s = cellD c' :: rest) ⟨c, [], h2, rfl, (fun x hx => by cases hx), rfl, rfl⟩ (by rw [rngL_len]; have := sizeLine_ge; simp; omega) (fun _ _ s _ _ => hk s) ?_ ?_
  · rintro i x a s hx ⟨c', l, g1, g2, g3, rfl, rfl⟩
    obtain ⟨hi, rfl⟩ := rngL_at hx
    simp_wf
    refine hs i c' (b + i) _ g1 (by omega) fun c2 r k1 k2 => ?_
    refine ⟨c2, l ++ [r], k1, by simp [g2], fun x hx => ?_, by simp, rfl⟩
    rcases List.mem_append.mp hx with hx | hx
    · exact g3 x hx
    · simp at hx; subst hx; exact k2
  · rintro a s ⟨c', l, g1, g2, g3, rfl, rfl⟩
    rw [rngL_len] at g1 g2
    exact h c' l g1 g2 g3
def rD (q : Int × Int) : D := .lst [.int q.1, .int q.2]
theorem get2 {a b : D} {R : Sto} {i : Nat} : (a :: b :: R)[2 + i]? = R[i]? := by
  rw [Nat.add_comm, List.getElem?_cons_succ, List.getElem?_cons_succ]
theorem set2 {a b v : D} {R : Sto} {i : Nat} : (a :: b :: R).set (2 + i) v = a :: b :: R.set i v := by
  rw [Nat.add_comm, List.set_cons_succ, List.set_cons_succ]
theorem rD_set {ps : List (Int × Int)} {i : Nat} {x v : Int} : (ps.map rD).set i (.lst [.int x, .int v]) = (ps.set i (x, v)).map rD := by
  rw [show D.lst [.int x, .int v] = rD (x, v) from rfl]
  exact List.map_set.symm
theorem fst_set {ps : List (Int × Int)} {i : Nat} {q : Int × Int} {v : Int} (h : ps[i]? = some q) : (ps.set i (q.1, v)).map (·.1) = ps.map (·.1) := by
  apply List.ext_getElem?
  intro j
  rw [List.getElem?_map, List.getElem?_map, List.getElem?_set]
  by_cases e : i = j
  · subst e
    rw [if_pos rfl, if_pos (List.getElem?_eq_some_iff.mp h).1, h]; rfl
  · rw [if_neg e]
theorem o_law {ds : List D} {st : Sto} {Q : Kd} (h : f_law ds st Q) : xBody PHI p_law st.length Q ⟨⟩ (ds.map some ++ List.replicate (18 - 1) none) st := by
  obtain ⟨ns, rfl, rfl, hl, q⟩ := h
  have hz := sizeLine_ge
  unfold p_law
  simp_wf
  refine xK_start rfl hl ?_
  simp_wf
  refine xand_mk (by decide) fun _ => ?_
  simp_wf
  have ok0 : (⟨ns, 0, 0, 0, 20⟩ : Cell).ok 0 := ⟨hl, Int.le_refl _, Int.le_refl _, Int.le_refl _, Int.le_refl _⟩
  refine take_list rfl ok0 (by decide) (by decide) (by decide) fun c1 r1 ok1 r10 r11 => ?_
  obtain ⟨p, hp, e⟩ : ∃ p : Int, (∃ n ∈ primes, p = (n : Int)) ∧ atI [D.int 11, D.int 13, D.int 17, D.int 31, D.int 101] r1 = some (.int p) := by
    have : r1 = 0 ∨ r1 = 1 ∨ r1 = 2 ∨ r1 = 3 ∨ r1 = 4 := by omega
    rcases this with rfl | rfl | rfl | rfl | rfl
    · exact ⟨11, ⟨11, by decide, rfl⟩, rfl⟩
    · exact ⟨13, ⟨13, by decide, rfl⟩, rfl⟩
    · exact ⟨17, ⟨17, by decide, rfl⟩, rfl⟩
    · exact ⟨31, ⟨31, by decide, rfl⟩, rfl⟩
    · exact ⟨101, ⟨101, by decide, rfl⟩, rfl⟩
  have hpb := prime_ge hp
  nomatch e
  clear e
  refine take_list rfl ok1 (by decide) (by omega) (by omega) fun c2 d ok2 d0 d1 => ?_
  simp_wf
  refine xand_mk (by omega) fun _ => ?_
  simp_wf
  obtain ⟨me, hme, e⟩ : ∃ me : Int, ((d < 2 ∧ me = 5) ∨ (2 ≤ d ∧ me = 3)) ∧ atI [D.int 3, D.int 5] (if decide (d < 2) = true then 1 else 0) = some (.int me) := by
    by_cases h : d < 2
    · refine ⟨5, .inl ⟨h, rfl⟩, ?_⟩
      rw [if_pos (decide_eq_true h)]; rfl
    · refine ⟨3, .inr ⟨by omega, rfl⟩, ?_⟩
      rw [if_neg (by simpa using h)]; rfl
  nomatch e
  clear e
  refine take_list rfl ok2 (by decide) (by omega) (by omega) fun c3 er ok3 e0 e1 => ?_
  simp_wf
  refine xand_mk (cmul64 (by decide) (by omega)) fun _ => ?_
  simp_wf
  refine take_list rfl ok3 (by decide) (by decide) (by decide) fun c4 m3 ok4 m30 m31 => ?_
  simp_wf
  refine ite_join mono (fun en s => ∃ many : Int, en = [some (.ro (ns.map .int)), some (.loc 0), some (.int p), some (.int d), some (.int er), some (.int many), none, none, none, none, none, none, none, none, none, none, none, none] ∧ s = [cellD c4] ∧ d + 2 * er + 1 ≤ many ∧ many ≤ 10) (fun hc => ?_) (fun hc => ?_) ?_
  · simp_wf
    refine xand_mk (cmul64 (by decide) (by omega)) fun _ => ?_
    simp_wf
    exact ⟨_, rfl, rfl, by omega, by omega⟩
  · have hc := of_decide_eq_false hc
    simp_wf
    exact ⟨_, rfl, rfl, by omega, by omega⟩
  rintro _ _ ⟨many, rfl, rfl, hm1, hm2⟩
  simp_wf
  refine xand_mk (by omega) fun _ => ?_
  simp_wf
  refine take_many (fun _ => trivial) ok4 (by omega) (by omega) (fun r => 0 ≤ r ∧ r < p) (fun i c b K g1 g2 g3 => ?_) fun c5 f ok5 hfl hfr => ?_
  · simp_wf
    exact take_list rfl g1 g2 (by omega) (by omega) fun c' r k1 k2 k3 => g3 _ _ k1 ⟨k2, k3⟩
  simp_wf
  refine xand_mk (by omega) fun _ => ?_
  simp_wf
  refine lc_mapT mono (l := List.range p.toNat) (enc := fun i : Nat => D.int (0 + (i : Int) * 1)) (g := fun i : Nat => D.int (i : Int)) (β := Int) (by simp; omega) trivial (fun j hj => ?_) ?_
  · simp_wf
    exact ⟨rfl, by rw [show (0 + (j : Int) * 1) = (j : Int) by omega]⟩
  simp_wf
  rw [show (List.range p.toNat).map (fun i : Nat => D.int (i : Int)) = ((List.range p.toNat).map fun i : Nat => (i : Int)).map .int by rw [List.map_map]; rfl]
  refine xand_mk (by omega) fun _ => ?_
  obtain ⟨mn, hmn⟩ : ∃ mn : Nat, many = mn := ⟨many.toNat, by omega⟩
  subst hmn
  rw [Int.toNat_natCast]
  obtain ⟨B, hB⟩ : ∃ B, B = 0 + 1 + 1 + 1 + 1 + (d + 1).toNat := ⟨_, rfl⟩
  have hBb : B < 1000 := by omega
  refine lc_inv mono (fun i acc s => ∃ (c : Cell) (L xs : List Int), acc = locs 2 i ∧ s = cellD c :: iL L :: (xs.map fun x => iL [x, 0]) ∧ c.ok (B + i) ∧ xs.length = i ∧ L.length = p.toNat - i ∧ (xs ++ L).Nodup ∧ ∀ w ∈ xs ++ L, 0 ≤ w ∧ w < p)
    ⟨c5, _, [], rfl, rfl, by rw [hB]; exact ok5, rfl, by simp, ?_, ?_⟩ (by rw [rngL_len]; simp; omega) (fun _ _ _ _ _ => trivial) ?_ ?_
  · show ((List.range p.toNat).map fun i : Nat => (i : Int)).Nodup
    exact List.Pairwise.map _ (fun a b h e => h (by have e : (a : Int) = (b : Int) := e; omega)) List.nodup_range
  · intro w hw
    simp at hw
    obtain ⟨n, hn, rfl⟩ := hw
    omega
  · rintro i c acc s hc ⟨c', L, xs, rfl, rfl, okc, hxl, hLl, hnd, hrg⟩
    obtain ⟨hi, rfl⟩ := rngL_at hc
    rw [show (0 + (i : Int) * 1) = (i : Int) by omega]
    simp_wf
    refine take_list rfl okc (by omega) (by omega) (by omega) fun c2 r okr r0 r1 => ?_
    simp_wf
    refine xand_mk (by omega) fun _ => ?_
    have hri : r.toNat < L.length := by omega
    simp_wf
    rw [seqIndex_in r0 (by omega)]
    simp_wf
    rw [List.getElem?_eq_getElem hri]
    simp_wf
    refine xand_mk (by omega) fun _ => ?_
    simp_wf
    refine ⟨c2, L.eraseIdx r.toNat, xs ++ [L[r.toNat]], ?_, ?_, okr, by simp [hxl], ?_, ?_, ?_⟩
    · unfold locs
      rw [List.range_succ, List.map_append]
      simp [hxl]
      omega
    · simp [erase_map]
    · rw [List.length_eraseIdx, if_pos hri, hLl]; omega
    · have hperm : (xs ++ L).Perm (xs ++ [L[r.toNat]] ++ L.eraseIdx r.toNat) := by
        rw [List.append_assoc]
        exact List.Perm.append_left _ (erase_perm L r.toNat hri)
      exact hperm.nodup_iff.mp hnd
    · intro w hw
      rw [List.append_assoc] at hw
      rcases List.mem_append.mp hw with hw | hw
      · exact hrg w (List.mem_append_left _ hw)
      · rcases List.mem_append.mp hw with hw | hw
        · simp at hw; subst hw
          exact hrg _ (List.mem_append_right _ (List.getElem_mem hri))
        · exact hrg w (List.mem_append_right _ (List.mem_of_mem_eraseIdx hw))
  rintro acc s ⟨c6, L, xs, rfl, rfl, ok6, hxl, hLl, hnd, hrg⟩
  rw [rngL_len] at hxl hLl ok6 ⊢
  have hxn : xs.Nodup := (List.nodup_append.mp hnd).1
  have hxr : ∀ w ∈ xs, 0 ≤ w ∧ w < p := fun w hw => hrg w (List.mem_append_left _ hw)
  clear hrg hnd hLl
  simp_wf
  refine for_inv mono (fun i e s => ∃ (ps : List (Int × Int)) (x9 : Option D), e = [some (.ro (ns.map .int)), some (.loc 0), some (.int p), some (.int d), some (.int er), some (.int mn), some (.lst (f.map .int)), some (.loc 1), some (.lst (locs 2 mn)), x9, none, none, none, none, none, none, none, none] ∧ s = cellD c6 :: iL L :: ps.map rD ∧ ps.map (·.1) = xs ∧ ∀ q ∈ ps, 0 ≤ q.2 ∧ q.2 < p) ⟨xs.map fun x => (x, 0), none, rfl, by rw [List.map_map]; rfl, by simp [Function.comp_def], fun q hq => ?_⟩ (fun i e s _ h => rfl) ?_ ?_
  · obtain ⟨x, _, rfl⟩ := List.mem_map.mp hq
    exact ⟨Int.le_refl _, by omega⟩
  · rintro i c e s hc ⟨ps, x9, rfl, rfl, hps, hsec⟩
    have hi : i < mn := by
      have := (List.getElem?_eq_some_iff.mp hc).1
      rwa [show (locs 2 mn).length = mn from locs_len] at this
    have hc2 : c = .loc (2 + i) := by
      have : (locs 2 mn)[i]? = some c := hc
      rw [locs_get hi] at this
      exact (Option.some.inj this).symm
    subst hc2
    have hpl : ps.length = mn := by rw [← hxl, ← hps, List.length_map]
    have hq := List.getElem?_eq_getElem (show i < ps.length by omega)
    have hqm : ps[i].1 ∈ ps.map (·.1) := List.mem_map_of_mem (List.getElem_mem _)
    rw [hps] at hqm
    have hqr := hxr _ hqm
    nomatch get2, set2, hq, rD
    refine xK_lvalueL rfl (by omega) ?_
    nomatch get2, set2, hq, rD
    rw [rD_set]
    refine ⟨_, _, rfl, rfl, by rw [fst_set hq]; exact hps, fun q hq' => ?_⟩
    rcases List.mem_or_eq_of_mem_set hq' with h | h
    · exact hsec q h
    · subst h
      exact ⟨Int.emod_nonneg _ (by omega), Int.emod_lt_of_pos _ (by omega)⟩
  rintro e s ⟨ps, x9, rfl, rfl, hps, hsec⟩
  simp_wf
  refine take_list rfl ok6 (by omega) (by omega) (by omega) fun c7 nk ok7 nk0 nk1 => ?_
  simp_wf
  refine xand_mk (by omega) fun _ => ?_
  have hpl : ps.length = mn := by rw [← hxl, ← hps, List.length_map]
  refine for_inv mono (fun i e s => ∃ (c : Cell) (ps : List (Int × Int)) (x10 : Option D), e = [some (.ro (ns.map .int)), some (.loc 0), some (.int p), some (.int d), some (.int er), some (.int mn), some (.lst (f.map .int)), some (.loc 1), some (.lst (locs 2 mn)), x9, x10, none, none, none, none, none, none, none] ∧ s = cellD c :: iL L :: ps.map rD ∧ c.ok (B + mn + 1 + 2 * i) ∧ ps.map (·.1) = xs ∧ ∀ q ∈ ps, 0 ≤ q.2 ∧ q.2 < p) ⟨c7, ps, none, rfl, rfl, ok7, hps, hsec⟩ (fun i e s _ h => trivial) ?_ ?_
  · rintro i c e s hc ⟨c', ps, x10, rfl, rfl, okc, hps, hsec⟩
    obtain ⟨hi, rfl⟩ := rngL_at hc
    have hi : i < 10 := by omega
    have hpl : ps.length = mn := by rw [← hxl, ← hps, List.length_map]
    simp_wf
    refine take_list rfl okc (by omega) (by omega) (by omega) fun c8 y oky y0 y1 => ?_
    simp_wf
    refine take_list rfl oky (by omega) (by omega) (by omega) fun c9 r okr r0 r1 => ?_
    obtain ⟨rn, rfl⟩ : ∃ rn : Nat, r = rn := ⟨r.toNat, by omega⟩
    have hrn : rn < mn := by omega
    have hq := List.getElem?_eq_getElem (show rn < ps.length by omega)
    nomatch locs_get hrn, get2, set2, hq, rD
    rw [rD_set]
    refine ⟨_, _, _, rfl, rfl, okr, by rw [fst_set hq]; exact hps, fun q hq' => ?_⟩
    rcases List.mem_or_eq_of_mem_set hq' with h | h
    · exact hsec q h
    · subst h
      exact ⟨y0, y1⟩
  clear hsec hps hpl ok7
  rintro e s ⟨c8, ps, x10, rfl, rfl, ok8, hps, hsec⟩
  rw [rngL_len] at ok8
  simp_wf
  refine take_list rfl ok8 (by omega) (by decide) (by decide) fun c9 r9 ok9 r90 r91 => ?_
  have hpl : ps.length = mn := by rw [← hxl, ← hps, List.length_map]
  simp_wf
  obtain ⟨B2, hB2⟩ : ∃ B2, B2 = B + mn + 1 + 2 * nk.toNat + 1 := ⟨_, rfl⟩
  have hB2b : B2 < 2000 := by omega
  rw [← hB2] at ok9
  refine ite_join mono (fun e s => ∃ (c : Cell) (b : Nat) (ps : List (Int × Int)) (R : Sto), e = [some (.ro (ns.map .int)), some (.loc 0), some (.int p), some (.int d), some (.int er), some (.int mn), some (.lst (f.map .int)), some (.loc 1), some (.lst (locs b mn)), x9, x10, none, none, none, none, none, none, none] ∧ s = cellD c :: R ∧ c.ok (B2 + mn) ∧ (∀ j, j < mn → ∃ q, ps[j]? = some q ∧ (cellD c :: R)[b + j]? = some (rD q)) ∧ 1 ≤ b ∧ ps.map (·.1) = xs ∧ ∀ q ∈ ps, 0 ≤ q.2 ∧ q.2 < p) (fun hc => ?_) (fun hc => ?_) ?_
  · simp_wf
    refine lc_inv mono (fun i acc s => ∃ (c : Cell) (qs : List (Int × Int)), acc = locs (2 + mn) i ∧ s = cellD c :: iL L :: (ps.map rD ++ qs.map rD) ∧ c.ok (B2 + i) ∧ qs.map (·.1) = xs.take i ∧ ∀ q ∈ qs, 0 ≤ q.2 ∧ q.2 < p)
      ⟨c9, [], rfl, by simp, ok9, by simp, fun q hq => by cases hq⟩ (by rw [locs_len]; simp; omega) (fun _ _ _ _ _ => rfl) ?_ ?_
    · rintro i c acc s hc ⟨c', qs, rfl, rfl, okc, hqs, hqsec⟩
      have hi : i < mn := by
        have := (List.getElem?_eq_some_iff.mp hc).1
        rwa [show (locs 2 mn).length = mn from locs_len] at this
      have hc2 : c = .loc (2 + i) := by
        have : (locs 2 mn)[i]? = some c := hc
        rw [locs_get hi] at this
        exact (Option.some.inj this).symm
      subst hc2
      have hql : qs.length = i := by
        have := congrArg List.length hqs
        rw [List.length_map, List.length_take] at this
        omega
      have hg : (ps.map rD ++ qs.map rD)[i]? = some (rD ps[i]) := by
        rw [List.getElem?_append_left (by rw [List.length_map]; omega), List.getElem?_map, List.getElem?_eq_getElem (by omega)]; rfl
      nomatch get2, hg, rD
      refine take_list rfl okc (by omega) (by omega) (by omega) fun c10 y oky y0 y1 => ?_
      simp_wf
      refine xand_mk (by omega) fun _ => ?_
      simp_wf
      refine ⟨c10, qs ++ [(ps[i].1, y)], ?_, ?_, oky, ?_, fun q hq => ?_⟩
      · unfold locs
        rw [List.range_succ, List.map_append]
        simp
        omega
      · simp [rD]
      · have hxi : (ps.map (·.1))[i]? = some ps[i].1 := by
          rw [List.getElem?_map, List.getElem?_eq_getElem (by omega)]; rfl
        rw [hps] at hxi
        rw [List.map_append, hqs, List.take_add_one, hxi]; rfl
      · rcases List.mem_append.mp hq with h | h
        · exact hqsec q h
        · simp at h; subst h; exact ⟨y0, y1⟩
    · rintro acc s ⟨c', qs, rfl, rfl, okc, hqs, hqsec⟩
      rw [show (locs 2 mn).length = mn from locs_len] at okc hqs ⊢
      rw [List.take_of_length_le (by omega)] at hqs
      have hql : qs.length = mn := by rw [← hxl, ← hqs, List.length_map]
      simp_wf
      refine ⟨c', 2 + mn, qs, _, rfl, rfl, okc, fun j hj => ⟨qs[j], List.getElem?_eq_getElem (by omega), ?_⟩, by omega, hqs, hqsec⟩
      rw [Nat.add_assoc, get2, List.getElem?_append_right (by rw [List.length_map]; omega), List.length_map, hpl, Nat.add_sub_cancel_left, List.getElem?_map, List.getElem?_eq_getElem (by omega)]
      rfl
  · simp_wf
    refine ⟨c9, 2, ps, _, rfl, rfl, ok9.mono (by omega), fun j hj => ⟨ps[j], List.getElem?_eq_getElem (by omega), ?_⟩, by omega, hps, hsec⟩
    rw [get2, List.getElem?_map, List.getElem?_eq_getElem (by omega)]
    rfl
  clear hps hsec hpl ok8 ok9
  rintro _ _ ⟨c10, b, ps, R, rfl, rfl, ok10, hrow, hb, hps, hsec⟩
  have hpl : ps.length = mn := by rw [← hxl, ← hps, List.length_map]
  simp_wf
  refine lc_mapT mono (l := List.range mn) (enc := fun j => D.loc (b + j)) (g := fun j => prD (ps.getD j (0, 0))) (β := Int) (by simp; omega) rfl (fun j hj => ?_) ?_
  · have hj := List.mem_range.mp hj
    obtain ⟨q, hq, hr⟩ := hrow j hj
    nomatch hr, rD
    refine xand_mk (by omega) fun _ => ?_
    refine ⟨rfl, ?_⟩
    rw [List.getD_eq_getElem?_getD, hq]; rfl
  simp_wf
  rw [show (List.range mn).map (fun j => prD (ps.getD j (0, 0))) = ps.map prD by
    apply List.ext_getElem?
    intro j
    by_cases hj : j < mn
    · rw [List.getElem?_map, List.getElem?_range hj, List.getElem?_map, List.getElem?_eq_getElem (show j < ps.length by omega), Option.map_some, Option.map_some, List.getD_eq_getElem?_getD, List.getElem?_eq_getElem (show j < ps.length by omega)]; rfl
    · rw [List.getElem?_eq_none (by simp; omega), List.getElem?_eq_none (by simp; omega)]]
  obtain ⟨dn, rfl⟩ : ∃ dn : Nat, d = dn := ⟨d.toNat, by omega⟩
  rw [show ((dn : Int) + 1) = ((dn + 1 : Nat) : Int) by omega]
  refine xK_choices rfl (by omega) ?_
  simp_wf
  obtain ⟨gl, hgl⟩ : ∃ gl : List Nat → Bool, gl = fun s => decide ((mn : Int) - er ≤ ((ps.countP fun q => pe (lf p (pick ps s) (dn + 1)) q.1 % p == q.2 : Nat) : Int)) := ⟨_, rfl⟩
  have hdiff : Diff p ps := by
    intro i j a b hi hj hne hmod
    have hxi : xs[i]? = some a.1 := by rw [← hps, List.getElem?_map, hi]; rfl
    have hxj : xs[j]? = some b.1 := by rw [← hps, List.getElem?_map, hj]; rfl
    have ra := hxr _ (List.mem_of_getElem? hxi)
    have rb := hxr _ (List.mem_of_getElem? hxj)
    have hab : a.1 = b.1 := by
      have := Int.dvd_of_emod_eq_zero hmod
      obtain ⟨k, hk⟩ := this
      have : k = 0 := by
        have h1 : -1 < k := by
          apply Classical.byContradiction
          intro h
          have : p * k ≤ p * (-1) := Int.mul_le_mul_of_nonneg_left (by omega) (by omega)
          omega
        have h2 : k < 1 := by
          apply Classical.byContradiction
          intro h
          have : p * 1 ≤ p * k := Int.mul_le_mul_of_nonneg_left (by omega) (by omega)
          omega
        omega
      subst this
      omega
    have hi' := List.getElem?_eq_some_iff.mp hxi
    have hj' := List.getElem?_eq_some_iff.mp hxj
    have hpw := List.pairwise_iff_getElem.mp hxn
    rcases Nat.lt_trichotomy i j with q | q | q
    · exact hpw i j hi'.1 hj'.1 q (by rw [hi'.2, hj'.2, hab])
    · exact hne q
    · exact hpw j i hj'.1 hi'.1 q (by rw [hi'.2, hj'.2, hab])
  have hpsr : ∀ q ∈ ps, 0 ≤ q.1 ∧ q.1 < p ∧ 0 ≤ q.2 ∧ q.2 < p := fun q hq => by
    have h1 := hxr q.1 (by rw [← hps]; exact List.mem_map_of_mem hq)
    have h2 := hsec q hq
    exact ⟨h1.1, h1.2, h2.1, h2.2⟩
  have hgl' : ∀ s, gl s = decide ((ps.length : Int) - er ≤ (agr p (lf p (pick ps s) (dn + 1)) ps : Nat)) := fun s => by
    rw [hgl, hpl]
    unfold agr
    refine congrArg (fun k : Nat => decide ((mn : Int) - er ≤ (k : Int))) (List.countP_congr fun q hq => ?_)
    have := hpsr q hq
    rw [Int.emod_eq_of_lt this.2.2.1 this.2.2.2]
  have hdec := dec_same hp hdiff (d := dn) (e := er) (gl := gl) (by omega) (by omega) (fun s _ _ => hgl' s)
  rw [hpl] at hdec
  refine for_inv mono (fun i e s => ∃ (G : Sto) (due : D) (x9 y10 y13 y14 y16 y17 : Option D), e = [some (.ro (ns.map .int)), some (.loc 0), some (.int p), some (.int dn), some (.int er), some (.int mn), some (.lst (f.map .int)), some (.loc 1), some (.lst (locs b mn)), x9, y10, some (.tup (ps.map prD)), some due, y13, y14, none, y16, y17] ∧ s = cellD c10 :: (R ++ G) ∧
      ((due = .non ∧ ((choF mn (dn + 1)).take i).find? gl = none) ∨ ∃ m t, due = .loc m ∧ R.length < m ∧ s[m]? = some (iL (lf p (pick ps t) (dn + 1))) ∧ ((choF mn (dn + 1)).take i).find? gl = some t ∧ t.length = dn + 1)) ⟨[], .non, _, _, none, none, none, none, rfl, by simp, .inl ⟨rfl, rfl⟩⟩ (fun i e s _ h => rfl) ?_ ?_
  · rintro i c e s hc ⟨G, due, x9, y10, y13, y14, y16, y17, rfl, rfl, hdue⟩
    obtain ⟨t, ht, rfl⟩ := map_at hc
    have htm := choF_mem.mp (List.mem_of_getElem? ht)
    nomatch nT
    refine lc_mapT mono (l := t) (enc := fun k : Nat => D.int k) (g := fun k : Nat => prD (ps.getD k (0, 0))) (β := Int) (by simp; omega) rfl (fun k hk => ?_) ?_
    · have hk := htm.2.2 k hk
      simp_wf
      rw [List.getElem?_eq_getElem (show k < ps.length by omega)]
      simp_wf
      refine ⟨rfl, ?_⟩
      rw [List.getD_eq_getElem?_getD, List.getElem?_eq_getElem (show k < ps.length by omega)]; rfl
    simp_wf
    rw [show t.map (fun k : Nat => prD (ps.getD k (0, 0))) = (pick ps t).map prD by unfold pick; rw [List.map_map]; rfl]
    have hpkl : (pick ps t).length = dn + 1 := by unfold pick; rw [List.length_map]; exact htm.1
    refine xK_line rfl ⟨by omega, by omega, by omega, by omega, fun q hq => ?_⟩ ?_
    · unfold pick at hq
      obtain ⟨k, hk, rfl⟩ := List.mem_map.mp hq
      have hk := htm.2.2 k hk
      rw [List.getD_eq_getElem?_getD, List.getElem?_eq_getElem (show k < ps.length by omega)]
      exact hpsr _ (List.getElem_mem _)
    intro G2 m hm
    rw [hpkl] at hm
    have hS : cellD c10 :: (R ++ G) ++ G2 = cellD c10 :: (R ++ (G ++ G2)) := by simp
    have hL : (cellD c10 :: (R ++ G)).length + m = R.length + G.length + 1 + m := by simp
    rw [hS, hL] at hm
    rw [hS, hL]
    have hch : ((choF mn (dn + 1)).take (i + 1)).find? gl = (((choF mn (dn + 1)).take i).find? gl).or (if gl t then some t else none) := by
      rw [List.take_add_one, ht, List.find?_append]
      congr 1
      show List.find? gl [t] = _
      rw [List.find?_cons]
      cases gl t <;> rfl
    have hdue' : ∀ (l : Sto), due = .non ∨ ∃ k, due = .loc k := fun l => by
      rcases hdue with h | ⟨k, t', h, _⟩
      · exact .inl h.1
      · exact .inr ⟨k, h⟩
    rcases hdue with ⟨rfl, hnone⟩ | ⟨k, t', rfl, hk, hks, hsome, htl⟩
    · simp_wf
      refine lc_mapF mono (l := ps) (enc := prD) (g := fun q => if pe (lf p (pick ps t) (dn + 1)) q.1 % p == q.2 then some (D.int 1) else none) (by simp; omega) rfl (fun q hq => ?_) ?_
      · have hqr := hpsr q hq
        nomatch prD
        refine xK_lvalueO rfl hm ⟨by omega, by omega, by omega, by rw [lf_len]; omega⟩ ?_
        simp_wf
        cases hbq : (pe (lf p (pick ps t) (dn + 1)) q.1 % p == q.2) with
        | true =>
          simp_wf
          exact ⟨rfl, by simp⟩
        | false =>
          simp_wf
          exact ⟨rfl, by simp⟩
      · simp_wf
        rw [ones_map]
        simp_wf
        rw [show decide ((mn : Int) - er ≤ ((List.replicate (ps.countP fun q => pe (lf p (pick ps t) (dn + 1)) q.1 % p == q.2) (1 : Int)).length : Int)) = gl t by rw [List.length_replicate, hgl]]
        refine xite_mk (fun hg => ?_) (fun hg => ?_)
        · simp_wf
          refine ⟨G ++ G2, _, _, _, _, _, _, _, rfl, by simp, .inr ⟨_, t, rfl, ?_, hm, ?_, htm.1⟩⟩
          · omega
          · rw [hch, hnone, hg]; rfl
        · simp_wf
          refine ⟨G ++ G2, _, _, _, _, _, _, _, rfl, by simp, .inl ⟨rfl, ?_⟩⟩
          rw [hch, hnone, hg]; rfl
    · simp_wf
      refine ⟨G ++ G2, _, _, _, _, _, _, _, rfl, by simp, .inr ⟨k, t', rfl, hk, ?_, ?_, htl⟩⟩
      · rw [← hS]; exact getOld hks
      · rw [hch, hsome]; rfl
  rintro e s ⟨G, due, x9, y10, y13, y14, y16, y17, rfl, rfl, hdue⟩
  rw [List.length_map, List.take_length] at hdue
  simp_wf
  have hpow : ∀ i, i ≤ (dn : Int).toNat + 1 → ps.length ^ i ≤ 100000 := fun i hi => by
    have h1 : ps.length ^ i ≤ 10 ^ i := Nat.pow_le_pow_left (by omega) i
    have h2 : 10 ^ i ≤ 10 ^ 4 := Nat.pow_le_pow_right (by decide) (by omega)
    omega
  rcases hdue with ⟨rfl, hnone⟩ | ⟨k, t, rfl, hk, hks, hsome, htl⟩
  · simp_wf
    refine xK_decode rfl ⟨by omega, by omega, by omega, by omega, by omega, fun q hq => ?_, fun i hi => ?_⟩ ?_
    · have := hpsr q hq; omega
    · exact hpow i hi
    · rw [Int.toNat_natCast, hdec, hnone]
      nomatch Option.map_none, show optT none = .non from rfl
      exact fin_q (q _)
  · simp_wf
    obtain ⟨d0, hd0⟩ : ∃ d0, d0 = lf p (pick ps t) (dn + 1) := ⟨_, rfl⟩
    have hd0l : d0.length = dn + 1 := by rw [hd0, lf_len]; unfold pick; rw [List.length_map]; exact htl
    obtain ⟨S0, hS0⟩ : ∃ S0, S0 = cellD c10 :: (R ++ G) := ⟨_, rfl⟩
    rw [← hd0, ← hS0] at hks
    rw [← hS0]
    refine xand_mk (by omega) fun _ => ?_
    rw [show ((dn : Int) + 1).toNat = dn + 1 by omega]
    refine for_inv mono (fun i e s => ∃ (l : List Int) (y10 : Option D), e = [some (.ro (ns.map .int)), some (.loc 0), some (.int p), some (.int dn), some (.int er), some (.int mn), some (.lst (f.map .int)), some (.loc 1), some (.lst (locs b mn)), x9, y10, some (.tup (ps.map prD)), some (.loc k), y13, y14, none, y16, y17] ∧ s = S0.set k (iL l) ∧ trimZ l = trimZ d0 ∧ (l = trimZ d0 ∨ l.length + i ≤ dn + 1)) ⟨d0, _, rfl, ?_, rfl, .inr (by omega)⟩ (fun i e s _ h => trivial) ?_ ?_
    · apply List.ext_getElem?
      intro j
      rw [List.getElem?_set]
      by_cases hj : k = j
      · subst hj
        rw [if_pos rfl, if_pos (List.getElem?_eq_some_iff.mp hks).1, hks]
      · rw [if_neg hj]
    · rintro i c e s hc ⟨l, y10, rfl, rfl, hl1, hl2⟩
      obtain ⟨hi, rfl⟩ := rngL_at hc
      nomatch hks
      rcases List.eq_nil_or_concat l with rfl | ⟨t', z, rfl⟩
      · simp_wf
        exact ⟨[], _, rfl, rfl, hl1, .inl (by rw [← hl1]; rfl)⟩
      · rw [List.concat_eq_append] at *
        rw [show (!(List.map D.int (t' ++ [z])).isEmpty) = true by simp]
        nomatch hks, atI_m1
        rw [show ((t' ++ [z])[t'.length + 1 - 1]?) = some z by simp]
        simp_wf
        refine xite_mk (fun h0 => ?_) (fun h0 => ?_)
        · have h0 : z = 0 := eq_of_beq h0
          subst h0
          nomatch hks
          rw [show ((t' ++ [0])[t'.length + 1 - 1]?) = some (0 : Int) by simp]
          nomatch hks
          refine ⟨t', _, rfl, ?_, by rw [← hl1, trimZ_zero], ?_⟩
          · rw [show (List.map D.int (t' ++ [0])).dropLast = t'.map D.int by simp]
          · rcases hl2 with h | h
            · exfalso
              have := trimZ_zero t'
              rw [hl1, ← h] at this
              have h2 := trimZ_len t'
              rw [← this] at h2
              simp at h2
              omega
            · simp at h; exact .inr (by omega)
        · have h0 : z ≠ 0 := fun e => by rw [e] at h0; cases h0
          simp_wf
          exact ⟨t' ++ [z], _, rfl, rfl, hl1, .inl (by rw [← hl1, trimZ_last h0])⟩
    rintro e s ⟨l, y10', rfl, rfl, hl1, hl2⟩
    rw [rngL_len] at hl2
    have hlT : l = trimZ d0 := by
      rcases hl2 with h | h
      · exact h
      · have : l = [] := List.eq_nil_of_length_eq_zero (by omega)
        rw [← hl1, this]; rfl
    subst hlT
    nomatch hks
    refine xK_decode rfl ⟨by omega, by omega, by omega, by omega, by omega, fun q hq => ?_, fun i hi => hpow i hi⟩ ?_
    · have := hpsr q hq; omega
    · rw [Int.toNat_natCast, hdec, hsome]
      nomatch Option.map_some, show ∀ g, optT (some g) = .tup (g.map .int) from fun _ => rfl, xdat_ints
      rw [hd0, beq_self_eq_true]
      exact fin_q (q _)

section
variable {P : Program} {w : World} {K : PySem.W.Frag} {mg : Str → Option Value} {base : Heap} {C : Nat → Addr}
structure Fcts (K : PySem.W.Frag) (mg : Str → Option Value) : Prop where
  d_q_power : Df K mg "power" s_q_power ["p", "a", "k"]
  d_q_inverse : Df K mg "inverse" s_q_inverse ["p", "a"]
  d_q_trimmed : Df K mg "trimmed" s_q_trimmed ["p", "coefficients"]
  d_q_value : Df K mg "value" s_q_value ["p", "f", "x"]
  d_q_plus : Df K mg "plus" s_q_plus ["p", "f", "g"]
  d_q_times : Df K mg "times" s_q_times ["p", "f", "g"]
  d_q_interpolate : Df K mg "interpolate" s_q_interpolate ["p", "pairs"]
  d_q_subsets : Df K mg "subsets" s_q_subsets ["many", "size"]
  d_q_agreeing : Df K mg "agreeing" s_q_agreeing ["p", "f", "pairs"]
  d_q_decode : Df K mg "decode" s_q_decode ["p", "pairs", "degree", "errors"]
  d_l_start : Df K mg "_law_start" s_l_start ["_law_script"]
  d_l_fill : Df K mg "_law_fill" s_l_fill ["_law_c"]
  d_l_take : Df K mg "_law_take" s_l_take ["_law_c", "_law_many"]
  d_l_power : Df K mg "_law_power" s_l_power ["_law_p", "_law_a", "_law_k"]
  d_l_line : Df K mg "_law_line" s_l_line ["_law_p", "_law_pairs"]
  d_l_choices : Df K mg "_law_choices" s_l_choices ["_law_many", "_law_k"]
  d_l_value : Df K mg "_law_value" s_l_value ["_law_p", "_law_f", "_law_x"]
  d_law : Df K mg "law" s_law ["_law_script"]
  z_tuple : mg "tuple" = none
  z_max : mg "max" = none
  z_enumerate : mg "enumerate" = none
  z_len : mg "len" = none
  z_list : mg "list" = none
  z_range : mg "range" = none
  z_sum : mg "sum" = none
  z_int : mg "int" = none
theorem ok_q_power (X : Fcts K mg) : FOk P w K mg base C 1 "power" 3 f_power :=
  fok (Φ := PHI) (k0 := 0) X.d_q_power sc_q_power rfl rfl rfl rfl c_q_power mono m_power trivial (show ∀ x ∈ ([] : List Str), mg x = none from fun x hx => nomatch hx)
    (fun ds st Q hl hst hds h => o_power mono h)
theorem ok_q_trimmed (X : Fcts K mg) : FOk P w K mg base C 1 "trimmed" 2 f_trimmed :=
  fok (Φ := PHI) (k0 := 0) X.d_q_trimmed sc_q_trimmed rfl rfl rfl rfl c_q_trimmed mono m_trimmed trivial (show ∀ x ∈ (["tuple"] : List Str), mg x = none from fun x hx => by
    simp only [List.mem_cons, List.not_mem_nil, or_false] at hx
    subst hx
    exact X.z_tuple)
    (fun ds st Q hl hst hds h => o_trimmed mono hst h)
theorem ok_q_value (X : Fcts K mg) : FOk P w K mg base C 1 "value" 3 f_value :=
  fok (Φ := PHI) (k0 := 0) X.d_q_value sc_q_value rfl rfl rfl rfl c_q_value mono m_value trivial (show ∀ x ∈ ([] : List Str), mg x = none from fun x hx => nomatch hx)
    (fun ds st Q hl hst hds h => o_value mono h)
theorem ok_q_subsets (X : Fcts K mg) : FOk P w K mg base C 1 "subsets" 2 f_subsets :=
  fok (Φ := PHI) (k0 := 0) X.d_q_subsets sc_q_subsets rfl rfl rfl rfl c_q_subsets mono m_subsets trivial (show ∀ x ∈ (["range"] : List Str), mg x = none from fun x hx => by
    simp only [List.mem_cons, List.not_mem_nil, or_false] at hx
    subst hx
    exact X.z_range)
    (fun ds st Q hl hst hds h => o_subsets mono h)
theorem ok_l_start (X : Fcts K mg) : FOk P w K mg base C 1 "_law_start" 1 f_start :=
  fok (Φ := PHI) (k0 := 0) X.d_l_start sc_l_start rfl rfl rfl rfl c_l_start mono m_start trivial (show ∀ x ∈ (["int"] : List Str), mg x = none from fun x hx => by
    simp only [List.mem_cons, List.not_mem_nil, or_false] at hx
    subst hx
    exact X.z_int)
    (fun ds st Q hl hst hds h => o_start mono h)
theorem ok_l_fill (X : Fcts K mg) : FOk P w K mg base C 1 "_law_fill" 1 f_fill :=
  fok (Φ := PHI) (k0 := 0) X.d_l_fill sc_l_fill rfl rfl rfl rfl c_l_fill mono m_fill trivial (show ∀ x ∈ (["len", "int"] : List Str), mg x = none from fun x hx => by
    simp only [List.mem_cons, List.not_mem_nil, or_false] at hx
    rcases hx with rfl | rfl
    · exact X.z_len
    · exact X.z_int)
    (fun ds st Q hl hst hds h => o_fill mono h)
theorem ok_l_power (X : Fcts K mg) : FOk P w K mg base C 1 "_law_power" 3 f_lpower :=
  fok (Φ := PHI) (k0 := 0) X.d_l_power sc_l_power rfl rfl rfl rfl c_l_power mono m_lpower trivial (show ∀ x ∈ (["range", "int"] : List Str), mg x = none from fun x hx => by
    simp only [List.mem_cons, List.not_mem_nil, or_false] at hx
    rcases hx with rfl | rfl
    · exact X.z_range
    · exact X.z_int)
    (fun ds st Q hl hst hds h => o_lpower mono h)
theorem ok_l_choices (X : Fcts K mg) : FOk P w K mg base C 1 "_law_choices" 2 f_choices :=
  fok (Φ := PHI) (k0 := 0) X.d_l_choices sc_l_choices rfl rfl rfl rfl c_l_choices mono m_choices trivial (show ∀ x ∈ (["range", "len"] : List Str), mg x = none from fun x hx => by
    simp only [List.mem_cons, List.not_mem_nil, or_false] at hx
    rcases hx with rfl | rfl
    · exact X.z_range
    · exact X.z_len)
    (fun ds st Q hl hst hds h => o_choices mono h)
theorem ok_l_value (X : Fcts K mg) : FOk P w K mg base C 1 "_law_value" 3 f_lvalue :=
  fok (Φ := PHI) (k0 := 0) X.d_l_value sc_l_value rfl rfl rfl rfl c_l_value mono m_lvalue trivial (show ∀ x ∈ (["range", "len", "int"] : List Str), mg x = none from fun x hx => by
    simp only [List.mem_cons, List.not_mem_nil, or_false] at hx
    rcases hx with rfl | rfl | rfl
    · exact X.z_range
    · exact X.z_len
    · exact X.z_int)
    (fun ds st Q hl hst hds h => o_lvalue mono h)
theorem ok_q_inverse (X : Fcts K mg) : FOk P w K mg base C 2 "inverse" 2 f_inverse :=
  fok (Φ := PHI) (k0 := 1) X.d_q_inverse sc_q_inverse rfl rfl rfl rfl c_q_inverse mono m_inverse ⟨(ok_q_power X).up (by decide), trivial⟩ (show ∀ x ∈ ([] : List Str), mg x = none from fun x hx => nomatch hx)
    (fun ds st Q hl hst hds h => o_inverse mono (iP := 0) rfl h)
theorem ok_q_plus (X : Fcts K mg) : FOk P w K mg base C 2 "plus" 3 f_plus :=
  fok (Φ := PHI) (k0 := 1) X.d_q_plus sc_q_plus rfl rfl rfl rfl c_q_plus mono m_plus ⟨(ok_q_trimmed X).up (by decide), trivial⟩ (show ∀ x ∈ (["max", "enumerate", "len", "list"] : List Str), mg x = none from fun x hx => by
    simp only [List.mem_cons, List.not_mem_nil, or_false] at hx
    rcases hx with rfl | rfl | rfl | rfl
    · exact X.z_max
    · exact X.z_enumerate
    · exact X.z_len
    · exact X.z_list)
    (fun ds st Q hl hst hds h => o_plus mono (iT := 2) rfl hst h)
theorem ok_q_times (X : Fcts K mg) : FOk P w K mg base C 2 "times" 3 f_times :=
  fok (Φ := PHI) (k0 := 1) X.d_q_times sc_q_times rfl rfl rfl rfl c_q_times mono m_times ⟨(ok_q_trimmed X).up (by decide), trivial⟩ (show ∀ x ∈ (["enumerate", "len"] : List Str), mg x = none from fun x hx => by
    simp only [List.mem_cons, List.not_mem_nil, or_false] at hx
    rcases hx with rfl | rfl
    · exact X.z_enumerate
    · exact X.z_len)
    (fun ds st Q hl hst hds h => o_times mono (iT := 2) rfl hst h)
theorem ok_q_agreeing (X : Fcts K mg) : FOk P w K mg base C 2 "agreeing" 3 f_agreeing :=
  fok (Φ := PHI) (k0 := 1) X.d_q_agreeing sc_q_agreeing rfl rfl rfl rfl c_q_agreeing mono m_agreeing ⟨(ok_q_value X).up (by decide), trivial⟩ (show ∀ x ∈ (["sum"] : List Str), mg x = none from fun x hx => by
    simp only [List.mem_cons, List.not_mem_nil, or_false] at hx
    subst hx
    exact X.z_sum)
    (fun ds st Q hl hst hds h => o_agreeing mono (iV := 3) rfl h)
theorem ok_l_take (X : Fcts K mg) : FOk P w K mg base C 2 "_law_take" 2 f_take :=
  fok (Φ := PHI) (k0 := 1) X.d_l_take sc_l_take rfl rfl rfl rfl c_l_take mono m_take ⟨(ok_l_fill X).up (by decide), trivial⟩ (show ∀ x ∈ (["int"] : List Str), mg x = none from fun x hx => by
    simp only [List.mem_cons, List.not_mem_nil, or_false] at hx
    subst hx
    exact X.z_int)
    (fun ds st Q hl hst hds h => o_take mono (iF := 11) rfl h)
theorem ok_l_line (X : Fcts K mg) : FOk P w K mg base C 2 "_law_line" 2 f_line :=
  fok (Φ := PHI) (k0 := 1) X.d_l_line sc_l_line rfl rfl rfl rfl c_l_line mono m_line ⟨(ok_l_power X).up (by decide), trivial⟩ (show ∀ x ∈ (["range", "len", "int"] : List Str), mg x = none from fun x hx => by
    simp only [List.mem_cons, List.not_mem_nil, or_false] at hx
    rcases hx with rfl | rfl | rfl
    · exact X.z_range
    · exact X.z_len
    · exact X.z_int)
    (fun ds st Q hl hst hds h => o_line mono (iP := 13) rfl h)
theorem ok_q_interpolate (X : Fcts K mg) : FOk P w K mg base C 3 "interpolate" 2 f_interpolate :=
  fok (Φ := PHI) (k0 := 2) X.d_q_interpolate sc_q_interpolate rfl rfl rfl rfl c_q_interpolate mono m_interpolate ⟨(ok_q_plus X).up (by decide), (ok_q_inverse X).up (by decide), (ok_q_times X).up (by decide), trivial⟩ (show ∀ x ∈ (["enumerate"] : List Str), mg x = none from fun x hx => by
    simp only [List.mem_cons, List.not_mem_nil, or_false] at hx
    subst hx
    exact X.z_enumerate)
    (fun ds st Q hl hst hds h => o_interpolate mono (iI := 1) (iX := 5) (iP := 4) rfl rfl rfl h)
theorem ok_q_decode (X : Fcts K mg) : FOk P w K mg base C 4 "decode" 4 f_decode :=
  fok (Φ := PHI) (k0 := 3) X.d_q_decode sc_q_decode rfl rfl rfl rfl c_q_decode mono m_decode ⟨(ok_q_subsets X).up (by decide), (ok_q_interpolate X).up (by decide), (ok_q_agreeing X).up (by decide), trivial⟩ (show ∀ x ∈ (["len"] : List Str), mg x = none from fun x hx => by
    simp only [List.mem_cons, List.not_mem_nil, or_false] at hx
    subst hx
    exact X.z_len)
    (fun ds st Q hl hst hds h => o_decode mono (iI := 6) (iS := 7) (iA := 8) rfl rfl rfl h)
theorem ok_law (X : Fcts K mg) {f : Addr} {fd : FuncData} (F : Fun K "law" "law" s_law f fd) : FnOk P w K mg base CX0 5 f fd ["_law_script"] (spD K C 1 f_law) :=
  fokF (Φ := PHI) (k0 := 4) F sc_law rfl rfl rfl rfl c_law mono m_law ⟨(ok_l_start X).up (by decide), (ok_l_take X).up (by decide), (ok_l_choices X).up (by decide), (ok_l_value X).up (by decide), (ok_l_line X).up (by decide), (ok_q_decode X).up (by decide), trivial⟩ (show ∀ x ∈ (["range", "tuple", "int", "len"] : List Str), mg x = none from fun x hx => by
    simp only [List.mem_cons, List.not_mem_nil, or_false] at hx
    rcases hx with rfl | rfl | rfl | rfl
    · exact X.z_range
    · exact X.z_tuple
    · exact X.z_int
    · exact X.z_len)
    (fun ds st Q hl hst hds h => o_law h)
end
theorem all_mk {l : PySem.W.OpenLaw} {w : World} {K : PySem.W.Frag} {h : Heap} {mg : Str → Option Value} {fa f0 f1 f2 f3 f4 f5 f6 f7 f8 f9 f10 f11 f12 f13 f14 f15 f16 f17 : Addr} (X : K.In h) (G : h.Ns mainGlobals mg) (hfa : mg "law" = some (.ref fa))
    {od0 an0 : Option Addr} {sl0 : Array (Option Value)} {oc0 kV0 dc0 pm0 cd0 ct0 : Value}
    (a0 : PySem.W.nsIn K mainGlobals "power" = some (some (.ref f0))) (l0 : K.lookup f0 = some ⟨oc0, od0, .func (PySem.W.fnOf "power" "power" (defArgs s_q_power) (defBody s_q_power) (defScope s_q_power) .none kV0 dc0 pm0 an0 cd0 ct0), sl0⟩) (c0 : PySem.W.codeIn K cd0 "power" = true) (k0 : PySem.W.keepIn K (.ref f0) = true)
    {od1 an1 : Option Addr} {sl1 : Array (Option Value)} {oc1 kV1 dc1 pm1 cd1 ct1 : Value}
    (a1 : PySem.W.nsIn K mainGlobals "inverse" = some (some (.ref f1))) (l1 : K.lookup f1 = some ⟨oc1, od1, .func (PySem.W.fnOf "inverse" "inverse" (defArgs s_q_inverse) (defBody s_q_inverse) (defScope s_q_inverse) .none kV1 dc1 pm1 an1 cd1 ct1), sl1⟩) (c1 : PySem.W.codeIn K cd1 "inverse" = true) (k1 : PySem.W.keepIn K (.ref f1) = true)
    {od2 an2 : Option Addr} {sl2 : Array (Option Value)} {oc2 kV2 dc2 pm2 cd2 ct2 : Value}
    (a2 : PySem.W.nsIn K mainGlobals "trimmed" = some (some (.ref f2))) (l2 : K.lookup f2 = some ⟨oc2, od2, .func (PySem.W.fnOf "trimmed" "trimmed" (defArgs s_q_trimmed) (defBody s_q_trimmed) (defScope s_q_trimmed) .none kV2 dc2 pm2 an2 cd2 ct2), sl2⟩) (c2 : PySem.W.codeIn K cd2 "trimmed" = true) (k2 : PySem.W.keepIn K (.ref f2) = true)
    {od3 an3 : Option Addr} {sl3 : Array (Option Value)} {oc3 kV3 dc3 pm3 cd3 ct3 : Value}
    (a3 : PySem.W.nsIn K mainGlobals "value" = some (some (.ref f3))) (l3 : K.lookup f3 = some ⟨oc3, od3, .func (PySem.W.fnOf "value" "value" (defArgs s_q_value) (defBody s_q_value) (defScope s_q_value) .none kV3 dc3 pm3 an3 cd3 ct3), sl3⟩) (c3 : PySem.W.codeIn K cd3 "value" = true) (k3 : PySem.W.keepIn K (.ref f3) = true)
    {od4 an4 : Option Addr} {sl4 : Array (Option Value)} {oc4 kV4 dc4 pm4 cd4 ct4 : Value}
    (a4 : PySem.W.nsIn K mainGlobals "plus" = some (some (.ref f4))) (l4 : K.lookup f4 = some ⟨oc4, od4, .func (PySem.W.fnOf "plus" "plus" (defArgs s_q_plus) (defBody s_q_plus) (defScope s_q_plus) .none kV4 dc4 pm4 an4 cd4 ct4), sl4⟩) (c4 : PySem.W.codeIn K cd4 "plus" = true) (k4 : PySem.W.keepIn K (.ref f4) = true)
    {od5 an5 : Option Addr} {sl5 : Array (Option Value)} {oc5 kV5 dc5 pm5 cd5 ct5 : Value}
    (a5 : PySem.W.nsIn K mainGlobals "times" = some (some (.ref f5))) (l5 : K.lookup f5 = some ⟨oc5, od5, .func (PySem.W.fnOf "times" "times" (defArgs s_q_times) (defBody s_q_times) (defScope s_q_times) .none kV5 dc5 pm5 an5 cd5 ct5), sl5⟩) (c5 : PySem.W.codeIn K cd5 "times" = true) (k5 : PySem.W.keepIn K (.ref f5) = true)
    {od6 an6 : Option Addr} {sl6 : Array (Option Value)} {oc6 kV6 dc6 pm6 cd6 ct6 : Value}
    (a6 : PySem.W.nsIn K mainGlobals "interpolate" = some (some (.ref f6))) (l6 : K.lookup f6 = some ⟨oc6, od6, .func (PySem.W.fnOf "interpolate" "interpolate" (defArgs s_q_interpolate) (defBody s_q_interpolate) (defScope s_q_interpolate) .none kV6 dc6 pm6 an6 cd6 ct6), sl6⟩) (c6 : PySem.W.codeIn K cd6 "interpolate" = true) (k6 : PySem.W.keepIn K (.ref f6) = true)
    {od7 an7 : Option Addr} {sl7 : Array (Option Value)} {oc7 kV7 dc7 pm7 cd7 ct7 : Value}
    (a7 : PySem.W.nsIn K mainGlobals "subsets" = some (some (.ref f7))) (l7 : K.lookup f7 = some ⟨oc7, od7, .func (PySem.W.fnOf "subsets" "subsets" (defArgs s_q_subsets) (defBody s_q_subsets) (defScope s_q_subsets) .none kV7 dc7 pm7 an7 cd7 ct7), sl7⟩) (c7 : PySem.W.codeIn K cd7 "subsets" = true) (k7 : PySem.W.keepIn K (.ref f7) = true)
    {od8 an8 : Option Addr} {sl8 : Array (Option Value)} {oc8 kV8 dc8 pm8 cd8 ct8 : Value}
    (a8 : PySem.W.nsIn K mainGlobals "agreeing" = some (some (.ref f8))) (l8 : K.lookup f8 = some ⟨oc8, od8, .func (PySem.W.fnOf "agreeing" "agreeing" (defArgs s_q_agreeing) (defBody s_q_agreeing) (defScope s_q_agreeing) .none kV8 dc8 pm8 an8 cd8 ct8), sl8⟩) (c8 : PySem.W.codeIn K cd8 "agreeing" = true) (k8 : PySem.W.keepIn K (.ref f8) = true)
    {od9 an9 : Option Addr} {sl9 : Array (Option Value)} {oc9 kV9 dc9 pm9 cd9 ct9 : Value}
    (a9 : PySem.W.nsIn K mainGlobals "decode" = some (some (.ref f9))) (l9 : K.lookup f9 = some ⟨oc9, od9, .func (PySem.W.fnOf "decode" "decode" (defArgs s_q_decode) (defBody s_q_decode) (defScope s_q_decode) .none kV9 dc9 pm9 an9 cd9 ct9), sl9⟩) (c9 : PySem.W.codeIn K cd9 "decode" = true) (k9 : PySem.W.keepIn K (.ref f9) = true)
    {od10 an10 : Option Addr} {sl10 : Array (Option Value)} {oc10 kV10 dc10 pm10 cd10 ct10 : Value}
    (a10 : PySem.W.nsIn K mainGlobals "_law_start" = some (some (.ref f10))) (l10 : K.lookup f10 = some ⟨oc10, od10, .func (PySem.W.fnOf "_law_start" "_law_start" (defArgs s_l_start) (defBody s_l_start) (defScope s_l_start) .none kV10 dc10 pm10 an10 cd10 ct10), sl10⟩) (c10 : PySem.W.codeIn K cd10 "_law_start" = true) (k10 : PySem.W.keepIn K (.ref f10) = true)
    {od11 an11 : Option Addr} {sl11 : Array (Option Value)} {oc11 kV11 dc11 pm11 cd11 ct11 : Value}
    (a11 : PySem.W.nsIn K mainGlobals "_law_fill" = some (some (.ref f11))) (l11 : K.lookup f11 = some ⟨oc11, od11, .func (PySem.W.fnOf "_law_fill" "_law_fill" (defArgs s_l_fill) (defBody s_l_fill) (defScope s_l_fill) .none kV11 dc11 pm11 an11 cd11 ct11), sl11⟩) (c11 : PySem.W.codeIn K cd11 "_law_fill" = true) (k11 : PySem.W.keepIn K (.ref f11) = true)
    {od12 an12 : Option Addr} {sl12 : Array (Option Value)} {oc12 kV12 dc12 pm12 cd12 ct12 : Value}
    (a12 : PySem.W.nsIn K mainGlobals "_law_take" = some (some (.ref f12))) (l12 : K.lookup f12 = some ⟨oc12, od12, .func (PySem.W.fnOf "_law_take" "_law_take" (defArgs s_l_take) (defBody s_l_take) (defScope s_l_take) .none kV12 dc12 pm12 an12 cd12 ct12), sl12⟩) (c12 : PySem.W.codeIn K cd12 "_law_take" = true) (k12 : PySem.W.keepIn K (.ref f12) = true)
    {od13 an13 : Option Addr} {sl13 : Array (Option Value)} {oc13 kV13 dc13 pm13 cd13 ct13 : Value}
    (a13 : PySem.W.nsIn K mainGlobals "_law_power" = some (some (.ref f13))) (l13 : K.lookup f13 = some ⟨oc13, od13, .func (PySem.W.fnOf "_law_power" "_law_power" (defArgs s_l_power) (defBody s_l_power) (defScope s_l_power) .none kV13 dc13 pm13 an13 cd13 ct13), sl13⟩) (c13 : PySem.W.codeIn K cd13 "_law_power" = true) (k13 : PySem.W.keepIn K (.ref f13) = true)
    {od14 an14 : Option Addr} {sl14 : Array (Option Value)} {oc14 kV14 dc14 pm14 cd14 ct14 : Value}
    (a14 : PySem.W.nsIn K mainGlobals "_law_line" = some (some (.ref f14))) (l14 : K.lookup f14 = some ⟨oc14, od14, .func (PySem.W.fnOf "_law_line" "_law_line" (defArgs s_l_line) (defBody s_l_line) (defScope s_l_line) .none kV14 dc14 pm14 an14 cd14 ct14), sl14⟩) (c14 : PySem.W.codeIn K cd14 "_law_line" = true) (k14 : PySem.W.keepIn K (.ref f14) = true)
    {od15 an15 : Option Addr} {sl15 : Array (Option Value)} {oc15 kV15 dc15 pm15 cd15 ct15 : Value}
    (a15 : PySem.W.nsIn K mainGlobals "_law_choices" = some (some (.ref f15))) (l15 : K.lookup f15 = some ⟨oc15, od15, .func (PySem.W.fnOf "_law_choices" "_law_choices" (defArgs s_l_choices) (defBody s_l_choices) (defScope s_l_choices) .none kV15 dc15 pm15 an15 cd15 ct15), sl15⟩) (c15 : PySem.W.codeIn K cd15 "_law_choices" = true) (k15 : PySem.W.keepIn K (.ref f15) = true)
    {od16 an16 : Option Addr} {sl16 : Array (Option Value)} {oc16 kV16 dc16 pm16 cd16 ct16 : Value}
    (a16 : PySem.W.nsIn K mainGlobals "_law_value" = some (some (.ref f16))) (l16 : K.lookup f16 = some ⟨oc16, od16, .func (PySem.W.fnOf "_law_value" "_law_value" (defArgs s_l_value) (defBody s_l_value) (defScope s_l_value) .none kV16 dc16 pm16 an16 cd16 ct16), sl16⟩) (c16 : PySem.W.codeIn K cd16 "_law_value" = true) (k16 : PySem.W.keepIn K (.ref f16) = true)
    {od17 an17 : Option Addr} {sl17 : Array (Option Value)} {oc17 kV17 dc17 pm17 cd17 ct17 : Value}
    (a17 : PySem.W.nsIn K mainGlobals "law" = some (some (.ref f17))) (l17 : K.lookup f17 = some ⟨oc17, od17, .func (PySem.W.fnOf "law" "law" (defArgs s_law) (defBody s_law) (defScope s_law) .none kV17 dc17 pm17 an17 cd17 ct17), sl17⟩) (c17 : PySem.W.codeIn K cd17 "law" = true) (k17 : PySem.W.keepIn K (.ref f17) = true)
    (z0 : PySem.W.nsIn K mainGlobals "tuple" = some none)
    (z1 : PySem.W.nsIn K mainGlobals "max" = some none)
    (z2 : PySem.W.nsIn K mainGlobals "enumerate" = some none)
    (z3 : PySem.W.nsIn K mainGlobals "len" = some none)
    (z4 : PySem.W.nsIn K mainGlobals "list" = some none)
    (z5 : PySem.W.nsIn K mainGlobals "range" = some none)
    (z6 : PySem.W.nsIn K mainGlobals "sum" = some none)
    (z7 : PySem.W.nsIn K mainGlobals "int" = some none)
    : ∃ fd : FuncData, (∀ (s : Shared) (v : Value), BindsTo s fd ⟨[v], []⟩ [("_law_script", v)]) ∧ ∀ base : Heap, K.In base → base.Ns mainGlobals mg → FnOk l.prog w K mg base CX0 5 fa fd ["_law_script"] (spD K (fun _ => 0) 1 f_law) := by
  have e := hfa.symm.trans (PySem.W.mg_of X G a17)
  cases e
  have F0 := fun_mk (st := s_q_power) l0 c0 k0
  have b0 := F0.binds (ps := ["p", "a", "k"]) fun _ _ _ _ _ _ us hl => match us, hl with | [_, _, _], _ => rfl
  have F1 := fun_mk (st := s_q_inverse) l1 c1 k1
  have b1 := F1.binds (ps := ["p", "a"]) fun _ _ _ _ _ _ us hl => match us, hl with | [_, _], _ => rfl
  have F2 := fun_mk (st := s_q_trimmed) l2 c2 k2
  have b2 := F2.binds (ps := ["p", "coefficients"]) fun _ _ _ _ _ _ us hl => match us, hl with | [_, _], _ => rfl
  have F3 := fun_mk (st := s_q_value) l3 c3 k3
  have b3 := F3.binds (ps := ["p", "f", "x"]) fun _ _ _ _ _ _ us hl => match us, hl with | [_, _, _], _ => rfl
  have F4 := fun_mk (st := s_q_plus) l4 c4 k4
  have b4 := F4.binds (ps := ["p", "f", "g"]) fun _ _ _ _ _ _ us hl => match us, hl with | [_, _, _], _ => rfl
  have F5 := fun_mk (st := s_q_times) l5 c5 k5
  have b5 := F5.binds (ps := ["p", "f", "g"]) fun _ _ _ _ _ _ us hl => match us, hl with | [_, _, _], _ => rfl
  have F6 := fun_mk (st := s_q_interpolate) l6 c6 k6
  have b6 := F6.binds (ps := ["p", "pairs"]) fun _ _ _ _ _ _ us hl => match us, hl with | [_, _], _ => rfl
  have F7 := fun_mk (st := s_q_subsets) l7 c7 k7
  have b7 := F7.binds (ps := ["many", "size"]) fun _ _ _ _ _ _ us hl => match us, hl with | [_, _], _ => rfl
  have F8 := fun_mk (st := s_q_agreeing) l8 c8 k8
  have b8 := F8.binds (ps := ["p", "f", "pairs"]) fun _ _ _ _ _ _ us hl => match us, hl with | [_, _, _], _ => rfl
  have F9 := fun_mk (st := s_q_decode) l9 c9 k9
  have b9 := F9.binds (ps := ["p", "pairs", "degree", "errors"]) fun _ _ _ _ _ _ us hl => match us, hl with | [_, _, _, _], _ => rfl
  have F10 := fun_mk (st := s_l_start) l10 c10 k10
  have b10 := F10.binds (ps := ["_law_script"]) fun _ _ _ _ _ _ us hl => match us, hl with | [_], _ => rfl
  have F11 := fun_mk (st := s_l_fill) l11 c11 k11
  have b11 := F11.binds (ps := ["_law_c"]) fun _ _ _ _ _ _ us hl => match us, hl with | [_], _ => rfl
  have F12 := fun_mk (st := s_l_take) l12 c12 k12
  have b12 := F12.binds (ps := ["_law_c", "_law_many"]) fun _ _ _ _ _ _ us hl => match us, hl with | [_, _], _ => rfl
  have F13 := fun_mk (st := s_l_power) l13 c13 k13
  have b13 := F13.binds (ps := ["_law_p", "_law_a", "_law_k"]) fun _ _ _ _ _ _ us hl => match us, hl with | [_, _, _], _ => rfl
  have F14 := fun_mk (st := s_l_line) l14 c14 k14
  have b14 := F14.binds (ps := ["_law_p", "_law_pairs"]) fun _ _ _ _ _ _ us hl => match us, hl with | [_, _], _ => rfl
  have F15 := fun_mk (st := s_l_choices) l15 c15 k15
  have b15 := F15.binds (ps := ["_law_many", "_law_k"]) fun _ _ _ _ _ _ us hl => match us, hl with | [_, _], _ => rfl
  have F16 := fun_mk (st := s_l_value) l16 c16 k16
  have b16 := F16.binds (ps := ["_law_p", "_law_f", "_law_x"]) fun _ _ _ _ _ _ us hl => match us, hl with | [_, _, _], _ => rfl
  have F17 := fun_mk (st := s_law) l17 c17 k17
  have b17 := F17.binds (ps := ["_law_script"]) fun _ _ _ _ _ _ us hl => match us, hl with | [_], _ => rfl
  have XX : Fcts K mg := ⟨⟨_, _, PySem.W.mg_of X G a0, F0, b0⟩, ⟨_, _, PySem.W.mg_of X G a1, F1, b1⟩, ⟨_, _, PySem.W.mg_of X G a2, F2, b2⟩, ⟨_, _, PySem.W.mg_of X G a3, F3, b3⟩, ⟨_, _, PySem.W.mg_of X G a4, F4, b4⟩, ⟨_, _, PySem.W.mg_of X G a5, F5, b5⟩, ⟨_, _, PySem.W.mg_of X G a6, F6, b6⟩, ⟨_, _, PySem.W.mg_of X G a7, F7, b7⟩, ⟨_, _, PySem.W.mg_of X G a8, F8, b8⟩, ⟨_, _, PySem.W.mg_of X G a9, F9, b9⟩, ⟨_, _, PySem.W.mg_of X G a10, F10, b10⟩, ⟨_, _, PySem.W.mg_of X G a11, F11, b11⟩, ⟨_, _, PySem.W.mg_of X G a12, F12, b12⟩, ⟨_, _, PySem.W.mg_of X G a13, F13, b13⟩, ⟨_, _, PySem.W.mg_of X G a14, F14, b14⟩, ⟨_, _, PySem.W.mg_of X G a15, F15, b15⟩, ⟨_, _, PySem.W.mg_of X G a16, F16, b16⟩, ⟨_, _, PySem.W.mg_of X G a17, F17, b17⟩, PySem.W.mg_none_of X G z0, PySem.W.mg_none_of X G z1, PySem.W.mg_none_of X G z2, PySem.W.mg_none_of X G z3, PySem.W.mg_none_of X G z4, PySem.W.mg_none_of X G z5, PySem.W.mg_none_of X G z6, PySem.W.mg_none_of X G z7⟩
  exact ⟨PySem.W.fnOf "law" "law" (defArgs s_law) (defBody s_law) (defScope s_law) .none kV17 dc17 pm17 an17 cd17 ct17, fun s v => .of_eq rfl, fun base _ _ => ok_law XX F17⟩
end MI
open PySem PySem.W PyProof.Rows
set_option maxHeartbeats 0 in
theorem PySem.Challenge.cw_sortes_k02_decoding_holds : PySem.Challenge.rw_sortes_k02_decoding.Holds := by
  w_on; o_law; k_head; (case hw => w_witness2)
  k_fill
  refine L2.walk_of (l := PySem.Challenge.rw_sortes_k02_decoding) (n := 63) (k := 5) (x := "_law_script") (CX := fun _ => L2.CX0) (sp := fun w => MI.spD _ (fun _ => 0) 1 MI.f_law) rfl (by decide) rfl ⟨rfl, by decide, by decide⟩ (fun w h Y => PySem.W.kIn_of Y) ?F (fun _ _ a ns hl _ hS => MI.law_start hl hS) (fun _ _ _ _ _ h => h)
  case F =>
    intro w mg fa h KX G hmg
    refine' MI.all_mk KX G hmg ?a0 ?l0 ?c0 ?k0 ?a1 ?l1 ?c1 ?k1 ?a2 ?l2 ?c2 ?k2 ?a3 ?l3 ?c3 ?k3 ?a4 ?l4 ?c4 ?k4 ?a5 ?l5 ?c5 ?k5 ?a6 ?l6 ?c6 ?k6 ?a7 ?l7 ?c7 ?k7 ?a8 ?l8 ?c8 ?k8 ?a9 ?l9 ?c9 ?k9 ?a10 ?l10 ?c10 ?k10 ?a11 ?l11 ?c11 ?k11 ?a12 ?l12 ?c12 ?k12 ?a13 ?l13 ?c13 ?k13 ?a14 ?l14 ?c14 ?k14 ?a15 ?l15 ?c15 ?k15 ?a16 ?l16 ?c16 ?k16 ?a17 ?l17 ?c17 ?k17 ?z0 ?z1 ?z2 ?z3 ?z4 ?z5 ?z6 ?z7
    (case a0 => k_is); (case l0 => k_is); (case c0 => k_is); (case k0 => k_is); (case a1 => k_is); (case l1 => k_is); (case c1 => k_is); (case k1 => k_is); (case a2 => k_is); (case l2 => k_is); (case c2 => k_is); (case k2 => k_is); (case a3 => k_is); (case l3 => k_is); (case c3 => k_is); (case k3 => k_is); (case a4 => k_is); (case l4 => k_is); (case c4 => k_is); (case k4 => k_is); (case a5 => k_is); (case l5 => k_is); (case c5 => k_is); (case k5 => k_is); (case a6 => k_is); (case l6 => k_is); (case c6 => k_is); (case k6 => k_is); (case a7 => k_is); (case l7 => k_is); (case c7 => k_is); (case k7 => k_is); (case a8 => k_is); (case l8 => k_is); (case c8 => k_is); (case k8 => k_is); (case a9 => k_is); (case l9 => k_is); (case c9 => k_is); (case k9 => k_is); (case a10 => k_is); (case l10 => k_is); (case c10 => k_is); (case k10 => k_is); (case a11 => k_is); (case l11 => k_is); (case c11 => k_is); (case k11 => k_is); (case a12 => k_is); (case l12 => k_is); (case c12 => k_is); (case k12 => k_is); (case a13 => k_is); (case l13 => k_is); (case c13 => k_is); (case k13 => k_is); (case a14 => k_is); (case l14 => k_is); (case c14 => k_is); (case k14 => k_is); (case a15 => k_is); (case l15 => k_is); (case c15 => k_is); (case k15 => k_is); (case a16 => k_is); (case l16 => k_is); (case c16 => k_is); (case k16 => k_is); (case a17 => k_is); (case l17 => k_is); (case c17 => k_is); (case k17 => k_is); (case z0 => k_is); (case z1 => k_is); (case z2 => k_is); (case z3 => k_is); (case z4 => k_is); (case z5 => k_is); (case z6 => k_is); (case z7 => k_is)
