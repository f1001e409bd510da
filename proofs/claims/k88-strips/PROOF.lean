import PyProof.Rows.All
import HandS.ForMost
import HandS.Wide
import HandS.IsInst
import HandS.Exc
import KE.GoesNew
import HandS.Style
import HandS.SetFor
import HandS.Zip
import KE.DataEq
import PyProof.ReprRoads
import HandS.TupAny
import HandS.TupMul
import HandS.WideBits
import HandS.Conv
import HandS.Sort
import HandS.Words
import HandS.Ends
import HandS.EndBits
import HandS.ExcOwn
import HandS.ExcIs
import HandS.WordsExc
import HandS.TryOnly
import KE.SortData
import HandS.SortInts
import KE.KMathGC
import HandS.Gcd
import KE.GoesMore
import HandS.Strs
import HandS.Text
import Wide.All
import OpenK.AllK
import Wide.FinOn
import PySem.Challenge.RW_rowbars_k88_whole_strips_or_breaks
section
set_option Elab.async false
set_option linter.all false
set_option maxRecDepth 100000
/-! The value layer, part a: data that values stand for, owners, the state. -/
namespace VL
open PySem PySem.Spec PyProof.Rows L2

abbrev D := PyData
/-- share: read only; own: nobody else names it; unq: nor anything within; par: a parameter that is written -/
inductive Tag where
  | sh | own | unq | par
  deriving DecidableEq

/-! ### what a value stands for; fp: the lists and dicts within -/
def keyD : Key → D
  | .inl i => .int i
  | .inr x => .str x
/-- an exception object of the class cls (raised or not) at a -/
def ExV (cls : Value) (a : Addr) : HO := .ext fun h => ∃ oe : Obj, h.get? a = some oe ∧ Zc cls none oe ∧ ∃ vs, oe.data = .fields vs
/-- the class that stands under a name of the module -/
def clsOf (K : PySem.W.Frag) (c : Str) : Option Addr := match PySem.W.nsIn K mainGlobals c with
  | some (some (.ref C)) => some C
  | _ => none
/-- an exception as data -/
def excD (c : Str) : D := .dict [(.none, .str c)]
def DictAt (K : PySem.W.Frag) (H : Hp) (a : Addr) (ks : List D) (vs : List V) : Prop :=
  (∃ c C, ks = [.none] ∧ vs = [.str c] ∧ clsOf K c = some C ∧ H a = some (ExV (.ref C) a)) ∨ (∃ kvs : List (Key × V), Rd H a (.dK kvs) ∧ ks = kvs.map (fun p => keyD p.1) ∧ vs = kvs.map (·.2)) ∨
  ∃ kvs : List (List Key × V), Rd H a (.dT kvs) ∧ ks = kvs.map (fun p => PyData.tuple (p.1.map keyD)) ∧ vs = kvs.map (·.2)
mutual
def Rep (K : PySem.W.Frag) (H : Hp) : D → V → List Addr → Prop
  | .none, v, fp => v = .non ∧ fp = []
  | .bool b, v, fp => v = .bl b ∧ fp = []
  | .int i, v, fp => v = .int i ∧ fp = []
  | .str x, v, fp => v = .str x ∧ fp = []
  | .list ds, v, fp => ∃ a xs fs, v = .ref a ∧ Rd H a (.lst xs) ∧ RepL K H ds xs fs ∧ fp = a :: fs
  | .tuple ds, v, fp => ∃ a xs, v = .ref a ∧ SqT K H a xs ∧ RepL K H ds xs fp
  | .dict kvs, v, fp => ∃ a xs fs, v = .ref a ∧ DictAt K H a (kvs.map (·.1)) xs ∧ RepP K H kvs xs fs ∧ fp = a :: fs
def RepL (K : PySem.W.Frag) (H : Hp) : List D → List V → List Addr → Prop
  | [], xs, fp => xs = [] ∧ fp = []
  | d :: ds, xs, fp => ∃ x r f g, xs = x :: r ∧ fp = f ++ g ∧ Rep K H d x f ∧ RepL K H ds r g
def RepP (K : PySem.W.Frag) (H : Hp) : List (D × D) → List V → List Addr → Prop
  | [], xs, fp => xs = [] ∧ fp = []
  | (_, d) :: ds, xs, fp => ∃ x r f g, xs = x :: r ∧ fp = f ++ g ∧ Rep K H d x f ∧ RepP K H ds r g
end
mutual
/-- no list, no dict within -/
def noMut : D → Bool
  | .none | .bool _ | .int _ | .str _ => true
  | .tuple ds => noMutL ds
  | .list _ | .dict _ => false
def noMutL : List D → Bool
  | [] => true
  | d :: ds => noMut d && noMutL ds
end
def noMutV (kvs : List (D × D)) : Bool := kvs.all fun p => noMut p.2

section
variable {K : PySem.W.Frag} {H H' : Hp}
theorem RepL.nil : RepL K H [] [] [] := by simp [RepL]
theorem RepL.cons {d : D} {v : V} {ds : List D} {vs : List V} {f g : List Addr} (h : Rep K H d v f) (t : RepL K H ds vs g) : RepL K H (d :: ds) (v :: vs) (f ++ g) := by
  simp only [RepL]; exact ⟨v, vs, f, g, rfl, rfl, h, t⟩
theorem rep_int (i : Int) : Rep K H (.int i) (.int i) [] := by simp [Rep]
theorem rep_bool (i : Bool) : Rep K H (.bool i) (.bl i) [] := by simp [Rep]
theorem rep_str (i : Str) : Rep K H (.str i) (.str i) [] := by simp [Rep]
theorem rep_none : Rep K H .none .non [] := by simp [Rep]

/-- the tracked tuples stay -/
def TupKeep (H H' : Hp) : Prop := ∀ a xs, Rd H a (.tup xs) → Rd H' a (.tup xs)
theorem TupKeep.sq (h : TupKeep H H') {a : Addr} {xs : List V} (q : SqT K H a xs) : SqT K H' a xs := by
  rcases q with q | q
  · exact .inl (h a xs q)
  · exact .inr q
theorem rd_at {a : Addr} {u : HO} (h : H' a = H a) (r : Rd H a u) : Rd H' a u := by
  unfold Rd at *; rw [h]; exact r
theorem rd_some {a : Addr} {u : HO} (r : Rd H a u) : H a ≠ none := by
  rcases r with e | ⟨o, e⟩ <;> rw [e] <;> simp
theorem dictAt_at {a : Addr} {ks : List D} {vs : List V} (h : H' a = H a) (r : DictAt K H a ks vs) : DictAt K H' a ks vs := by
  rcases r with ⟨c, C, e1, e2, e3, e4⟩ | ⟨kvs, r, q⟩ | ⟨kvs, r, q⟩
  · exact .inl ⟨c, C, e1, e2, e3, h.trans e4⟩
  · exact .inr (.inl ⟨kvs, rd_at h r, q⟩)
  · exact .inr (.inr ⟨kvs, rd_at h r, q⟩)
theorem dictAt_some {a : Addr} {ks : List D} {vs : List V} (r : DictAt K H a ks vs) : H a ≠ none := by
  rcases r with ⟨c, C, e1, e2, e3, e4⟩ | ⟨kvs, r, q⟩ | ⟨kvs, r, q⟩
  · rw [e4]; intro z; cases z
  · exact rd_some r
  · exact rd_some r
mutual
theorem rep_mono (tk : TupKeep H H') : ∀ (d : D) (v : V) (fp : List Addr), (∀ b ∈ fp, H' b = H b) → Rep K H d v fp → Rep K H' d v fp
  | .none, v, fp, _, h => by simpa [Rep] using h
  | .bool b, v, fp, _, h => by simpa [Rep] using h
  | .int b, v, fp, _, h => by simpa [Rep] using h
  | .str b, v, fp, _, h => by simpa [Rep] using h
  | .list ds, v, fp, k, h => by
    simp only [Rep] at h ⊢
    obtain ⟨a, xs, fs, e, r, t, rfl⟩ := h
    exact ⟨a, xs, fs, e, rd_at (k a (List.mem_cons_self ..)) r, repL_mono tk ds xs fs (fun b hb => k b (List.mem_cons_of_mem _ hb)) t, rfl⟩
  | .tuple ds, v, fp, k, h => by
    simp only [Rep] at h ⊢
    obtain ⟨a, xs, e, r, t⟩ := h
    exact ⟨a, xs, e, tk.sq r, repL_mono tk ds xs fp k t⟩
  | .dict ds, v, fp, k, h => by
    simp only [Rep] at h ⊢
    obtain ⟨a, xs, fs, e, r, t, rfl⟩ := h
    exact ⟨a, xs, fs, e, dictAt_at (k a (List.mem_cons_self ..)) r, repP_mono tk ds xs fs (fun b hb => k b (List.mem_cons_of_mem _ hb)) t, rfl⟩
theorem repL_mono (tk : TupKeep H H') : ∀ (ds : List D) (vs : List V) (fp : List Addr), (∀ b ∈ fp, H' b = H b) → RepL K H ds vs fp → RepL K H' ds vs fp
  | [], v, fp, _, h => by simpa [RepL] using h
  | d :: ds, v, fp, k, h => by
    simp only [RepL] at h ⊢
    obtain ⟨x, r, f, g, e, rfl, h1, h2⟩ := h
    exact ⟨x, r, f, g, e, rfl, rep_mono tk d x f (fun b hb => k b (List.mem_append_left _ hb)) h1, repL_mono tk ds r g (fun b hb => k b (List.mem_append_right _ hb)) h2⟩
theorem repP_mono (tk : TupKeep H H') : ∀ (ds : List (D × D)) (vs : List V) (fp : List Addr), (∀ b ∈ fp, H' b = H b) → RepP K H ds vs fp → RepP K H' ds vs fp
  | [], v, fp, _, h => by simpa [RepP] using h
  | (_, d) :: ds, v, fp, k, h => by
    simp only [RepP] at h ⊢
    obtain ⟨x, r, f, g, e, rfl, h1, h2⟩ := h
    exact ⟨x, r, f, g, e, rfl, rep_mono tk d x f (fun b hb => k b (List.mem_append_left _ hb)) h1, repP_mono tk ds r g (fun b hb => k b (List.mem_append_right _ hb)) h2⟩
end
mutual
theorem rep_trk : ∀ (d : D) (v : V) (fp : List Addr), Rep K H d v fp → ∀ b ∈ fp, H b ≠ none
  | .none, v, fp, h, b, hb => by simp only [Rep] at h; rw [h.2] at hb; cases hb
  | .bool _, v, fp, h, b, hb => by simp only [Rep] at h; rw [h.2] at hb; cases hb
  | .int _, v, fp, h, b, hb => by simp only [Rep] at h; rw [h.2] at hb; cases hb
  | .str _, v, fp, h, b, hb => by simp only [Rep] at h; rw [h.2] at hb; cases hb
  | .list ds, v, fp, h, b, hb => by
    simp only [Rep] at h
    obtain ⟨a, xs, fs, e, r, t, rfl⟩ := h
    rcases List.mem_cons.mp hb with rfl | hb
    · exact rd_some r
    · exact repL_trk ds xs fs t b hb
  | .tuple ds, v, fp, h, b, hb => by
    simp only [Rep] at h
    obtain ⟨a, xs, e, r, t⟩ := h
    exact repL_trk ds xs fp t b hb
  | .dict ds, v, fp, h, b, hb => by
    simp only [Rep] at h
    obtain ⟨a, xs, fs, e, r, t, rfl⟩ := h
    rcases List.mem_cons.mp hb with rfl | hb
    · exact dictAt_some r
    · exact repP_trk ds xs fs t b hb
theorem repL_trk : ∀ (ds : List D) (vs : List V) (fp : List Addr), RepL K H ds vs fp → ∀ b ∈ fp, H b ≠ none
  | [], v, fp, h, b, hb => by simp only [RepL] at h; rw [h.2] at hb; cases hb
  | d :: ds, v, fp, h, b, hb => by
    simp only [RepL] at h
    obtain ⟨x, r, f, g, e, rfl, h1, h2⟩ := h
    rcases List.mem_append.mp hb with hb | hb
    · exact rep_trk d x f h1 b hb
    · exact repL_trk ds r g h2 b hb
theorem repP_trk : ∀ (ds : List (D × D)) (vs : List V) (fp : List Addr), RepP K H ds vs fp → ∀ b ∈ fp, H b ≠ none
  | [], v, fp, h, b, hb => by simp only [RepP] at h; rw [h.2] at hb; cases hb
  | (_, d) :: ds, v, fp, h, b, hb => by
    simp only [RepP] at h
    obtain ⟨x, r, f, g, e, rfl, h1, h2⟩ := h
    rcases List.mem_append.mp hb with hb | hb
    · exact rep_trk d x f h1 b hb
    · exact repP_trk ds r g h2 b hb
end
mutual
theorem rep_noMut : ∀ (d : D) (v : V) (fp : List Addr), noMut d = true → Rep K H d v fp → fp = []
  | .none, v, fp, _, h => by simp only [Rep] at h; exact h.2
  | .bool _, v, fp, _, h => by simp only [Rep] at h; exact h.2
  | .int _, v, fp, _, h => by simp only [Rep] at h; exact h.2
  | .str _, v, fp, _, h => by simp only [Rep] at h; exact h.2
  | .list ds, v, fp, n, h => by simp [noMut] at n
  | .tuple ds, v, fp, n, h => by
    simp only [Rep] at h
    obtain ⟨a, xs, e, r, t⟩ := h
    exact repL_noMut ds xs fp (by simpa [noMut] using n) t
  | .dict ds, v, fp, n, h => by simp [noMut] at n
theorem repL_noMut : ∀ (ds : List D) (vs : List V) (fp : List Addr), noMutL ds = true → RepL K H ds vs fp → fp = []
  | [], v, fp, _, h => by simp only [RepL] at h; exact h.2
  | d :: ds, v, fp, n, h => by
    simp only [RepL] at h
    obtain ⟨x, r, f, g, e, rfl, h1, h2⟩ := h
    simp only [noMutL, Bool.and_eq_true] at n
    rw [rep_noMut d x f n.1 h1, repL_noMut ds r g n.2 h2]; rfl
end
theorem repP_noMut : ∀ (ds : List (D × D)) (vs : List V) (fp : List Addr), noMutV ds = true → RepP K H ds vs fp → fp = []
  | [], v, fp, _, h => by simp only [RepP] at h; exact h.2
  | (k, d) :: ds, v, fp, n, h => by
    simp only [RepP] at h
    obtain ⟨x, r, f, g, e, rfl, h1, h2⟩ := h
    simp only [noMutV, List.all_cons, Bool.and_eq_true] at n
    rw [rep_noMut d x f n.1 h1, repP_noMut ds r g n.2 h2]; rfl
theorem RepL.length : ∀ {ds : List D} {vs : List V} {fp : List Addr}, RepL K H ds vs fp → vs.length = ds.length
  | [], v, fp, h => by simp only [RepL] at h; rw [h.1]; rfl
  | d :: ds, v, fp, h => by
    simp only [RepL] at h
    obtain ⟨x, r, f, g, rfl, rfl, h1, h2⟩ := h
    simp [RepL.length h2]
theorem RepL.append : ∀ {ds es : List D} {vs ws : List V} {f g : List Addr}, RepL K H ds vs f → RepL K H es ws g → RepL K H (ds ++ es) (vs ++ ws) (f ++ g)
  | [], es, vs, ws, f, g, h, k => by simp only [RepL] at h; rw [h.1, h.2]; exact k
  | d :: ds, es, vs, ws, f, g, h, k => by
    simp only [RepL] at h
    obtain ⟨x, r, f1, f2, rfl, rfl, h1, h2⟩ := h
    have := RepL.cons h1 (h2.append k)
    simpa [List.append_assoc] using this
/-- an item -/
theorem RepL.get : ∀ {ds : List D} {vs : List V} {fp : List Addr} (i : Nat) (d : D), RepL K H ds vs fp → ds[i]? = some d → ∃ v f, vs[i]? = some v ∧ Rep K H d v f ∧ f.Sublist fp
  | [], vs, fp, i, d, h, e => by simp at e
  | d0 :: ds, vs, fp, i, d, h, e => by
    simp only [RepL] at h
    obtain ⟨x, r, f, g, rfl, rfl, h1, h2⟩ := h
    cases i with
    | zero => simp at e; subst e; exact ⟨x, f, rfl, h1, List.sublist_append_left f g⟩
    | succ i =>
      obtain ⟨v, f', e1, e2, e3⟩ := RepL.get i d h2 (by simpa using e)
      exact ⟨v, f', by simpa using e1, e2, e3.trans (List.sublist_append_right f g)⟩
theorem RepL.sub : ∀ {ds : List D} {vs : List V} {fp : List Addr} (n : Nat), RepL K H ds vs fp → ∃ f g, fp = f ++ g ∧ RepL K H (ds.take n) (vs.take n) f ∧ RepL K H (ds.drop n) (vs.drop n) g
  | ds, vs, fp, 0, h => ⟨[], fp, rfl, by simpa using RepL.nil, by simpa using h⟩
  | [], vs, fp, n + 1, h => by
    simp only [RepL] at h; rw [h.1, h.2]
    exact ⟨[], [], rfl, by simpa using RepL.nil, by simpa using RepL.nil⟩
  | d :: ds, vs, fp, n + 1, h => by
    simp only [RepL] at h
    obtain ⟨x, r, f, g, rfl, rfl, h1, h2⟩ := h
    obtain ⟨f1, f2, rfl, h3, h4⟩ := RepL.sub n h2
    exact ⟨f ++ f1, f2, by simp, by simpa using RepL.cons h1 h3, by simpa using h4⟩
end
end VL
end
section
set_option Elab.async false
set_option linter.all false
set_option maxRecDepth 100000
namespace VL
open PySem PySem.Spec PyProof.Rows L2

/-! ### what is alive, and who owns what -/
structure Ent where
  v : V
  d : D
  t : Tag
  fp : List Addr
/-- a def's run: the heap at its entry, what may not change, what may be named within values, the written parameters -/
structure Frm where
  K : PySem.W.Frag
  H0 : Hp
  Pr : Addr → Prop
  Al : Addr → Prop
  par : Nat → Option Addr
/-- a list or a dict -/
def isLD : D → Bool
  | .list _ => true
  | .dict _ => true
  | _ => false
def TagOk (F : Frm) (H : Hp) (e : Ent) : Prop := match e.t with
  | .sh => True
  | .own => isLD e.d = true ∧ ∃ a fs, e.v = .ref a ∧ e.fp = a :: fs ∧ a ∉ fs ∧ ¬ F.Pr a ∧ Mut (H a)
  | .unq => e.fp.Nodup ∧ ∀ b ∈ e.fp, ¬ F.Pr b ∧ Mut (H b)
  | .par => isLD e.d = true ∧ ∃ a, e.v = .ref a ∧ e.fp = [a] ∧ ¬ F.Pr a ∧ Mut (H a)
structure EntOk (F : Frm) (H : Hp) (e : Ent) : Prop where
  rep : Rep F.K H e.d e.v e.fp
  al : ∀ b ∈ e.fp, F.Al b
  tag : TagOk F H e
def Sep1 (e e' : Ent) : Prop := match e.t with
  | .sh => True
  | .unq => ∀ b ∈ e.fp, b ∉ e'.fp
  | _ => ∀ a, e.fp.head? = some a → a ∉ e'.fp
structure Gd (F : Frm) (Γ : List (Option Ent)) (H : Hp) : Prop where
  ok : ∀ (i : Nat) (e : Ent), Γ[i]? = some (some e) → EntOk F H e
  sep : ∀ (i j : Nat) (e e' : Ent), i ≠ j → Γ[i]? = some (some e) → Γ[j]? = some (some e') → Sep1 e e'
  pr : ∀ b, F.Pr b → H b = F.H0 b
  trk : ∀ b, F.H0 b ≠ none → H b ≠ none
  fresh : ∀ b, F.H0 b = none → F.Al b
  prt : ∀ b, F.Pr b → F.H0 b ≠ none

section
variable {F : Frm} {Γ Δ : List (Option Ent)} {H H' : Hp} {e e' : Ent} {i : Nat}
theorem mut_some {o : Option HO} (h : Mut o) : o ≠ none := by intro z; rw [z] at h; exact h
/-- a heap that grows -/
theorem Grow.tup (k : ∀ b, H b ≠ none → H' b = H b) : TupKeep H H' := fun a xs r => rd_at (k a (rd_some r)) r
theorem tagOk_mono (h : ∀ b ∈ e.fp, H' b = H b) (x : TagOk F H e) : TagOk F H' e := by
  unfold TagOk at *
  split at x
  · trivial
  · obtain ⟨e0, a, fs, e1, e2, e3, e4, e5⟩ := x
    exact ⟨e0, a, fs, e1, e2, e3, e4, by rw [h a (by rw [e2]; exact List.mem_cons_self ..)]; exact e5⟩
  · exact ⟨x.1, fun b hb => ⟨(x.2 b hb).1, by rw [h b hb]; exact (x.2 b hb).2⟩⟩
  · obtain ⟨e0, a, e1, e2, e4, e5⟩ := x
    exact ⟨e0, a, e1, e2, e4, by rw [h a (by rw [e2]; exact List.mem_cons_self ..)]; exact e5⟩
theorem EntOk.mono (tk : TupKeep H H') (h : ∀ b ∈ e.fp, H' b = H b) (x : EntOk F H e) : EntOk F H' e :=
  ⟨rep_mono tk _ _ _ h x.rep, x.al, tagOk_mono h x.tag⟩
theorem EntOk.trk (x : EntOk F H e) : ∀ b ∈ e.fp, H b ≠ none := rep_trk _ _ _ x.rep
theorem Gd.grow (g : Gd F Γ H) (k : ∀ b, H b ≠ none → H' b = H b) : Gd F Γ H' where
  ok := fun i e h => (g.ok i e h).mono (Grow.tup k) fun b hb => k b ((g.ok i e h).trk b hb)
  sep := g.sep
  pr := fun b hb => by rw [k b (by rw [g.pr b hb]; exact g.prt b hb)]; exact g.pr b hb
  trk := fun b hb => by rw [k b (g.trk b hb)]; exact g.trk b hb
  fresh := g.fresh
  prt := g.prt
theorem Gd.pre (g : Gd F (Γ ++ Δ) H) : Gd F Γ H := by
  have l : ∀ {i : Nat} {x : Option Ent}, Γ[i]? = some x → (Γ ++ Δ)[i]? = some x := fun {i x} h => by
    rw [List.getElem?_append_left (List.getElem?_eq_some_iff.mp h).1]; exact h
  exact ⟨fun i e h => g.ok i e (l h), fun i j e e' n h h' => g.sep i j e e' n (l h) (l h'), g.pr, g.trk, g.fresh, g.prt⟩
theorem Gd.set_none (g : Gd F Γ H) (i : Nat) : Gd F (Γ.set i none) H := by
  have l : ∀ {j : Nat} {x : Ent}, (Γ.set i none)[j]? = some (some x) → Γ[j]? = some (some x) := fun {j x} h => by
    rw [List.getElem?_set] at h
    split at h
    · split at h <;> simp at h
    · exact h
  exact ⟨fun i e h => g.ok i e (l h), fun i j e e' n h h' => g.sep i j e e' n (l h) (l h'), g.pr, g.trk, g.fresh, g.prt⟩
theorem Gd.push (g : Gd F Γ H) (x : EntOk F H e) (h1 : ∀ (i : Nat) (e' : Ent), Γ[i]? = some (some e') → Sep1 e e' ∧ Sep1 e' e) : Gd F (Γ ++ [some e]) H := by
  have l : ∀ {j : Nat} {y : Ent}, (Γ ++ [some e])[j]? = some (some y) → Γ[j]? = some (some y) ∨ (j = Γ.length ∧ y = e) := fun {j y} h => by
    by_cases hj : j < Γ.length
    · rw [List.getElem?_append_left hj] at h; exact .inl h
    · rw [List.getElem?_append_right (by omega)] at h
      by_cases h0 : j - Γ.length = 0
      · rw [h0] at h; simp at h; exact .inr ⟨by omega, h.symm⟩
      · rw [List.getElem?_eq_none (by simp; omega)] at h; cases h
  refine ⟨fun i e h => ?_, fun i j e1 e2 n h h' => ?_, g.pr, g.trk, g.fresh, g.prt⟩
  · rcases l h with h | ⟨_, rfl⟩
    · exact g.ok i e h
    · exact x
  · rcases l h with hh | ⟨hi, q1⟩ <;> rcases l h' with hh' | ⟨hj, q2⟩
    · exact g.sep i j e1 e2 n hh hh'
    · rw [q2]; exact (h1 i e1 hh).2
    · rw [q1]; exact (h1 j e2 hh').1
    · omega
/-- an entry is replaced -/
theorem Gd.set (g : Gd F Γ H) (x : EntOk F H e) (h1 : ∀ (j : Nat) (e' : Ent), j ≠ i → Γ[j]? = some (some e') → Sep1 e e' ∧ Sep1 e' e) : Gd F (Γ.set i (some e)) H := by
  have l : ∀ {j : Nat} {y : Ent}, (Γ.set i (some e))[j]? = some (some y) → (j ≠ i ∧ Γ[j]? = some (some y)) ∨ (j = i ∧ y = e) := fun {j y} h => by
    rw [List.getElem?_set] at h
    split at h
    · split at h
      · simp at h; exact .inr ⟨by omega, h.symm⟩
      · simp at h
    · exact .inl ⟨by omega, h⟩
  refine ⟨fun j y h => ?_, fun j k y z n h h' => ?_, g.pr, g.trk, g.fresh, g.prt⟩
  · rcases l h with ⟨_, h⟩ | ⟨_, rfl⟩
    · exact g.ok j y h
    · exact x
  · rcases l h with ⟨n1, hh⟩ | ⟨e1, q1⟩ <;> rcases l h' with ⟨n2, hh'⟩ | ⟨e2, q2⟩
    · exact g.sep j k y z n hh hh'
    · rw [q2]; exact (h1 j y n1 hh).2
    · rw [q1]; exact (h1 k z n2 hh').1
    · omega
/-- the last entry goes to a slot -/
theorem Gd.move (g : Gd F (Γ ++ [some e]) H) (i : Nat) : Gd F (Γ.set i (some e)) H := by
  have hl : (Γ ++ [some e])[Γ.length]? = some (some e) := by simp
  have l : ∀ {i : Nat} {x : Option Ent}, Γ[i]? = some x → (Γ ++ [some e])[i]? = some x ∧ i < Γ.length := fun {i x} h => by
    have q := (List.getElem?_eq_some_iff.mp h).1
    rw [List.getElem?_append_left q]; exact ⟨h, q⟩
  exact g.pre.set (g.ok _ _ hl) fun j e' _ h => ⟨g.sep _ _ _ _ (by have := (l h).2; omega) hl (l h).1, g.sep _ _ _ _ (by have := (l h).2; omega) (l h).1 hl⟩
/-- a weaker tag -/
def wk : Tag → Tag → Prop
  | _, .sh => True
  | .own, .own => True
  | .unq, .unq => True
  | .par, .par => True
  | _, _ => False
theorem sep1_sub {e1 e2 e3 : Ent} (h : Sep1 e1 e2) (s : ∀ b ∈ e3.fp, b ∈ e2.fp) : Sep1 e1 e3 := by
  unfold Sep1 at *
  split at h
  · trivial
  · exact fun b hb z => h b hb (s b z)
  · exact fun a ha z => h a ha (s a z)
/-- demoted: shared -/
def Ent.toSh (e : Ent) : Ent := { e with t := .sh }
theorem EntOk.toSh (x : EntOk F H e) : EntOk F H e.toSh := ⟨x.rep, x.al, trivial⟩
theorem Gd.toSh (g : Gd F Γ H) (h : Γ[i]? = some (some e)) : Gd F (Γ.set i (some e.toSh)) H :=
  g.set (g.ok i e h).toSh fun j e' n h' => ⟨trivial, sep1_sub (g.sep j i e' e n h' h) fun b hb => hb⟩
/-- what the inner parts of a value name -/
def inn (d : D) (fp : List Addr) : List Addr := match d with
  | .list _ => fp.tail
  | .dict _ => fp.tail
  | _ => fp
theorem inn_sub (d : D) (fp : List Addr) : ∀ b ∈ inn d fp, b ∈ fp := fun b hb => by
  unfold inn at hb
  split at hb
  · exact List.mem_of_mem_tail hb
  · exact List.mem_of_mem_tail hb
  · exact hb
/-- unq becomes own (what is within may be named elsewhere) -/
def dem1 (d : D) (t : Tag) : Tag := match t with
  | .unq => (match d with | .list _ => .own | .dict _ => .own | _ => .sh)
  | t => t
def Ent.dem (e : Ent) : Ent := { e with t := dem1 e.d e.t }
theorem EntOk.dem (x : EntOk F H e) : EntOk F H e.dem := by
  obtain ⟨r, al, tg⟩ := x
  refine ⟨r, al, ?_⟩
  obtain ⟨v, d, t, fp⟩ := e
  cases t with
  | unq =>
    have tg : fp.Nodup ∧ ∀ b ∈ fp, ¬ F.Pr b ∧ Mut (H b) := tg
    cases d with
    | list ds =>
      simp only [Rep] at r
      obtain ⟨a, xs, fs, rfl, _, _, rfl⟩ := r
      exact ⟨rfl, a, fs, rfl, rfl, (List.nodup_cons.mp tg.1).1, tg.2 a (List.mem_cons_self ..)⟩
    | dict ds =>
      simp only [Rep] at r
      obtain ⟨a, xs, fs, rfl, _, _, rfl⟩ := r
      exact ⟨rfl, a, fs, rfl, rfl, (List.nodup_cons.mp tg.1).1, tg.2 a (List.mem_cons_self ..)⟩
    | _ => trivial
  | sh => trivial
  | own => exact tg
  | par => exact tg
theorem sep1_dem {e1 e2 : Ent} (h : Sep1 e1 e2) : Sep1 e1.dem e2 := by
  obtain ⟨v, d, t, fp⟩ := e1
  cases t with
  | unq =>
    have h : ∀ b ∈ fp, b ∉ e2.fp := h
    cases d with
    | list ds => exact fun a ha => h a (List.mem_of_mem_head? (by simpa [Ent.dem] using ha))
    | dict ds => exact fun a ha => h a (List.mem_of_mem_head? (by simpa [Ent.dem] using ha))
    | _ => trivial
  | sh => trivial
  | own => exact h
  | par => exact h
theorem Gd.dem (g : Gd F Γ H) (h : Γ[i]? = some (some e)) : Gd F (Γ.set i (some e.dem)) H :=
  g.set (g.ok i e h).dem fun j e' n h' => ⟨sep1_dem (g.sep i j e e' (Ne.symm n) h h'), sep1_sub (g.sep j i e' e n h' h) fun b hb => hb⟩
/-- an own or a par entry's head does not stand in its own inner part; a demoted entry names nothing within as its own -/
theorem dem_inn (x : EntOk F H e) (a : Addr) (ha : e.t ≠ .sh) (hu : e.t ≠ .unq) (h : e.fp.head? = some a) : a ∉ inn e.d e.fp := by
  obtain ⟨r, al, tg⟩ := x
  obtain ⟨v, d, t, fp⟩ := e
  cases t with
  | sh => exact absurd rfl ha
  | unq => exact absurd rfl hu
  | own =>
    obtain ⟨e0, b, fs, e1, e2, e3, e4, e5⟩ := tg
    simp only at e0 e1 e2 r h; subst e1; subst e2
    simp at h; subst h
    cases d with
    | list ds => exact e3
    | dict ds => exact e3
    | _ => cases e0
  | par =>
    obtain ⟨e0, b, e1, e2, e4, e5⟩ := tg
    simp only at e0 e1 e2 r h; subst e1; subst e2
    cases d with
    | list ds => simp [inn]
    | dict ds => simp [inn]
    | _ => cases e0
end
end VL
end
section
set_option Elab.async false
set_option linter.all false
set_option maxRecDepth 100000
namespace VL
open PySem PySem.Spec PyProof.Rows L2

/-! ### the slots, the operands -/
abbrev Env := List (Option (D × Tag))
def envOf (G : List (Option Ent)) : Env := G.map (Option.map fun e => (e.d, e.t))
structure Slots (F : Frm) (G : List (Option Ent)) (σ : L2.St) : Prop where
  len : σ.length = G.length
  val : ∀ (i : Nat) (e : Ent), G[i]? = some (some e) → σ[i]? = some (some e.v)
  par : ∀ i a, F.par i = some a → ∃ e : Ent, G[i]? = some (some e) ∧ e.v = .ref a ∧ e.t = .par
structure Now (F : Frm) (G : List (Option Ent)) (R : List Ent) (σ : L2.St) (H : Hp) : Prop where
  gd : Gd F (G ++ R.map some) H
  sl : Slots F G σ
/-- an operand: what stands in a slot, or a value at hand -/
inductive Opd where
  | slot (i : Nat) | val (d : D) (t : Tag)
def OpsV (σ : L2.St) : List Opd → List Ent → List V → Prop
  | [], es, vs => es = [] ∧ vs = []
  | .slot i :: os, es, vs => ∃ v r, σ[i]? = some (some v) ∧ vs = v :: r ∧ OpsV σ os es r
  | .val d t :: os, es, vs => ∃ e r s, es = e :: s ∧ e.d = d ∧ e.t = t ∧ vs = e.v :: r ∧ OpsV σ os s r
def Opd.d (env : Env) : Opd → Option D
  | .slot i => match env[i]? with
    | some (some (d, _)) => some d
    | _ => none
  | .val d _ => some d
def opsD (env : Env) : List Opd → Option (List D)
  | [] => some []
  | o :: os => match o.d env, opsD env os with
    | some d, some ds => some (d :: ds)
    | _, _ => none
def hasSlot (os : List Opd) (i : Nat) : Bool := os.any fun o => match o with
  | .slot j => j == i
  | _ => false
/-- the operands' slots: what is within may now be named elsewhere, too -/
def demAll (os : List Opd) : Nat → Env → Env
  | _, [] => []
  | i, o :: r => (if hasSlot os i then o.map (fun p => (p.1, dem1 p.1 p.2)) else o) :: demAll os (i + 1) r
def needDem (d : D) (t : Tag) : Bool := match t with
  | .unq => false
  | .sh => !noMut d
  | .own => (match d with
    | .list ds => !noMutL ds
    | .dict kvs => !noMutV kvs
    | _ => true)
  | .par => true
def demIf (d : D) (t : Tag) (os : List Opd) (env : Env) : Env := if needDem d t then demAll os 0 env else env
structure POut (K : PySem.W.Frag) (H H' : Hp) (xs : List Ent) (d : D) (t : Tag) (v : V) (fp : List Addr) : Prop where
  rep : Rep K H' d v fp
  same : ∀ b, H b ≠ none → H' b = H b
  sub : ∀ b ∈ fp, H b = none ∨ ∃ x ∈ xs, b ∈ inn x.d x.fp
  tag : match t with
    | .sh => True
    | .own => isLD d = true ∧ ∃ a fs, v = .ref a ∧ fp = a :: fs ∧ a ∉ fs ∧ H a = none ∧ Mut (H' a)
    | .unq => fp.Nodup ∧ ∀ b ∈ fp, H b = none ∧ Mut (H' b)
    | .par => False

section
variable {F : Frm} {Γ Δ G G' : List (Option Ent)} {H H' : Hp} {e e' : Ent} {i : Nat} {R es : List Ent} {σ : L2.St} {os : List Opd} {vs : List V}
theorem envOf_get (h : G[i]? = some (some e)) : (envOf G)[i]? = some (some (e.d, e.t)) := by
  unfold envOf; rw [List.getElem?_map, h]; rfl
theorem envOf_inv {d : D} {t : Tag} (h : (envOf G)[i]? = some (some (d, t))) : ∃ e : Ent, G[i]? = some (some e) ∧ e.d = d ∧ e.t = t := by
  unfold envOf at h; rw [List.getElem?_map] at h
  cases q : G[i]? with
  | none => rw [q] at h; simp at h
  | some o =>
    rw [q] at h
    cases o with
    | none => simp at h
    | some e => simp at h; exact ⟨e, rfl, h.1, h.2⟩
theorem opd_slot {d : D} (s : Slots F G σ) (h : Opd.d (envOf G) (.slot i) = some d) : ∃ e : Ent, G[i]? = some (some e) ∧ e.d = d ∧ σ[i]? = some (some e.v) := by
  simp only [Opd.d] at h
  split at h
  · rename_i h1
    obtain ⟨e, q1, q2, q3⟩ := envOf_inv h1
    cases h
    exact ⟨e, q1, q2, s.val i e q1⟩
  · cases h
theorem opsD_cons {o : Opd} {ds : List D} {env : Env} (h : opsD env (o :: os) = some ds) : ∃ d r, o.d env = some d ∧ opsD env os = some r ∧ ds = d :: r := by
  simp only [opsD] at h
  split at h
  · rename_i d r h1 h2
    cases h
    exact ⟨d, r, h1, h2, rfl⟩
  · cases h
theorem opsV_ents (s : Slots F G σ) : ∀ {os : List Opd} {es : List Ent} {vs : List V} {ds : List D}, OpsV σ os es vs → opsD (envOf G) os = some ds →
    ∃ xs : List Ent, vs = xs.map (·.v) ∧ ds = xs.map (·.d) ∧ ∀ x ∈ xs, (∃ i, G[i]? = some (some x) ∧ hasSlot os i = true) ∨ x ∈ es
  | [], es, vs, ds, h, hd => by
    obtain ⟨rfl, rfl⟩ := h
    cases hd
    exact ⟨[], rfl, rfl, fun x hx => by cases hx⟩
  | .slot i :: os, es, vs, ds, h, hd => by
    obtain ⟨v, r, e1, rfl, h⟩ := h
    obtain ⟨d, dr, h1, h2, rfl⟩ := opsD_cons hd
    obtain ⟨e, q1, q2, q3⟩ := opd_slot s h1
    rw [e1] at q3; cases q3
    obtain ⟨xs, rfl, rfl, hx⟩ := opsV_ents s h h2
    refine ⟨e :: xs, rfl, by simp [q2], fun x hx' => ?_⟩
    rcases List.mem_cons.mp hx' with rfl | hx'
    · exact .inl ⟨i, q1, by simp [hasSlot]⟩
    · rcases hx x hx' with ⟨j, q1, q2⟩ | q
      · exact .inl ⟨j, q1, by simp only [hasSlot, List.any_cons, Bool.or_eq_true] at q2 ⊢; exact .inr q2⟩
      · exact .inr q
  | .val d t :: os, es, vs, ds, h, hd => by
    obtain ⟨e, r, s', rfl, e1, e2, rfl, h⟩ := h
    obtain ⟨d', dr, h1, h2, rfl⟩ := opsD_cons hd
    obtain ⟨xs, rfl, rfl, hx⟩ := opsV_ents s h h2
    simp only [Opd.d, Option.some.injEq] at h1
    refine ⟨e :: xs, rfl, by simp [← h1, e1], fun x hx' => ?_⟩
    rcases List.mem_cons.mp hx' with rfl | hx'
    · exact .inr (List.mem_cons_self ..)
    · rcases hx x hx' with ⟨j, q1, q2⟩ | q
      · exact .inl ⟨j, q1, by simp only [hasSlot, List.any_cons, Bool.or_eq_true] at q2 ⊢; exact .inr q2⟩
      · exact .inr (List.mem_cons_of_mem _ q)
/-- demoted at the operands' slots -/
def demG (os : List Opd) (i : Nat) : List (Option Ent) → List (Option Ent)
  | [] => []
  | o :: r => (if hasSlot os i then o.map Ent.dem else o) :: demG os (i + 1) r
theorem demG_length (os : List Opd) : ∀ (G : List (Option Ent)) (i : Nat), (demG os i G).length = G.length
  | [], _ => rfl
  | o :: r, i => by simp [demG, demG_length os r]
theorem demG_get (os : List Opd) : ∀ (G : List (Option Ent)) (i j : Nat), (demG os i G)[j]? = (G[j]?).map fun o => if hasSlot os (i + j) then o.map Ent.dem else o
  | [], i, j => by simp [demG]
  | o :: r, i, 0 => by simp [demG]
  | o :: r, i, j + 1 => by simp only [demG, List.getElem?_cons_succ]; rw [demG_get os r]; rw [show i + 1 + j = i + (j + 1) by omega]
theorem demG_env (os : List Opd) : ∀ (G : List (Option Ent)) (i : Nat), envOf (demG os i G) = demAll os i (envOf G)
  | [], i => rfl
  | o :: r, i => by
    have ih := demG_env os r (i + 1)
    unfold envOf at *
    simp only [demG, demAll, List.map_cons, ih]
    congr 1
    split
    · cases o <;> rfl
    · rfl
theorem Ent.dem_v (e : Ent) : e.dem.v = e.v := rfl
theorem demG_inv (h : (demG os 0 G)[i]? = some (some e)) : ∃ e0, G[i]? = some (some e0) ∧ ((hasSlot os i = true ∧ e = e0.dem) ∨ (hasSlot os i = false ∧ e = e0)) := by
  rw [demG_get] at h
  cases q : G[i]? with
  | none => rw [q] at h; simp at h
  | some o =>
    rw [q] at h
    simp only [Option.map_some, Nat.zero_add, Option.some.injEq] at h
    cases q2 : hasSlot os i with
    | true =>
      rw [q2] at h
      cases o with
      | none => simp at h
      | some e0 => simp at h; exact ⟨e0, rfl, .inl ⟨rfl, h.symm⟩⟩
    | false =>
      rw [q2] at h
      simp at h
      exact ⟨e, by rw [h], .inr ⟨rfl, rfl⟩⟩
theorem Gd.demG (g : Gd F (G ++ Δ) H) (os : List Opd) : Gd F (demG os 0 G ++ Δ) H := by
  have l : ∀ {i : Nat} {e : Ent}, (VL.demG os 0 G ++ Δ)[i]? = some (some e) → ∃ e0, (G ++ Δ)[i]? = some (some e0) ∧ (e = e0.dem ∨ e = e0) := fun {i e} h => by
    by_cases hi : i < G.length
    · rw [List.getElem?_append_left (by rw [demG_length]; exact hi)] at h
      obtain ⟨e0, q, z⟩ := demG_inv h
      refine ⟨e0, by rw [List.getElem?_append_left hi]; exact q, ?_⟩
      rcases z with ⟨_, z⟩ | ⟨_, z⟩
      · exact .inl z
      · exact .inr z
    · rw [List.getElem?_append_right (by rw [demG_length]; omega), demG_length] at h
      exact ⟨e, by rw [List.getElem?_append_right (by omega)]; exact h, .inr rfl⟩
  refine ⟨fun i e h => ?_, fun i j e e' n h h' => ?_, g.pr, g.trk, g.fresh, g.prt⟩
  · obtain ⟨e0, q, z⟩ := l h
    rcases z with rfl | rfl
    · exact (g.ok i e0 q).dem
    · exact g.ok i e q
  · obtain ⟨e0, q, z⟩ := l h
    obtain ⟨e1, q', z'⟩ := l h'
    have s := g.sep i j e0 e1 n q q'
    have s' : Sep1 e0 e' := by rcases z' with rfl | rfl <;> exact s
    rcases z with rfl | rfl
    · exact sep1_dem s'
    · exact s'
theorem Slots.demG (s : Slots F G σ) (os : List Opd) : Slots F (VL.demG os 0 G) σ := by
  refine ⟨by rw [demG_length]; exact s.len, fun i e h => ?_, fun i a h => ?_⟩
  · obtain ⟨e0, q, z⟩ := demG_inv h
    rcases z with ⟨_, rfl⟩ | ⟨_, rfl⟩
    · exact s.val i e0 q
    · exact s.val i e q
  · obtain ⟨e, q, z1, z2⟩ := s.par i a h
    refine ⟨if hasSlot os i then e.dem else e, ?_, ?_, ?_⟩
    · rw [demG_get, q]
      simp only [Option.map_some, Nat.zero_add]
      split <;> rfl
    · split <;> exact z1
    · split
      · show dem1 e.d e.t = .par
        rw [z2]; rfl
      · exact z2
theorem head_mem {l : List Addr} {a : Addr} (h : l.head? = some a) : a ∈ l := List.mem_of_mem_head? h
/-- a new value is at hand, made of what the operands hold -/
theorem Now.pure (n : Now F G (R ++ es) σ H) {xs : List Ent} (hx : ∀ x ∈ xs, (∃ i, G[i]? = some (some x) ∧ hasSlot os i = true) ∨ x ∈ es) {d : D} {t : Tag} {v : V} {fp : List Addr} (p : POut F.K H H' xs d t v fp) :
    ∃ G', envOf G' = demIf d t os (envOf G) ∧ Now F G' (R ++ [⟨v, d, t, fp⟩]) σ H' := by
  have idx : ∀ x ∈ xs, ∃ k, (G ++ (R ++ es).map some)[k]? = some (some x) ∧ ((k < G.length ∧ hasSlot os k = true) ∨ G.length + R.length ≤ k) := fun x hxm => by
    rcases hx x hxm with ⟨i, q, z⟩ | q
    · have hi := (List.getElem?_eq_some_iff.mp q).1
      exact ⟨i, by rw [List.getElem?_append_left hi]; exact q, .inl ⟨hi, z⟩⟩
    · obtain ⟨m, hm⟩ := List.getElem?_of_mem q
      refine ⟨G.length + (R.length + m), ?_, .inr (by omega)⟩
      rw [List.getElem?_append_right (by omega), show G.length + (R.length + m) - G.length = R.length + m by omega, List.getElem?_map, List.getElem?_append_right (by omega), show R.length + m - R.length = m by omega, hm]
      rfl
  have fresh0 : ∀ b, H b = none → F.H0 b = none := fun b hb => by
    cases q : F.H0 b with
    | none => rfl
    | some o => exact absurd hb (n.gd.trk b (by rw [q]; simp))
  have ok : EntOk F H' ⟨v, d, t, fp⟩ := by
    refine ⟨p.rep, fun b hb => ?_, ?_⟩
    · rcases p.sub b hb with q | ⟨x, hxm, q⟩
      · exact n.gd.fresh b (fresh0 b q)
      · obtain ⟨k, hk, _⟩ := idx x hxm
        exact (n.gd.ok k x hk).al b (inn_sub _ _ b q)
    · have np : ∀ b, H b = none → ¬ F.Pr b := fun b hb z => n.gd.prt b z (fresh0 b hb)
      have tg := p.tag
      cases t with
      | sh => trivial
      | own =>
        obtain ⟨z0, a, fs, z1, z2, z3, z4, z5⟩ := tg
        exact ⟨z0, a, fs, z1, z2, z3, np a z4, z5⟩
      | unq => exact ⟨tg.1, fun b hb => ⟨np b (tg.2 b hb).1, (tg.2 b hb).2⟩⟩
      | par => exact tg.elim
  -- the new one's own things are new
  have new1 : ∀ y : Ent, (∀ b ∈ y.fp, H b ≠ none) → Sep1 ⟨v, d, t, fp⟩ y := fun y hy => by
    have tg := p.tag
    cases t with
    | sh => trivial
    | own =>
      obtain ⟨z0, a, fs, z1, z2, z3, z4, z5⟩ := tg
      intro c hc hm
      rw [show fp = a :: fs from z2] at hc
      simp at hc; subst hc
      exact hy a hm z4
    | unq => exact fun b hb hm => hy b hm (tg.2 b hb).1
    | par => exact tg.elim
  cases nd : needDem d t with
  | false =>
    -- nothing within that others name
    have allnew : ∀ b ∈ fp, H b = none := by
      have tg := p.tag
      cases t with
      | sh =>
        have q : noMut d = true := by simpa [needDem] using nd
        rw [rep_noMut d v fp q p.rep]; intro b hb; cases hb
      | own =>
        obtain ⟨z0, a, fs, z1, z2, z3, z4, z5⟩ := tg
        have hr := p.rep
        cases d with
        | list ds =>
          simp only [Rep] at hr
          obtain ⟨a', xs', fs', q1, q2, q3, q4⟩ := hr
          have q5 : noMutL ds = true := by simpa [needDem] using nd
          have q6 := repL_noMut ds xs' fs' q5 q3
          rw [z2] at q4; cases q4; rw [z2, q6]
          intro b hb; simp at hb; rw [hb]; exact z4
        | dict ds =>
          simp only [Rep] at hr
          obtain ⟨a', xs', fs', q1, q2, q3, q4⟩ := hr
          have q5 : noMutV ds = true := by simpa [needDem] using nd
          have q6 := repP_noMut ds xs' fs' q5 q3
          rw [z2] at q4; cases q4; rw [z2, q6]
          intro b hb; simp at hb; rw [hb]; exact z4
        | _ => cases z0
      | unq => exact fun b hb => (tg.2 b hb).1
      | par => exact tg.elim
    refine ⟨G, by simp [demIf, nd], ?_, n.sl⟩
    have g0 : Gd F (G ++ R.map some) H := by
      have := n.gd
      rw [List.map_append, ← List.append_assoc] at this
      exact this.pre
    have g1 := (g0.grow p.same).push ok fun i y hy => by
      have ty := (g0.ok i y hy).trk
      refine ⟨new1 y ty, ?_⟩
      unfold Sep1
      split
      · trivial
      · exact fun b hb hm => ty b hb (allnew b hm)
      · exact fun a ha hm => ty a (head_mem ha) (allnew a hm)
    simpa using g1
  | true =>
    refine ⟨demG os 0 G, by rw [demG_env]; simp [demIf, nd], ?_, n.sl.demG os⟩
    have gD := n.gd.demG os
    have g0 : Gd F (demG os 0 G ++ R.map some) H := by
      have := gD
      rw [List.map_append, ← List.append_assoc] at this
      exact this.pre
    have g1 := (g0.grow p.same).push ok fun i y hy => by
      have oky := g0.ok i y hy
      have ty := oky.trk
      have hil : i < (demG os 0 G ++ R.map some).length := (List.getElem?_eq_some_iff.mp hy).1
      have hyD : (demG os 0 G ++ (R ++ es).map some)[i]? = some (some y) := by
        rw [List.map_append, ← List.append_assoc, List.getElem?_append_left hil]; exact hy
      have hlt : i < G.length + R.length := by simpa [demG_length] using hil
      refine ⟨new1 y ty, ?_⟩
      -- an operand's entry stands elsewhere, or it is y, demoted
      have key : ∀ x ∈ xs, (∃ k, k ≠ i ∧ (demG os 0 G ++ (R ++ es).map some)[k]? = some (some x.dem) ∨ k ≠ i ∧ (demG os 0 G ++ (R ++ es).map some)[k]? = some (some x)) ∨ y = x.dem := fun x hxm => by
        obtain ⟨k, hk, hk2⟩ := idx x hxm
        rcases hk2 with ⟨h1, h2⟩ | h1
        · rw [List.getElem?_append_left h1] at hk
          have q : (demG os 0 G)[k]? = some (some x.dem) := by rw [demG_get, hk]; simp [h2]
          by_cases hki : k = i
          · subst hki
            rw [List.getElem?_append_left (by rw [demG_length]; exact h1), q] at hyD
            simp at hyD
            exact .inr hyD.symm
          · exact .inl ⟨k, .inl ⟨hki, by rw [List.getElem?_append_left (by rw [demG_length]; exact h1)]; exact q⟩⟩
        · refine .inl ⟨k, .inr ⟨by omega, ?_⟩⟩
          rw [List.getElem?_append_right (by omega)] at hk
          rw [List.getElem?_append_right (by rw [demG_length]; omega), demG_length]; exact hk
      unfold Sep1
      split
      · trivial
      · rename_i hu
        intro b hb hm
        rcases p.sub b hm with q | ⟨x, hxm, q⟩
        · exact ty b hb q
        · have hb2 := inn_sub _ _ b q
          rcases key x hxm with ⟨k, ⟨nk, hk⟩ | ⟨nk, hk⟩⟩ | rfl
          · have s := gD.sep i k y x.dem (Ne.symm nk) hyD hk
            unfold Sep1 at s; rw [hu] at s
            exact s b hb hb2
          · have s := gD.sep i k y x (Ne.symm nk) hyD hk
            unfold Sep1 at s; rw [hu] at s
            exact s b hb hb2
          · have z : dem1 x.d x.t = .unq := hu
            unfold dem1 at z
            split at z
            · split at z <;> cases z
            · rename_i z2; exact z2 z
      · rename_i h1 h2
        intro a ha hm
        rcases p.sub a hm with q | ⟨x, hxm, q⟩
        · exact ty a (head_mem ha) q
        · have hb2 := inn_sub _ _ a q
          have fin : ∀ z : Ent, Sep1 y z → a ∉ z.fp := fun z s => by
            unfold Sep1 at s
            split at s
            · rename_i z1; exact absurd z1 h1
            · rename_i z1; exact absurd z1 h2
            · exact s a ha
          rcases key x hxm with ⟨k, ⟨nk, hk⟩ | ⟨nk, hk⟩⟩ | rfl
          · exact fin _ (gD.sep i k y x.dem (Ne.symm nk) hyD hk) hb2
          · exact fin _ (gD.sep i k y x (Ne.symm nk) hyD hk) hb2
          · exact dem_inn oky a h1 h2 ha q
    simpa using g1
end
end VL
end
section
set_option Elab.async false
set_option linter.all false
set_option maxRecDepth 100000
namespace VL
open PySem PySem.Spec PyProof.Rows L2

/-! ### what comes of an expression -/
inductive Res (α : Type) where
  | ok (a : α) | exc (c : Str) (env : Env) | bad
def Res.bind {α β : Type} : Res α → (α → Res β) → Res β
  | .ok a, f => f a
  | .exc c env, _ => .exc c env
  | .bad, _ => .bad
abbrev ER := Env → Res (Opd × Env)
abbrev AR := Env → Res (List Opd × Env)
abbrev TR := Env → Res (Bool × Env)
/-- what is wished of an exception -/
abbrev WV := Str → L2.St → Hp → Prop
def EOut (F : Frm) (R : List Ent) (σ : L2.St) (W : WV) (r : Res (Opd × Env)) (Q : VK) : Prop := match r with
  | .ok (o, env) => ∀ G H es v, envOf G = env → Now F G (R ++ es) σ H → OpsV σ [o] es [v] → Q v H
  | .exc c env => ∀ G H, envOf G = env → Now F G R σ H → W c σ H
  | .bad => False
def AOut (F : Frm) (R : List Ent) (σ : L2.St) (W : WV) (r : Res (List Opd × Env)) (Q : List V → Hp → Prop) : Prop := match r with
  | .ok (os, env) => ∀ G H es vs, envOf G = env → Now F G (R ++ es) σ H → OpsV σ os es vs → Q vs H
  | .exc c env => ∀ G H, envOf G = env → Now F G R σ H → W c σ H
  | .bad => False
def TOut (F : Frm) (R : List Ent) (σ : L2.St) (W : WV) (r : Res (Bool × Env)) (Q : Bool → Hp → Prop) : Prop := match r with
  | .ok (b, env) => ∀ G H, envOf G = env → Now F G R σ H → Q b H
  | .exc c env => ∀ G H, envOf G = env → Now F G R σ H → W c σ H
  | .bad => False
def SpecE (K : PySem.W.Frag) (W : WV) (t : TE) (f : ER) : Prop := ∀ F G R σ H Q, F.K = K → Now F G R σ H → EOut F R σ W (f (envOf G)) Q → t σ H Q
def SpecA (K : PySem.W.Frag) (W : WV) (t : TA) (f : AR) : Prop := ∀ F G R σ H Q, F.K = K → Now F G R σ H → AOut F R σ W (f (envOf G)) Q → t σ H Q
def SpecT (K : PySem.W.Frag) (W : WV) (t : TT) (f : TR) : Prop := ∀ F G R σ H Q, F.K = K → Now F G R σ H → TOut F R σ W (f (envOf G)) Q → t σ H Q

section
variable {K : PySem.W.Frag} {W : WV}
theorem Now.drop {F : Frm} {G : List (Option Ent)} {R es : List Ent} {σ : L2.St} {H : Hp} (n : Now F G (R ++ es) σ H) : Now F G R σ H := by
  refine ⟨?_, n.sl⟩
  have := n.gd
  rw [List.map_append, ← List.append_assoc] at this
  exact this.pre
theorem opsV_one {σ : L2.St} {o : Opd} {es : List Ent} {v : V} {F : Frm} {G : List (Option Ent)} (s : Slots F G σ) (h : OpsV σ [o] es [v]) {d : D} (hd : o.d (envOf G) = some d) :
    ∃ x : Ent, x.v = v ∧ x.d = d ∧ ((∃ i, G[i]? = some (some x) ∧ hasSlot [o] i = true) ∨ x ∈ es) := by
  obtain ⟨xs, e1, e2, hx⟩ := opsV_ents s h (ds := [d]) (by simp [opsD, hd])
  match xs, e1, e2, hx with
  | [x], e1, e2, hx => exact ⟨x, by simpa using e1.symm, by simpa using e2.symm, hx x (List.mem_cons_self ..)⟩
  | [], e1, _, _ => simp at e1
  | _ :: _ :: _, e1, _, _ => simp at e1
theorem Now.rep {F : Frm} {G : List (Option Ent)} {R es : List Ent} {σ : L2.St} {H : Hp} {os : List Opd} (n : Now F G (R ++ es) σ H) {x : Ent} (hx : (∃ i, G[i]? = some (some x) ∧ hasSlot os i = true) ∨ x ∈ es) : Rep F.K H x.d x.v x.fp := by
  have q : ∃ k : Nat, (G ++ (R ++ es).map some)[k]? = some (some x) := by
    rcases hx with ⟨i, q, _⟩ | q
    · exact ⟨i, by rw [List.getElem?_append_left (List.getElem?_eq_some_iff.mp q).1]; exact q⟩
    · obtain ⟨m, hm⟩ := List.getElem?_of_mem (List.mem_append_right R q)
      exact ⟨G.length + m, by rw [List.getElem?_append_right (by omega), show G.length + m - G.length = m by omega, List.getElem?_map, hm]; rfl⟩
  obtain ⟨k, hk⟩ := q
  exact (n.gd.ok k x hk).rep

/-! ### names, constants, argument lists -/
def eVar (i : Nat) : ER := fun env => match env[i]? with
  | some (some _) => .ok (.slot i, env)
  | _ => .bad
theorem spec_var (i : Nat) : SpecE K W (tVar i) (eVar i) := fun F G R σ H Q _ n h => by
  simp only [eVar] at h
  split at h
  · rename_i p q
    obtain ⟨d, t⟩ := p
    obtain ⟨e, q1, _, _⟩ := envOf_inv q
    have q2 := n.sl.val i e q1
    exact ⟨e.v, q2, h G H [] e.v rfl (by simpa using n) ⟨e.v, [], q2, rfl, rfl, rfl⟩⟩
  · exact h.elim
/-- a plain value -/
def eC (d : D) : ER := fun env => .ok (.val d .unq, env)
theorem Now.scalar {F : Frm} {G : List (Option Ent)} {R : List Ent} {σ : L2.St} {H : Hp} (n : Now F G R σ H) {d : D} {v : V} (r : Rep F.K H d v []) : Now F G (R ++ [⟨v, d, .unq, []⟩]) σ H := by
  refine ⟨?_, n.sl⟩
  have := n.gd.push (e := ⟨v, d, .unq, []⟩) ⟨r, fun b hb => (by cases hb), ⟨List.nodup_nil, fun b hb => (by cases hb)⟩⟩ fun i e' _ => ⟨fun b hb => (by cases hb), by
    unfold Sep1
    split
    · trivial
    · exact fun b _ hb => (by cases hb)
    · exact fun b _ hb => (by cases hb)⟩
  simpa using this
theorem spec_c {d : D} {v : V} (r : ∀ K H, Rep K H d v []) : SpecE K W (tC v) (eC d) := fun F G R σ H Q hK n h =>
  h G H [⟨v, d, .unq, []⟩] v rfl (n.scalar (r _ _)) ⟨⟨v, d, .unq, []⟩, [], [], rfl, rfl, rfl, rfl, rfl, rfl⟩
theorem spec_int (i : Int) : SpecE K W (tC (.int i)) (eC (.int i)) := spec_c fun _ _ => rep_int i
theorem spec_bool (i : Bool) : SpecE K W (tC (.bl i)) (eC (.bool i)) := spec_c fun _ _ => rep_bool i
theorem spec_str (i : Str) : SpecE K W (tC (.str i)) (eC (.str i)) := spec_c fun _ _ => rep_str i
theorem spec_none : SpecE K W (tC .non) (eC .none) := spec_c fun _ _ => rep_none
def aNil : AR := fun env => .ok ([], env)
def aCons (f : ER) (r : AR) : AR := fun env => (f env).bind fun p => (r p.2).bind fun q => .ok (p.1 :: q.1, q.2)
theorem spec_nil : SpecA K W tNil aNil := fun F G R σ H Q hK n h => h G H [] [] rfl (by simpa using n) ⟨rfl, rfl⟩
theorem opsV_cons {σ : L2.St} {o : Opd} {os : List Opd} {es fs : List Ent} {v : V} {vs : List V} (h : OpsV σ [o] es [v]) (k : OpsV σ os fs vs) : OpsV σ (o :: os) (es ++ fs) (v :: vs) := by
  cases o with
  | slot i =>
    obtain ⟨v', r, e1, e2, e3, e4⟩ := h
    cases e2; subst e3
    exact ⟨v, vs, e1, rfl, k⟩
  | val d t =>
    obtain ⟨e, r, s, rfl, e1, e2, e3, rfl, rfl⟩ := h
    cases e3
    exact ⟨e, vs, fs, rfl, e1, e2, rfl, k⟩
theorem spec_cons {te : TE} {f : ER} {tr : TA} {r : AR} (h1 : SpecE K W te f) (h2 : SpecA K W tr r) : SpecA K W (tCons te tr) (aCons f r) := fun F G R σ H Q hK n h => by
  refine h1 F G R σ H _ hK n ?_
  simp only [aCons] at h
  cases e1 : f (envOf G) with
  | bad => rw [e1] at h; exact h
  | exc c env => rw [e1] at h; exact h
  | ok p =>
    obtain ⟨o, env1⟩ := p
    rw [e1] at h
    intro G1 H1 es1 v1 g1 n1 o1
    refine h2 F G1 (R ++ es1) σ H1 _ hK n1 ?_
    rw [g1]
    simp only [Res.bind] at h
    cases e2 : r env1 with
    | bad => rw [e2] at h; exact h
    | exc c env =>
      rw [e2] at h
      exact fun G2 H2 g2 n2 => h G2 H2 g2 n2.drop
    | ok q =>
      obtain ⟨os, env2⟩ := q
      rw [e2] at h
      exact fun G2 H2 es2 vs2 g2 n2 o2 => h G2 H2 (es1 ++ es2) (v1 :: vs2) g2 (by rw [← List.append_assoc]; exact n2) (opsV_cons o1 o2)

/-! ### operations that only read -/
abbrev PF := List D → Option (D × Tag)
def PureR (K : PySem.W.Frag) (r : List V → Hp → VK → Prop) (f : PF) : Prop := ∀ (H : Hp) (xs : List Ent) (d : D) (t : Tag) (Q : VK), (∀ x ∈ xs, Rep K H x.d x.v x.fp) → f (xs.map (·.d)) = some (d, t) →
  (∀ v fp H', POut K H H' xs d t v fp → Q v H') → r (xs.map (·.v)) H Q
def pureOf (f : PF) (os : List Opd) (env : Env) : Res (Opd × Env) := match opsD env os with
  | some ds => (match f ds with
    | some (d, t) => .ok (.val d t, demIf d t os env)
    | none => .bad)
  | none => .bad
def ePure (f : PF) (a : AR) : ER := fun env => (a env).bind fun p => pureOf f p.1 p.2
theorem pure_of {F : Frm} {G : List (Option Ent)} {R es : List Ent} {σ : L2.St} {H : Hp} {os : List Opd} {vs : List V} {r : List V → Hp → VK → Prop} {f : PF} {Q : VK} (hr : PureR K r f) (hK : F.K = K) (n : Now F G (R ++ es) σ H) (o : OpsV σ os es vs)
    (h : EOut F R σ W (pureOf f os (envOf G)) Q) : r vs H Q := by
  simp only [pureOf] at h
  cases e1 : opsD (envOf G) os with
  | none => rw [e1] at h; exact h.elim
  | some ds =>
    rw [e1] at h
    simp only at h
    cases e2 : f ds with
    | none => rw [e2] at h; exact h.elim
    | some p =>
      obtain ⟨d, t⟩ := p
      rw [e2] at h
      obtain ⟨xs, rfl, rfl, hx⟩ := opsV_ents n.sl o e1
      refine hr H xs d t Q (fun x hxm => by rw [← hK]; exact n.rep (hx x hxm)) e2 fun v fp H' po => ?_
      rw [← hK] at po
      obtain ⟨G', g, n'⟩ := n.pure hx po
      exact h G' H' [⟨v, d, t, fp⟩] v g n' ⟨⟨v, d, t, fp⟩, [], [], rfl, rfl, rfl, rfl, rfl, rfl⟩
theorem spec_cb {r : List V → Hp → VK → Prop} {f : PF} {t : TA} {a : AR} (hr : PureR K r f) (ha : SpecA K W t a) : SpecE K W (tCB r t) (ePure f a) := fun F G R σ H Q hK n h => by
  refine ha F G R σ H _ hK n ?_
  simp only [ePure] at h
  cases e1 : a (envOf G) with
  | bad => rw [e1] at h; exact h
  | exc c env => rw [e1] at h; exact h
  | ok p =>
    obtain ⟨os, env1⟩ := p
    rw [e1] at h
    intro G1 H1 es vs g1 n1 o1
    subst g1
    exact pure_of hr hK n1 o1 h
def aOne (f : ER) : AR := aCons f aNil
def aTwo (f g : ER) : AR := aCons f (aCons g aNil)
/-- one operand behind another -/
theorem spec_two {α : Type} {F : Frm} {G : List (Option Ent)} {R : List Ent} {σ : L2.St} {H : Hp} {ta tb : TE} {a b : ER} (ha : SpecE K W ta a) (hb : SpecE K W tb b) (hK : F.K = K) (n : Now F G R σ H) {k : Opd → Opd → Env → Res α} {P : V → V → Hp → Prop}
    (hx : ∀ c env, (a (envOf G)).bind (fun p => (b p.2).bind fun q => k p.1 q.1 q.2) = .exc c env → ∀ G' H', envOf G' = env → Now F G' R σ H' → W c σ H')
    (hb0 : (a (envOf G)).bind (fun p => (b p.2).bind fun q => k p.1 q.1 q.2) ≠ .bad)
    (h : ∀ o1 o2 G2 H2 es v1 v2, (a (envOf G)).bind (fun p => (b p.2).bind fun q => k p.1 q.1 q.2) = k o1 o2 (envOf G2) → Now F G2 (R ++ es) σ H2 → OpsV σ [o1, o2] es [v1, v2] → P v1 v2 H2) :
    ta σ H fun x H1 => tb σ H1 fun y H2 => P x y H2 := by
  refine ha F G R σ H _ hK n ?_
  cases e1 : a (envOf G) with
  | bad => rw [e1] at hb0; exact hb0 rfl
  | exc c env => rw [e1] at hx; exact hx c env rfl
  | ok p =>
    obtain ⟨o1, env1⟩ := p
    rw [e1] at hx hb0 h
    intro G1 H1 es1 v1 g1 n1 w1
    subst g1
    refine hb F G1 (R ++ es1) σ H1 _ hK n1 ?_
    simp only [Res.bind] at hx hb0 h
    cases e2 : b (envOf G1) with
    | bad => rw [e2] at hb0; exact hb0 rfl
    | exc c env =>
      rw [e2] at hx
      exact fun G2 H2 g2 n2 => hx c env rfl G2 H2 g2 n2.drop
    | ok q =>
      obtain ⟨o2, env2⟩ := q
      rw [e2] at h
      intro G2 H2 es2 v2 g2 n2 w2
      subst g2
      exact h o1 o2 G2 H2 (es1 ++ es2) v1 v2 rfl (by rw [← List.append_assoc]; exact n2) (opsV_cons w1 w2)
theorem eOut_bad {F : Frm} {R : List Ent} {σ : L2.St} {r : Res (Opd × Env)} {Q : VK} (h : EOut F R σ W r Q) : r ≠ .bad := fun e => by rw [e] at h; exact h
theorem eOut_exc {F : Frm} {R : List Ent} {σ : L2.St} {r : Res (Opd × Env)} {Q : VK} (h : EOut F R σ W r Q) : ∀ c env, r = .exc c env → ∀ G' H', envOf G' = env → Now F G' R σ H' → W c σ H' := fun c env e => by rw [e] at h; exact h
def PureR2 (K : PySem.W.Frag) (r : R2) (f : PF) : Prop := PureR K (fun vs H Q => ∃ x y, vs = [x, y] ∧ r x y H Q) f
/-- two operands -/
def ePure2 (f : PF) (a b : ER) : ER := fun env => (a env).bind fun p => (b p.2).bind fun q => pureOf f [p.1, q.1] q.2
theorem spec_op {r : R2} {f : PF} {ta tb : TE} {a b : ER} (hr : PureR2 K r f) (ha : SpecE K W ta a) (hb : SpecE K W tb b) : SpecE K W (tOp r ta tb) (ePure2 f a b) := fun F G R σ H Q hK n h => by
  refine spec_two ha hb hK n (k := fun o1 o2 env => pureOf f [o1, o2] env) (eOut_exc h) (eOut_bad h) fun o1 o2 G2 H2 es v1 v2 e n2 w => ?_
  have h' : EOut F R σ W (pureOf f [o1, o2] (envOf G2)) Q := by rw [← e]; exact h
  obtain ⟨x, y, e3, q⟩ := pure_of hr hK n2 w h'
  cases e3
  exact q
def PureR1 (K : PySem.W.Frag) (r : V → Hp → VK → Prop) (f : PF) : Prop := PureR K (fun vs H Q => ∃ x, vs = [x] ∧ r x H Q) f
def ePure1 (f : PF) (a : ER) : ER := fun env => (a env).bind fun p => pureOf f [p.1] p.2
theorem spec_un {r : V → Hp → VK → Prop} {f : PF} {ta : TE} {a : ER} (hr : PureR1 K r f) (ha : SpecE K W ta a) : SpecE K W (tUn r ta) (ePure1 f a) := fun F G R σ H Q hK n h => by
  refine ha F G R σ H _ hK n ?_
  simp only [ePure1] at h
  cases e1 : a (envOf G) with
  | bad => rw [e1] at h; exact h
  | exc c env => rw [e1] at h; exact h
  | ok p =>
    obtain ⟨o, env1⟩ := p
    rw [e1] at h
    intro G1 H1 es v g1 n1 o1
    subst g1
    obtain ⟨x, e3, q⟩ := pure_of hr hK n1 o1 h
    cases e3
    exact q
/-! ### tests -/
/-- a value that is a truth -/
def tOfE (f : ER) : TR := fun env => (f env).bind fun p => match p.1.d p.2 with
  | some (.bool b) => .ok (b, p.2)
  | _ => .bad
theorem bool_of {F : Frm} {G : List (Option Ent)} {R es : List Ent} {σ : L2.St} {H : Hp} {o : Opd} {v : V} {b : Bool} (n : Now F G (R ++ es) σ H) (w : OpsV σ [o] es [v]) (h : o.d (envOf G) = some (.bool b)) : v = .bl b := by
  obtain ⟨x, e1, e2, hx⟩ := opsV_one n.sl w h
  have r := n.rep hx
  rw [e2, e1] at r
  simp only [Rep] at r
  exact r.1
theorem spec_tOfE {te : TE} {f : ER} (he : SpecE K W te f) : SpecT K W (fun σ H Q => te σ H fun x H1 => ∃ k, x = .bl k ∧ Q k H1) (tOfE f) := fun F G R σ H Q hK n h => by
  refine he F G R σ H _ hK n ?_
  simp only [tOfE] at h
  cases e1 : f (envOf G) with
  | bad => rw [e1] at h; exact h
  | exc c env => rw [e1] at h; exact h
  | ok p =>
    obtain ⟨o, env1⟩ := p
    rw [e1] at h
    intro G1 H1 es v g1 n1 o1
    subst g1
    simp only [Res.bind] at h
    split at h
    · rename_i b hb
      exact ⟨b, bool_of n1 o1 hb, h G1 H1 rfl n1.drop⟩
    · exact h.elim
theorem spec_test {te : TE} {f : ER} (he : SpecE K W te f) : SpecT K W (tTest te) (tOfE f) := spec_tOfE he
theorem spec_tB {te : TE} {f : ER} (he : SpecE K W te f) : SpecT K W (tB te) (tOfE f) := spec_tOfE he
def tAndF (a b : TR) : TR := fun env => (a env).bind fun p => if p.1 then b p.2 else .ok (false, p.2)
def tOrF (a b : TR) : TR := fun env => (a env).bind fun p => if p.1 then .ok (true, p.2) else b p.2
def tNotF (a : TR) : TR := fun env => (a env).bind fun p => .ok (!p.1, p.2)
theorem spec_tAnd {ta tb : TT} {a b : TR} (ha : SpecT K W ta a) (hb : SpecT K W tb b) : SpecT K W (tAnd ta tb) (tAndF a b) := fun F G R σ H Q hK n h => by
  refine ha F G R σ H _ hK n ?_
  simp only [tAndF] at h
  cases e1 : a (envOf G) with
  | bad => rw [e1] at h; exact h
  | exc c env => rw [e1] at h; exact h
  | ok p =>
    obtain ⟨k, env1⟩ := p
    rw [e1] at h
    intro G1 H1 g1 n1
    subst g1
    cases k with
    | true => exact iteT (hb F G1 R σ H1 Q hK n1 h)
    | false => exact iteF (h G1 H1 rfl n1)
theorem spec_tOr {ta tb : TT} {a b : TR} (ha : SpecT K W ta a) (hb : SpecT K W tb b) : SpecT K W (tOr ta tb) (tOrF a b) := fun F G R σ H Q hK n h => by
  refine ha F G R σ H _ hK n ?_
  simp only [tOrF] at h
  cases e1 : a (envOf G) with
  | bad => rw [e1] at h; exact h
  | exc c env => rw [e1] at h; exact h
  | ok p =>
    obtain ⟨k, env1⟩ := p
    rw [e1] at h
    intro G1 H1 g1 n1
    subst g1
    cases k with
    | false => exact iteF (hb F G1 R σ H1 Q hK n1 h)
    | true => exact iteT (h G1 H1 rfl n1)
theorem spec_tNot {ta : TT} {a : TR} (ha : SpecT K W ta a) : SpecT K W (tNot ta) (tNotF a) := fun F G R σ H Q hK n h => by
  refine ha F G R σ H _ hK n ?_
  simp only [tNotF] at h
  cases e1 : a (envOf G) with
  | bad => rw [e1] at h; exact h
  | exc c env => rw [e1] at h; exact h
  | ok p =>
    obtain ⟨k, env1⟩ := p
    rw [e1] at h
    intro G1 H1 g1 n1
    subst g1
    exact h G1 H1 rfl n1
/-! .. as values -/
def eOfT (a : TR) : ER := fun env => (a env).bind fun p => .ok (.val (.bool p.1) .unq, p.2)
def eAndF (a b : ER) : ER := fun env => (a env).bind fun p => match p.1.d p.2 with
  | some (.bool true) => b p.2
  | some (.bool false) => .ok (.val (.bool false) .unq, p.2)
  | _ => .bad
def eOrF (a b : ER) : ER := fun env => (a env).bind fun p => match p.1.d p.2 with
  | some (.bool false) => b p.2
  | some (.bool true) => .ok (.val (.bool true) .unq, p.2)
  | _ => .bad
def eNotF (a : ER) : ER := fun env => (a env).bind fun p => match p.1.d p.2 with
  | some (.bool k) => .ok (.val (.bool !k) .unq, p.2)
  | _ => .bad
theorem fin_bool {F : Frm} {G : List (Option Ent)} {R : List Ent} {σ : L2.St} {H : Hp} {Q : VK} {k : Bool} (n : Now F G R σ H) (h : EOut F R σ W (.ok (.val (.bool k) .unq, envOf G)) Q) : Q (.bl k) H :=
  h G H [⟨.bl k, .bool k, .unq, []⟩] _ rfl (n.scalar (rep_bool k)) ⟨⟨.bl k, .bool k, .unq, []⟩, [], [], rfl, rfl, rfl, rfl, rfl, rfl⟩
theorem spec_and {ta tb : TE} {a b : ER} (ha : SpecE K W ta a) (hb : SpecE K W tb b) : SpecE K W (tAndV ta tb) (eAndF a b) := fun F G R σ H Q hK n h => by
  refine ha F G R σ H _ hK n ?_
  simp only [eAndF] at h
  cases e1 : a (envOf G) with
  | bad => rw [e1] at h; exact h
  | exc c env => rw [e1] at h; exact h
  | ok p =>
    obtain ⟨o, env1⟩ := p
    rw [e1] at h
    intro G1 H1 es v g1 n1 o1
    subst g1
    simp only [Res.bind] at h
    split at h
    · rename_i hb'
      exact ⟨true, bool_of n1 o1 hb', iteT (hb F G1 R σ H1 Q hK n1.drop h)⟩
    · rename_i hb'
      exact ⟨false, bool_of n1 o1 hb', iteF (fin_bool n1.drop h)⟩
    · exact h.elim
theorem spec_or {ta tb : TE} {a b : ER} (ha : SpecE K W ta a) (hb : SpecE K W tb b) : SpecE K W (tOrV ta tb) (eOrF a b) := fun F G R σ H Q hK n h => by
  refine ha F G R σ H _ hK n ?_
  simp only [eOrF] at h
  cases e1 : a (envOf G) with
  | bad => rw [e1] at h; exact h
  | exc c env => rw [e1] at h; exact h
  | ok p =>
    obtain ⟨o, env1⟩ := p
    rw [e1] at h
    intro G1 H1 es v g1 n1 o1
    subst g1
    simp only [Res.bind] at h
    split at h
    · rename_i hb'
      exact ⟨false, bool_of n1 o1 hb', iteF (hb F G1 R σ H1 Q hK n1.drop h)⟩
    · rename_i hb'
      exact ⟨true, bool_of n1 o1 hb', iteT (fin_bool n1.drop h)⟩
    · exact h.elim
theorem spec_not {ta : TE} {a : ER} (ha : SpecE K W ta a) : SpecE K W (tNotV ta) (eNotF a) := fun F G R σ H Q hK n h => by
  refine ha F G R σ H _ hK n ?_
  simp only [eNotF] at h
  cases e1 : a (envOf G) with
  | bad => rw [e1] at h; exact h
  | exc c env => rw [e1] at h; exact h
  | ok p =>
    obtain ⟨o, env1⟩ := p
    rw [e1] at h
    intro G1 H1 es v g1 n1 o1
    subst g1
    simp only [Res.bind] at h
    split at h
    · rename_i k hb'
      exact ⟨k, bool_of n1 o1 hb', fin_bool n1.drop h⟩
    · exact h.elim
def eIf (c : TR) (a b : ER) : ER := fun env => (c env).bind fun p => if p.1 then a p.2 else b p.2
theorem spec_if {tc : TT} {ta tb : TE} {c : TR} {a b : ER} (hc : SpecT K W tc c) (ha : SpecE K W ta a) (hb : SpecE K W tb b) : SpecE K W (tIf tc ta tb) (eIf c a b) := fun F G R σ H Q hK n h => by
  refine hc F G R σ H _ hK n ?_
  simp only [eIf] at h
  cases e1 : c (envOf G) with
  | bad => rw [e1] at h; exact h
  | exc c env => rw [e1] at h; exact h
  | ok p =>
    obtain ⟨k, env1⟩ := p
    rw [e1] at h
    intro G1 H1 g1 n1
    subst g1
    cases k with
    | true => exact iteT (ha F G1 R σ H1 Q hK n1 h)
    | false => exact iteF (hb F G1 R σ H1 Q hK n1 h)
end
end VL
end
section
set_option Elab.async false
set_option linter.all false
set_option maxRecDepth 100000
namespace VL
open PySem PySem.Spec PyProof.Rows L2

section
variable {K : PySem.W.Frag} {W : WV} {F : Frm} {Γ Δ G G' : List (Option Ent)} {H H' : Hp} {e e' : Ent} {i : Nat} {R es : List Ent} {σ : L2.St} {os : List Opd} {vs : List V}
theorem Gd.fresh0 (g : Gd F Γ H) {b : Addr} (hb : H b = none) : F.H0 b = none := by
  cases q : F.H0 b with
  | none => rfl
  | some o => exact absurd hb (g.trk b (by rw [q]; simp))
theorem Gd.npr (g : Gd F Γ H) {b : Addr} (hb : H b = none) : ¬ F.Pr b := fun z => g.prt b z (g.fresh0 hb)
theorem Now.pre (n : Now F G (R ++ es) σ H) : Gd F (G ++ R.map some) H := n.drop.gd
theorem Now.es_at (n : Now F G (R ++ es) σ H) {x : Ent} (hx : x ∈ es) : ∃ k : Nat, G.length + R.length ≤ k ∧ (G ++ (R ++ es).map some)[k]? = some (some x) := by
  obtain ⟨m, hm⟩ := List.getElem?_of_mem hx
  refine ⟨G.length + (R.length + m), by omega, ?_⟩
  rw [List.getElem?_append_right (by omega), show G.length + (R.length + m) - G.length = R.length + m by omega, List.getElem?_map, List.getElem?_append_right (by omega), show R.length + m - R.length = m by omega, hm]
  rfl
theorem Now.up (n : Now F G (R ++ es) σ H) {k : Nat} {y : Ent} (h : (G ++ R.map some)[k]? = some (some y)) : k < G.length + R.length ∧ (G ++ (R ++ es).map some)[k]? = some (some y) := by
  have q := (List.getElem?_eq_some_iff.mp h).1
  refine ⟨by simpa using q, ?_⟩
  rw [List.map_append, ← List.append_assoc, List.getElem?_append_left q]; exact h
/-- made of values at hand that are used up -/
structure CO (K : PySem.W.Frag) (H H' : Hp) (es : List Ent) (d : D) (t : Tag) (v : V) (fp : List Addr) : Prop where
  rep : Rep K H' d v fp
  same : ∀ b, H b ≠ none → H' b = H b
  sub : ∀ b ∈ fp, H b = none ∨ ∃ x ∈ es, b ∈ x.fp
  tag : match t with
    | .sh => True
    | .own => isLD d = true ∧ ∃ a fs, v = .ref a ∧ fp = a :: fs ∧ a ∉ fs ∧ H a = none ∧ Mut (H' a)
    | .unq => fp.Nodup ∧ ∀ b ∈ fp, (H b = none ∧ Mut (H' b)) ∨ ∃ x ∈ es, x.t = .unq ∧ b ∈ x.fp
    | .par => False
theorem Now.make (n : Now F G (R ++ es) σ H) {d : D} {t : Tag} {v : V} {fp : List Addr} (p : CO F.K H H' es d t v fp) : Now F G (R ++ [⟨v, d, t, fp⟩]) σ H' := by
  refine ⟨?_, n.sl⟩
  have g0 := n.pre
  have ok : EntOk F H' ⟨v, d, t, fp⟩ := by
    refine ⟨p.rep, fun b hb => ?_, ?_⟩
    · rcases p.sub b hb with q | ⟨x, hx, q⟩
      · exact n.gd.fresh b (n.gd.fresh0 q)
      · obtain ⟨k, _, hk⟩ := n.es_at hx
        exact (n.gd.ok k x hk).al b q
    · have tg := p.tag
      cases t with
      | sh => trivial
      | own =>
        obtain ⟨z0, a, fs, z1, z2, z3, z4, z5⟩ := tg
        exact ⟨z0, a, fs, z1, z2, z3, n.gd.npr z4, z5⟩
      | unq =>
        refine ⟨tg.1, fun b hb => ?_⟩
        rcases tg.2 b hb with ⟨q1, q2⟩ | ⟨x, hx, q1, q2⟩
        · exact ⟨n.gd.npr q1, q2⟩
        · obtain ⟨k, _, hk⟩ := n.es_at hx
          have tx := (n.gd.ok k x hk).tag
          unfold TagOk at tx; rw [q1] at tx
          have z := tx.2 b q2
          exact ⟨z.1, by rw [p.same b (mut_some z.2)]; exact z.2⟩
      | par => exact tg.elim
  have g1 := (g0.grow p.same).push ok fun i y hy => by
    have ty := (g0.ok i y hy).trk
    obtain ⟨hi, hy2⟩ := n.up hy
    refine ⟨?_, ?_⟩
    · have tg := p.tag
      cases t with
      | sh => trivial
      | own =>
        obtain ⟨z0, a, fs, z1, z2, z3, z4, z5⟩ := tg
        intro c hc hm
        rw [show fp = a :: fs from z2] at hc
        simp at hc; subst hc
        exact ty a hm z4
      | unq =>
        intro b hb hm
        rcases tg.2 b hb with ⟨q1, q2⟩ | ⟨x, hx, q1, q2⟩
        · exact ty b hm q1
        · obtain ⟨k, hk0, hk⟩ := n.es_at hx
          have s := n.gd.sep k i x y (by omega) hk hy2
          unfold Sep1 at s; rw [q1] at s
          exact s b q2 hm
      | par => exact tg.elim
    · have key : ∀ b ∈ fp, b ∈ y.fp → (∀ x ∈ es, Sep1 y x → b ∉ x.fp) → False := fun b hb hm hs => by
        rcases p.sub b hb with q | ⟨x, hx, q⟩
        · exact ty b hm q
        · obtain ⟨k, hk0, hk⟩ := n.es_at hx
          exact hs x hx (n.gd.sep i k y x (by omega) hy2 hk) q
      unfold Sep1
      split
      · trivial
      · rename_i hu
        exact fun b hb hm => key b hm hb fun x _ s => by
          unfold Sep1 at s; rw [hu] at s
          exact s b hb
      · rename_i h1 h2
        exact fun a ha hm => key a hm (head_mem ha) fun x _ s => by
          unfold Sep1 at s
          split at s
          · rename_i z1; exact absurd z1 h1
          · rename_i z1; exact absurd z1 h2
          · exact s a ha
  simpa using g1

/-! ### kept values: shared, or moved out of their slot -/
def keepO (o : Opd) (env : Env) : Option (D × Tag × Env) := match o with
  | .val d t => some (d, t, env)
  | .slot i => (match env[i]? with
    | some (some (d, t)) => if noMut d then some (d, .unq, env) else if t = .par then none else some (d, .sh, env.set i (some (d, .sh)))
    | _ => none)
def moveO (o : Opd) (env : Env) : Option (D × Tag × Env) := match o with
  | .val d t => some (d, t, env)
  | .slot i => (match env[i]? with
    | some (some (d, t)) => if noMut d then some (d, .unq, env) else if t = .par then none else some (d, t, env.set i none)
    | _ => none)
theorem envOf_set {x : Option Ent} : envOf (G.set i x) = (envOf G).set i (x.map fun e => (e.d, e.t)) := by
  unfold envOf; rw [List.map_set]
theorem Slots.set (s : Slots F G σ) (h : G[i]? = some (some e)) (np : e.t ≠ .par) (hv : e'.v = e.v) : Slots F (G.set i (some e')) σ := by
  refine ⟨by rw [List.length_set]; exact s.len, fun j x hj => ?_, fun j a hj => ?_⟩
  · rw [List.getElem?_set] at hj
    split at hj
    · rename_i q; subst q
      split at hj
      · simp at hj; subst hj; rw [hv]; exact s.val i e h
      · simp at hj
    · exact s.val j x hj
  · obtain ⟨x, q1, q2, q3⟩ := s.par j a hj
    refine ⟨x, ?_, q2, q3⟩
    rw [List.getElem?_set_ne]
    · exact q1
    · rintro rfl; rw [h] at q1; cases q1; exact np q3
theorem Slots.set_none (s : Slots F G σ) (np : ∀ e : Ent, G[i]? = some (some e) → e.t ≠ .par) : Slots F (G.set i none) σ := by
  refine ⟨by rw [List.length_set]; exact s.len, fun j x hj => ?_, fun j a hj => ?_⟩
  · rw [List.getElem?_set] at hj
    split at hj
    · split at hj <;> simp at hj
    · exact s.val j x hj
  · obtain ⟨x, q1, q2, q3⟩ := s.par j a hj
    refine ⟨x, ?_, q2, q3⟩
    rw [List.getElem?_set_ne]
    · exact q1
    · rintro rfl; exact np x q1 q3
theorem set_app {x : Option Ent} (h : i < G.length) : (G ++ Δ).set i x = G.set i x ++ Δ := List.set_append_left i x h
theorem Now.push_noMut (n : Now F G R σ H) {d : D} {v : V} {fp : List Addr} (r : Rep F.K H d v fp) (h : noMut d = true) : Now F G (R ++ [⟨v, d, .unq, []⟩]) σ H := by
  rw [rep_noMut d v fp h r] at r
  exact n.scalar r
theorem Now.keep {o : Opd} {v : V} {d : D} {t : Tag} {env' : Env} (n : Now F G (R ++ es) σ H) (w : OpsV σ [o] es [v]) (h : keepO o (envOf G) = some (d, t, env')) :
    ∃ G' fp, envOf G' = env' ∧ Now F G' (R ++ [⟨v, d, t, fp⟩]) σ H := by
  cases o with
  | val d0 t0 =>
    obtain ⟨e, r, s, rfl, e1, e2, e3, rfl, rfl⟩ := w
    simp only [keepO, Option.some.injEq, Prod.mk.injEq] at h
    obtain ⟨rfl, rfl, rfl⟩ := h
    cases e3
    refine ⟨G, e.fp, rfl, ?_⟩
    rw [← e1, ← e2]; exact n
  | slot i =>
    obtain ⟨v', r, q0, e2, rfl, rfl⟩ := w
    cases e2
    simp only [keepO] at h
    split at h
    · rename_i d0 t0 q
      obtain ⟨e, q1, rfl, rfl⟩ := envOf_inv q
      have hv := n.sl.val i e q1
      rw [q0] at hv; cases hv
      have hi := (List.getElem?_eq_some_iff.mp q1).1
      have n0 : Now F G R σ H := by simpa using n
      have okE := n0.gd.ok i e (by rw [List.getElem?_append_left hi]; exact q1)
      split at h
      · rename_i hm
        simp only [Option.some.injEq, Prod.mk.injEq] at h
        obtain ⟨rfl, rfl, rfl⟩ := h
        exact ⟨G, [], rfl, n0.push_noMut okE.rep hm⟩
      · split at h
        · cases h
        · rename_i np
          simp only [Option.some.injEq, Prod.mk.injEq] at h
          obtain ⟨rfl, rfl, rfl⟩ := h
          refine ⟨G.set i (some e.toSh), e.fp, by rw [envOf_set]; rfl, ?_, n.sl.set q1 np rfl⟩
          have g1 : Gd F (G.set i (some e.toSh) ++ R.map some) H := by
            rw [← set_app hi]
            exact n0.gd.toSh (by rw [List.getElem?_append_left hi]; exact q1)
          have g2 := g1.push (e := ⟨e.v, e.d, .sh, e.fp⟩) okE.toSh fun j y hj => ⟨trivial, by
            rw [← set_app hi, List.getElem?_set] at hj
            split at hj
            · split at hj
              · simp at hj; subst hj; trivial
              · simp at hj
            · rename_i hne
              exact sep1_sub (n0.gd.sep j i y e (Ne.symm hne) hj (by rw [List.getElem?_append_left hi]; exact q1)) fun b hb => hb⟩
          simpa using g2
    · cases h
theorem Now.moved {o : Opd} {v : V} {d : D} {t : Tag} {env' : Env} (n : Now F G (R ++ es) σ H) (w : OpsV σ [o] es [v]) (h : moveO o (envOf G) = some (d, t, env')) :
    ∃ G' fp, envOf G' = env' ∧ Now F G' (R ++ [⟨v, d, t, fp⟩]) σ H := by
  cases o with
  | val d0 t0 =>
    obtain ⟨e, r, s, rfl, e1, e2, e3, rfl, rfl⟩ := w
    simp only [moveO, Option.some.injEq, Prod.mk.injEq] at h
    obtain ⟨rfl, rfl, rfl⟩ := h
    cases e3
    refine ⟨G, e.fp, rfl, ?_⟩
    rw [← e1, ← e2]; exact n
  | slot i =>
    obtain ⟨v', r, q0, e2, rfl, rfl⟩ := w
    cases e2
    simp only [moveO] at h
    split at h
    · rename_i d0 t0 q
      obtain ⟨e, q1, rfl, rfl⟩ := envOf_inv q
      have hv := n.sl.val i e q1
      rw [q0] at hv; cases hv
      have hi := (List.getElem?_eq_some_iff.mp q1).1
      have n0 : Now F G R σ H := by simpa using n
      have hgi : (G ++ R.map some)[i]? = some (some e) := by rw [List.getElem?_append_left hi]; exact q1
      have okE := n0.gd.ok i e hgi
      split at h
      · rename_i hm
        simp only [Option.some.injEq, Prod.mk.injEq] at h
        obtain ⟨rfl, rfl, rfl⟩ := h
        exact ⟨G, [], rfl, n0.push_noMut okE.rep hm⟩
      · split at h
        · cases h
        · rename_i np
          simp only [Option.some.injEq, Prod.mk.injEq] at h
          obtain ⟨rfl, rfl, rfl⟩ := h
          refine ⟨G.set i none, e.fp, by rw [envOf_set]; rfl, ?_, n.sl.set_none fun e2 h2 => by rw [q1] at h2; cases h2; exact np⟩
          have g1 : Gd F (G.set i none ++ R.map some) H := by
            rw [← set_app hi]
            exact n0.gd.set_none i
          have g2 := g1.push (e := e) okE fun j y hj => by
            rw [← set_app hi, List.getElem?_set] at hj
            split at hj
            · split at hj <;> simp at hj
            · rename_i hne
              exact ⟨n0.gd.sep i j e y hne hgi hj, n0.gd.sep j i y e (Ne.symm hne) hj hgi⟩
          simpa using g2
    · cases h
def keepR (mv : Bool) (o : Opd) (env : Env) : Res (Opd × Env) := match (if mv then moveO o env else keepO o env) with
  | some (d, t, e) => .ok (.val d t, e)
  | none => .bad
/-- kept (mv: the slot is not read again) -/
def eKeep (mv : Bool) (f : ER) : ER := fun env => (f env).bind fun p => keepR mv p.1 p.2
theorem keep_of {o : Opd} {v : V} {mv : Bool} {Q : VK} (n : Now F G (R ++ es) σ H) (w : OpsV σ [o] es [v]) (h : EOut F R σ W (keepR mv o (envOf G)) Q) : Q v H := by
  simp only [keepR] at h
  split at h
  · rename_i d t e q
    have : ∃ G' fp, envOf G' = e ∧ Now F G' (R ++ [⟨v, d, t, fp⟩]) σ H := by
      cases mv with
      | true => exact n.moved w (by simpa using q)
      | false => exact n.keep w (by simpa using q)
    obtain ⟨G', fp, g, n'⟩ := this
    exact h G' H [⟨v, d, t, fp⟩] v g n' ⟨⟨v, d, t, fp⟩, [], [], rfl, rfl, rfl, rfl, rfl, rfl⟩
  · exact h.elim
theorem spec_keep {te : TE} {f : ER} (mv : Bool) (he : SpecE K W te f) : SpecE K W te (eKeep mv f) := fun F G R σ H Q hK n h => by
  refine he F G R σ H _ hK n ?_
  simp only [eKeep] at h
  cases e1 : f (envOf G) with
  | bad => rw [e1] at h; exact h
  | exc c env => rw [e1] at h; exact h
  | ok p =>
    obtain ⟨o, env1⟩ := p
    rw [e1] at h
    intro G1 H1 es v g1 n1 o1
    subst g1
    exact keep_of n1 o1 h

/-! ### displays -/
def valsOf : List Opd → Option (List (D × Tag))
  | [] => some []
  | .val d t :: os => (valsOf os).map fun r => (d, t) :: r
  | .slot _ :: _ => none
theorem opsV_vals : ∀ {os : List Opd} {es : List Ent} {vs : List V} {ps : List (D × Tag)}, OpsV σ os es vs → valsOf os = some ps → vs = es.map (·.v) ∧ ps = es.map fun e => (e.d, e.t)
  | [], es, vs, ps, h, q => by
    obtain ⟨rfl, rfl⟩ := h
    cases q; exact ⟨rfl, rfl⟩
  | .val d t :: os, es, vs, ps, h, q => by
    obtain ⟨e, r, s, rfl, e1, e2, rfl, h⟩ := h
    simp only [valsOf] at q
    cases q2 : valsOf os with
    | none => rw [q2] at q; simp at q
    | some rs =>
      rw [q2] at q; simp at q
      obtain ⟨z1, z2⟩ := opsV_vals h q2
      exact ⟨by simp [z1], by rw [← q, z2]; simp [e1, e2]⟩
  | .slot i :: os, es, vs, ps, h, q => by simp [valsOf] at q
def fpsOf (es : List Ent) : List Addr := (es.map (·.fp)).flatten
theorem mem_fps {b : Addr} : ∀ {es : List Ent}, b ∈ fpsOf es → ∃ x ∈ es, b ∈ x.fp
  | [], h => by simp [fpsOf] at h
  | e :: es, h => by
    simp only [fpsOf, List.map_cons, List.flatten_cons, List.mem_append] at h
    rcases h with h | h
    · exact ⟨e, List.mem_cons_self .., h⟩
    · obtain ⟨x, hx, q⟩ := mem_fps (es := es) h
      exact ⟨x, List.mem_cons_of_mem _ hx, q⟩
theorem repL_ents {K : PySem.W.Frag} {H : Hp} : ∀ {es : List Ent}, (∀ x ∈ es, Rep K H x.d x.v x.fp) → RepL K H (es.map (·.d)) (es.map (·.v)) (fpsOf es)
  | [], _ => by simpa [fpsOf] using RepL.nil
  | e :: es, h => by
    have := RepL.cons (h e (List.mem_cons_self ..)) (repL_ents (es := es) fun x hx => h x (List.mem_cons_of_mem _ hx))
    simpa [fpsOf] using this
theorem fps_nodup : ∀ {es : List Ent}, (∀ e ∈ es, e.fp.Nodup) → es.Pairwise (fun a b => ∀ c ∈ a.fp, c ∉ b.fp) → (fpsOf es).Nodup
  | [], _, _ => by simp [fpsOf]
  | e :: es, h, p => by
    rw [List.pairwise_cons] at p
    have ih := fps_nodup (es := es) (fun x hx => h x (List.mem_cons_of_mem _ hx)) p.2
    simp only [fpsOf, List.map_cons, List.flatten_cons]
    rw [List.nodup_append]
    refine ⟨h e (List.mem_cons_self ..), ih, fun a ha b hb => ?_⟩
    rintro rfl
    obtain ⟨x, hx, q⟩ := mem_fps (es := es) hb
    exact p.1 x hx a ha q
theorem Now.es_rep (n : Now F G (R ++ es) σ H) : ∀ x ∈ es, Rep F.K H x.d x.v x.fp := fun x hx => by
  obtain ⟨k, _, hk⟩ := n.es_at hx
  exact (n.gd.ok k x hk).rep
theorem Now.es_unq (n : Now F G (R ++ es) σ H) (h : ∀ x ∈ es, x.t = .unq) : (fpsOf es).Nodup := by
  refine fps_nodup (fun x hx => ?_) ?_
  · obtain ⟨k, _, hk⟩ := n.es_at hx
    have tx := (n.gd.ok k x hk).tag
    unfold TagOk at tx; rw [h x hx] at tx
    exact tx.1
  · rw [List.pairwise_iff_getElem]
    intro i j hi hj hij c hc
    have at_ : ∀ (m : Nat) (hm : m < es.length), (G ++ (R ++ es).map some)[G.length + (R.length + m)]? = some (some es[m]) := fun m hm => by
      rw [List.getElem?_append_right (by omega), show G.length + (R.length + m) - G.length = R.length + m by omega, List.getElem?_map, List.getElem?_append_right (by omega), show R.length + m - R.length = m by omega, List.getElem?_eq_getElem hm]
      rfl
    have s := n.gd.sep _ _ _ _ (by omega) (at_ i hi) (at_ j hj)
    unfold Sep1 at s; rw [h _ (List.getElem_mem hi)] at s
    exact s c hc
def allUnq (ps : List (D × Tag)) : Bool := ps.all fun p => p.2 == .unq
theorem allUnq_es (h : allUnq (es.map fun e => (e.d, e.t)) = true) : ∀ x ∈ es, x.t = .unq := fun x hx => by
  simp only [allUnq, List.all_eq_true, List.mem_map, beq_iff_eq] at h
  exact h (x.d, x.t) ⟨x, hx, rfl⟩
theorem same_upd {H : Hp} {p : Addr} {o : HO} (h : H p = none) : ∀ b, H b ≠ none → upd H p o b = H b := fun b hb => upd_ne fun z => hb (by rw [z]; exact h)
theorem fps_trk (n : Now F G (R ++ es) σ H) : ∀ b ∈ fpsOf es, H b ≠ none := fun b hb => by
  obtain ⟨x, hx, q⟩ := mem_fps hb
  exact rep_trk _ _ _ (n.es_rep x hx) b q
theorem Now.lst (n : Now F G (R ++ es) σ H) {p : Addr} (hp : H p = none) : Now F G (R ++ [⟨.ref p, .list (es.map (·.d)), if allUnq (es.map fun e => (e.d, e.t)) then .unq else .own, p :: fpsOf es⟩]) σ (upd H p (.lst (es.map (·.v)))) := by
  have hpf : p ∉ fpsOf es := fun z => fps_trk n p z hp
  refine n.make ⟨?_, same_upd hp, fun b hb => ?_, ?_⟩
  · simp only [Rep]
    refine ⟨p, es.map (·.v), fpsOf es, rfl, .inl upd_same, ?_, rfl⟩
    exact repL_mono (Grow.tup (same_upd hp)) _ _ _ (fun b hb => same_upd hp b (fps_trk n b hb)) (repL_ents n.es_rep)
  · rcases List.mem_cons.mp hb with rfl | hb
    · exact .inl hp
    · exact .inr (mem_fps hb)
  · split
    · rename_i t q; split at q <;> cases q
    · exact ⟨rfl, p, fpsOf es, rfl, rfl, hpf, hp, by rw [upd_same]; trivial⟩
    · rename_i q
      split at q
      · rename_i hu
        have hu' := allUnq_es hu
        refine ⟨List.nodup_cons.mpr ⟨hpf, n.es_unq hu'⟩, fun b hb => ?_⟩
        rcases List.mem_cons.mp hb with rfl | hb
        · exact .inl ⟨hp, by rw [upd_same]; trivial⟩
        · obtain ⟨x, hx, q⟩ := mem_fps hb
          exact .inr ⟨x, hx, hu' x hx, q⟩
      · cases q
    · rename_i q; split at q <;> cases q
theorem Now.tup (n : Now F G (R ++ es) σ H) {p : Addr} (hp : H p = none) : Now F G (R ++ [⟨.ref p, .tuple (es.map (·.d)), if allUnq (es.map fun e => (e.d, e.t)) then .unq else .sh, fpsOf es⟩]) σ (upd H p (.tup (es.map (·.v)))) := by
  refine n.make ⟨?_, same_upd hp, fun b hb => ?_, ?_⟩
  · simp only [Rep]
    refine ⟨p, es.map (·.v), rfl, .inl (.inl upd_same), ?_⟩
    exact repL_mono (Grow.tup (same_upd hp)) _ _ _ (fun b hb => same_upd hp b (fps_trk n b hb)) (repL_ents n.es_rep)
  · exact .inr (mem_fps hb)
  · split
    · trivial
    · rename_i q; split at q <;> cases q
    · rename_i q
      split at q
      · rename_i hu
        have hu' := allUnq_es hu
        refine ⟨n.es_unq hu', fun b hb => ?_⟩
        obtain ⟨x, hx, q⟩ := mem_fps hb
        exact .inr ⟨x, hx, hu' x hx, q⟩
      · cases q
    · rename_i q; split at q <;> cases q
def dispOf (mk : List D → D) (t : Tag) (os : List Opd) (env : Env) : Res (Opd × Env) := match valsOf os with
  | some ps => if ps.length ≤ 1000 then .ok (.val (mk (ps.map (·.1))) (if allUnq ps then .unq else t), env) else .bad
  | none => .bad
def eLst (a : AR) : ER := fun env => (a env).bind fun p => dispOf .list .own p.1 p.2
def eTup (a : AR) : ER := fun env => (a env).bind fun p => dispOf .tuple .sh p.1 p.2
theorem le_line {n : Nat} (h : n ≤ 1000) : n ≤ sizeLine := Nat.le_of_lt (small1000 h)
theorem spec_lst {t : TA} {a : AR} (ha : SpecA K W t a) : SpecE K W (tLst t) (eLst a) := fun F G R σ H Q hK n h => by
  refine ha F G R σ H _ hK n ?_
  simp only [eLst] at h
  cases e1 : a (envOf G) with
  | bad => rw [e1] at h; exact h
  | exc c env => rw [e1] at h; exact h
  | ok p =>
    obtain ⟨os, env1⟩ := p
    rw [e1] at h
    intro G1 H1 es vs g1 n1 o1
    subst g1
    simp only [Res.bind, dispOf] at h
    split at h
    · rename_i ps hp
      obtain ⟨rfl, rfl⟩ := opsV_vals o1 hp
      split at h
      · rename_i hl
        refine ⟨le_line (by simpa using hl), fun q hq => ?_⟩
        have n2 := n1.lst hq
        refine h G1 _ [_] _ rfl n2 ⟨_, [], [], rfl, ?_, rfl, rfl, rfl, rfl⟩
        show PyData.list _ = PyData.list _
        rw [List.map_map]; rfl
      · exact h.elim
    · exact h.elim
theorem spec_tup {t : TA} {a : AR} (ha : SpecA K W t a) : SpecE K W (tTup t) (eTup a) := fun F G R σ H Q hK n h => by
  refine ha F G R σ H _ hK n ?_
  simp only [eTup] at h
  cases e1 : a (envOf G) with
  | bad => rw [e1] at h; exact h
  | exc c env => rw [e1] at h; exact h
  | ok p =>
    obtain ⟨os, env1⟩ := p
    rw [e1] at h
    intro G1 H1 es vs g1 n1 o1
    subst g1
    simp only [Res.bind, dispOf] at h
    split at h
    · rename_i ps hp
      obtain ⟨rfl, rfl⟩ := opsV_vals o1 hp
      split at h
      · rename_i hl
        refine ⟨le_line (by simpa using hl), fun q hq => ?_⟩
        have n2 := n1.tup hq
        refine h G1 _ [_] _ rfl n2 ⟨_, [], [], rfl, ?_, rfl, rfl, rfl, rfl⟩
        show PyData.tuple _ = PyData.tuple _
        rw [List.map_map]; rfl
      · exact h.elim
    · exact h.elim
end
end VL
end
section
set_option Elab.async false
set_option linter.all false
set_option maxRecDepth 100000
namespace VL
open PySem PySem.Spec PyProof.Rows L2

section
variable {K : PySem.W.Frag} {W : WV} {F : Frm} {Γ Γ' Δ G G' : List (Option Ent)} {H H' : Hp} {e e' x : Ent} {i : Nat} {R es es' rs : List Ent} {σ : L2.St} {os : List Opd} {vs : List V}
/-! ### any sequence of what is alive -/
def SepO : Option Ent → Option Ent → Prop
  | some a, some b => Sep1 a b ∧ Sep1 b a
  | _, _ => True
theorem sepO_symm {a b : Option Ent} (h : SepO a b) : SepO b a := by
  cases a <;> cases b <;> first | trivial | exact ⟨h.2, h.1⟩
theorem Gd.pw (g : Gd F Γ H) : Γ.Pairwise SepO := by
  rw [List.pairwise_iff_getElem]
  intro i j hi hj hij
  cases h1 : Γ[i] with
  | none => trivial
  | some a =>
    cases h2 : Γ[j] with
    | none => trivial
    | some b =>
      have e1 : Γ[i]? = some (some a) := by rw [List.getElem?_eq_getElem hi, h1]
      have e2 : Γ[j]? = some (some b) := by rw [List.getElem?_eq_getElem hj, h2]
      exact ⟨g.sep i j a b (by omega) e1 e2, g.sep j i b a (by omega) e2 e1⟩
theorem Gd.of_pw (g : Gd F Γ H) (ok : ∀ e, some e ∈ Γ' → EntOk F H e) (p : Γ'.Pairwise SepO) : Gd F Γ' H := by
  rw [List.pairwise_iff_getElem] at p
  refine ⟨fun i e h => ok e (List.mem_of_getElem? h), fun i j a b n h1 h2 => ?_, g.pr, g.trk, g.fresh, g.prt⟩
  obtain ⟨l1, q1⟩ := List.getElem?_eq_some_iff.mp h1
  obtain ⟨l2, q2⟩ := List.getElem?_eq_some_iff.mp h2
  by_cases hij : i < j
  · have := p i j l1 l2 hij
    rw [q1, q2] at this; exact this.1
  · have := p j i l2 l1 (by omega)
    rw [q1, q2] at this; exact this.2
theorem Gd.perm (g : Gd F Γ H) (h : Γ.Perm Γ') : Gd F Γ' H :=
  g.of_pw (fun e he => by
    obtain ⟨i, hi⟩ := List.getElem?_of_mem (h.mem_iff.mpr he)
    exact g.ok i e hi) ((h.pairwise_iff fun q => sepO_symm q).mp g.pw)
theorem Now.perm (n : Now F G (R ++ es) σ H) (h : es.Perm es') : Now F G (R ++ es') σ H :=
  ⟨n.gd.perm (List.Perm.append_left G ((List.Perm.append_left R h).map some)), n.sl⟩
theorem Now.last (n : Now F G (R ++ e :: es) σ H) : Now F G ((R ++ es) ++ [e]) σ H := by
  rw [List.append_assoc]
  exact n.perm (List.perm_append_comm (l₁ := [e]) (l₂ := es))

/-! ### slots are set -/
def setE (i : Nat) (p : D × Tag) (env : Env) : Res Env := match env[i]? with
  | some (some (_, .par)) => .bad
  | some _ => .ok (env.set i (some p))
  | none => .bad
theorem Now.set (n : Now F G (R ++ [e]) σ H) (hi : i < G.length) (np : ∀ x : Ent, G[i]? = some (some x) → x.t ≠ .par) : Now F (G.set i (some e)) R (σ.set i (some e.v)) H := by
  have g : Gd F ((G ++ R.map some) ++ [some e]) H := by simpa using n.gd
  have g2 := g.move i
  rw [set_app hi] at g2
  refine ⟨g2, by rw [List.length_set, List.length_set]; exact n.sl.len, fun j y hj => ?_, fun j a hj => ?_⟩
  · rw [List.getElem?_set] at hj ⊢
    split at hj
    · rename_i q; subst q
      have hs : i < σ.length := by rw [n.sl.len]; exact hi
      simp [hi] at hj; subst hj
      simp [hs]
    · rename_i q
      rw [if_neg q]; exact n.sl.val j y hj
  · obtain ⟨y, q1, q2, q3⟩ := n.sl.par j a hj
    refine ⟨y, ?_, q2, q3⟩
    rw [List.getElem?_set_ne]
    · exact q1
    · rintro rfl; exact np y q1 q3
theorem setE_ok {p : D × Tag} {env' : Env} (h : setE i p (envOf G) = .ok env') : i < G.length ∧ (∀ x : Ent, G[i]? = some (some x) → x.t ≠ .par) ∧ env' = (envOf G).set i (some p) := by
  unfold setE at h
  split at h
  · cases h
  · rename_i o h1 h2
    cases h
    have hl : i < (envOf G).length := (List.getElem?_eq_some_iff.mp h2).1
    refine ⟨by simpa [envOf] using hl, fun x hx z => ?_, rfl⟩
    have q := envOf_get hx
    rw [h2, z] at q
    simp only [Option.some.injEq] at q
    exact h1 x.d q
  · cases h
theorem setE_nexc {p : D × Tag} {env : Env} {c : Str} {e : Env} : setE i p env ≠ .exc c e := by
  unfold setE; split <;> simp

/-! ### targets -/
abbrev GR := D × Tag → Env → Res Env
abbrev GRs := List (D × Tag) → Env → Res Env
def GOut (F : Frm) (R : List Ent) (W : WV) (r : Res Env) (Q : L2.St → Hp → Prop) : Prop := match r with
  | .ok env => ∀ G σ H, envOf G = env → Now F G R σ H → Q σ H
  | .exc c env => ∀ G σ H, envOf G = env → Now F G R σ H → W c σ H
  | .bad => False
def SpecG (K : PySem.W.Frag) (W : WV) (g : TG) (f : GR) : Prop := ∀ F G R σ H e Q, F.K = K → Now F G (R ++ [e]) σ H → GOut F R W (f (e.d, e.t) (envOf G)) Q → g e.v σ H Q
def SpecGs (K : PySem.W.Frag) (W : WV) (g : TGs) (f : GRs) : Prop := ∀ F G R σ H es Q, F.K = K → Now F G (R ++ es) σ H → GOut F R W (f (es.map fun e => (e.d, e.t)) (envOf G)) Q → g (es.map (·.v)) σ H Q
theorem spec_gName (i : Nat) : SpecG K W (gName i) (setE i) := fun F G R σ H e Q hK n h => by
  cases q : setE i (e.d, e.t) (envOf G) with
  | bad => rw [q] at h; exact h.elim
  | exc c env => exact absurd q setE_nexc
  | ok env =>
    rw [q] at h
    obtain ⟨h1, h2, h3⟩ := setE_ok q
    exact h _ _ H (by rw [envOf_set, h3]; rfl) (n.set h1 h2)
def gsNil : GRs := fun ps env => match ps with
  | [] => .ok env
  | _ => .bad
def gsCons (f : GR) (r : GRs) : GRs := fun ps env => match ps with
  | p :: ps => (f p env).bind fun env' => r ps env'
  | [] => .bad
theorem spec_gNil : SpecGs K W gNil gsNil := fun F G R σ H es Q hK n h => by
  cases es with
  | nil => exact ⟨rfl, h G σ H rfl (by simpa using n)⟩
  | cons e es => exact h.elim
theorem spec_gCons {g : TG} {f : GR} {gs : TGs} {fs : GRs} (h1 : SpecG K W g f) (h2 : SpecGs K W gs fs) : SpecGs K W (gCons g gs) (gsCons f fs) := fun F G R σ H es Q hK n h => by
  cases es with
  | nil => exact h.elim
  | cons e es =>
    refine ⟨e.v, es.map (·.v), rfl, h1 F G (R ++ es) σ H e _ hK n.last ?_⟩
    simp only [gsCons, List.map_cons] at h
    cases q : f (e.d, e.t) (envOf G) with
    | bad => rw [q] at h; exact h
    | exc c env =>
      rw [q] at h
      exact fun G1 σ1 H1 g1 n1 => h G1 σ1 H1 g1 n1.drop
    | ok env =>
      rw [q] at h
      intro G1 σ1 H1 g1 n1
      subst g1
      exact h2 F G1 R σ1 H1 es Q hK n1 h
/-- the parts of a tuple or a list -/
def partTag (t : Tag) (d : D) : Tag := if t = .unq ∨ noMut d = true then .unq else .sh
def partsOf (p : D × Tag) : Option (List (D × Tag)) := match p.1 with
  | .tuple ds => some (ds.map fun d => (d, partTag p.2 d))
  | _ => none
def partsOfL (p : D × Tag) : Option (List (D × Tag)) := match p.1 with
  | .list ds => some (ds.map fun d => (d, partTag p.2 d))
  | _ => none
theorem repL_parts {K : PySem.W.Frag} {H : Hp} (t : Tag) : ∀ {ds : List D} {vs : List V} {fp : List Addr}, RepL K H ds vs fp → ∃ es : List Ent, es.map (·.v) = vs ∧ es.map (·.d) = ds ∧ fpsOf es = fp ∧ ∀ x ∈ es, Rep K H x.d x.v x.fp ∧ x.t = partTag t x.d
  | [], vs, fp, h => by
    simp only [RepL] at h
    exact ⟨[], h.1.symm, rfl, by rw [h.2]; rfl, fun x hx => by cases hx⟩
  | d :: ds, vs, fp, h => by
    simp only [RepL] at h
    obtain ⟨v, r, f, g, rfl, rfl, h1, h2⟩ := h
    obtain ⟨es, e1, e2, e3, e4⟩ := repL_parts t h2
    refine ⟨⟨v, d, partTag t d, f⟩ :: es, by simp [e1], by simp [e2], by simp [fpsOf, ← e3], fun x hx => ?_⟩
    rcases List.mem_cons.mp hx with rfl | hx
    · exact ⟨h1, rfl⟩
    · exact e4 x hx
/-- the entries of parts take the whole's place -/
theorem Now.parts (n : Now F G (R ++ [e]) σ H) {fs : List Addr} (hs : ∀ b ∈ fs, b ∈ e.fp) (hn : e.t = .unq → fs.Nodup) (hf : fpsOf es = fs) (hes : ∀ x ∈ es, Rep F.K H x.d x.v x.fp ∧ x.t = partTag e.t x.d) : Now F G (R ++ es) σ H := by
  refine ⟨?_, n.sl⟩
  have g := n.gd
  have hl : (G ++ (R ++ [e]).map some)[G.length + R.length]? = some (some e) := by simp
  have oke := g.ok _ _ hl
  have xs : ∀ x ∈ es, ∀ b ∈ x.fp, b ∈ fs := fun x hx b hb => by
    rw [← hf]; unfold fpsOf
    exact List.mem_flatten.mpr ⟨x.fp, List.mem_map.mpr ⟨x, hx, rfl⟩, hb⟩
  have tg : ∀ x ∈ es, (x.t = .sh) ∨ (x.t = .unq ∧ (e.t = .unq ∨ x.fp = [])) := fun x hx => by
    obtain ⟨r, q⟩ := hes x hx
    unfold partTag at q
    split at q
    · rename_i h
      rcases h with h | h
      · exact .inr ⟨q, .inl h⟩
      · exact .inr ⟨q, .inr (rep_noMut _ _ _ h r)⟩
    · exact .inl q
  have nd : ∀ x ∈ es, e.t = .unq → x.fp.Nodup := fun x hx hu => by
    have := hn hu
    rw [← hf] at this; unfold fpsOf at this
    exact this.sublist (List.sublist_flatten_of_mem (List.mem_map.mpr ⟨x, hx, rfl⟩))
  have okx : ∀ x ∈ es, EntOk F H x := fun x hx => by
    refine ⟨(hes x hx).1, fun b hb => oke.al b (hs b (xs x hx b hb)), ?_⟩
    rcases tg x hx with q | ⟨q, q2⟩
    · unfold TagOk; rw [q]; trivial
    · unfold TagOk; rw [q]
      rcases q2 with q2 | q2
      · have z := oke.tag
        unfold TagOk at z; rw [q2] at z
        exact ⟨nd x hx q2, fun b hb => z.2 b (hs b (xs x hx b hb))⟩
      · rw [q2]; exact ⟨List.nodup_nil, fun b hb => by cases hb⟩
  have base : Gd F (G ++ R.map some) H := n.pre
  refine base.of_pw (fun y hy => ?_) ?_
  · rw [List.map_append, ← List.append_assoc] at hy
    rcases List.mem_append.mp hy with hy | hy
    · obtain ⟨i, hi⟩ := List.getElem?_of_mem hy
      exact base.ok i y hi
    · obtain ⟨x, hx, q⟩ := List.mem_map.mp hy
      cases q; exact okx y hx
  · rw [List.map_append, ← List.append_assoc, List.pairwise_append]
    refine ⟨base.pw, ?_, fun a ha b hb => ?_⟩
    · rw [List.pairwise_map, List.pairwise_iff_getElem]
      intro i j hi hj hij
      have disj : e.t = .unq → ∀ c ∈ es[i].fp, c ∉ es[j].fp := fun hu c hc hc2 => by
        have q := hn hu
        rw [← hf] at q; unfold fpsOf at q
        have q2 := (List.pairwise_flatten.mp q).2
        rw [List.pairwise_map, List.pairwise_iff_getElem] at q2
        exact q2 i j hi hj hij c hc c hc2 rfl
      have one : ∀ a b : Ent, a ∈ es → (e.t = .unq → ∀ c ∈ a.fp, c ∉ b.fp) → Sep1 a b := fun a b ha hd => by
        rcases tg a ha with q | ⟨q, q2⟩
        · unfold Sep1; rw [q]; trivial
        · unfold Sep1; rw [q]
          rcases q2 with q2 | q2
          · exact hd q2
          · rw [q2]; intro c hc; cases hc
      exact ⟨one _ _ (List.getElem_mem hi) disj, one _ _ (List.getElem_mem hj) fun hu c hc hc2 => disj hu c hc2 hc⟩
    · obtain ⟨x, hx, rfl⟩ := List.mem_map.mp hb
      obtain ⟨k, hk⟩ := List.getElem?_of_mem ha
      cases a with
      | none => trivial
      | some y =>
        obtain ⟨hk2, hy⟩ := n.up hk
        refine ⟨sep1_sub (g.sep k _ y e (by omega) hy hl) fun b hb => hs b (xs x hx b hb), ?_⟩
        rcases tg x hx with q | ⟨q, q2⟩
        · unfold Sep1; rw [q]; trivial
        · unfold Sep1; rw [q]
          rcases q2 with q2 | q2
          · have s := g.sep _ k e y (by omega) hl hy
            unfold Sep1 at s; rw [q2] at s
            exact fun b hb => s b (hs b (xs x hx b hb))
          · rw [q2]; intro c hc; cases hc
def gTupF (k : Nat) (fs : GRs) : GR := fun p env => match partsOf p with
  | some ps => if ps.length = k then fs ps env else .bad
  | none => .bad
def gLstF (k : Nat) (fs : GRs) : GR := fun p env => match partsOfL p with
  | some ps => if ps.length = k then fs ps env else .bad
  | none => .bad
theorem spec_gTup {gs : TGs} {fs : GRs} {k : Nat} (h2 : SpecGs K W gs fs) : SpecG K W (gTup K k gs) (gTupF k fs) := fun F G R σ H e Q hK n h => by
  simp only [gTupF, partsOf] at h
  split at h
  · rename_i ps hp
    split at hp
    · rename_i ds hd
      cases hp
      split at h
      · rename_i hl
        have oke := n.es_rep e (List.mem_singleton.mpr rfl)
        rw [hd] at oke
        simp only [Rep] at oke
        obtain ⟨a, xs, ev, hq, hr⟩ := oke
        obtain ⟨es, e1, e2, e3, e4⟩ := repL_parts e.t hr
        have nu : e.t = .unq → e.fp.Nodup := fun hu => by
          obtain ⟨k, _, hk⟩ := n.es_at (List.mem_singleton.mpr rfl)
          have z := (n.gd.ok k e hk).tag
          unfold TagOk at z; rw [hu] at z; exact z.1
        have n2 := n.parts (fun b hb => hb) nu e3 e4
        refine ⟨a, xs, ev, by rw [← hK]; exact hq, ?_, ?_⟩
        · rw [← e1, List.length_map, ← List.length_map (f := fun x : Ent => x.d), e2]; simpa using hl
        · rw [← e1]
          refine h2 F G R σ H es Q hK n2 ?_
          have : (es.map fun x => (x.d, x.t)) = ds.map fun d => (d, partTag e.t d) := by
            rw [← e2, List.map_map]
            exact List.map_congr_left fun x hx => by simp [(e4 x hx).2]
          rw [this]; exact h
      · exact h.elim
    · cases hp
  · exact h.elim
end
end VL
end
section
set_option Elab.async false
set_option linter.all false
set_option maxRecDepth 100000
namespace VL
open PySem PySem.Spec PyProof.Rows L2

section
variable {K : PySem.W.Frag} {W : WV} {F : Frm} {Γ Γ' Δ G G' : List (Option Ent)} {H H' : Hp} {e e' x : Ent} {i : Nat} {R es es' rs : List Ent} {σ : L2.St} {os : List Opd} {vs xs xs' : List V} {a : Addr} {ds ds' : List D} {fs fs' : List Addr} {t' : Tag}
/-! ### a list changes in place -/
/-- what an owned list is -/
theorem Now.owned (n : Now F G R σ H) (hi : G[i]? = some (some x)) (hd : x.d = .list ds) (ht : x.t ≠ .sh) :
    ∃ a xs fs, x.v = .ref a ∧ x.fp = a :: fs ∧ H a = some (.lst xs) ∧ RepL F.K H ds xs fs ∧ a ∉ fs ∧ ¬ F.Pr a := by
  have hl := (List.getElem?_eq_some_iff.mp hi).1
  have ok := n.gd.ok i x (by rw [List.getElem?_append_left hl]; exact hi)
  have r := ok.rep
  rw [hd] at r
  simp only [Rep] at r
  obtain ⟨a, xs, fs, e1, e2, e3, e4⟩ := r
  have tg := ok.tag
  have fin : a ∉ fs ∧ ¬ F.Pr a ∧ Mut (H a) := by
    unfold TagOk at tg
    split at tg
    · rename_i q; exact absurd q ht
    · obtain ⟨_, b, gs, z1, z2, z3, z4, z5⟩ := tg
      rw [e1] at z1; cases z1
      rw [e4] at z2; cases z2
      exact ⟨z3, z4, z5⟩
    · rw [e4] at tg
      exact ⟨(List.nodup_cons.mp tg.1).1, tg.2 a (List.mem_cons_self ..)⟩
    · obtain ⟨_, b, z1, z2, z4, z5⟩ := tg
      rw [e1] at z1; cases z1
      rw [e4] at z2; cases z2
      exact ⟨by simp, z4, z5⟩
  rcases e2 with e2 | ⟨o, e2⟩
  · exact ⟨a, xs, fs, e1, e4, e2, e3, fin.1, fin.2.1⟩
  · have := fin.2.2
    rw [e2] at this; exact this.elim
theorem mutTup {o : HO} (hm : Mut (H a)) : TupKeep H (upd H a o) := fun b ys r => by
  have : b ≠ a := by
    rintro rfl
    rcases r with z | ⟨o, z⟩ <;> rw [z] at hm <;> exact hm
  exact rd_at (upd_ne this) r
/-- what an owner's mate does not name -/
theorem own_not (ht : x.t ≠ .sh) (hf : x.fp = a :: fs) {y : Ent} (s : Sep1 x y) : a ∉ y.fp := by
  unfold Sep1 at s
  split at s
  · rename_i q; exact absurd q ht
  · exact s a (by rw [hf]; exact List.mem_cons_self ..)
  · exact s a (by rw [hf]; rfl)
theorem Now.mutO (n : Now F G (R ++ es) σ H) (hi : G[i]? = some (some x)) (ht : x.t ≠ .sh) (hv : x.v = .ref a) (hf : x.fp = a :: fs) (hm : Mut (H a)) (ha : a ∉ fs) (hpr : ¬ F.Pr a) {d' : D} {o' : HO} (hm' : Mut (some o'))
    (hr : Rep F.K (upd H a o') d' (.ref a) (a :: fs')) (hld : isLD d' = true)
    (sub : ∀ b ∈ fs', b ∈ fs ∨ ∃ y ∈ es, b ∈ y.fp)
    (tg : (t' = .par ∧ x.t = .par ∧ fs' = []) ∨ (t' = .own ∧ x.t ≠ .par) ∨ (t' = .unq ∧ x.t = .unq ∧ fs'.Nodup ∧ ∀ b ∈ fs', b ∈ fs ∨ ∃ y ∈ es, y.t = .unq ∧ b ∈ y.fp))
    (hrs : ∀ r ∈ rs, Rep F.K H r.d r.v r.fp ∧ (∀ b ∈ r.fp, b ∈ fs) ∧ (r.t = .sh ∨ (r.t = .unq ∧ (r.fp = [] ∨ (x.t = .unq ∧ r.fp.Nodup)))) ∧ (t' = .unq → ∀ b ∈ r.fp, b ∉ fs') ∧ (r.t = .unq → ∀ b ∈ r.fp, b ∉ fs')) (h1 : rs.length ≤ 1) :
    Now F (G.set i (some ⟨.ref a, d', t', a :: fs'⟩)) (R ++ rs) σ (upd H a o') := by
  have hl := (List.getElem?_eq_some_iff.mp hi).1
  have hxi : (G ++ (R ++ es).map some)[i]? = some (some x) := by rw [List.getElem?_append_left hl]; exact hi
  have okx := n.gd.ok i x hxi
  have tk := mutTup (o := o') hm
  have na' : a ∉ fs' := fun z => by
    rcases sub a z with q | ⟨y, hy, q⟩
    · exact ha q
    · obtain ⟨k, hk0, hk⟩ := n.es_at hy
      exact own_not ht hf (n.gd.sep i k x y (by omega) hxi hk) q
  -- what stands elsewhere
  have els : ∀ (k : Nat) (y : Ent), k ≠ i → (G ++ (R ++ es).map some)[k]? = some (some y) → a ∉ y.fp ∧ EntOk F (upd H a o') y := fun k y hk hy => by
    have q := own_not ht hf (n.gd.sep i k x y (Ne.symm hk) hxi hy)
    exact ⟨q, (n.gd.ok k y hy).mono tk fun b hb => upd_ne fun z => q (by rw [← z]; exact hb)⟩
  have unqx : x.t = .unq → (a :: fs).Nodup ∧ ∀ b ∈ a :: fs, ¬ F.Pr b ∧ Mut (H b) := fun hu => by
    have z := okx.tag
    unfold TagOk at z; rw [hu, hf] at z; exact z
  have unqy : ∀ y ∈ es, y.t = .unq → ∀ b ∈ y.fp, ¬ F.Pr b ∧ Mut (H b) := fun y hy hu => by
    obtain ⟨k, _, hk⟩ := n.es_at hy
    have z := (n.gd.ok k y hk).tag
    unfold TagOk at z; rw [hu] at z; exact z.2
  have alx : ∀ b ∈ a :: fs, F.Al b := fun b hb => okx.al b (by rw [hf]; exact hb)
  have new : EntOk F (upd H a o') ⟨.ref a, d', t', a :: fs'⟩ := by
    refine ⟨hr, fun b hb => ?_, ?_⟩
    · rcases List.mem_cons.mp hb with rfl | hb
      · exact alx b (List.mem_cons_self ..)
      · rcases sub b hb with q | ⟨y, hy, q⟩
        · exact alx b (List.mem_cons_of_mem _ q)
        · obtain ⟨k, _, hk⟩ := n.es_at hy
          exact (n.gd.ok k y hk).al b q
    · have hma : Mut (upd H a o' a) := by rw [upd_same]; exact hm'
      rcases tg with ⟨rfl, _, rfl⟩ | ⟨rfl, _⟩ | ⟨rfl, q1, q2, q3⟩
      · exact ⟨hld, a, rfl, rfl, hpr, hma⟩
      · exact ⟨hld, a, fs', rfl, rfl, na', hpr, hma⟩
      · refine ⟨List.nodup_cons.mpr ⟨na', q2⟩, fun b hb => ?_⟩
        rcases List.mem_cons.mp hb with rfl | hb
        · exact ⟨hpr, hma⟩
        · have hba : b ≠ a := fun z => na' (by rw [← z]; exact hb)
          have q : ¬ F.Pr b ∧ Mut (H b) := by
            rcases q3 b hb with q | ⟨y, hy, qu, q⟩
            · exact (unqx q1).2 b (List.mem_cons_of_mem _ q)
            · exact unqy y hy qu b q
          exact ⟨q.1, by rw [upd_ne hba]; exact q.2⟩
  have g0 : Gd F (G ++ R.map some) H := n.pre
  -- the slot's entry and what stands elsewhere
  have sep : ∀ (k : Nat) (y : Ent), k ≠ i → (G ++ R.map some)[k]? = some (some y) → Sep1 ⟨.ref a, d', t', a :: fs'⟩ y ∧ Sep1 y ⟨.ref a, d', t', a :: fs'⟩ := fun k y hk hy => by
    obtain ⟨hk2, hy2⟩ := n.up hy
    obtain ⟨nay, _⟩ := els k y hk hy2
    have sxy := n.gd.sep i k x y (Ne.symm hk) hxi hy2
    have syx := n.gd.sep k i y x hk hy2 hxi
    refine ⟨?_, ?_⟩
    · rcases tg with ⟨rfl, _, _⟩ | ⟨rfl, _⟩ | ⟨rfl, q1, q2, q3⟩
      · intro c hc; simp at hc; subst hc; exact nay
      · intro c hc; simp at hc; subst hc; exact nay
      · intro b hb
        rcases List.mem_cons.mp hb with rfl | hb
        · exact nay
        · rcases q3 b hb with q | ⟨z, hz, qu, q⟩
          · unfold Sep1 at sxy; rw [q1] at sxy
            exact sxy b (by rw [hf]; exact List.mem_cons_of_mem _ q)
          · obtain ⟨m, hm0, hm⟩ := n.es_at hz
            have s := n.gd.sep m k z y (by omega) hm hy2
            unfold Sep1 at s; rw [qu] at s
            exact s b q
    · have key : ∀ b, b ∈ a :: fs' → b = a ∨ b ∈ fs ∨ ∃ z ∈ es, b ∈ z.fp := fun b hb => by
        rcases List.mem_cons.mp hb with q | q
        · exact .inl q
        · exact .inr (sub b q)
      have nb : ∀ b, (∀ z : Ent, Sep1 y z → b ∉ z.fp) → b ∉ a :: fs' := fun b hs hb => by
        rcases key b hb with rfl | q | ⟨z, hz, q⟩
        · exact hs x syx (by rw [hf]; exact List.mem_cons_self ..)
        · exact hs x syx (by rw [hf]; exact List.mem_cons_of_mem _ q)
        · obtain ⟨m, hm0, hm⟩ := n.es_at hz
          exact hs z (n.gd.sep k m y z (by omega) hy2 hm) q
      unfold Sep1
      split
      · trivial
      · rename_i hu
        exact fun b hb => nb b fun z s => by
          unfold Sep1 at s; rw [hu] at s; exact s b hb
      · rename_i z1 z2
        exact fun c hc => nb c fun z s => by
          unfold Sep1 at s
          split at s
          · rename_i q; exact absurd q z1
          · rename_i q; exact absurd q z2
          · exact s c hc
  have slots : Slots F (G.set i (some ⟨.ref a, d', t', a :: fs'⟩)) σ := by
    refine ⟨by rw [List.length_set]; exact n.sl.len, fun j y hj => ?_, fun j b hj => ?_⟩
    · rw [List.getElem?_set] at hj
      split at hj
      · rename_i q; subst q
        simp [hl] at hj; subst hj
        rw [← hv]; exact n.sl.val i x hi
      · exact n.sl.val j y hj
    · obtain ⟨y, q1, q2, q3⟩ := n.sl.par j b hj
      by_cases hji : i = j
      · subst hji
        rw [hi] at q1; cases q1
        rw [hv] at q2; cases q2
        rcases tg with ⟨rfl, _, _⟩ | ⟨_, z⟩ | ⟨_, z, _⟩
        · exact ⟨_, List.getElem?_set_self hl, rfl, rfl⟩
        · exact absurd q3 z
        · rw [q3] at z; cases z
      · exact ⟨y, by rw [List.getElem?_set_ne hji]; exact q1, q2, q3⟩
  -- without the results
  have g1 : Gd F (G.set i (some ⟨.ref a, d', t', a :: fs'⟩) ++ R.map some) (upd H a o') := by
    have hsub : ∀ b, F.H0 b ≠ none → upd H a o' b ≠ none := fun b hb => by
      by_cases z : b = a
      · rw [z, upd_same]; simp
      · rw [upd_ne z]; exact n.gd.trk b hb
    have lk : ∀ {k : Nat} {y : Ent}, (G.set i (some ⟨.ref a, d', t', a :: fs'⟩) ++ R.map some)[k]? = some (some y) → (k = i ∧ y = ⟨.ref a, d', t', a :: fs'⟩) ∨ (k ≠ i ∧ (G ++ R.map some)[k]? = some (some y)) := fun {k y} hk => by
      rw [← set_app hl, List.getElem?_set] at hk
      split at hk
      · rename_i q
        have : i < (G ++ R.map some).length := by simp; omega
        rw [if_pos this] at hk
        simp at hk; exact .inl ⟨q.symm, hk.symm⟩
      · rename_i q; exact .inr ⟨Ne.symm q, hk⟩
    refine ⟨fun k y hk => ?_, fun k m y z hne hk hm => ?_, fun b hb => ?_, hsub, n.gd.fresh, n.gd.prt⟩
    · rcases lk hk with ⟨_, rfl⟩ | ⟨q, hk⟩
      · exact new
      · exact (els k y q (n.up hk).2).2
    · rcases lk hk with ⟨q1, p1⟩ | ⟨q1, hk⟩ <;> rcases lk hm with ⟨q2, p2⟩ | ⟨q2, hm⟩
      · omega
      · rw [p1]; exact (sep m z q2 hm).1
      · rw [p2]; exact (sep k y q1 hk).2
      · exact g0.sep k m y z hne hk hm
    · have : b ≠ a := fun z => hpr (by rw [← z]; exact hb)
      rw [upd_ne this]; exact n.gd.pr b hb
  match rs, hrs, h1 with
  | [], _, _ => exact ⟨by simpa using g1, slots⟩
  | _ :: _ :: _, _, h1 => simp at h1
  | [r], hrs, _ =>
    obtain ⟨r1, r2, r3, r4, r5⟩ := hrs r (List.mem_singleton.mpr rfl)
    have nar : a ∉ r.fp := fun z => ha (r2 a z)
    have okr : EntOk F (upd H a o') r := by
      refine ⟨rep_mono tk _ _ _ (fun b hb => upd_ne fun z => nar (by rw [← z]; exact hb)) r1, fun b hb => alx b (List.mem_cons_of_mem _ (r2 b hb)), ?_⟩
      rcases r3 with q | ⟨q, q2⟩
      · unfold TagOk; rw [q]; trivial
      · unfold TagOk; rw [q]
        rcases q2 with q2 | ⟨q2, q3⟩
        · rw [q2]; exact ⟨List.nodup_nil, fun b hb => by cases hb⟩
        · refine ⟨q3, fun b hb => ?_⟩
          have hba : b ≠ a := fun z => nar (by rw [← z]; exact hb)
          have z := (unqx q2).2 b (List.mem_cons_of_mem _ (r2 b hb))
          exact ⟨z.1, by rw [upd_ne hba]; exact z.2⟩
    have g2 := g1.push okr fun k y hk => by
      rw [← set_app hl, List.getElem?_set] at hk
      split at hk
      · rename_i q
        have : i < (G ++ R.map some).length := by simp; omega
        rw [if_pos this] at hk
        simp at hk; subst hk
        refine ⟨?_, ?_⟩
        · rcases r3 with q | ⟨q, q2⟩
          · unfold Sep1; rw [q]; trivial
          · unfold Sep1; rw [q]
            intro b hb hb2
            rcases List.mem_cons.mp hb2 with z | z
            · exact nar (by rw [← z]; exact hb)
            · exact r5 q b hb z
        · rcases tg with ⟨rfl, _, _⟩ | ⟨rfl, _⟩ | ⟨rfl, q1, q2, q3⟩
          · intro c hc; simp at hc; subst hc; exact nar
          · intro c hc; simp at hc; subst hc; exact nar
          · intro b hb hb2
            rcases List.mem_cons.mp hb with z | z
            · exact nar (by rw [← z]; exact hb2)
            · exact r4 rfl b hb2 z
      · rename_i q
        obtain ⟨hk2, hy2⟩ := n.up hk
        have sxy := n.gd.sep i k x y q hxi hy2
        have syx := n.gd.sep k i y x (Ne.symm q) hy2 hxi
        refine ⟨?_, sep1_sub syx fun b hb => by rw [hf]; exact List.mem_cons_of_mem _ (r2 b hb)⟩
        rcases r3 with q | ⟨q, q2⟩
        · unfold Sep1; rw [q]; trivial
        · unfold Sep1; rw [q]
          rcases q2 with q2 | ⟨q2, q3⟩
          · rw [q2]; intro b hb; cases hb
          · unfold Sep1 at sxy; rw [q2] at sxy
            exact fun b hb => sxy b (by rw [hf]; exact List.mem_cons_of_mem _ (r2 b hb))
    exact ⟨by simpa using g2, slots⟩
theorem repL_split {H : Hp} : ∀ {ds : List D} {vs : List V} {fp : List Addr} (i : Nat) (d : D), RepL K H ds vs fp → ds[i]? = some d → ∃ f0 f f1 v, fp = f0 ++ (f ++ f1) ∧ vs[i]? = some v ∧ Rep K H d v f ∧ RepL K H (ds.eraseIdx i) (vs.eraseIdx i) (f0 ++ f1) ∧
    ∀ d' v' f', Rep K H d' v' f' → RepL K H (ds.set i d') (vs.set i v') (f0 ++ (f' ++ f1))
  | [], vs, fp, i, d, h, e => by simp at e
  | d0 :: ds, vs, fp, i, d, h, e => by
    simp only [RepL] at h
    obtain ⟨x, r, f, g, rfl, rfl, h1, h2⟩ := h
    cases i with
    | zero =>
      simp at e; subst e
      exact ⟨[], f, g, x, rfl, rfl, h1, by simpa using h2, fun d' v' f' h' => by simpa using RepL.cons h' h2⟩
    | succ i =>
      obtain ⟨f0, f', f1, v, e1, e2, e3, e4, e5⟩ := repL_split i d h2 (by simpa using e)
      refine ⟨f ++ f0, f', f1, v, by rw [e1, List.append_assoc], by simpa using e2, e3, ?_, fun d' v' f'' h' => ?_⟩
      · have := RepL.cons h1 e4
        simpa [List.append_assoc] using this
      · have := RepL.cons h1 (e5 d' v' f'' h')
        simpa [List.append_assoc] using this
end
end VL
end
section
set_option Elab.async false
set_option linter.all false
set_option maxRecDepth 100000
namespace VL
open PySem PySem.Spec PyProof.Rows L2

/-! ### statements -/
inductive Out where
  | nx (env : Env) | rt (d : D) (t : Tag) (env : Env) | bk (env : Env) | ct (env : Env) | exc (c : Str) (env : Env) | bad
abbrev SR := Env → Out
def SOut (F : Frm) (R : List Ent) (W : WV) (o : Out) (D : Ends) : Prop := match o with
  | .nx env => ∀ G σ H, envOf G = env → Now F G R σ H → D.nx σ H
  | .bk env => ∀ G σ H, envOf G = env → Now F G R σ H → D.bk σ H
  | .ct env => ∀ G σ H, envOf G = env → Now F G R σ H → D.ct σ H
  | .rt d t env => ∀ G σ H e, envOf G = env → Now F G (R ++ [e]) σ H → e.d = d → e.t = t → D.rt e.v H
  | .exc c env => ∀ G σ H, envOf G = env → Now F G R σ H → W c σ H
  | .bad => False
def SpecS (K : PySem.W.Frag) (W : WV) (t : TS) (f : SR) : Prop := ∀ F G R σ H D, F.K = K → Now F G R σ H → SOut F R W (f (envOf G)) D → t D σ H
def Res.out {α : Type} (r : Res α) (f : α → Out) : Out := match r with
  | .ok a => f a
  | .exc c env => .exc c env
  | .bad => .bad
section
variable {K : PySem.W.Frag} {W : WV} {F : Frm} {G G' : List (Option Ent)} {H H' : Hp} {e x : Ent} {i : Nat} {R es : List Ent} {σ : L2.St} {vs : List V}
def sNext : SR := fun env => .nx env
theorem spec_sNext : SpecS K W tNext sNext := fun F G R σ H D hK n h => h G σ H rfl n
def sSeq (f g : SR) : SR := fun env => match f env with
  | .nx env => g env
  | o => o
theorem spec_sSeq {t u : TS} {f g : SR} (h1 : SpecS K W t f) (h2 : SpecS K W u g) : SpecS K W (tSeq t u) (sSeq f g) := fun F G R σ H D hK n h => by
  refine h1 F G R σ H _ hK n ?_
  simp only [sSeq] at h
  cases q : f (envOf G) with
  | nx env =>
    rw [q] at h
    intro G1 σ1 H1 g1 n1
    subst g1
    exact h2 F G1 R σ1 H1 D hK n1 h
  | bk env => rw [q] at h; exact h
  | ct env => rw [q] at h; exact h
  | rt d t env => rw [q] at h; exact h
  | exc c env => rw [q] at h; exact h
  | bad => rw [q] at h; exact h
def sNever : SR := fun _ => .bad
theorem spec_sNever : SpecS K W tNever sNever := fun F G R σ H D hK n h => h.elim
def sBreak : SR := fun env => .bk env
theorem spec_sBreak : SpecS K W tBreak sBreak := fun F G R σ H D hK n h => h G σ H rfl n
def sCont : SR := fun env => .ct env
theorem spec_sCont : SpecS K W tCont sCont := fun F G R σ H D hK n h => h G σ H rfl n
def sIf (c : TR) (a b : SR) : SR := fun env => (c env).out fun p => if p.1 then a p.2 else b p.2
theorem spec_sIf {tc : TT} {t u : TS} {c : TR} {a b : SR} (hc : SpecT K W tc c) (ha : SpecS K W t a) (hb : SpecS K W u b) : SpecS K W (tIfS tc t u) (sIf c a b) := fun F G R σ H D hK n h => by
  refine hc F G R σ H _ hK n ?_
  simp only [sIf] at h
  cases q : c (envOf G) with
  | bad => rw [q] at h; exact h
  | exc c env => rw [q] at h; exact fun G1 H1 g1 n1 => h G1 σ H1 g1 n1
  | ok p =>
    obtain ⟨k, env1⟩ := p
    rw [q] at h
    intro G1 H1 g1 n1
    subst g1
    cases k with
    | true => exact iteT (ha F G1 R σ H1 D hK n1 h)
    | false => exact iteF (hb F G1 R σ H1 D hK n1 h)
/-- an expression whose value is dropped -/
def sDrop (f : ER) : SR := fun env => (f env).out fun p => .nx p.2
theorem spec_sDrop {te : TE} {f : ER} (he : SpecE K W te f) : SpecS K W (tDrop te) (sDrop f) := fun F G R σ H D hK n h => by
  refine he F G R σ H _ hK n ?_
  simp only [sDrop] at h
  cases q : f (envOf G) with
  | bad => rw [q] at h; exact h
  | exc c env => rw [q] at h; exact fun G1 H1 g1 n1 => h G1 σ H1 g1 n1
  | ok p =>
    rw [q] at h
    exact fun G1 H1 es v g1 n1 w => h G1 σ H1 g1 n1.drop
/-- a value that was kept, given back -/
def sRet (f : ER) : SR := fun env => (f env).out fun p => match p.1 with
  | .val d t => .rt d t p.2
  | .slot _ => .bad
theorem spec_sRet {te : TE} {f : ER} (he : SpecE K W te f) : SpecS K W (tRet te) (sRet f) := fun F G R σ H D hK n h => by
  refine he F G R σ H _ hK n ?_
  simp only [sRet] at h
  cases q : f (envOf G) with
  | bad => rw [q] at h; exact h
  | exc c env => rw [q] at h; exact fun G1 H1 g1 n1 => h G1 σ H1 g1 n1
  | ok p =>
    obtain ⟨o, env⟩ := p
    rw [q] at h
    cases o with
    | slot i => exact h.elim
    | val d t =>
      intro G1 H1 es v g1 n1 w
      obtain ⟨e, r, s, rfl, e1, e2, e3, rfl, rfl⟩ := w
      cases e3
      exact h G1 σ H1 e g1 n1 e1 e2
def sRetN : SR := fun env => .rt .none .unq env
theorem spec_sRetN : SpecS K W tRetN sRetN := fun F G R σ H D hK n h =>
  h G σ H ⟨.non, .none, .unq, []⟩ rfl (n.scalar rep_none) rfl rfl
/-- target = value -/
def sAsg (f : ER) (g : GR) : SR := fun env => (f env).out fun p => match p.1 with
  | .val d t => (g (d, t) p.2).out fun env => .nx env
  | .slot _ => .bad
theorem spec_sAsg {te : TE} {f : ER} {tg : TG} {g : GR} (he : SpecE K W te f) (hg : SpecG K W tg g) : SpecS K W (tAsg te tg) (sAsg f g) := fun F G R σ H D hK n h => by
  refine he F G R σ H _ hK n ?_
  simp only [sAsg] at h
  cases q : f (envOf G) with
  | bad => rw [q] at h; exact h
  | exc c env => rw [q] at h; exact fun G1 H1 g1 n1 => h G1 σ H1 g1 n1
  | ok p =>
    obtain ⟨o, env⟩ := p
    rw [q] at h
    cases o with
    | slot i => exact h.elim
    | val d t =>
      intro G1 H1 es v g1 n1 w
      obtain ⟨e, r, s, rfl, e1, e2, e3, rfl, rfl⟩ := w
      cases e3
      refine hg F G1 R σ H1 e _ hK n1 ?_
      rw [e1, e2, g1]
      simp only [Res.out] at h
      cases q2 : g (d, t) env with
      | bad => rw [q2] at h; exact h
      | exc c env => rw [q2] at h; exact h
      | ok env => rw [q2] at h; exact h
/-- a, b = x, y at plain local names -/
def sPar (i j : Nat) (a : AR) : SR := fun env => (a env).out fun p => match valsOf p.1 with
  | some [v, w] => ((setE i v p.2).bind fun e => setE j w e).out fun env => .nx env
  | _ => .bad
theorem spec_sPar {t : TA} {a : AR} {i j : Nat} (ha : SpecA K W t a) : SpecS K W (tPar i j t) (sPar i j a) := fun F G R σ H D hK n h => by
  refine ha F G R σ H _ hK n ?_
  simp only [sPar] at h
  cases q : a (envOf G) with
  | bad => rw [q] at h; exact h
  | exc c env => rw [q] at h; exact fun G1 H1 g1 n1 => h G1 σ H1 g1 n1
  | ok p =>
    obtain ⟨os, env⟩ := p
    rw [q] at h
    intro G1 H1 es vs g1 n1 w
    simp only [Res.out] at h
    split at h
    · rename_i v1 w1 hv
      obtain ⟨rfl, e2⟩ := opsV_vals w hv
      match es, e2, n1 with
      | [e, f], e2, n1 =>
        simp at e2
        obtain ⟨rfl, rfl⟩ := e2
        refine ⟨e.v, f.v, rfl, ?_⟩
        subst g1
        simp only [Res.bind] at h
        cases q1 : setE i (e.d, e.t) (envOf G1) with
        | bad => rw [q1] at h; exact h.elim
        | exc c env => exact absurd q1 setE_nexc
        | ok env1 =>
          rw [q1] at h
          simp only at h
          cases q2 : setE j (f.d, f.t) env1 with
          | bad => rw [q2] at h; exact h.elim
          | exc c env => exact absurd q2 setE_nexc
          | ok env2 =>
            rw [q2] at h
            obtain ⟨z1, z2, z3⟩ := setE_ok q1
            have n2 := (n1.last).set z1 z2
            have g2 : envOf (G1.set i (some e)) = env1 := by rw [envOf_set, z3]; rfl
            rw [← g2] at q2
            obtain ⟨y1, y2, y3⟩ := setE_ok q2
            exact h _ _ H1 (by rw [envOf_set, y3]; rfl) (n2.set y1 y2)
      | [], e2, _ => simp at e2
      | [_], e2, _ => simp at e2
      | _ :: _ :: _ :: _, e2, _ => simp at e2
    · exact h.elim

/-! ### lists changed in place -/
def newTag (ti : Tag) (d : D) (t : Tag) : Option Tag := match ti with
  | .sh => none
  | .own => some .own
  | .unq => if t = .unq then some .unq else some .own
  | .par => if noMut d then some .par else none
def lim : Nat := 16777216
theorem lim_eq : lim = sizeLine := by rw [sizeLine_eq]; rfl
/-- the list at slot i is changed: f gives the new list and what comes of it -/
def atList (env : Env) (i : Nat) (f : List D → Tag → Res (Opd × Env)) : Res (Opd × Env) := match env[i]? with
  | some (some (.list ds, t)) => f ds t
  | _ => .bad
def none1 : Opd := .val .none .unq
def appendE (i : Nat) (p : D × Tag) (env : Env) : Res (Opd × Env) := atList env i fun ds ti => match newTag ti p.1 p.2 with
  | some t => if ds.length < lim then .ok (none1, env.set i (some (.list (ds ++ [p.1]), t))) else .bad
  | none => .bad
def eAppend (i : Nat) (f : ER) : ER := fun env => match env[i]? with
  | some (some (.list _, _)) => (f env).bind fun p => (match p.1 with
    | .val d t => appendE i (d, t) p.2
    | .slot _ => .bad)
  | _ => .bad
theorem Now.tyList (n : Now F G R σ H) {ds : List D} (hi : G[i]? = some (some x)) (hd : x.d = .list ds) : tyV F.K "list" x.v H := by
  have hl := (List.getElem?_eq_some_iff.mp hi).1
  have r := (n.gd.ok i x (by rw [List.getElem?_append_left hl]; exact hi)).rep
  rw [hd] at r
  simp only [Rep] at r
  obtain ⟨a, xs, fs, e1, e2, _⟩ := r
  rw [e1]
  exact .inl ⟨rfl, xs, .inl e2⟩
theorem fin_none {Q : VK} {env : Env} {σ : L2.St} {H : Hp} (n : Now F G R σ H) (g : envOf G = env) (h : EOut F R σ W (.ok (none1, env)) Q) : Q .non H :=
  h G H [⟨.non, .none, .unq, []⟩] _ g (n.scalar rep_none) ⟨⟨.non, .none, .unq, []⟩, [], [], rfl, rfl, rfl, rfl, rfl, rfl⟩
theorem newTag_tg {ti t t' : Tag} {d : D} {v : V} {fp fs : List Addr} (h : newTag ti d t = some t') (r : Rep K H d v fp) (hp : ti = .par → fs = []) (nd : ti = .unq → t = .unq → (fs ++ fp).Nodup) :
    ti ≠ .sh ∧ ((t' = .par ∧ ti = .par ∧ fs ++ fp = []) ∨ (t' = .own ∧ ti ≠ .par) ∨ (t' = .unq ∧ ti = .unq ∧ t = .unq ∧ (fs ++ fp).Nodup)) := by
  unfold newTag at h
  split at h
  · cases h
  · cases h; exact ⟨by simp, .inr (.inl ⟨rfl, by simp⟩)⟩
  · split at h
    · rename_i q
      cases h; exact ⟨by simp, .inr (.inr ⟨rfl, rfl, q, nd rfl q⟩)⟩
    · cases h; exact ⟨by simp, .inr (.inl ⟨rfl, by simp⟩)⟩
  · split at h
    · rename_i q
      cases h
      exact ⟨by simp, .inl ⟨rfl, rfl, by rw [hp rfl, rep_noMut _ _ _ q r]; rfl⟩⟩
    · cases h
/-- a parameter that is written holds plain values -/
theorem Now.parFs (n : Now F G R σ H) (hi : G[i]? = some (some x)) {a : Addr} {fs : List Addr} (hf : x.fp = a :: fs) : x.t = .par → fs = [] := fun hp => by
  have hl := (List.getElem?_eq_some_iff.mp hi).1
  have tg := (n.gd.ok i x (by rw [List.getElem?_append_left hl]; exact hi)).tag
  unfold TagOk at tg; rw [hp] at tg
  obtain ⟨_, b, _, e, _⟩ := tg
  rw [hf] at e; cases e; rfl
theorem Now.fsNodup (n : Now F G (R ++ [e]) σ H) (hi : G[i]? = some (some x)) {a : Addr} {fs : List Addr} (hf : x.fp = a :: fs) : x.t = .unq → e.t = .unq → (fs ++ e.fp).Nodup := fun h1 h2 => by
  have hl := (List.getElem?_eq_some_iff.mp hi).1
  have hxi : (G ++ (R ++ [e]).map some)[i]? = some (some x) := by rw [List.getElem?_append_left hl]; exact hi
  have tg := (n.gd.ok i x hxi).tag
  unfold TagOk at tg; rw [h1, hf] at tg
  obtain ⟨k, hk0, hk⟩ := n.es_at (List.mem_singleton.mpr rfl)
  have tg2 := (n.gd.ok k e hk).tag
  unfold TagOk at tg2; rw [h2] at tg2
  rw [List.nodup_append]
  refine ⟨(List.nodup_cons.mp tg.1).2, tg2.1, fun c hc c' hc' => ?_⟩
  rintro rfl
  have s := n.gd.sep i k x e (by omega) hxi hk
  unfold Sep1 at s; rw [h1] at s
  exact s c (by rw [hf]; exact List.mem_cons_of_mem _ hc) hc'
theorem spec_append {t : TE} {f : ER} (i : Nat) (hf : SpecE K W t f) : SpecE K W (tBM K "list" rAppend (tVar i) (tCons t tNil)) (eAppend i f) := fun F G R σ H Q hK n h => by
  simp only [eAppend] at h
  split at h
  · rename_i ds0 t0 h0
    obtain ⟨x0, hx0, hd0, _⟩ := envOf_inv h0
    have hσ := n.sl.val i x0 hx0
    refine ⟨x0.v, hσ, by rw [← hK]; exact n.tyList hx0 hd0, ?_⟩
    refine hf F G R σ H _ hK n ?_
    cases q : f (envOf G) with
    | bad => rw [q] at h; exact h
    | exc c env => rw [q] at h; exact h
    | ok p =>
      obtain ⟨o, env⟩ := p
      rw [q] at h
      intro G1 H1 es v g1 n1 w
      subst g1
      simp only [Res.bind] at h
      cases o with
      | slot i => exact h.elim
      | val d t =>
        obtain ⟨e, r, s, rfl, e1, e2, e3, rfl, rfl⟩ := w
        cases e3
        simp only [appendE, atList] at h
        split at h
        · rename_i ds ti h1
          obtain ⟨x, hx, hd, hti⟩ := envOf_inv h1
          split at h
          · rename_i t' ht
            split at h
            · rename_i hl
              have hre := n1.es_rep e (List.mem_singleton.mpr rfl)
              rw [← hti] at ht
              have nsh : x.t ≠ .sh := by
                intro z; rw [z] at ht; simp [newTag] at ht
              obtain ⟨a, xs, fs, hv, hfp, hHa, hrl, hafs, hpr⟩ := n1.owned hx hd nsh
              have hvv : x0.v = x.v := by
                exact Option.some.inj (Option.some.inj (hσ.symm.trans (n1.sl.val i x hx)))
              have hre' : Rep F.K H1 d e.v e.fp := by rw [← e1]; exact hre
              obtain ⟨_, tg⟩ := newTag_tg (K := F.K) (H := H1) (fs := fs) ht hre' (n1.parFs hx hfp) (fun z1 z2 => n1.fsNodup hx hfp z1 (by rw [e2]; exact z2))
              have hrl' : RepL F.K H1 (ds ++ [d]) (xs ++ [e.v]) (fs ++ e.fp) := by
                have := hrl.append (RepL.cons hre' RepL.nil)
                simpa using this
              have nae : a ∉ e.fp := fun z => by
                have hl2 := (List.getElem?_eq_some_iff.mp hx).1
                obtain ⟨k, hk0, hk⟩ := n1.es_at (List.mem_singleton.mpr rfl)
                exact own_not nsh hfp (n1.gd.sep i k x e (by omega) (by rw [List.getElem?_append_left hl2]; exact hx) hk) z
              have hnew : Rep F.K (upd H1 a (.lst (xs ++ [e.v]))) (.list (ds ++ [d])) (.ref a) (a :: (fs ++ e.fp)) := by
                simp only [Rep]
                refine ⟨a, xs ++ [e.v], fs ++ e.fp, rfl, .inl upd_same, ?_, rfl⟩
                refine repL_mono (mutTup (by rw [hHa]; trivial)) _ _ _ (fun b hb => upd_ne fun z => ?_) hrl'
                rw [z] at hb
                rcases List.mem_append.mp hb with hb | hb
                · exact hafs hb
                · exact nae hb
              have n2 := n1.mutO (rs := []) (t' := t') hx nsh hv hfp (by rw [hHa]; trivial) hafs hpr (o' := .lst (xs ++ [e.v])) trivial hnew rfl (fun b hb => by
                  rcases List.mem_append.mp hb with hb | hb
                  · exact .inl hb
                  · exact .inr ⟨e, List.mem_singleton.mpr rfl, hb⟩)
                (by
                  rcases tg with z | z | ⟨z1, z2, z3, z4⟩
                  · exact .inl z
                  · exact .inr (.inl z)
                  · refine .inr (.inr ⟨z1, z2, z4, fun b hb => ?_⟩)
                    rcases List.mem_append.mp hb with hb | hb
                    · exact .inl hb
                    · exact .inr ⟨e, List.mem_singleton.mpr rfl, by rw [e2]; exact z3, hb⟩)
                (fun r hr => by cases hr) (by simp)
              refine ⟨a, xs, e.v, by rw [hvv, hv], rfl, hHa, ?_, fin_none (by simpa using n2) (by rw [envOf_set]; rfl) h⟩
              rw [hrl.length, ← lim_eq]; exact hl
            · exact h.elim
          · exact h.elim
        · exact h.elim
  · exact h.elim
end
end VL
end
section
set_option Elab.async false
set_option linter.all false
set_option maxRecDepth 100000
namespace VL
open PySem PySem.Spec PyProof.Rows L2
section
variable {K : PySem.W.Frag} {W : WV} {F : Frm} {G G' : List (Option Ent)} {H H' : Hp} {e x : Ent} {i : Nat} {R es : List Ent} {σ : L2.St} {vs : List V} {ds : List D}
/-- a list that may be changed, and how -/
theorem Now.mutList (n : Now F G (R ++ es) σ H) (hx : G[i]? = some (some x)) (hd : x.d = .list ds) (nsh : x.t ≠ .sh) :
    ∃ a xs fs, x.v = .ref a ∧ x.fp = a :: fs ∧ H a = some (.lst xs) ∧ RepL F.K H ds xs fs ∧ ∀ (ds' : List D) (xs' : List V) (fs' : List Addr) (t' : Tag) (rs : List Ent), RepL F.K H ds' xs' fs' → (∀ b ∈ fs', b ∈ fs ∨ ∃ y ∈ es, b ∈ y.fp) →
      ((t' = .par ∧ x.t = .par ∧ fs' = []) ∨ (t' = .own ∧ x.t ≠ .par) ∨ (t' = .unq ∧ x.t = .unq ∧ fs'.Nodup ∧ ∀ b ∈ fs', b ∈ fs ∨ ∃ y ∈ es, y.t = .unq ∧ b ∈ y.fp)) →
      (∀ r ∈ rs, Rep F.K H r.d r.v r.fp ∧ (∀ b ∈ r.fp, b ∈ fs) ∧ (r.t = .sh ∨ (r.t = .unq ∧ (r.fp = [] ∨ (x.t = .unq ∧ r.fp.Nodup)))) ∧ (t' = .unq → ∀ b ∈ r.fp, b ∉ fs') ∧ (r.t = .unq → ∀ b ∈ r.fp, b ∉ fs')) → rs.length ≤ 1 →
      Now F (G.set i (some ⟨.ref a, .list ds', t', a :: fs'⟩)) (R ++ rs) σ (upd H a (.lst xs')) := by
  obtain ⟨a, xs, fs, hv, hfp, hHa, hrl, hafs, hpr⟩ := n.owned hx hd nsh
  refine ⟨a, xs, fs, hv, hfp, hHa, hrl, fun ds' xs' fs' t' rs hr sub tg hrs h1 => ?_⟩
  have na' : a ∉ fs' := fun z => by
    rcases sub a z with q | ⟨y, hy, q⟩
    · exact hafs q
    · have hl2 := (List.getElem?_eq_some_iff.mp hx).1
      obtain ⟨k, hk0, hk⟩ := n.es_at hy
      exact own_not nsh hfp (n.gd.sep i k x y (by omega) (by rw [List.getElem?_append_left hl2]; exact hx) hk) q
  refine n.mutO hx nsh hv hfp (by rw [hHa]; trivial) hafs hpr trivial ?_ rfl sub tg hrs h1
  simp only [Rep]
  refine ⟨a, xs', fs', rfl, .inl upd_same, ?_, rfl⟩
  exact repL_mono (mutTup (by rw [hHa]; trivial)) _ _ _ (fun b hb => upd_ne fun z => na' (by rw [← z]; exact hb)) hr
theorem Now.unqNd (n : Now F G R σ H) (hx : G[i]? = some (some x)) {a : Addr} {fs : List Addr} (hf : x.fp = a :: fs) (hu : x.t = .unq) : fs.Nodup := by
  have hl := (List.getElem?_eq_some_iff.mp hx).1
  have tg := (n.gd.ok i x (by rw [List.getElem?_append_left hl]; exact hx)).tag
  unfold TagOk at tg; rw [hu, hf] at tg
  exact (List.nodup_cons.mp tg.1).2
/-- an item goes -/
def popTag (ti : Tag) (d : D) : Tag := if ti = .unq ∨ noMut d = true then .unq else .sh
def popE (i : Nat) (k : Nat) (env : Env) : Res (Opd × Env) := atList env i fun ds ti => match ds[k]? with
  | some d => if ti = .sh then .bad else .ok (.val d (popTag ti d), env.set i (some (.list (ds.eraseIdx k), ti)))
  | none => .bad
theorem pop_of {k : Nat} {Q : VK} (n : Now F G R σ H) (h : EOut F R σ W (popE i k (envOf G)) Q) :
    ∃ x ds a xs y, G[i]? = some (some x) ∧ x.d = .list ds ∧ x.v = .ref a ∧ H a = some (.lst xs) ∧ xs.length = ds.length ∧ k < xs.length ∧ xs[k]? = some y ∧ Q y (upd H a (.lst (xs.eraseIdx k))) := by
  simp only [popE, atList] at h
  split at h
  · rename_i ds ti h1
    obtain ⟨x, hx, hd, hti⟩ := envOf_inv h1
    split at h
    · rename_i d hk
      split at h
      · exact h.elim
      · rename_i nsh
        have n0 : Now F G (R ++ []) σ H := by simpa using n
        obtain ⟨a, xs, fs, hv, hfp, hHa, hrl, hm⟩ := n0.mutList hx hd (by rw [hti]; exact nsh)
        obtain ⟨f0, f, f1, y, e1, e2, e3, e4, _⟩ := repL_split k d hrl hk
        have par0 : ti = .par → fs = [] := fun z => n.parFs hx hfp (by rw [hti]; exact z)
        have nd : ti = .unq → (f0 ++ (f ++ f1)).Nodup := fun z => by
          rw [← e1]; exact n.unqNd hx hfp (by rw [hti]; exact z)
        have sb : ∀ b ∈ f0 ++ f1, b ∈ fs := fun b hb => by
          rw [e1]
          rcases List.mem_append.mp hb with hb | hb
          · exact List.mem_append_left _ hb
          · exact List.mem_append_right _ (List.mem_append_right _ hb)
        have dis : ti = .unq → ∀ b ∈ f, b ∉ f0 ++ f1 := fun z b hb hb2 => by
          have q := nd z
          rw [List.nodup_append] at q
          obtain ⟨_, q2, q3⟩ := q
          rw [List.nodup_append] at q2
          rcases List.mem_append.mp hb2 with hb2 | hb2
          · exact q3 b hb2 b (List.mem_append_left _ hb) rfl
          · exact q2.2.2 b hb b hb2 rfl
        have fnil : noMut d = true → f = [] := fun z => rep_noMut _ _ _ z e3
        have n2 := hm (ds.eraseIdx k) (xs.eraseIdx k) (f0 ++ f1) ti [⟨y, d, popTag ti d, f⟩] e4 (fun b hb => .inl (sb b hb))
          (by
            cases ti with
            | sh => exact absurd rfl nsh
            | own => exact .inr (.inl ⟨rfl, by rw [hti]; simp⟩)
            | par =>
              refine .inl ⟨rfl, hti, ?_⟩
              have := par0 rfl
              rw [e1] at this
              simp only [List.append_eq_nil_iff] at this ⊢
              exact ⟨this.1, this.2.2⟩
            | unq =>
              refine .inr (.inr ⟨rfl, hti, ?_, fun b hb => .inl (sb b hb)⟩)
              have := nd rfl
              rw [List.nodup_append] at this ⊢
              obtain ⟨q1, q2, q3⟩ := this
              rw [List.nodup_append] at q2
              exact ⟨q1, q2.2.1, fun c hc c' hc' => q3 c hc c' (List.mem_append_right _ hc')⟩)
          (fun r hr => by
            rcases List.mem_singleton.mp hr with rfl
            refine ⟨e3, fun b hb => by rw [e1]; exact List.mem_append_right _ (List.mem_append_left _ hb), ?_, fun z => dis z, fun z b hb => ?_⟩
            · show popTag ti d = .sh ∨ _
              unfold popTag
              split
              · rename_i q
                refine .inr ⟨rfl, ?_⟩
                rcases q with q | q
                · refine .inr ⟨by rw [hti]; exact q, ?_⟩
                  have := nd q
                  rw [List.nodup_append] at this
                  obtain ⟨_, q2, _⟩ := this
                  rw [List.nodup_append] at q2
                  exact q2.1
                · exact .inl (fnil q)
              · exact .inl rfl
            · have z' : popTag ti d = .unq := z
              unfold popTag at z'
              split at z'
              · rename_i q
                rcases q with q | q
                · exact dis q b hb
                · rw [show f = [] from fnil q] at hb; cases hb
              · cases z')
          (by simp)
        have hkx : k < xs.length := (List.getElem?_eq_some_iff.mp e2).1
        exact ⟨x, ds, a, xs, y, hx, hd, hv, hHa, hrl.length, hkx, e2, h _ _ [_] y (by rw [envOf_set]; rfl) n2 ⟨_, [], [], rfl, rfl, rfl, rfl, rfl, rfl⟩⟩
    · exact h.elim
  · exact h.elim
/-- x.pop() -/
def ePop (i : Nat) : ER := fun env => match env[i]? with
  | some (some (.list ds, _)) => popE i (ds.length - 1) env
  | _ => .bad
theorem spec_pop (i : Nat) : SpecE K W (tBM0 K "list" rPop (tVar i)) (ePop i) := fun F G R σ H Q hK n h => by
  simp only [ePop] at h
  split at h
  · rename_i ds t h1
    obtain ⟨x0, q1, q2, q3⟩ := envOf_inv h1
    obtain ⟨x, ds', a, xs, y, hx, hd, hv, hHa, hl, hk, hy, q⟩ := pop_of n h
    rw [q1] at hx; cases hx
    rw [q2] at hd; cases hd
    have hσ := n.sl.val i x0 q1
    refine ⟨x0.v, hσ, by rw [← hK]; exact n.tyList q1 q2, a, xs, y, hv, rfl, hHa, by rw [hl]; exact hy, ?_⟩
    rw [show xs.dropLast = xs.eraseIdx (ds.length - 1) by rw [← hl, List.eraseIdx_eq_dropLast (by omega)]]
    exact q
  · exact h.elim
/-- x.pop(i) -/
def ePopAt (i : Nat) (f : ER) : ER := fun env => match env[i]? with
  | some (some (.list _, _)) => (f env).bind fun p => (match p.1.d p.2, p.2[i]? with
    | some (.int j), some (some (.list ds, _)) => if 0 ≤ j ∧ j < ds.length ∧ j < 2 ^ 62 then popE i j.toNat p.2 else .bad
    | _, _ => .bad)
  | _ => .bad
theorem int_of {o : Opd} {v : V} {j : Int} (n : Now F G (R ++ es) σ H) (w : OpsV σ [o] es [v]) (h : o.d (envOf G) = some (.int j)) : v = .int j := by
  obtain ⟨x, e1, e2, hx⟩ := opsV_one n.sl w h
  have r := n.rep hx
  rw [e2, e1] at r
  simp only [Rep] at r
  exact r.1
theorem spec_popAt {t : TE} {f : ER} (i : Nat) (hf : SpecE K W t f) : SpecE K W (tBM K "list" rPopAt (tVar i) (tCons t tNil)) (ePopAt i f) := fun F G R σ H Q hK n h => by
  simp only [ePopAt] at h
  split at h
  · rename_i ds0 t0 h0
    obtain ⟨x0, hx0, hd0, _⟩ := envOf_inv h0
    have hσ := n.sl.val i x0 hx0
    refine ⟨x0.v, hσ, by rw [← hK]; exact n.tyList hx0 hd0, ?_⟩
    refine hf F G R σ H _ hK n ?_
    cases q : f (envOf G) with
    | bad => rw [q] at h; exact h
    | exc c env => rw [q] at h; exact h
    | ok p =>
      obtain ⟨o, env⟩ := p
      rw [q] at h
      intro G1 H1 es v g1 n1 w
      subst g1
      simp only [Res.bind] at h
      split at h
      · rename_i j ds t hj h1
        split at h
        · rename_i hb
          obtain ⟨x1, q1, q2, q3⟩ := envOf_inv h1
          obtain ⟨x, ds', a, xs, y, hx, hd, hv, hHa, hl, hk, hy, q⟩ := pop_of n1.drop h
          rw [q1] at hx; cases hx
          rw [q2] at hd; cases hd
          have hvv : x0.v = x1.v := Option.some.inj (Option.some.inj (hσ.symm.trans (n1.sl.val i x1 q1)))
          refine ⟨a, xs, j, j.toNat, y, by rw [hvv, hv], by rw [int_of n1 w hj], hHa, by omega, by omega, ?_, hy, q⟩
          have e1 : ¬ j < 0 := by omega
          have e2 : j < (xs.length : Int) := by omega
          simp [seqIndex?, e1, e2, hb.1]
        · exact h.elim
      · exact h.elim
  · exact h.elim
/-- x.extend(y), y a list at hand -/
def extTag (ti : Tag) (es : List D) (t : Tag) : Option Tag := match ti with
  | .sh => none
  | .own => some .own
  | .unq => if t = .unq then some .unq else some .own
  | .par => if noMutL es then some .par else none
def extendE (i : Nat) (p : D × Tag) (env : Env) : Res (Opd × Env) := atList env i fun ds ti => match p.1 with
  | .list es => (match extTag ti es p.2 with
    | some t => if p.2 ≠ .sh ∧ p.2 ≠ .par ∧ ds.length + es.length ≤ lim then .ok (none1, env.set i (some (.list (ds ++ es), t))) else .bad
    | none => .bad)
  | _ => .bad
def eExtend (i : Nat) (f : ER) : ER := fun env => match env[i]? with
  | some (some (.list _, _)) => (f env).bind fun p => (match p.1 with
    | .val d t => extendE i (d, t) p.2
    | .slot _ => .bad)
  | _ => .bad
theorem spec_extend {t : TE} {f : ER} (i : Nat) (hf : SpecE K W t f) : SpecE K W (tBM K "list" rExtend (tVar i) (tCons t tNil)) (eExtend i f) := fun F G R σ H Q hK n h => by
  simp only [eExtend] at h
  split at h
  · rename_i ds0 t0 h0
    obtain ⟨x0, hx0, hd0, _⟩ := envOf_inv h0
    have hσ := n.sl.val i x0 hx0
    refine ⟨x0.v, hσ, by rw [← hK]; exact n.tyList hx0 hd0, ?_⟩
    refine hf F G R σ H _ hK n ?_
    cases q : f (envOf G) with
    | bad => rw [q] at h; exact h
    | exc c env => rw [q] at h; exact h
    | ok p =>
      obtain ⟨o, env⟩ := p
      rw [q] at h
      intro G1 H1 es v g1 n1 w
      subst g1
      simp only [Res.bind] at h
      cases o with
      | slot i => exact h.elim
      | val d t =>
        obtain ⟨e, r, s, rfl, e1, e2, e3, rfl, rfl⟩ := w
        cases e3
        simp only [extendE, atList] at h
        split at h
        · rename_i ds ti h1
          obtain ⟨x, hx, hd, hti⟩ := envOf_inv h1
          split at h
          · rename_i ns
            split at h
            · rename_i t' ht
              split at h
              · rename_i hl
                obtain ⟨hl1, hl2, hl3⟩ := hl
                have nsh : x.t ≠ .sh := by
                  intro z; rw [← hti, z] at ht; simp [extTag] at ht
                obtain ⟨a, xs, fs, hv, hfp, hHa, hrl, hm⟩ := n1.mutList hx hd nsh
                have hvv : x0.v = x.v := Option.some.inj (Option.some.inj (hσ.symm.trans (n1.sl.val i x hx)))
                obtain ⟨k, hk0, hk⟩ := n1.es_at (List.mem_singleton.mpr rfl)
                have oke := n1.gd.ok k e hk
                have re := oke.rep
                rw [e1] at re
                simp only [Rep] at re
                obtain ⟨b, zs, gs, q1, q2, q3, q4⟩ := re
                have tge := oke.tag
                have mb : Mut (H1 b) ∧ (t = .unq → gs.Nodup) := by
                  unfold TagOk at tge
                  split at tge
                  · rename_i z; rw [e2] at z; exact absurd z hl1
                  · rename_i z
                    obtain ⟨_, c, hs, z1, z2, z3, z4, z5⟩ := tge
                    rw [q1] at z1; cases z1
                    exact ⟨z5, fun y => by rw [e2, y] at z; cases z⟩
                  · rename_i z
                    rw [q4] at tge
                    exact ⟨(tge.2 b (List.mem_cons_self ..)).2, fun _ => (List.nodup_cons.mp tge.1).2⟩
                  · rename_i z; rw [e2] at z; exact absurd z hl2
                have hHb : H1 b = some (.lst zs) := by
                  rcases q2 with q2 | ⟨o, q2⟩
                  · exact q2
                  · have := mb.1; rw [q2] at this; exact this.elim
                have inE : ∀ c ∈ gs, c ∈ e.fp := fun c hc => by rw [q4]; exact List.mem_cons_of_mem _ hc
                have n2 := hm (ds ++ ns) (xs ++ zs) (fs ++ gs) t' [] (hrl.append q3) (fun c hc => by
                    rcases List.mem_append.mp hc with hc | hc
                    · exact .inl hc
                    · exact .inr ⟨e, List.mem_singleton.mpr rfl, inE c hc⟩)
                  (by
                    rw [← hti] at ht
                    unfold extTag at ht
                    split at ht
                    · cases ht
                    · rename_i z; cases ht; exact .inr (.inl ⟨rfl, by rw [z]; simp⟩)
                    · rename_i z
                      split at ht
                      · rename_i z2
                        cases ht
                        refine .inr (.inr ⟨rfl, z, ?_, fun c hc => ?_⟩)
                        · rw [List.nodup_append]
                          refine ⟨n1.unqNd hx hfp z, mb.2 z2, fun c hc c' hc' => ?_⟩
                          rintro rfl
                          have hl2 := (List.getElem?_eq_some_iff.mp hx).1
                          have s := n1.gd.sep i k x e (by omega) (by rw [List.getElem?_append_left hl2]; exact hx) hk
                          unfold Sep1 at s; rw [z] at s
                          exact s c (by rw [hfp]; exact List.mem_cons_of_mem _ hc) (inE c hc')
                        · rcases List.mem_append.mp hc with hc | hc
                          · exact .inl hc
                          · exact .inr ⟨e, List.mem_singleton.mpr rfl, by rw [e2]; exact z2, inE c hc⟩
                      · cases ht; exact .inr (.inl ⟨rfl, by rw [z]; simp⟩)
                    · rename_i z
                      split at ht
                      · rename_i z2
                        cases ht
                        refine .inl ⟨rfl, z, ?_⟩
                        rw [n1.parFs hx hfp z, repL_noMut _ _ _ z2 q3]; rfl
                      · cases ht)
                  (fun r hr => by cases hr) (by simp)
                refine ⟨a, b, xs, zs, by rw [hvv, hv], by rw [q1], hHa, hHb, ?_, fin_none (by simpa using n2) (by rw [envOf_set]; rfl) h⟩
                rw [hrl.length, q3.length, ← lim_eq]; exact hl3
              · exact h.elim
            · exact h.elim
          · exact h.elim
        · exact h.elim
  · exact h.elim
/-! ### x[j] = v -/
def setTag (ti : Tag) (d : D) : Option Tag := match ti with
  | .sh => none
  | .own => some .own
  | .unq => if noMut d then some .unq else some .own
  | .par => if noMut d then some .par else none
def storeE (i : Nat) (j : Int) (p : D × Tag) (env : Env) : Res Env := match env[i]? with
  | some (some (.list ds, ti)) => (match ixN ds.length j, setTag ti p.1 with
    | some k, some t => .ok (env.set i (some (.list (ds.set k p.1), t)))
    | _, _ => .bad)
  | _ => .bad
theorem store_of {j : Int} {Q : Hp → Prop} (n : Now F G (R ++ [e]) σ H) {env : Env} (hs : storeE i j (e.d, e.t) (envOf G) = .ok env) (h : ∀ G H, envOf G = env → Now F G R σ H → Q H) :
    ∃ x, G[i]? = some (some x) ∧ rSetL x.v (.int j) e.v H Q := by
  simp only [storeE] at hs
  split at hs
  · rename_i ds ti h1
    obtain ⟨x, hx, hd, hti⟩ := envOf_inv h1
    split at hs
    · rename_i k t' hk ht
      cases hs
      have nsh : x.t ≠ .sh := by
        intro z; rw [← hti, z] at ht; simp [setTag] at ht
      obtain ⟨a, xs, fs, hv, hfp, hHa, hrl, hm⟩ := n.mutList hx hd nsh
      have hkl : k < ds.length := by
        unfold ixN at hk
        split at hk
        · split at hk <;> simp at hk; omega
        · split at hk <;> simp at hk; omega
      obtain ⟨f0, f, f1, y, e1, e2, e3, _, e5⟩ := repL_split k ds[k] hrl (List.getElem?_eq_getElem hkl)
      have re := n.es_rep e (List.mem_singleton.mpr rfl)
      have sb : ∀ b ∈ f0 ++ (e.fp ++ f1), b ∈ fs ∨ ∃ y ∈ [e], b ∈ y.fp := fun b hb => by
        rcases List.mem_append.mp hb with hb | hb
        · exact .inl (by rw [e1]; exact List.mem_append_left _ hb)
        · rcases List.mem_append.mp hb with hb | hb
          · exact .inr ⟨e, List.mem_singleton.mpr rfl, hb⟩
          · exact .inl (by rw [e1]; exact List.mem_append_right _ (List.mem_append_right _ hb))
      have n2 := hm (ds.set k e.d) (xs.set k e.v) (f0 ++ (e.fp ++ f1)) t' [] (e5 _ _ _ re) sb (by
          rw [← hti] at ht
          unfold setTag at ht
          split at ht
          · cases ht
          · rename_i z; cases ht; exact .inr (.inl ⟨rfl, by rw [z]; simp⟩)
          · rename_i z
            split at ht
            · rename_i z2
              cases ht
              have e0 := rep_noMut _ _ _ z2 re
              refine .inr (.inr ⟨rfl, z, ?_, fun b hb => ?_⟩)
              · have := n.drop.unqNd hx hfp z
                rw [e1, List.nodup_append] at this
                obtain ⟨p1, p2, p3⟩ := this
                rw [List.nodup_append] at p2
                rw [e0, List.nil_append, List.nodup_append]
                exact ⟨p1, p2.2.1, fun c hc c' hc' => p3 c hc c' (List.mem_append_right _ hc')⟩
              · rcases sb b hb with q | ⟨y, hy, q⟩
                · exact .inl q
                · rcases List.mem_singleton.mp hy with rfl
                  rw [e0] at q; cases q
            · cases ht; exact .inr (.inl ⟨rfl, by rw [z]; simp⟩)
          · rename_i z
            split at ht
            · rename_i z2
              cases ht
              have e0 := rep_noMut _ _ _ z2 re
              have := n.drop.parFs hx hfp z
              rw [e1] at this
              simp only [List.append_eq_nil_iff] at this
              refine .inl ⟨rfl, z, ?_⟩
              rw [e0, this.1, this.2.2]; rfl
            · cases ht)
        (fun r hr => by cases hr) (by simp)
      refine ⟨x, hx, a, xs, j, k, hv, rfl, hHa, by rw [hrl.length]; exact hk, ?_⟩
      rw [List.append_nil] at n2
      refine h _ _ ?_ n2
      rw [envOf_set]; rfl
    · cases hs
  · cases hs
def gSetI (i : Nat) (f : ER) : GR := fun p env => match env[i]? with
  | some (some _) => (f env).bind fun q => (match q.1.d q.2 with
    | some (.int j) => storeE i j p q.2
    | _ => .bad)
  | _ => .bad
theorem spec_gSetI {t : TE} {f : ER} (i : Nat) (hf : SpecE K W t f) : SpecG K W (gSub (tVar i) t rSetL) (gSetI i f) := fun F G R σ H e Q hK n h => by
  simp only [gSetI] at h
  split at h
  · rename_i p h0
    obtain ⟨d0, t0⟩ := p
    obtain ⟨x0, hx0, hd0, _⟩ := envOf_inv h0
    have hσ := n.sl.val i x0 hx0
    refine ⟨x0.v, hσ, ?_⟩
    refine hf F G (R ++ [e]) σ H _ hK n ?_
    cases q : f (envOf G) with
    | bad => rw [q] at h; exact h
    | exc c env =>
      rw [q] at h
      exact fun G1 H1 g1 n1 => h G1 σ H1 g1 n1.drop
    | ok p =>
      obtain ⟨o, env⟩ := p
      rw [q] at h
      intro G1 H1 es v g1 n1 w
      subst g1
      simp only [Res.bind] at h
      split at h
      · rename_i j hj
        have hv := int_of n1 w hj
        subst hv
        cases q2 : storeE i j (e.d, e.t) (envOf G1) with
        | bad => rw [q2] at h; exact h.elim
        | exc c env =>
          exfalso
          unfold storeE at q2
          split at q2
          · split at q2 <;> cases q2
          · cases q2
        | ok env =>
          rw [q2] at h
          obtain ⟨x, hx, q3⟩ := store_of (Q := fun H3 => Q σ H3) n1.drop q2 fun G2 H2 g2 n2 => h G2 σ H2 g2 n2
          have hvv : x0.v = x.v := Option.some.inj (Option.some.inj (hσ.symm.trans (n1.sl.val i x hx)))
          rw [hvv]; exact q3
      · exact h.elim
  · exact h.elim
end
end VL
end
section
set_option Elab.async false
set_option linter.all false
set_option maxRecDepth 100000
namespace VL
open PySem PySem.Spec PyProof.Rows L2

section
variable {K : PySem.W.Frag} {W : WV} {F : Frm} {G G' : List (Option Ent)} {H H' : Hp} {e x p : Ent} {i : Nat} {R ps Δ es : List Ent} {σ : L2.St} {vs : List V} {ds : List D}
/-! ### what is walked -/
theorem Now.dropM (n : Now F G (R ++ ps ++ es) σ H) : Now F G (R ++ es) σ H := by
  have : Now F G (R ++ (ps ++ es)) σ H := by rw [← List.append_assoc]; exact n
  have := this.perm (es' := es ++ ps) List.perm_append_comm
  rw [← List.append_assoc] at this
  exact this.drop
theorem SOut.mono {o : Out} {D : Ends} (h : SOut F R W o D) : SOut F (R ++ ps) W o D := by
  cases o with
  | nx env => exact fun G σ H g n => h G σ H g n.drop
  | bk env => exact fun G σ H g n => h G σ H g n.drop
  | ct env => exact fun G σ H g n => h G σ H g n.drop
  | rt d t env => exact fun G σ H e g n => h G σ H e g n.dropM
  | exc c env => exact fun G σ H g n => h G σ H g n.drop
  | bad => exact h
/-- a part of something shared is at hand -/
theorem Now.part (n : Now F G (R ++ p :: Δ) σ H) (hp : p.t = .sh) {v : V} {d : D} {fp : List Addr} (r : Rep F.K H d v fp) (s : ∀ b ∈ fp, b ∈ p.fp) : ∃ fp', Now F G ((R ++ p :: Δ) ++ [⟨v, d, partTag .sh d, fp'⟩]) σ H := by
  by_cases hm : noMut d = true
  · refine ⟨[], ?_⟩
    have : partTag .sh d = .unq := by unfold partTag; simp [hm]
    rw [this]
    exact n.push_noMut r hm
  · refine ⟨fp, ?_⟩
    have e1 : partTag .sh d = .sh := by unfold partTag; simp [hm]
    rw [e1]
    refine ⟨?_, n.sl⟩
    obtain ⟨k, _, hk⟩ := n.es_at (x := p) (List.mem_cons_self ..)
    have g := n.gd.push (e := ⟨v, d, .sh, fp⟩) ⟨r, fun b hb => (n.gd.ok k p hk).al b (s b hb), trivial⟩ fun j y hj => ⟨trivial, by
      by_cases hjk : j = k
      · subst hjk
        rw [hk] at hj; cases hj
        unfold Sep1; rw [hp]; trivial
      · exact sep1_sub (n.gd.sep j k y p hjk hj hk) s⟩
    simpa using g
/-- J gives ds, one by one, while the pins stand -/
structure JOk (J : It) (F : Frm) (ps : List Ent) (ds : List (D × Tag)) : Prop where
  item : ∀ (G : List (Option Ent)) (R Δ : List Ent) (σ : L2.St) (H : Hp) (i : Nat) (p : D × Tag), Now F G (R ++ ps ++ Δ) σ H → ds[i]? = some p → J.go i H ∧ ∀ x H', J.yld i H x H' → ∃ e : Ent, e.v = x ∧ (e.d, e.t) = p ∧ Now F G (R ++ ps ++ Δ ++ [e]) σ H'
  stop : ∀ (G : List (Option Ent)) (R Δ : List Ent) (σ : L2.St) (H : Hp), Now F G (R ++ ps ++ Δ) σ H → J.stop ds.length H
abbrev IR := Env → Res (List (D × Tag) × Env)
def IOut (F : Frm) (R : List Ent) (σ : L2.St) (W : WV) (r : Res (List (D × Tag) × Env)) (Q : It → Hp → Prop) : Prop := match r with
  | .ok (ds, env) => ∀ G H J ps, envOf G = env → Now F G (R ++ ps) σ H → JOk J F ps ds → Q J H
  | .exc c env => ∀ G H, envOf G = env → Now F G R σ H → W c σ H
  | .bad => False
def SpecI (K : PySem.W.Frag) (W : WV) (t : TI) (f : IR) : Prop := ∀ F G R σ H Q, F.K = K → Now F G R σ H → IOut F R σ W (f (envOf G)) Q → t σ H Q

/-! ### for -/
def forE (g : GR) (b : SR) : List (D × Tag) → Env → Out
  | [], env => .nx env
  | d :: ds, env => (g d env).out fun e1 => match b e1 with
    | .nx e => forE g b ds e
    | .ct e => forE g b ds e
    | .bk e => .nx e
    | o => o
def sFor (fi : IR) (g : GR) (b : SR) : SR := fun env => (fi env).out fun p => forE g b p.1 p.2
theorem spec_sFor {wi : TI} {fi : IR} {tg : TG} {g : GR} {tb : TS} {b : SR} (hi : SpecI K W wi fi) (hg : SpecG K W tg g) (hb : SpecS K W tb b) : SpecS K W (tFor wi tg tb) (sFor fi g b) := fun F G R σ H D hK n h => by
  refine hi F G R σ H _ hK n ?_
  simp only [sFor] at h
  cases q : fi (envOf G) with
  | bad => rw [q] at h; exact h
  | exc c env => rw [q] at h; exact fun G1 H1 g1 n1 => h G1 σ H1 g1 n1
  | ok p =>
    obtain ⟨ds, env⟩ := p
    rw [q] at h
    intro G1 H1 J ps g1 n1 jok
    subst g1
    refine ⟨fun i m σ H => m = ds.length - i ∧ i ≤ ds.length ∧ ∃ G, Now F G (R ++ ps) σ H ∧ SOut F (R ++ ps) W (forE g b (ds.drop i) (envOf G)) D, ⟨ds.length, by simp, Nat.zero_le _, G1, n1, ?_⟩, ?_⟩
    · exact SOut.mono (ps := ps) h
    · rintro i m σ2 H2 ⟨rfl, hi, G2, n2, so⟩
      have n2' : Now F G2 (R ++ ps ++ []) σ2 H2 := by simpa using n2
      by_cases hlt : i < ds.length
      · have hd : ds[i]? = some ds[i] := List.getElem?_eq_getElem hlt
        obtain ⟨go, yl⟩ := jok.item G2 R [] σ2 H2 i _ n2' hd
        refine .inr ⟨go, fun σ' H' => ∃ G, Now F G (R ++ ps) σ' H' ∧ SOut F (R ++ ps) W (forE g b (ds.drop (i + 1)) (envOf G)) D, fun σ' H' h' => ⟨ds.length - (i + 1), by omega, rfl, hlt, h'⟩, fun x H3 hy => ?_⟩
        obtain ⟨e, rfl, e2, n3⟩ := yl x H3 hy
        have n3' : Now F G2 ((R ++ ps) ++ [e]) σ2 H3 := by simpa using n3
        refine hg F G2 (R ++ ps) σ2 H3 e _ hK n3' ?_
        rw [e2]
        rw [List.drop_eq_getElem_cons hlt] at so
        simp only [forE] at so
        cases q3 : g ds[i] (envOf G2) with
        | bad => rw [q3] at so; exact so
        | exc c env => rw [q3] at so; exact so
        | ok env =>
          rw [q3] at so
          intro G4 σ4 H4 g4 n4
          subst g4
          refine hb F G4 (R ++ ps) σ4 H4 _ hK n4 ?_
          simp only [Res.out] at so
          cases q4 : b (envOf G4) with
          | nx env => rw [q4] at so; exact fun G5 σ5 H5 g5 n5 => ⟨G5, n5, by rw [g5]; exact so⟩
          | ct env => rw [q4] at so; exact fun G5 σ5 H5 g5 n5 => ⟨G5, n5, by rw [g5]; exact so⟩
          | bk env => rw [q4] at so; exact so
          | rt d t env => rw [q4] at so; exact so
          | exc c env => rw [q4] at so; exact so
          | bad => rw [q4] at so; exact so
      · have e1 : i = ds.length := by omega
        subst e1
        refine .inl ⟨jok.stop G2 R [] σ2 H2 n2', ?_⟩
        rw [List.drop_length] at so
        exact so G2 σ2 H2 rfl n2

/-! ### while -/
def whileE (c : TR) (b : SR) : Nat → Env → Out
  | 0, _ => .bad
  | n + 1, env => (c env).out fun p => if p.1 then (match b p.2 with
    | .nx e => whileE c b n e
    | .ct e => whileE c b n e
    | .bk e => .nx e
    | o => o) else .nx p.2
def fuel : Nat := 1000000000000
def sWhile (c : TR) (b : SR) : SR := fun env => whileE c b fuel env
theorem spec_sWhile {tc : TT} {c : TR} {tb : TS} {b : SR} (hc : SpecT K W tc c) (hb : SpecS K W tb b) : SpecS K W (tWhile tc tb) (sWhile c b) := fun F G R σ H D hK n h => by
  refine ⟨fun m σ H => ∃ G, Now F G R σ H ∧ SOut F R W (whileE c b m (envOf G)) D, ⟨fuel, G, n, h⟩, ?_⟩
  rintro m σ1 H1 ⟨G1, n1, so⟩
  cases m with
  | zero => exact so.elim
  | succ m =>
    refine hc F G1 R σ1 H1 _ hK n1 ?_
    simp only [whileE] at so
    cases q : c (envOf G1) with
    | bad => rw [q] at so; exact so
    | exc c env => rw [q] at so; exact fun G2 H2 g2 n2 => so G2 σ1 H2 g2 n2
    | ok p =>
      obtain ⟨k, env⟩ := p
      rw [q] at so
      intro G2 H2 g2 n2
      subst g2
      simp only [Res.out] at so
      cases k with
      | false => exact iteF (so G2 σ1 H2 rfl n2)
      | true =>
        refine iteT ⟨fun σ' H' => ∃ G, Now F G R σ' H' ∧ SOut F R W (whileE c b m (envOf G)) D, fun σ' H' h' => ⟨m, Nat.lt_succ_self m, h'⟩, ?_⟩
        refine hb F G2 R σ1 H2 _ hK n2 ?_
        simp only [if_true] at so
        cases q4 : b (envOf G2) with
        | nx env => rw [q4] at so; exact fun G5 σ5 H5 g5 n5 => ⟨G5, n5, by rw [g5]; exact so⟩
        | ct env => rw [q4] at so; exact fun G5 σ5 H5 g5 n5 => ⟨G5, n5, by rw [g5]; exact so⟩
        | bk env => rw [q4] at so; exact so
        | rt d t env => rw [q4] at so; exact so
        | exc c env => rw [q4] at so; exact so
        | bad => rw [q4] at so; exact so

/-! ### the things walked -/
/-- a list, a tuple or a text -/
def iSeq (K : PySem.W.Frag) (te : TE) : TI := fun σ H R => te σ H fun v H1 => (∃ a, v = .ref a ∧ (∃ xs, SqL K H1 a xs) ∧ R (Itl K a) H1) ∨ (∃ a, v = .ref a ∧ (∃ xs, SqT K H1 a xs) ∧ R (Itt K a) H1) ∨ ∃ x, v = .str x ∧ R (Its x) H1
theorem pi_seq {X : Cx} {tg l : Expr} {tl : TE} (hl : PE X l tl) : PI X tg l (iSeq X.K tl) := by
  refine ⟨fun pins s σ H R I h => ?_⟩
  refine thn (hl.run pins s σ H _ I h) fun v s1 ⟨x, H1, I1, r1, q1⟩ => ?_
  have pl : ∀ t, PE X l t → True := fun _ _ => trivial
  rcases q1 with ⟨a, e, ⟨xs, hq⟩, q⟩ | ⟨a, e, ⟨xs, hq⟩, q⟩ | ⟨y, e, q⟩
  · subst e
    cases r1
    obtain ⟨its, rv, p, hz⟩ := I1.list hq
    refine wpAny_pyIter_list p.isList ?_
    refine ⟨s1.heap.objs.size, [s1.heap.objs.size], _, _, H1, rfl, I1.kept (t' := s1.toks) fun b o e => Heap.get?_push_of_some _ e, turn_list a _, ⟨_, Heap.get?_push_size _ rfl, rfl, rfl⟩, fun b hb => ?_, q⟩
    have e : b = s1.heap.objs.size := by simpa using hb
    subst e
    exact I1.fpOk (Nat.le_refl _) (I1.hok.fresh (Nat.le_refl _))
  · subst e
    cases r1
    obtain ⟨its, rv, p, hz⟩ := I1.tuple hq
    refine wpAny_pyIter_tuple (show s1.heap.IsTuple a its.toArray from p) ?_
    refine ⟨s1.heap.objs.size, [s1.heap.objs.size], _, _, H1, rfl, I1.kept (t' := s1.toks) fun b o e => Heap.get?_push_of_some _ e, turn_tuple a _, ⟨_, Heap.get?_push_size _ rfl, rfl, rfl⟩, fun b hb => ?_, q⟩
    have e : b = s1.heap.objs.size := by simpa using hb
    subst e
    exact I1.fpOk (Nat.le_refl _) (I1.hok.fresh (Nat.le_refl _))
  · subst e
    obtain ⟨t, rfl⟩ := r1
    cases ha : y.cps.all (· < 128)
    · exact wpAny_pyIter_wide ha (pi_one (tk := s1.toks) I1 _ (turn_str _ y t "str_iterator" (.inr rfl)) ⟨_, Heap.get?_push_size _ rfl, rfl, rfl⟩ q)
    · exact wpAny_pyIter_ascii ha (pi_one (tk := s1.toks) I1 _ (turn_str _ y t "str_ascii_iterator" (.inl rfl)) ⟨_, Heap.get?_push_size _ rfl, rfl, rfl⟩ q)
def chars (s : Str) : List D := s.cps.toList.map fun c => .str ⟨#[c]⟩
def itemsOf (d : D) : Option (List D) := match d with
  | .list ds => some ds
  | .tuple ds => some ds
  | .str s => some (chars s)
  | _ => none
def unqOf (ds : List D) : List (D × Tag) := ds.map fun d => (d, partTag .sh d)
def iSeqE (f : ER) : IR := fun env => (f env).bind fun p => match p.1 with
  | .val d _ => (match itemsOf d with
    | some ds => .ok (unqOf ds, p.2)
    | none => .bad)
  | .slot _ => .bad
theorem Now.toSh (n : Now F G (R ++ [e]) σ H) : Now F G (R ++ [e.toSh]) σ H := by
  refine ⟨?_, n.sl⟩
  have hl : (G ++ (R ++ [e]).map some)[(G ++ R.map some).length]? = some (some e) := by simp
  have g := n.gd.toSh hl
  have : (G ++ (R ++ [e]).map some).set (G ++ R.map some).length (some e.toSh) = G ++ (R ++ [e.toSh]).map some := by
    rw [List.map_append, ← List.append_assoc, List.set_append_right _ _ (Nat.le_refl _)]
    simp
  rw [this] at g
  exact g
theorem unqOf_get {i : Nat} {q : D × Tag} (h : (unqOf ds)[i]? = some q) : ∃ d, ds[i]? = some d ∧ q = (d, partTag .sh d) := by
  unfold unqOf at h
  rw [List.getElem?_map] at h
  cases q2 : ds[i]? with
  | none => rw [q2] at h; cases h
  | some d => rw [q2] at h; simp at h; exact ⟨d, rfl, h.symm⟩
theorem Now.pinRep (n : Now F G (R ++ [p] ++ Δ) σ H) : Rep F.K H p.d p.v p.fp := by
  have n' : Now F G (R ++ ([p] ++ Δ)) σ H := by rw [← List.append_assoc]; exact n
  exact n'.es_rep p (by simp)
theorem Now.pinPart (n : Now F G (R ++ [p] ++ Δ) σ H) (hp : p.t = .sh) {v : V} {d : D} {fp : List Addr} (r : Rep F.K H d v fp) (s : ∀ b ∈ fp, b ∈ p.fp) : ∃ fp', Now F G (R ++ [p] ++ Δ ++ [⟨v, d, partTag .sh d, fp'⟩]) σ H := by
  have n' : Now F G (R ++ p :: Δ) σ H := by simpa using n
  obtain ⟨f, n2⟩ := n'.part hp r s
  exact ⟨f, by simpa using n2⟩
theorem jok_list {a : Addr} (hK : F.K = K) (hv : p.v = .ref a) (hd : p.d = .list ds) (ht : p.t = .sh) : JOk (Itl K a) F [p] (unqOf ds) := by
  subst hK
  refine ⟨fun G R Δ σ H i q n hq => ?_, fun G R Δ σ H n => ?_⟩
  · obtain ⟨d, hdi, rfl⟩ := unqOf_get hq
    have r := n.pinRep
    rw [hd, hv] at r
    simp only [Rep] at r
    obtain ⟨a', xs, fs, e1, e2, e3, e4⟩ := r
    cases e1
    obtain ⟨v, f, h1, h2, h3⟩ := e3.get i d hdi
    refine ⟨⟨xs, v, .inl e2, h1⟩, fun x H' y => ?_⟩
    obtain ⟨rfl, y⟩ := y
    have := y xs (.inl e2)
    rw [h1] at this; cases this
    obtain ⟨fp', n2⟩ := n.pinPart ht h2 fun b hb => by rw [e4]; exact List.mem_cons_of_mem _ (h3.subset hb)
    exact ⟨_, rfl, rfl, n2⟩
  · have r := n.pinRep
    rw [hd, hv] at r
    simp only [Rep] at r
    obtain ⟨a', xs, fs, e1, e2, e3, e4⟩ := r
    cases e1
    exact ⟨xs, .inl e2, by rw [e3.length]; simp [unqOf]⟩
theorem jok_tup {a : Addr} (hK : F.K = K) (hv : p.v = .ref a) (hd : p.d = .tuple ds) (ht : p.t = .sh) : JOk (Itt K a) F [p] (unqOf ds) := by
  subst hK
  refine ⟨fun G R Δ σ H i q n hq => ?_, fun G R Δ σ H n => ?_⟩
  · obtain ⟨d, hdi, rfl⟩ := unqOf_get hq
    have r := n.pinRep
    rw [hd, hv] at r
    simp only [Rep] at r
    obtain ⟨a', xs, e1, e2, e3⟩ := r
    cases e1
    obtain ⟨v, f, h1, h2, h3⟩ := e3.get i d hdi
    refine ⟨⟨xs, v, e2, h1⟩, fun x H' y => ?_⟩
    obtain ⟨rfl, y⟩ := y
    have := y xs e2
    rw [h1] at this; cases this
    obtain ⟨fp', n2⟩ := n.pinPart ht h2 fun b hb => h3.subset hb
    exact ⟨_, rfl, rfl, n2⟩
  · have r := n.pinRep
    rw [hd, hv] at r
    simp only [Rep] at r
    obtain ⟨a', xs, e1, e2, e3⟩ := r
    cases e1
    exact ⟨xs, e2, by rw [e3.length]; simp [unqOf]⟩
/-- values that are no objects -/
theorem jok_plain {J : It} {vs : List V} (n : vs.length = ds.length) (hds : noMutL ds = true) (go : ∀ i H, i < ds.length → J.go i H) (st : ∀ H, J.stop ds.length H)
    (yl : ∀ i H x H', i < ds.length → J.yld i H x H' → H' = H ∧ vs[i]? = some x) (rp : ∀ (i : Nat) d v, ds[i]? = some d → vs[i]? = some v → ∀ H, Rep F.K H d v []) {ps : List Ent} : JOk J F ps (unqOf ds) := by
  refine ⟨fun G R Δ σ H i q n hq => ?_, fun G R Δ σ H n => ?_⟩
  · obtain ⟨d, hdi, rfl⟩ := unqOf_get hq
    have hi := (List.getElem?_eq_some_iff.mp hdi).1
    refine ⟨go i H hi, fun x H' y => ?_⟩
    obtain ⟨rfl, y2⟩ := yl i H x H' hi y
    have nm : noMut d = true := by
      have : ∀ {l : List D} {j : Nat} {d : D}, noMutL l = true → l[j]? = some d → noMut d = true := by
        intro l
        induction l with
        | nil => intro j d _ h; simp at h
        | cons a l ih =>
          intro j d h q
          simp only [noMutL, Bool.and_eq_true] at h
          cases j with
          | zero => simp at q; rw [← q]; exact h.1
          | succ j => exact ih h.2 (by simpa using q)
      exact this hds hdi
    have e1 : partTag .sh d = .unq := by unfold partTag; simp [nm]
    exact ⟨⟨x, d, .unq, []⟩, rfl, by rw [e1], n.scalar (rp i d x hdi y2 _)⟩
  · rw [show (unqOf ds).length = ds.length by simp [unqOf]]; exact st H
theorem chars_noMut (s : Str) : noMutL (chars s) = true := by
  unfold chars
  generalize s.cps.toList = l
  induction l with
  | nil => rfl
  | cons a l ih => simp only [List.map_cons, noMutL, noMut, ih, Bool.and_self]
theorem jok_str {s : Str} {ps : List Ent} : JOk (Its s) F ps (unqOf (chars s)) := by
  have len : (chars s).length = s.cps.size := by simp [chars]
  refine jok_plain (vs := s.cps.toList.map fun c => V.str ⟨#[c]⟩) (by simp [chars]) (chars_noMut s) (fun i H hi => by rw [len] at hi; exact hi) (fun H => by rw [len]; exact Nat.le_refl _) (fun i H x H' hi y => ?_) (fun i d v h1 h2 H => ?_)
  · obtain ⟨rfl, c, hc, rfl⟩ := y
    exact ⟨rfl, by simp [hc]⟩
  · unfold chars at h1
    rw [List.getElem?_map] at h1 h2
    cases q : s.cps.toList[i]? with
    | none => rw [q] at h1; cases h1
    | some c => rw [q] at h1 h2; simp at h1 h2; rw [← h1, ← h2]; exact rep_str _
theorem spec_iSeq {te : TE} {f : ER} (he : SpecE K W te f) : SpecI K W (iSeq K te) (iSeqE f) := fun F G R σ H Q hK n h => by
  refine he F G R σ H _ hK n ?_
  simp only [iSeqE] at h
  cases q : f (envOf G) with
  | bad => rw [q] at h; exact h
  | exc c env => rw [q] at h; exact h
  | ok p =>
    obtain ⟨o, env⟩ := p
    rw [q] at h
    intro G1 H1 es v g1 n1 w
    cases o with
    | slot i => exact h.elim
    | val d t =>
      obtain ⟨e, r, s, rfl, e1, e2, e3, rfl, rfl⟩ := w
      cases e3
      simp only [Res.bind] at h
      have n2 := n1.toSh
      have rp := n1.es_rep e (List.mem_singleton.mpr rfl)
      cases d with
      | list ds =>
        have rp' := rp
        rw [e1] at rp'
        simp only [Rep] at rp'
        obtain ⟨a, xs, fs, q1, q2, q3, q4⟩ := rp'
        exact .inl ⟨a, q1, ⟨xs, .inl q2⟩, h G1 H1 _ [e.toSh] g1 n2 (jok_list hK q1 e1 rfl)⟩
      | tuple ds =>
        have rp' := rp
        rw [e1] at rp'
        simp only [Rep] at rp'
        obtain ⟨a, xs, q1, q2, q3⟩ := rp'
        exact .inr (.inl ⟨a, q1, ⟨xs, by rw [← hK]; exact q2⟩, h G1 H1 _ [e.toSh] g1 n2 (jok_tup hK q1 e1 rfl)⟩)
      | str z =>
        have rp' := rp
        rw [e1] at rp'
        simp only [Rep] at rp'
        exact .inr (.inr ⟨z, rp'.1, h G1 H1 _ [e.toSh] g1 n2 jok_str⟩)
      | _ => exact h.elim
/-! ranges -/
def rngL (lo c : Int) (n : Nat) : List D := (List.range n).map fun k : Nat => .int (lo + (k : Int) * c)
theorem rng_noMut (lo c : Int) (n : Nat) : noMutL (rngL lo c n) = true := by
  unfold rngL
  generalize List.range n = l
  induction l with
  | nil => rfl
  | cons a l ih => simp only [List.map_cons, noMutL, noMut, ih, Bool.and_self]
theorem jok_rngC {lo c : Int} {n : Nat} {ps : List Ent} : JOk (Itc lo c n) F ps (unqOf (rngL lo c n)) := by
  have len : (rngL lo c n).length = n := by simp [rngL]
  refine jok_plain (vs := (List.range n).map fun k : Nat => V.int (lo + (k : Int) * c)) (by simp [rngL]) (rng_noMut ..) (fun i H hi => by rw [len] at hi; exact hi) (fun H => by rw [len]; exact Nat.le_refl _) (fun i H x H' hi y => ?_) (fun i d v h1 h2 H => ?_)
  · obtain ⟨rfl, rfl⟩ := y
    rw [len] at hi
    exact ⟨rfl, by simp [hi]⟩
  · have hi : i < n := by have := (List.getElem?_eq_some_iff.mp h1).1; rw [len] at this; exact this
    simp [rngL, hi] at h1 h2
    rw [← h1, ← h2]; exact rep_int _
theorem jok_rng {lo : Int} {n : Nat} {ps : List Ent} : JOk (Itr lo n) F ps (unqOf (rngL lo 1 n)) := by
  have len : (rngL lo 1 n).length = n := by simp [rngL]
  refine jok_plain (vs := (List.range n).map fun k : Nat => V.int (lo + (k : Int) * 1)) (by simp [rngL]) (rng_noMut ..) (fun i H hi => by rw [len] at hi; exact hi) (fun H => by rw [len]; exact Nat.le_refl _) (fun i H x H' hi y => ?_) (fun i d v h1 h2 H => ?_)
  · obtain ⟨rfl, rfl⟩ := y
    rw [len] at hi
    exact ⟨rfl, by simp [hi]⟩
  · have hi : i < n := by have := (List.getElem?_eq_some_iff.mp h1).1; rw [len] at this; exact this
    simp [rngL, hi] at h1 h2
    rw [← h1, ← h2]; exact rep_int _
def big : Int := 4611686018427387904
/-- (in a form that stands still on what is not known) -/
def inBig (j : Int) : Bool := Nat.ble j.natAbs 4611686018427387903
theorem inBig_ok {j : Int} (h : inBig j = true) : -(2 ^ 62) ≤ j ∧ j < 2 ^ 62 := by
  unfold inBig at h
  have h := Nat.le_of_ble_eq_true h
  have : (2 : Int) ^ 62 = 4611686018427387904 := by decide
  rw [this]; omega
def iRng1E (a : AR) : IR := fun env => (a env).bind fun p => match opsD p.2 p.1 with
  | some [.int j] => if inBig j then .ok (unqOf (rngL 0 1 j.toNat), p.2) else .bad
  | _ => .bad
def iRng2E (a : AR) : IR := fun env => (a env).bind fun p => match opsD p.2 p.1 with
  | some [.int i, .int j] => if inBig i && inBig j then .ok (unqOf (rngL i 1 (j - i).toNat), p.2) else .bad
  | _ => .bad
theorem Now.opsRep (n : Now F G (R ++ es) σ H) {os : List Opd} {vs : List V} {ds : List D} (w : OpsV σ os es vs) (hd : opsD (envOf G) os = some ds) :
    ∃ xs : List Ent, vs = xs.map (·.v) ∧ ds = xs.map (·.d) ∧ ∀ x ∈ xs, Rep F.K H x.d x.v x.fp := by
  obtain ⟨xs, e1, e2, hx⟩ := opsV_ents n.sl w hd
  exact ⟨xs, e1, e2, fun x hxm => n.rep (hx x hxm)⟩
theorem rep_intV {K : PySem.W.Frag} {H : Hp} {e : Ent} {j : Int} (r : Rep K H e.d e.v e.fp) (h : e.d = .int j) : e.v = .int j := by
  rw [h] at r; simp only [Rep] at r; exact r.1
theorem spec_iRng1 {ta : TA} {a : AR} (ha : SpecA K W ta a) : SpecI K W (iRng1 ta) (iRng1E a) := fun F G R σ H Q hK n h => by
  refine ha F G R σ H _ hK n ?_
  simp only [iRng1E] at h
  cases q : a (envOf G) with
  | bad => rw [q] at h; exact h
  | exc c env => rw [q] at h; exact h
  | ok p =>
    obtain ⟨os, env⟩ := p
    rw [q] at h
    intro G1 H1 es vs g1 n1 w
    subst g1
    simp only [Res.bind] at h
    split at h
    · rename_i j hj
      split at h
      · rename_i hb
        obtain ⟨xs, rfl, e2, hx⟩ := n1.opsRep w hj
        match xs, e2, hx with
        | [x], e2, hx =>
          simp at e2
          have hv := rep_intV (hx x (by simp)) e2.symm
          obtain ⟨b1, b2⟩ := inBig_ok hb
          exact ⟨j, by simp [hv], b1, b2, h G1 H1 _ es rfl n1 jok_rng⟩
        | [], e2, _ => simp at e2
        | _ :: _ :: _, e2, _ => simp at e2
      · exact h.elim
    · exact h.elim
theorem spec_iRng2 {ta : TA} {a : AR} (ha : SpecA K W ta a) : SpecI K W (iRng2 ta) (iRng2E a) := fun F G R σ H Q hK n h => by
  refine ha F G R σ H _ hK n ?_
  simp only [iRng2E] at h
  cases q : a (envOf G) with
  | bad => rw [q] at h; exact h
  | exc c env => rw [q] at h; exact h
  | ok p =>
    obtain ⟨os, env⟩ := p
    rw [q] at h
    intro G1 H1 es vs g1 n1 w
    subst g1
    simp only [Res.bind] at h
    split at h
    · rename_i i j hj
      split at h
      · rename_i hb
        obtain ⟨xs, rfl, e2, hx⟩ := n1.opsRep w hj
        match xs, e2, hx with
        | [x, y], e2, hx =>
          simp at e2
          have hv := rep_intV (hx x (by simp)) e2.1.symm
          have hv2 := rep_intV (hx y (by simp)) e2.2.symm
          rw [Bool.and_eq_true] at hb
          obtain ⟨b1, b2⟩ := inBig_ok hb.1
          obtain ⟨b3, b4⟩ := inBig_ok hb.2
          exact ⟨i, j, by simp [hv, hv2], ⟨b1, b2, b3, b4⟩, h G1 H1 _ es rfl n1 jok_rng⟩
        | [], e2, _ => simp at e2
        | [_], e2, _ => simp at e2
        | _ :: _ :: _ :: _, e2, _ => simp at e2
      · exact h.elim
    · exact h.elim
/-- down: range(i, j, -1) -/
def iRngDE (a : AR) : IR := fun env => (a env).bind fun p => match opsD p.2 p.1 with
  | some [.int i, .int j, .int (-1)] => if inBig i && inBig j then .ok (unqOf (rngL i (-1) (i - j).toNat), p.2) else .bad
  | _ => .bad
theorem spec_iRngD {ta : TA} {a : AR} (ha : SpecA K W ta a) : SpecI K W (iRng3 ta) (iRngDE a) := fun F G R σ H Q hK n h => by
  refine ha F G R σ H _ hK n ?_
  simp only [iRngDE] at h
  cases q : a (envOf G) with
  | bad => rw [q] at h; exact h
  | exc c env => rw [q] at h; exact h
  | ok p =>
    obtain ⟨os, env⟩ := p
    rw [q] at h
    intro G1 H1 es vs g1 n1 w
    subst g1
    simp only [Res.bind] at h
    split at h
    · rename_i i j hj
      split at h
      · rename_i hb
        obtain ⟨xs, rfl, e2, hx⟩ := n1.opsRep w hj
        match xs, e2, hx with
        | [x, y, z], e2, hx =>
          simp at e2
          have hv := rep_intV (hx x (by simp)) e2.1.symm
          have hv2 := rep_intV (hx y (by simp)) e2.2.1.symm
          have hv3 := rep_intV (hx z (by simp)) e2.2.2.symm
          rw [Bool.and_eq_true] at hb
          obtain ⟨b1, b2⟩ := inBig_ok hb.1
          obtain ⟨b3, b4⟩ := inBig_ok hb.2
          exact ⟨i, j, -1, (i - j).toNat, by simp [hv, hv2, hv3], RgC.neg b1 b2 b3 b4, h G1 H1 _ es rfl n1 jok_rngC⟩
        | [], e2, _ => simp at e2
        | [_], e2, _ => simp at e2
        | [_, _], e2, _ => simp at e2
        | _ :: _ :: _ :: _ :: _, e2, _ => simp at e2
      · exact h.elim
    · exact h.elim
end
end VL
end
section
set_option Elab.async false
set_option linter.all false
set_option maxRecDepth 100000
/-! enumerate(t), t a list or a tuple, walked by pairs -/
namespace PySem
open Sem (wp)
open AutoSeq1 (wpAny_loadPart')
theorem meets_enumT (l : Addr) (items : Array Value) (ob : Obj) :
    Meets (Builtin.«enumerate.__new__» ⟨[.type "enumerate", .ref l], []⟩) (fun _ R s => (s.heap.get? l = some ob ∧ s.heap.IsTuple l items) ∧
      R (.ok (.ret (.ref (s.heap.push { cls := .type "tuple_iterator", data := .fields #[.ref l, .int 0 0] }).objs.size)))
        { s with heap := (s.heap.push { cls := .type "tuple_iterator", data := .fields #[.ref l, .int 0 0] }).push { cls := .type "enumerate", data := .fields #[.none, .bool false, .ref s.heap.objs.size, rawInt 0, .none, .none] } }) :=
  .of_wp fun prog w A R s h => by
    obtain ⟨hp, g, d, tk, os⟩ := s
    obtain ⟨⟨hl, hL⟩, h⟩ := h
    have hsub := sub_enumerate
    wp_walk using wpAny_loadPart' hl
    refine wpAny_stack_any fun st => wpAny_pure ?_
    split
    · rename_i c _ _ _ _ _
      cases (c == Value.type "enumerate")
      · wp_walk using wpAny_loadPart' hl, wpAny_pyIter_tuple hL
        exact ⟨_, rfl, h⟩
      · wp_walk using wpAny_loadPart' hl, wpAny_pyIter_tuple hL
        exact ⟨_, rfl, h⟩
    · wp_walk using wpAny_loadPart' hl, wpAny_pyIter_tuple hL
      exact ⟨_, rfl, h⟩
theorem call_enumT {prog : Program} {w : World} {A : Around} {E : Value → Shared → Prop} {s : Shared} {l : Addr} {items : Array Value} {Q : Value → Shared → Prop} (hL : s.heap.IsTuple l items)
    (h : ∀ h', IsEnum h' (s.heap.objs.size + 1) s.heap.objs.size 0 .none → h'.IsTupleIter s.heap.objs.size l 0 → h'.objs.size = s.heap.objs.size + 2 →
      (∀ b o, s.heap.get? b = some o → h'.get? b = some o) → Q (.ref (s.heap.objs.size + 1)) { s with heap := h' }) :
    wpAny (model prog w) A (call (.type "enumerate") [.ref l]) Q E s := by
  obtain ⟨ob, hl, hrest⟩ := id hL
  refine callType_new F.called_enumerate (by decide) (F.typeCall_enumerate_1 _) (F.newCall_enumerate_1 _) (fun obj => F.args_object_init_2 obj _) F.entry_enumerate_new
    (meets_enumT l items ob) ⟨⟨hl, hL⟩, ?_⟩
  have hz : (s.heap.push { cls := .type "tuple_iterator", data := .fields #[.ref l, .int 0 0] }).objs.size = s.heap.objs.size + 1 := Heap.size_push ..
  show _ ∧ _
  rw [hz]
  have he : IsEnum ((s.heap.push { cls := .type "tuple_iterator", data := .fields #[.ref l, .int 0 0] }).push
      { cls := .type "enumerate", data := .fields #[.none, .bool false, .ref s.heap.objs.size, rawInt 0, .none, .none] }) (s.heap.objs.size + 1) s.heap.objs.size 0 .none := by
    have q := Heap.get?_push_size (s.heap.push { cls := .type "tuple_iterator", data := .fields #[.ref l, .int 0 0] })
      (o := { cls := .type "enumerate", data := .fields #[.none, .bool false, .ref s.heap.objs.size, rawInt 0, .none, .none] }) rfl
    rw [hz] at q; exact q
  exact ⟨⟨_, he, rfl⟩, h _ he ⟨_, Heap.get?_push_of_some _ (Heap.get?_push_size _ rfl), rfl, rfl⟩ (by rw [Heap.size_push, hz]) fun b o x => Heap.get?_push_of_some _ (Heap.get?_push_of_some _ x)⟩
end PySem
namespace VL
open PySem PySem.Spec PyProof.Rows L2
/-- the tuple at a, each item in a new pair -/
def IteT (K : PySem.W.Frag) (a : Addr) : It :=
  ⟨fun i H => ∃ (xs : List V) (x : V), SqT K H a xs ∧ xs[i]? = some x,
   fun i H v H' => ∃ T x, v = .ref T ∧ H T = none ∧ H' = upd H T (.tup [.int (i : Nat), x]) ∧ ∀ xs, SqT K H a xs → xs[i]? = some x,
   fun i H => ∃ xs : List V, SqT K H a xs ∧ xs.length = i⟩
theorem turn_enumT {P : Program} {w : World} {K : PySem.W.Frag} {elts : List Expr} {kk : Nat} {tpos : Pos} (a e it : Addr) (hat : a ≠ it) (hae : a ≠ e) :
    Turn P w K (.Tuple elts kk tpos) (IteT K a) [e, it] e (fun i h => (∃ old, IsEnum h e it ((i : Nat) : Int) old) ∧ h.IsTupleIter it a i ∧ e ≠ it) where
  mem := by simp
  obj := fun i h st b hb => by
    obtain ⟨⟨old, he⟩, ⟨o, ho, hc, hd⟩, _⟩ := st
    have e' : b = e ∨ b = it := by simpa using hb
    rcases e' with z | z
    · rw [z]; exact ⟨_, he, fun v q => nomatch q⟩
    · rw [z]; exact ⟨o, ho, fun v q => by rw [hd] at q; cases q⟩
  keep := fun i h h' st k => by
    obtain ⟨⟨old, he⟩, ⟨o, ho, hr⟩, hne⟩ := st
    exact ⟨⟨old, k e (by simp) _ he⟩, ⟨o, k it (by simp) _ ho, hr⟩, hne⟩
  item := by
    intro X hP hw hK hc i pins s σ H E I hf st hg
    subst hP hw hK
    obtain ⟨⟨old, he⟩, hit, hne⟩ := st
    obtain ⟨xs, x, hq, hx⟩ := hg
    obtain ⟨its, rv, p, hz⟩ := I.tuple hq
    obtain ⟨u, hu, ru⟩ := rv.get hx
    have hel : e < s.heap.objs.size := Heap.lt_size he
    have hil : it < s.heap.objs.size := by obtain ⟨_, q, _⟩ := hit; exact Heap.lt_size q
    have hT : s.heap.IsTuple a its.toArray := p
    have D : Draws X.prog X.w X.A.in1 it [it, a] its.toArray.size (fun i v => its.toArray[i]? = some v) (fun i h => h.IsTupleIter it a i ∧ h.IsTuple a its.toArray) := Draws.tuple (A := X.A.in1) (I.ok.hd hc) it a hat its.toArray
    have g := GoesN.enumFrom (elts := elts) (x1 := kk) (pos := tpos) 0 D e hne (by simp; exact ⟨hne, hae.symm⟩) (by simp)
    have hi : i < its.toArray.size := by
      have := (List.getElem?_eq_some_iff.mp hu).1
      simpa using this
    refine g.goes i s _ _ hi ⟨⟨old, by simpa using he⟩, hit, hT⟩ fun v h' tk ⟨T, t, y, ev, hn, hy, hTn⟩ st' hk htk => ?_
    obtain ⟨⟨old', he'⟩, hit', _⟩ := st'
    subst ev
    have ey : y = u := by
      rw [show its.toArray[i]? = some u by simpa using hu] at hy
      exact (Option.some.inj hy).symm
    subst ey
    obtain ⟨oT, hoT, hcT, nT, hdT⟩ := hTn
    have new : ObjOk X.prog X.w (upd H T (.tup [.int (i : Nat), x])) h' T (.tup [.int (i : Nat), x]) :=
      ⟨by show 2 ≤ sizeLine; decide, [.int (0 + (i : Int)) t, y], .cons ⟨t, by simp⟩ (.cons ru .nil), ⟨oT, hoT, hcT, nT, hdT⟩⟩
    have I1 : Inv X pins σ (upd H T (.tup [.int (i : Nat), x])) { s with heap := h', toks := tk } :=
      I.turnedNew (ch := [e, it]) (fun b ob hb q => hk b ob (by simpa using hb) q) hf hn new
    refine ⟨.ref T, _, I1, rfl, ⟨_, x, rfl, I.hok.fresh hn, rfl, fun ys hy => by rw [I.tuple_inj hy hq]; exact hx⟩, ⟨⟨old', ?_⟩, hit', hne⟩, fun b hb => ?_⟩
    · have e1 : ((i + 1 : Nat) : Int) = 0 + ((i + 1 : Nat) : Int) := by omega
      rw [e1]; exact he'
    · have hb' : b < s.heap.objs.size := by
        have e' : b = e ∨ b = it := by simpa using hb
        rcases e' with z | z
        · rw [z]; exact hel
        · rw [z]; exact hil
      rw [upd_ne (Nat.ne_of_lt (Nat.lt_of_lt_of_le hb' hn))]
      exact (hf b hb).1
  done := by
    intro X hP hw hK hc i pins s σ H E I hf st hg
    subst hP hw hK
    obtain ⟨⟨old, he⟩, hit, hne⟩ := st
    obtain ⟨xs, hq, hx⟩ := hg
    obtain ⟨its, rv, p, hz⟩ := I.tuple hq
    have hT : s.heap.IsTuple a its.toArray := p
    have D : Draws X.prog X.w X.A.in1 it [it, a] its.toArray.size (fun i v => its.toArray[i]? = some v) (fun i h => h.IsTupleIter it a i ∧ h.IsTuple a its.toArray) := Draws.tuple (A := X.A.in1) (I.ok.hd hc) it a hat its.toArray
    have g := GoesN.enumFrom (elts := elts) (x1 := kk) (pos := tpos) 0 D e hne (by simp; exact ⟨hne, hae.symm⟩) (by simp)
    have hn : its.toArray.size = i := by
      rw [List.size_toArray, ← rv.length]; exact hx
    rw [hn] at g
    exact g.stops s _ _ ⟨⟨old, by simpa using he⟩, hit, hT⟩ fun h' tk hk htk => I.turnedL (ch := [e, it]) (fun b ob hb q => hk b ob (by simpa using hb) q) hf
  self := fun A i s Q E st h => let ⟨⟨_, he⟩, _⟩ := st; wpAny_pyIter_enum he h
/-- enumerate(x), x a list or a tuple -/
def iEnumA (K : PySem.W.Frag) (te : TE) : TI := fun σ H R => te σ H fun v H1 => ∃ a xs, [v] = [V.ref a] ∧ ((SqL K H1 a xs ∧ R (Ite K a) H1) ∨ (SqT K H1 a xs ∧ R (IteT K a) H1))
theorem pi_enumA {X : Cx} {e : Expr} {te : TE} {p pos tpos : Pos} {elts : List Expr} {kk : Nat} (hg : Gl X "enumerate") (hm : X.mg "enumerate" = none) (he : PE X e te) (hs : starEach [e] X.env = [(false, eval e X.env)] := by rfl) :
    PI X (.Tuple elts kk tpos) (.Call (.Name "enumerate" p) [e] [] pos) (iEnumA X.K te) := by
  refine ⟨fun pins s σ H R I h => ?_⟩
  have ha : PA X [e] (tCons te tNil) := pa_cons he pa_nil hs
  refine Call_ (ld_blt I hg hm boot_enumerate (PyProof.Rows.callWith_type1 (thn (ha.run pos pins s σ H (fun vs H1 => ∃ a xs, vs = [.ref a] ∧ ((SqL X.K H1 a xs ∧ R (Ite X.K a) H1) ∨ (SqT X.K H1 a xs ∧ R (IteT X.K a) H1))) I h) fun us s1 q0 => ?_) hs rfl))
  · obtain ⟨vs, H1, I1, r1, a, xs, rfl, q⟩ := q0
    cases r1 with
    | cons r rr =>
      cases rr
      cases r
      have new : ∀ b, s1.heap.objs.size ≤ b → FpOk X pins H1 b := fun b hb => I1.fpOk hb (I1.hok.fresh hb)
      rcases q with ⟨hq, q⟩ | ⟨hq, q⟩
      · obtain ⟨its, rv, p', hz⟩ := I1.list hq
        refine call_enumerate_list p'.isList fun h' he hit hsz hk => wpAny_pyIter_enum he ?_
        refine ⟨s1.heap.objs.size + 1, [s1.heap.objs.size + 1, s1.heap.objs.size], _, _, H1, rfl, I1.kept (t' := s1.toks) hk, turn_enum a (s1.heap.objs.size + 1) s1.heap.objs.size, ⟨⟨.none, he⟩, hit, Nat.succ_ne_self _⟩, fun b hb => ?_, q⟩
        have e' : b = s1.heap.objs.size + 1 ∨ b = s1.heap.objs.size := by simpa using hb
        exact new b (by rcases e' with z | z <;> rw [z] <;> omega)
      · obtain ⟨its, rv, p', hz⟩ := I1.tuple hq
        have hlt : a < s1.heap.objs.size := by obtain ⟨_, q, _⟩ := id p'; exact Heap.lt_size q
        refine call_enumT p' fun h' he hit hsz hk => wpAny_pyIter_enum he ?_
        refine ⟨s1.heap.objs.size + 1, [s1.heap.objs.size + 1, s1.heap.objs.size], _, _, H1, rfl, I1.kept (t' := s1.toks) hk, turn_enumT a (s1.heap.objs.size + 1) s1.heap.objs.size (Nat.ne_of_lt hlt) (Nat.ne_of_lt (Nat.lt_succ_of_lt hlt)), ⟨⟨.none, he⟩, hit, Nat.succ_ne_self _⟩, fun b hb => ?_, q⟩
        have e' : b = s1.heap.objs.size + 1 ∨ b = s1.heap.objs.size := by simpa using hb
        exact new b (by rcases e' with z | z <;> rw [z] <;> omega)
end VL
end
section
set_option Elab.async false
set_option linter.all false
set_option maxRecDepth 100000
namespace VL
open PySem PySem.Spec PyProof.Rows L2

section
variable {K : PySem.W.Frag} {W : WV} {F : Frm} {G G' : List (Option Ent)} {H H' : Hp} {e x p : Ent} {i : Nat} {R ps Δ es : List Ent} {σ : L2.St} {vs : List V} {ds : List D}
/-! ### a value at hand, seen as a slot -/
theorem Now.asSlot (n : Now F G (R ++ [e]) σ H) : Now F (G ++ [some e]) R (σ ++ [some e.v]) H := by
  refine ⟨n.gd.perm ?_, by simp [n.sl.len], fun i x h => ?_, fun i a h => ?_⟩
  · rw [List.map_append, List.append_assoc]
    exact List.Perm.append_left G List.perm_append_comm
  · by_cases hi : i < G.length
    · rw [List.getElem?_append_left hi] at h
      rw [List.getElem?_append_left (by rw [n.sl.len]; exact hi)]
      exact n.sl.val i x h
    · rw [List.getElem?_append_right (by omega)] at h
      by_cases h0 : i - G.length = 0
      · rw [h0] at h; simp at h; subst h
        rw [List.getElem?_append_right (by rw [n.sl.len]; omega), n.sl.len, h0]; rfl
      · rw [List.getElem?_eq_none (by simp; omega)] at h; cases h
  · obtain ⟨x, q1, q2, q3⟩ := n.sl.par i a h
    exact ⟨x, by rw [List.getElem?_append_left (List.getElem?_eq_some_iff.mp q1).1]; exact q1, q2, q3⟩
theorem Now.ofSlot (n : Now F (G ++ [some e]) R (σ ++ [some e.v]) H) (sl : Slots F G σ) : Now F G (R ++ [e]) σ H := by
  refine ⟨n.gd.perm ?_, sl⟩
  rw [List.map_append, List.append_assoc]
  exact List.Perm.append_left G List.perm_append_comm
/-- one more behind a list at a slot -/
theorem Now.appendAt {t' : Tag} (n1 : Now F G (R ++ [e]) σ H) (hx : G[i]? = some (some x)) (hd : x.d = .list ds) (ht : newTag x.t e.d e.t = some t') :
    ∃ a xs fs', x.v = .ref a ∧ H a = some (.lst xs) ∧ xs.length = ds.length ∧ Now F (G.set i (some ⟨.ref a, .list (ds ++ [e.d]), t', fs'⟩)) R σ (upd H a (.lst (xs ++ [e.v]))) := by
  have hre := n1.es_rep e (List.mem_singleton.mpr rfl)
  have nsh : x.t ≠ .sh := by
    intro z; rw [z] at ht; simp [newTag] at ht
  obtain ⟨a, xs, fs, hv, hfp, hHa, hrl, hafs, hpr⟩ := n1.owned hx hd nsh
  obtain ⟨_, tg⟩ := newTag_tg (K := F.K) (H := H) (fs := fs) ht hre (n1.parFs hx hfp) (fun z1 z2 => n1.fsNodup hx hfp z1 z2)
  have hrl' : RepL F.K H (ds ++ [e.d]) (xs ++ [e.v]) (fs ++ e.fp) := by
    have := hrl.append (RepL.cons hre RepL.nil)
    simpa using this
  have nae : a ∉ e.fp := fun z => by
    have hl2 := (List.getElem?_eq_some_iff.mp hx).1
    obtain ⟨k, hk0, hk⟩ := n1.es_at (List.mem_singleton.mpr rfl)
    exact own_not nsh hfp (n1.gd.sep i k x e (by omega) (by rw [List.getElem?_append_left hl2]; exact hx) hk) z
  have hnew : Rep F.K (upd H a (.lst (xs ++ [e.v]))) (.list (ds ++ [e.d])) (.ref a) (a :: (fs ++ e.fp)) := by
    simp only [Rep]
    refine ⟨a, xs ++ [e.v], fs ++ e.fp, rfl, .inl upd_same, ?_, rfl⟩
    refine repL_mono (mutTup (by rw [hHa]; trivial)) _ _ _ (fun b hb => upd_ne fun z => ?_) hrl'
    rw [z] at hb
    rcases List.mem_append.mp hb with hb | hb
    · exact hafs hb
    · exact nae hb
  have n2 := n1.mutO (rs := []) (t' := t') hx nsh hv hfp (by rw [hHa]; trivial) hafs hpr (o' := .lst (xs ++ [e.v])) trivial hnew rfl (fun b hb => by
      rcases List.mem_append.mp hb with hb | hb
      · exact .inl hb
      · exact .inr ⟨e, List.mem_singleton.mpr rfl, hb⟩)
    (by
      rcases tg with z | z | ⟨z1, z2, z3, z4⟩
      · exact .inl z
      · exact .inr (.inl z)
      · refine .inr (.inr ⟨z1, z2, z4, fun b hb => ?_⟩)
        rcases List.mem_append.mp hb with hb | hb
        · exact .inl hb
        · exact .inr ⟨e, List.mem_singleton.mpr rfl, z3, hb⟩)
    (fun r hr => by cases hr) (by simp)
  exact ⟨a, xs, _, hv, hHa, hrl.length, by simpa using n2⟩
/-- one more behind a list at hand -/
theorem Now.appendAcc {t' : Tag} {a : Addr} (n : Now F G (R ++ [x] ++ [e]) σ H) (hv : x.v = .ref a) (hd : x.d = .list ds) (ht : newTag x.t e.d e.t = some t') :
    ∃ xs fs', H a = some (.lst xs) ∧ xs.length = ds.length ∧ Now F G (R ++ [⟨.ref a, .list (ds ++ [e.d]), t', fs'⟩]) σ (upd H a (.lst (xs ++ [e.v]))) := by
  have n1 : Now F G ((R ++ [e]) ++ [x]) σ H := by
    have : Now F G (R ++ ([x] ++ [e])) σ H := by rw [← List.append_assoc]; exact n
    have := this.perm (es' := [e] ++ [x]) List.perm_append_comm
    rw [← List.append_assoc] at this
    exact this
  obtain ⟨a', xs, fs', h1, h2, h3, h4⟩ := n1.asSlot.appendAt (i := G.length) (x := x) (by simp) hd ht
  rw [hv] at h1; cases h1
  refine ⟨xs, fs', h2, h3, ?_⟩
  have e1 : (G ++ [some x]).set G.length (some ⟨.ref a, .list (ds ++ [e.d]), t', fs'⟩) = G ++ [some ⟨.ref a, .list (ds ++ [e.d]), t', fs'⟩] := by
    rw [List.set_append_right _ _ (Nat.le_refl _)]; simp
  rw [e1, hv] at h4
  exact h4.ofSlot n.sl

/-! ### a block's own names -/
def wipeE (env : Env) : List Nat → Env
  | [] => env
  | v :: vs => (wipeE env vs).set v none
def wipeG (G : List (Option Ent)) : List Nat → List (Option Ent)
  | [] => G
  | v :: vs => (wipeG G vs).set v none
theorem wipe_env : ∀ own : List Nat, envOf (wipeG G own) = wipeE (envOf G) own
  | [] => rfl
  | v :: vs => by unfold wipeG wipeE; rw [envOf_set, wipe_env vs]; rfl
theorem wipeG_len : ∀ own : List Nat, (wipeG G own).length = G.length
  | [] => rfl
  | v :: vs => by unfold wipeG; rw [List.length_set, wipeG_len vs]
theorem wipeG_get {j : Nat} {y : Ent} : ∀ {own : List Nat}, (wipeG G own)[j]? = some (some y) → G[j]? = some (some y) ∧ j ∉ own
  | [], h => ⟨h, by simp⟩
  | v :: vs, h => by
    unfold wipeG at h
    rw [List.getElem?_set] at h
    split at h
    · split at h <;> simp at h
    · rename_i q
      obtain ⟨h1, h2⟩ := wipeG_get h
      exact ⟨h1, by simp [h2]; exact fun z => q z.symm⟩
theorem wipeG_at {j : Nat} : ∀ {own : List Nat}, j ∉ own → (wipeG G own)[j]? = G[j]?
  | [], _ => rfl
  | v :: vs, h => by
    simp only [List.mem_cons, not_or] at h
    unfold wipeG
    rw [List.getElem?_set_ne (Ne.symm h.1)]
    exact wipeG_at h.2
theorem Gd.wipeG {Γ : List (Option Ent)} (g : Gd F (G ++ Γ) H) : ∀ own : List Nat, Gd F (VL.wipeG G own ++ Γ) H
  | [] => g
  | v :: vs => by
    have ih := Gd.wipeG g vs
    unfold VL.wipeG
    by_cases hv : v < (VL.wipeG G vs).length
    · rw [← set_app hv]; exact ih.set_none v
    · rw [List.set_eq_of_length_le (by omega)]; exact ih
def noPar (own : List Nat) (env : Env) : Bool := own.all fun i => match env[i]? with
  | some (some (_, .par)) => false
  | _ => true
theorem noPar_ok {own : List Nat} (s : Slots F G σ) (h : noPar own (envOf G) = true) : ∀ i ∈ own, F.par i = none := fun i hi => by
  cases q : F.par i with
  | none => rfl
  | some a =>
    obtain ⟨x, q1, q2, q3⟩ := s.par i a q
    have := List.all_eq_true.mp h i hi
    rw [envOf_get q1, q3] at this
    cases this
theorem Now.wipe (n : Now F G R σ H) (own : List Nat) (np : ∀ i ∈ own, F.par i = none) : Now F (wipeG G own) R σ H := by
  refine ⟨n.gd.wipeG own, by rw [wipeG_len]; exact n.sl.len, fun i x h => n.sl.val i x (wipeG_get h).1, fun i a h => ?_⟩
  obtain ⟨x, q1, q2⟩ := n.sl.par i a h
  exact ⟨x, by rw [wipeG_at fun z => by rw [np i z] at h; cases h]; exact q1, q2⟩
theorem wipe_at {j : Nat} : ∀ {own : List Nat}, j ∉ own → (L2.wipe σ own)[j]? = σ[j]?
  | [], _ => rfl
  | v :: vs, h => by
    simp only [List.mem_cons, not_or] at h
    unfold L2.wipe
    rw [List.getElem?_set_ne (Ne.symm h.1)]
    exact wipe_at h.2
/-- the slots outside the block's own are the same -/
theorem Now.resl {σ' : L2.St} {own : List Nat} (n : Now F (wipeG G own) R σ H) (h : L2.wipe σ own = L2.wipe σ' own) : Now F (wipeG G own) R σ' H := by
  have ln : σ'.length = σ.length := by
    have := congrArg List.length h
    rw [wipe_length, wipe_length] at this; exact this.symm
  refine ⟨n.gd, by rw [ln]; exact n.sl.len, fun i x hx => ?_, fun i a ha => n.sl.par i a ha⟩
  have h1 := n.sl.val i x hx
  have h2 := (wipeG_get hx).2
  rw [← wipe_at h2, h, wipe_at h2] at h1
  exact h1
theorem wipe_wipe : ∀ own : List Nat, L2.wipe (L2.wipe σ own) own = L2.wipe σ own := fun own => by
  apply List.ext_getElem?
  intro j
  by_cases hj : j ∈ own
  · have : ∀ (τ : L2.St) (own : List Nat), j ∈ own → (L2.wipe τ own)[j]? = if j < τ.length then some none else none := by
      intro τ own
      induction own with
      | nil => intro h; simp at h
      | cons v vs ih =>
        intro h
        unfold L2.wipe
        rw [List.getElem?_set]
        split
        · rename_i q; subst q; rw [wipe_length]
        · rename_i q
          have : j ∈ vs := by
            rcases List.mem_cons.mp h with z | z
            · exact absurd z.symm q
            · exact z
          exact ih this
    rw [this _ _ hj, this _ _ hj, wipe_length]
  · rw [wipe_at hj]
/-- a target keeps the slots outside -/
def GKeep (own : List Nat) (g : TG) : Prop := ∀ v σ H (Q Q' : L2.St → Hp → Prop), (∀ σ' H', L2.wipe σ' own = L2.wipe σ own → Q σ' H' → Q' σ' H') → g v σ H Q → g v σ H Q'
def GsKeep (own : List Nat) (g : TGs) : Prop := ∀ v σ H (Q Q' : L2.St → Hp → Prop), (∀ σ' H', L2.wipe σ' own = L2.wipe σ own → Q σ' H' → Q' σ' H') → g v σ H Q → g v σ H Q'
theorem wipe_set {v : Option V} {i : Nat} {own : List Nat} (h : i ∈ own) : L2.wipe (σ.set i v) own = L2.wipe σ own := by
  induction own with
  | nil => simp at h
  | cons w ws ih =>
    unfold L2.wipe
    by_cases hi : i ∈ ws
    · rw [ih hi]
    · have : i = w := by
        rcases List.mem_cons.mp h with z | z
        · exact z
        · exact absurd z hi
      subst this
      apply List.ext_getElem?
      intro j
      rw [List.getElem?_set, List.getElem?_set, wipe_length, wipe_length, List.length_set]
      split
      · rfl
      · rename_i q
        by_cases hj : j ∈ ws
        · have : ∀ (τ : L2.St) (own : List Nat), j ∈ own → (L2.wipe τ own)[j]? = if j < τ.length then some none else none := by
            intro τ own
            induction own with
            | nil => intro h; simp at h
            | cons v vs ih =>
              intro h
              unfold L2.wipe
              rw [List.getElem?_set]
              split
              · rename_i q; subst q; rw [wipe_length]
              · rename_i q
                have : j ∈ vs := by
                  rcases List.mem_cons.mp h with z | z
                  · exact absurd z.symm q
                  · exact z
                exact ih this
          rw [this _ _ hj, this _ _ hj, List.length_set]
        · rw [wipe_at hj, wipe_at hj, List.getElem?_set_ne q]
theorem gk_name {own : List Nat} {i : Nat} (h : i ∈ own) : GKeep own (gName i) := fun v σ H Q Q' hq q => hq _ _ (wipe_set h) q
theorem gk_nil {own : List Nat} : GsKeep own gNil := fun v σ H Q Q' hq q => ⟨q.1, hq _ _ rfl q.2⟩
theorem gk_cons {own : List Nat} {g : TG} {gs : TGs} (h1 : GKeep own g) (h2 : GsKeep own gs) : GsKeep own (gCons g gs) := fun v σ H Q Q' hq q => by
  obtain ⟨w, r, e, q⟩ := q
  refine ⟨w, r, e, h1 _ _ _ _ _ (fun σ' H' k q => h2 _ _ _ _ _ (fun σ2 H2 k2 q => hq _ _ (k2.trans k) q) q) q⟩
theorem gk_tup {own : List Nat} {m : Nat} {gs : TGs} (h : GsKeep own gs) : GKeep own (gTup K m gs) := fun v σ H Q Q' hq q => by
  obtain ⟨a, xs, e, h1, h2, q⟩ := q
  exact ⟨a, xs, e, h1, h2, h _ _ _ _ _ hq q⟩

/-! ### comprehensions -/
abbrev WF : WV := fun _ _ _ => False
def Res.nox {α : Type} (r : Res α) : Res α := match r with
  | .exc _ _ => .bad
  | r => r
def turnE (g : GR) (tt : TR) (te : ER) (own : List Nat) (p : D × Tag) (env : Env) : Res (Option (D × Tag) × Env) :=
  (g p env).bind fun e1 => (tt e1).bind fun q => if q.1 then (te q.2).bind fun r => (match r.1 with
    | .val d t => .ok (some (d, t), wipeE r.2 own)
    | .slot _ => .bad) else .ok (none, wipeE q.2 own)
def lcE (g : GR) (tt : TR) (te : ER) (own : List Nat) : List (D × Tag) → Env → Res (List (D × Tag) × Env)
  | [], env => .ok ([], env)
  | p :: ps, env => (turnE g tt te own p env).bind fun q => (lcE g tt te own ps q.2).bind fun r => .ok (q.1.toList ++ r.1, r.2)
def accTag (r : List (D × Tag)) : Tag := if allUnq r then .unq else .own
def eLc (fi : IR) (g : GR) (tt : TR) (te : ER) (own : List Nat) : ER := fun env => (fi env).bind fun p =>
  if decide (p.1.length ≤ lim) && noPar own p.2 then ((lcE g tt te own p.1 (wipeE p.2 own)).nox).bind fun r => .ok (.val (.list (r.1.map (·.1))) (accTag r.1), r.2) else .bad
theorem allUnq_app {r s : List (D × Tag)} : allUnq (r ++ s) = (allUnq r && allUnq s) := by unfold allUnq; rw [List.all_append]
theorem accTag_app (r : List (D × Tag)) (p : D × Tag) : newTag (accTag r) p.1 p.2 = some (accTag (r ++ [p])) := by
  unfold accTag
  rw [allUnq_app]
  have : allUnq [p] = (p.2 == .unq) := by simp [allUnq]
  rw [this]
  cases h : allUnq r
  · simp [newTag]
  · by_cases q : p.2 = .unq
    · simp [newTag, q]
    · have : (p.2 == Tag.unq) = false := by simpa using q
      simp [newTag, q, this]
theorem lcE_len {g : GR} {tt : TR} {te : ER} {own : List Nat} : ∀ {l : List (D × Tag)} {env : Env} {r : List (D × Tag)} {e2 : Env}, lcE g tt te own l env = .ok (r, e2) → r.length ≤ l.length
  | [], env, r, e2, h => by simp [lcE] at h; rw [← h.1]; simp
  | p :: l, env, r, e2, h => by
    simp only [lcE] at h
    cases q : turnE g tt te own p env with
    | bad => rw [q] at h; simp [Res.bind] at h
    | exc c env => rw [q] at h; simp [Res.bind] at h
    | ok a =>
      rw [q] at h
      simp only [Res.bind] at h
      cases q2 : lcE g tt te own l a.2 with
      | bad => rw [q2] at h; simp at h
      | exc c env => rw [q2] at h; simp at h
      | ok b =>
        rw [q2] at h
        simp at h
        have := lcE_len q2
        rw [← h.1, List.length_append, List.length_cons]
        have h2 : a.1.toList.length ≤ 1 := by cases a.1 <;> simp
        omega
theorem spec_lc {wi : TI} {fi : IR} {tg : TG} {g : GR} {tt : TT} {ft : TR} {te : TE} {fe : ER} {own : List Nat} (hi : SpecI K W wi fi) (hg : SpecG K WF tg g) (hk : GKeep own tg) (ht : SpecT K WF tt ft) (he : SpecE K WF te fe) :
    SpecE K W (tLc wi tg tt te own) (eLc fi g ft fe own) := fun F G R σ H Q hK n h => by
  refine hi F G R σ H _ hK n ?_
  simp only [eLc] at h
  cases q : fi (envOf G) with
  | bad => rw [q] at h; exact h
  | exc c env => rw [q] at h; exact h
  | ok p =>
    obtain ⟨ds, env⟩ := p
    rw [q] at h
    intro G1 H1 J ps g1 n1 jok
    subst g1
    simp only [Res.bind] at h
    split at h
    case isFalse => exact h.elim
    rename_i hc
    rw [Bool.and_eq_true] at hc
    obtain ⟨hl, np⟩ := hc
    have hl := of_decide_eq_true hl
    have np := noPar_ok n1.sl np
    cases q2 : lcE g ft fe own ds (wipeE (envOf G1) own) with
    | bad => rw [q2] at h; exact h.elim
    | exc c env => rw [q2] at h; exact h.elim
    | ok rr =>
    obtain ⟨r, e2⟩ := rr
    rw [q2] at h
    simp only [Res.nox] at h
    intro L hL
    -- the invariant
    have n0 : Now F (wipeG G1 own) ((R ++ ps) ++ [⟨.ref L, .list [], accTag [], [L]⟩]) σ (upd H1 L (.lst [])) := by
      have := (n1.wipe own np)
      have n' : Now F (wipeG G1 own) ((R ++ ps) ++ []) σ H1 := by simpa using this
      have := n'.lst hL
      simpa [accTag, allUnq, fpsOf] using this
    refine ⟨fun i m H => m = ds.length - i ∧ i ≤ ds.length ∧ ∃ G2 acc r2 fp, Now F (wipeG G2 own) ((R ++ ps) ++ [⟨.ref L, .list (acc.map (·.1)), accTag acc, fp⟩]) σ H ∧ lcE g ft fe own (ds.drop i) (wipeE (envOf G2) own) = .ok (r2, e2) ∧ r = acc ++ r2 ∧ acc.length ≤ i, ⟨ds.length, by simp, Nat.zero_le _, G1, [], r, [L], n0, q2, rfl, Nat.le_refl _⟩, ?_⟩
    rintro i m H2 ⟨rfl, hi, G2, acc, r2, fp, n2, hr, er, la⟩
    by_cases hlt : i < ds.length
    · have hd : ds[i]? = some ds[i] := List.getElem?_eq_getElem hlt
      obtain ⟨go, yl⟩ := jok.item (wipeG G2 own) R [⟨.ref L, .list (acc.map (·.1)), accTag acc, fp⟩] σ H2 i _ n2 hd
      refine .inr ⟨go, fun H => ∃ G2 acc r2 fp, Now F (wipeG G2 own) ((R ++ ps) ++ [⟨.ref L, .list (acc.map (·.1)), accTag acc, fp⟩]) σ H ∧ lcE g ft fe own (ds.drop (i + 1)) (wipeE (envOf G2) own) = .ok (r2, e2) ∧ r = acc ++ r2 ∧ acc.length ≤ i + 1, fun H' h' => ⟨ds.length - (i + 1), by omega, rfl, hlt, h'⟩, fun x H3 hy => ?_⟩
      obtain ⟨e, rfl, e3, n3⟩ := yl x H3 hy
      rw [List.drop_eq_getElem_cons hlt] at hr
      simp only [lcE, turnE] at hr
      have n3' : Now F (wipeG G2 own) ((R ++ ps ++ [⟨.ref L, .list (acc.map (·.1)), accTag acc, fp⟩]) ++ [e]) (L2.wipe σ own) H3 := n3.resl (wipe_wipe own).symm
      refine hk _ _ _ (fun σ4 H4 => L2.wipe σ4 own = L2.wipe σ own → tt σ4 H4 _) _ (fun σ4 H4 k4 q4 => ⟨k4.trans (wipe_wipe own), q4 (k4.trans (wipe_wipe own))⟩) ?_
      refine hg F _ _ _ H3 e _ hK n3' ?_
      rw [e3, wipe_env]
      cases q3 : g ds[i] (wipeE (envOf G2) own) with
      | bad => rw [q3] at hr; cases hr
      | exc c env => rw [q3] at hr; cases hr
      | ok env4 =>
      rw [q3] at hr
      intro G4 σ4 H4 g4 n4 k4
      subst g4
      refine ht F G4 _ σ4 H4 _ hK n4 ?_
      simp only [Res.bind] at hr
      cases q4 : ft (envOf G4) with
      | bad => rw [q4] at hr; cases hr
      | exc c env => rw [q4] at hr; cases hr
      | ok p5 =>
      obtain ⟨b, env5⟩ := p5
      rw [q4] at hr
      intro G5 H5 g5 n5
      subst g5
      simp only [] at hr
      cases b with
      | false =>
        refine iteF ?_
        simp only [Bool.false_eq_true, if_false, Option.toList, List.nil_append] at hr
        cases q6 : lcE g ft fe own (ds.drop (i + 1)) (wipeE (envOf G5) own) with
        | bad => rw [q6] at hr; cases hr
        | exc c env => rw [q6] at hr; cases hr
        | ok p6 =>
          rw [q6] at hr
          exact ⟨G5, acc, r2, fp, (n5.wipe own np).resl k4, by rw [q6]; exact hr, er, by omega⟩
      | true =>
        refine iteT ?_
        simp only [if_true] at hr
        refine he F G5 _ σ4 H5 _ hK n5 ?_
        cases q6 : fe (envOf G5) with
        | bad => rw [q6] at hr; cases hr
        | exc c env => rw [q6] at hr; cases hr
        | ok p6 =>
        obtain ⟨o, env6⟩ := p6
        rw [q6] at hr
        intro G6 H6 es v g6 n6 w6
        subst g6
        simp only [] at hr
        cases o with
        | slot i => cases hr
        | val d t =>
        obtain ⟨y, rr, ss, rfl, e4, e5, e6, rfl, rfl⟩ := w6
        cases e6
        simp only [] at hr
        obtain ⟨xs, fs', z1, z2, z3⟩ := n6.appendAcc (t' := accTag (acc ++ [(d, t)])) rfl rfl (by rw [e4, e5]; exact accTag_app acc (d, t))
        refine ⟨xs, z1, ?_, ?_⟩
        · rw [z2, List.length_map, ← lim_eq]; omega
        · cases q7 : lcE g ft fe own (ds.drop (i + 1)) (wipeE (envOf G6) own) with
          | bad => rw [q7] at hr; cases hr
          | exc c env => rw [q7] at hr; cases hr
          | ok p7 =>
            obtain ⟨r7, e7⟩ := p7
            rw [q7] at hr
            simp only [Option.toList, List.cons_append, List.nil_append, Res.ok.injEq, Prod.mk.injEq] at hr
            refine ⟨G6, acc ++ [(d, t)], r7, fs', ?_, by rw [q7, hr.2], by rw [er, ← hr.1]; simp, by simp; omega⟩
            have := (z3.wipe own np).resl k4
            rw [e4] at this
            simpa using this
    · have e1 : i = ds.length := by omega
      subst e1
      rw [List.drop_length] at hr
      simp [lcE] at hr
      refine .inl ⟨jok.stop (wipeG G2 own) R _ σ H2 n2, ?_⟩
      rw [hr.1, List.append_nil] at er
      subst er
      exact h (wipeG G2 own) H2 [_] _ (by rw [wipe_env]; exact hr.2) n2.dropM ⟨_, [], [], rfl, rfl, rfl, rfl, rfl, rfl⟩
end
end VL
end
section
set_option Elab.async false
set_option linter.all false
set_option maxRecDepth 100000
set_option autoImplicit false
namespace VL
open PySem PySem.Spec PyProof.Rows L2

/-! ### t[::-1] of a tuple -/
section
variable {prog : Program} {w : World} {A : Around} {E : Value → Shared → Prop} {s : Shared}
theorem rv_places (n : Nat) : Builtin.Slice.slicePlaces ((n : Int) - 1) (-1) (-1) = n := by
  unfold Builtin.Slice.slicePlaces
  rw [if_neg (show ¬ ((-1 : Int) > 0) by decide)]
  by_cases h : (n : Int) - 1 > -1
  · rw [if_pos h, show (-(-1) : Int) = 1 by decide, Int.ediv_one]; omega
  · rw [if_neg h]; omega
theorem fm_congr {α β : Type} (f g : α → Option β) : ∀ l : List α, (∀ a ∈ l, f a = g a) → l.filterMap f = l.filterMap g
  | [], _ => rfl
  | a :: l, h => by
    rw [List.filterMap_cons, List.filterMap_cons, h a (List.mem_cons_self ..), fm_congr f g l fun b hb => h b (List.mem_cons_of_mem _ hb)]
theorem rv_pick (xs : Array Value) : ((List.range xs.size).filterMap fun (m : Nat) => xs[(((xs.size : Int) - 1) + (m : Int) * (-1)).toNat]?).toArray = xs.toList.reverse.toArray := by
  have e : (List.range xs.size).filterMap (fun (m : Nat) => xs[(((xs.size : Int) - 1) + (m : Int) * (-1)).toNat]?) = ((List.range xs.size).map fun k => xs.size - 1 - k).filterMap (fun i => xs[i]?) := by
    rw [List.filterMap_map]
    refine fm_congr _ _ _ fun k hk => ?_
    have := List.mem_range.mp hk
    show xs[_]? = xs[_]?
    congr 1
    show (((xs.size : Int) - 1) + (k : Int) * (-1)).toNat = xs.size - 1 - k
    omega
  rw [e, PySem.W.krv_range, List.filterMap_reverse, PySem.W.krv_all]
theorem getItem_tuple_rev {t sl : Addr} {items : Array Value} {k : Tok} {Q : Value → Shared → Prop} (ht : IsTup s.heap t items) (hs : s.heap.IsSliceOf sl .none .none (.int (-1) k))
    (h : Q (.ref s.heap.objs.size) { s with heap := s.heap.push { cls := .type "tuple", data := .seq items.toList.reverse.toArray } }) (hz : items.size ≤ sizeLine) :
    wpAny (model prog w) A (getItem (.ref t) (.ref sl)) Q E s := by
  have fit : sizeOk (.seq items.toList.reverse.toArray) := by
    show items.toList.reverse.toArray.size ≤ sizeLine
    simpa using hz
  obtain ⟨o, ho, hc, hd⟩ := id hs
  have isS : s.TypeIs (.ref sl) "slice" := ⟨o, ho, hc⟩
  unfold getItem
  try with_reducible refine wpAny_holding ?_
  first
    | refine wpAny_bind (wpAny_pure ?_)
    | skip
  refine wpAny_bind (wpAny_sequenceKey ht.typeIs (by decide) ?_)
  refine wpAny_bind (wpAny_callSpecial?_slot (name := Str.ofString "__getitem__") ht.typeIs PyProof.Rows.slot_tuple_getitem ?_)
  refine wpAny_call_entry PyProof.Rows.slot_tuple_getitem ht.typeIs PyProof.Rows.entry_tuple_getitem ?_ (PyProof.Rows.args_tuple_getitem _ _)
  show wpAny _ _ (Builtin.Tuple.tupleItemsOf (.ref t) >>= _) _ _ s
  refine wpAny_bind (tupleItemsOf_ ht (wpAny_bind (wpAny_typeOf isS ?_)))
  rw [if_pos (by decide)]
  refine wpAny_bind ?_
  · unfold Builtin.Slice.sliceApplied Builtin.Slice.sliceFields
    refine wpAny_bind (wpAny_bind (wpAny_field ho hd (x := .none) rfl ?_))
    refine wpAny_bind (wpAny_field ho hd (x := .none) rfl ?_)
    refine wpAny_bind (wpAny_field ho hd (x := .int (-1) k) rfl (wpAny_pure ?_))
    refine wpAny_bind (slicePart_int ?_)
    show wpAny _ _ (if ((-1 : Int) == 0) = true then _ else _) _ _ s
    rw [if_neg (by decide)]
    refine wpAny_bind (slicePart_none (wpAny_bind (slicePart_none (wpAny_bind (wpAny_pure ?_)))))
    show wpAny _ _ (pure (((items.size : Int) - 1), (-1 : Int), Builtin.Slice.slicePlaces ((items.size : Int) - 1) (-1) (-1))) _ _ s
    rw [rv_places]
    refine wpAny_pure ?_
    show wpAny _ _ (if (((items.size : Int) - 1 == 0) && ((-1 : Int) == 1) && (items.size == items.size)) = true then _ else _) _ _ s
    rw [if_neg (by rw [show ((-1 : Int) == 1) = false by decide, Bool.and_false, Bool.false_and]; exact Bool.false_ne_true), rv_pick]
    first
      | exact wpAny_bind (m := Builtin.Tuple.tupleExact _) (wpAny_newObj_type (wpAny_pure ⟨_, rfl, wpAny_pure h⟩) fit)
      | exact wpAny_bind (wpAny_bind (m := Builtin.Tuple.tupleExact _) (wpAny_newObj_type (wpAny_pure (wpAny_pure ⟨_, rfl, wpAny_pure h⟩)) fit))
end
section
variable {X : Cx}
/-- x[::-1], x a list or a tuple -/
def rRevA (K : PySem.W.Frag) : V → Hp → VK → Prop := fun x H Q => (∃ a xs, x = .ref a ∧ SqL K H a xs ∧ ∀ p, H p = none → Q (.ref p) (upd H p (.lst xs.reverse))) ∨
  (∃ a xs, x = .ref a ∧ SqT K H a xs ∧ ∀ p, H p = none → Q (.ref p) (upd H p (.tup xs.reverse)))
theorem pe_revA {e : Expr} {te : TE} {k : Nat} {p1 p2 p3 pos : Pos} (he : PE X e te) : PE X (.Subscript e (.Slice none none (some (.UnaryOp .USub (.Constant (.int 1) k p1) p2)) p3) pos) (tUn (rRevA X.K) te) := by
  refine ⟨fun pins s σ H Q I h => Subscript_ (thn (he.run pins s σ H _ I h) fun v s1 ⟨x, H1, I1, r1, q1⟩ => ?_)⟩
  obtain ⟨a, rfl⟩ : ∃ a, x = .ref a := by
    rcases q1 with ⟨a, _, e, _⟩ | ⟨a, _, e, _⟩ <;> exact ⟨a, e⟩
  cases r1
  have step : PO X (some (.UnaryOp .USub (.Constant (.int 1) k p1) p2)) (tPart (tUn (rU fun i => .int (-i)) (tC (.int 1)))) := po_some (pe_un un_neg pe_int)
  refine wpAny_Slice ?_
  rw [evalPart_none]
  refine wpAny_pure (wpAny_pure ?_)
  refine thn (step.run pins s1 σ H1 (fun o H4 => o = some (-1) ∧ H4 = H1) I1 ⟨1, rfl, -1, rfl, rfl, rfl⟩) fun vs s4 ⟨o, H4, I4, ps, eo, e4⟩ => ?_
  subst eo e4
  obtain ⟨tk, rfl⟩ : ∃ tk, vs = .int (-1) tk := by cases ps; exact ⟨_, rfl⟩
  have I5 : Inv X pins σ H4 { s4 with heap := s4.heap.push { cls := .type "slice", data := .fields #[.none, .none, .int (-1) tk] } } := I4.kept (t' := s4.toks) fun b ob q => Heap.get?_push_of_some _ q
  have isSl := Heap.IsSliceOf.new s4.heap (Value.none) (Value.none) (Value.int (-1) tk)
  show wpAny (model X.prog X.w) X.A (subscriptTail e _ (.ref a) (.ref s4.heap.objs.size)) (EP X pins σ Q) X.xe { s4 with heap := s4.heap.push { cls := .type "slice", data := .fields #[.none, .none, .int (-1) tk] } }
  rcases q1 with ⟨a', xs, ea, hx, q⟩ | ⟨a', xs, ea, hx, q⟩
  · cases ea
    obtain ⟨its, r, ht, hz⟩ := I5.list hx
    have hlen := r.length
    refine tail_any (ops := [.ref a, .ref s4.heap.objs.size]) ht.isList.typeIs (PySem.slot_list_getitem.lookup) ?_ (by with_unfolding_all rfl)
    refine wpAny_getItem_list_slice ht.isList isSl .none .none ps (by decide) ?_ (by rw [List.size_toArray]; omega)
    rw [PySem.W.krv_pick]
    exact ⟨.ref _, _, I5.lnew (t' := s4.toks) r.reverse (by rw [List.length_reverse]; exact hz), rfl, q _ I5.fresh⟩
  · cases ea
    obtain ⟨its, r, ht, hz⟩ := I5.tuple hx
    have hlen := r.length
    refine tail_any (ops := [.ref a, .ref s4.heap.objs.size]) ht.typeIs PyProof.Rows.slot_tuple_getitem.lookup ?_ (by with_unfolding_all rfl)
    refine getItem_tuple_rev ht isSl ?_ (by rw [List.size_toArray]; omega)
    refine ⟨.ref _, _, I5.laid (t' := s4.toks) (o := .tup xs.reverse) (fun b ob q => Heap.get?_push_of_some _ q) (Nat.le_refl _) ?_, rfl, q _ I5.fresh⟩
    exact ⟨by rw [List.length_reverse]; exact hz, _, r.reverse, IsTup.new _ _⟩

/-! ### data: ==, !=, in, not in, repr -/
/-- data that a rule may ask about: no dicts, not too deep -/
def okD (d : D) : Bool := d.plain && decide (d.depth ≤ 60)
def DatV (K : PySem.W.Frag) (H : Hp) (d : D) (x : V) : Prop := Dp K H x d ∧ okD d = true
theorem okD_plain {d : D} (h : okD d = true) : d.plain = true := by unfold okD at h; rw [Bool.and_eq_true] at h; exact h.1
theorem okD_depth {d : D} (h : okD d = true) : d.depth ≤ 60 := by unfold okD at h; rw [Bool.and_eq_true] at h; exact of_decide_eq_true h.2
def rEqQ (K : PySem.W.Frag) : R2 := fun x y H Q => ∃ d e, DatV K H d x ∧ DatV K H e y ∧ Q (.bl (PyData.eqv d e)) H
def rNeQ (K : PySem.W.Frag) : R2 := fun x y H Q => ∃ d e, DatV K H d x ∧ DatV K H e y ∧ Q (.bl (!PyData.eqv d e)) H
theorem op_eqQ (hu : X.A.units + 64 < cLine) : OpR X (compareOp .Eq) (rEqQ X.K) := by
  rintro pins s σ H x y v u Q I rx ry ⟨d, e, ⟨hd, od⟩, ⟨he, oe⟩, q⟩
  obtain ⟨as, r1⟩ := Dp.reads I d x v hd rx
  obtain ⟨bs, r2⟩ := Dp.reads I e y u he ry
  have := okD_depth od
  exact SeqAt.eq_plain r1 r2 (okD_plain od) (okD_plain oe) (by omega) ⟨.bl _, H, I, rfl, q⟩
theorem op_neQ (hu : X.A.units + 64 < cLine) : OpR X (compareOp .NotEq) (rNeQ X.K) := by
  rintro pins s σ H x y v u Q I rx ry ⟨d, e, ⟨hd, od⟩, ⟨he, oe⟩, q⟩
  obtain ⟨as, r1⟩ := Dp.reads I d x v hd rx
  obtain ⟨bs, r2⟩ := Dp.reads I e y u he ry
  have := okD_depth od
  exact SeqAt.ne_plain r1 r2 (okD_plain od) (okD_plain oe) (by omega) ⟨.bl _, H, I, rfl, q⟩
/-- x in y, y a list or a tuple of data -/
def rInQ (K : PySem.W.Frag) (neg : Bool) : R2 := fun x y H Q => ∃ d ds, DatV K H d x ∧ (DatV K H (.list ds) y ∨ DatV K H (.tuple ds) y) ∧ Q (.bl (if neg then !ds.any (fun z => PyData.eqv z d) else ds.any fun z => PyData.eqv z d)) H
theorem plain_list {ds : List D} (h : okD (.list ds) = true) : PyData.plainAll ds = true := by have := okD_plain h; simpa only [PyData.plain] using this
theorem plain_tuple {ds : List D} (h : okD (.tuple ds) = true) : PyData.plainAll ds = true := by have := okD_plain h; simpa only [PyData.plain] using this
theorem op_inQ (hu : X.A.units + 64 < cLine) : OpR X (compareOp .In) (rInQ X.K false) := by
  rintro pins s σ H x y v u Q I rx ry ⟨d, ds, ⟨hd, od⟩, hy, q⟩
  obtain ⟨as, r1⟩ := Dp.reads I d x v hd rx
  have dd := okD_depth od
  rcases hy with ⟨hy, oy⟩ | ⟨hy, oy⟩
  · obtain ⟨bs, r2⟩ := Dp.reads I _ y u hy ry
    exact SeqAt.in_list_data r2 r1 (plain_list oy) (okD_plain od) (by omega) ⟨.bl _, H, I, rfl, q⟩
  · obtain ⟨bs, r2⟩ := Dp.reads I _ y u hy ry
    exact SeqAt.in_tuple_data r2 r1 (plain_tuple oy) (okD_plain od) (by omega) ⟨.bl _, H, I, rfl, q⟩
theorem op_notInQ (hu : X.A.units + 64 < cLine) : OpR X (compareOp .NotIn) (rInQ X.K true) := by
  rintro pins s σ H x y v u Q I rx ry ⟨d, ds, ⟨hd, od⟩, hy, q⟩
  obtain ⟨as, r1⟩ := Dp.reads I d x v hd rx
  have dd := okD_depth od
  rcases hy with ⟨hy, oy⟩ | ⟨hy, oy⟩
  · obtain ⟨bs, r2⟩ := Dp.reads I _ y u hy ry
    exact SeqAt.notIn_list_data r2 r1 (plain_list oy) (okD_plain od) (by omega) ⟨.bl _, H, I, rfl, q⟩
  · obtain ⟨bs, r2⟩ := Dp.reads I _ y u hy ry
    exact SeqAt.notIn_tuple_data r2 r1 (plain_tuple oy) (okD_plain od) (by omega) ⟨.bl _, H, I, rfl, q⟩
mutual
theorem plain_noDict : ∀ d : D, d.plain = true → d.hasDict = false
  | .none, _ => rfl
  | .bool _, _ => rfl
  | .int _, _ => rfl
  | .str _, _ => rfl
  | .list xs, h => by
    simp only [PyData.plain] at h
    simp only [PyData.hasDict]
    exact plain_noDicts xs h
  | .tuple xs, h => by
    simp only [PyData.plain] at h
    simp only [PyData.hasDict]
    exact plain_noDicts xs h
  | .dict _, h => by simp [PyData.plain] at h
theorem plain_noDicts : ∀ ds : List D, PyData.plainAll ds = true → PyData.hasDictAll ds = false
  | [], _ => rfl
  | d :: ds, h => by
    simp only [PyData.plainAll, Bool.and_eq_true] at h
    simp only [PyData.hasDictAll, plain_noDict d h.1, plain_noDicts ds h.2, Bool.or_self]
end
/-- repr(x), x a list or a tuple -/
def rRepr (K : PySem.W.Frag) : List V → Hp → VK → Prop := fun xs H Q => ∃ x d, xs = [x] ∧ DatV K H d x ∧ (∃ a, x = .ref a) ∧ d.showable = true ∧ d.shown.length ≤ sizeLine ∧ Q (.str d.shown) H
theorem cr_repr (hu : X.A.units + 64 < cLine) (hg : X.A.guards = some []) : CallR X (.builtin "repr") (rRepr X.K) := by
  rintro pins s σ H xs us Q I r ⟨x, d, rfl, ⟨hd, od⟩, ⟨a, rfl⟩, sh, sz, q⟩
  obtain ⟨u, rfl, rx⟩ := vals1 r
  obtain ⟨as, r1⟩ := Dp.reads I d _ u hd rx
  cases rx
  have dd := okD_depth od
  exact repr_of_reads' r1 sh (PyData.noDict_hsm (plain_noDict d (okD_plain od))) hg (by omega) (fun _ _ e => e) (fun h' u tk hk => ⟨.str d.shown, H, I.kept hk, ⟨_, rfl⟩, q⟩) sz
/-! ### len(set(x)), x a list or a tuple of ints -/
def dist (ns : List Int) : Nat := ns.eraseDups.length
theorem mem_erase {a : Int} : ∀ (n : Nat) (l : List Int), l.length ≤ n → (a ∈ l.eraseDups ↔ a ∈ l)
  | n, [], _ => by simp
  | 0, b :: l, h => by simp at h
  | n + 1, b :: l, h => by
    rw [List.eraseDups_cons]
    have : (l.filter fun x => !x == b).length ≤ n := Nat.le_trans (List.length_filter_le _ _) (by simpa using h)
    rw [List.mem_cons, List.mem_cons, mem_erase n _ this, List.mem_filter]
    constructor
    · rintro (h | ⟨h, _⟩)
      · exact .inl h
      · exact .inr h
    · rintro (h | h)
      · exact .inl h
      · by_cases e : a = b
        · exact .inl e
        · exact .inr ⟨h, by simpa using e⟩
theorem nodup_erase : ∀ (n : Nat) (l : List Int), l.length ≤ n → l.eraseDups.Nodup
  | n, [], _ => by simp
  | 0, b :: l, h => by simp at h
  | n + 1, b :: l, h => by
    rw [List.eraseDups_cons]
    have hl : (l.filter fun x => !x == b).length ≤ n := Nat.le_trans (List.length_filter_le _ _) (by simpa using h)
    rw [List.nodup_cons]
    refine ⟨fun z => ?_, nodup_erase n _ hl⟩
    rw [mem_erase n _ hl, List.mem_filter] at z
    simp at z
theorem dist_of {ks ns : List Int} (hn : ks.Nodup) (hm : ∀ k, k ∈ ks ↔ k ∈ ns) : ks.length = dist ns := by
  have h2 := nodup_erase ns.length ns (Nat.le_refl _)
  have hp : ks.Perm ns.eraseDups := by
    rw [List.perm_ext_iff_of_nodup hn h2]
    intro a
    rw [hm a, mem_erase ns.length ns (Nat.le_refl _)]
  exact hp.length_eq
theorem step_nd {σ : List Int} {v : Int} (h : σ.Nodup) : (step_dedup σ v).Nodup := by
  unfold step_dedup
  split
  · exact h
  · rename_i hv
    rw [List.nodup_append]
    refine ⟨h, by simp, fun a ha b hb => ?_⟩
    simp at hb
    subst hb
    rintro rfl
    exact hv (List.any_eq_true.mpr ⟨a, ha, by simp⟩)
theorem firstMet_nd (val : Nat → Int) : ∀ i, (firstMet val i).Nodup
  | 0 => by rw [firstMet_zero]; exact List.nodup_nil
  | i + 1 => by rw [firstMet_succ]; exact step_nd (firstMet_nd val i)
theorem any_mem {l : List Int} {k : Int} : l.any (· == k) = true ↔ k ∈ l := by
  rw [List.any_eq_true]
  constructor
  · rintro ⟨x, h1, h2⟩; rw [← eq_of_beq h2]; exact h1
  · intro h; exact ⟨k, h, by simp⟩
theorem firstMet_dist (ns : List Int) : (firstMet (fun i => ns.getD i 0) ns.length).length = dist ns := by
  refine dist_of (firstMet_nd _ _) fun k => ?_
  have e := firstMet_any (fun i => ns.getD i 0) ns.length k
  have e2 : (List.range ns.length).map (fun i => ns.getD i 0) = ns := by
    apply List.ext_getElem
    · simp
    · intro i h1 h2
      simp at h1
      simp [h1]
  rw [e2] at e
  rw [← any_mem, e, any_mem]
theorem dist_le (ns : List Int) : dist ns ≤ ns.length := by
  rw [← firstMet_dist]; exact firstMet_length_le _ _
def tLenSet (K : PySem.W.Frag) (ta : TE) : TE := fun σ H Q => ta σ H fun x H1 => ∃ (l : Addr) (ns : List Int), x = .ref l ∧ (SqL K H1 l (ns.map V.int) ∨ SqT K H1 l (ns.map V.int)) ∧ ns.length ≤ 4000 ∧ Q (.int (dist ns : Nat)) H1
theorem pe_lenSet {a : Expr} {ta : TE} {p p2 q pos : Pos} (hg : Gl X "len") (hm : X.mg "len" = none) (hg2 : Gl X "set") (hm2 : X.mg "set" = none) (ha : PE X a ta) (hc : X.calm = true)
    (na : starEach [a] X.env = (false, eval a X.env) :: starEach [] X.env := by rfl) : PE X (.Call (.Name "len" p) [.Call (.Name "set" p2) [a] [] q] [] pos) (tLenSet X.K ta) := by
  refine ⟨fun pins s σ H Q I h => Call_ (ld_blt I hg hm boot_len (callWith_builtin1 (args_cons ?_ rfl) rfl rfl))⟩
  refine Call_ (ld_blt I hg2 hm2 boot_set (callWith_type1 (args_cons (thn (ha.run pins s σ H _ I h) fun v s1 ⟨x, H1, I1, r1, q1⟩ => args_nil ?_) na) na rfl))
  obtain ⟨l, ns, rfl, hq, hl, q1⟩ := q1
  cases r1
  rcases hq with hq | hq
  · obtain ⟨its, r, pl, hz⟩ := I1.list hq
    have hlen : its.toArray.size = ns.length := by rw [List.size_toArray, ← r.length, List.length_map]
    refine call_set_list (I1.ok.hd hc) pl.isList (by simpa using intsAre_of r) (by rw [hlen]; unfold scanBound; omega) fun h' tk hS hk => args_nil ?_
    rw [hlen] at hS
    have hd := firstMet_dist ns
    obtain ⟨o, es, ep, t, ho, hex, hdt, _, _, _, hf, hn⟩ := hS
    have I2 : Inv X pins σ H1 { s1 with heap := h', toks := tk } := I1.kept fun b o e => hk b o (Heap.lt_size e) e
    exact call_len_set ho hex hdt hf (by rw [hn, hd]; have := dist_le ns; omega) ⟨.int (dist ns : Nat), H1, I2.tok _, ⟨_, by rw [hn, hd]⟩, q1⟩
  · obtain ⟨its, r, pl, hz⟩ := I1.tuple hq
    refine call_set_tupI ns (I1.ok.hd hc) pl (by simpa using intsAre_of r) (by unfold scanBound; omega) fun h' tk c hS hcl hk => args_nil ?_
    obtain ⟨o, es, ep, t, ho, hex, hdt, _, hnd, hmem, _, hf, hn, _⟩ := hS
    have I2 : Inv X pins σ H1 { s1 with heap := h', toks := tk } := I1.kept hk
    have e : es.size = dist ns := by
      have := dist_of (ns := ns) hnd fun k => (hmem k).symm.trans decide_eq_true_iff
      rw [← this]; simp
    exact call_len_set ho hex hdt hf (by rw [hn]; omega) ⟨.int (dist ns : Nat), H1, I2.tok _, ⟨_, by rw [e]⟩, q1⟩
end
end VL
end
section
set_option Elab.async false
set_option linter.all false
set_option maxRecDepth 100000
namespace VL
open PySem PySem.Spec PyProof.Rows L2

/-! ### operations that only read: what they give -/
def scal : D → Option V
  | .none => some .non
  | .bool b => some (.bl b)
  | .int i => some (.int i)
  | .str x => some (.str x)
  | _ => none
def lTag (ds : List D) : Tag := if noMutL ds then .unq else .own
def tTag (ds : List D) : Tag := if noMutL ds then .unq else .sh
def pf1 (f : D → Option (D × Tag)) : PF := fun ds => match ds with
  | [d] => f d
  | _ => none
def pf2 (f : D → D → Option (D × Tag)) : PF := fun ds => match ds with
  | [d, e] => f d e
  | _ => none
/-- two scalars or data give a scalar -/
def ps1 (f : D → Option D) : PF := pf1 fun d => (f d).map fun r => (r, .unq)
def ps2 (f : D → D → Option D) : PF := pf2 fun d e => (f d e).map fun r => (r, .unq)
section
variable {K : PySem.W.Frag} {W : WV} {F : Frm} {G G' : List (Option Ent)} {H H' : Hp} {e x p : Ent} {i : Nat} {R ps Δ es : List Ent} {σ : L2.St} {vs : List V} {ds : List D} {d : D} {v : V} {t : Tag} {xs : List Ent} {fp : List Addr}
theorem rep_scal (h : scal d = some v) : Rep K H d v [] := by
  unfold scal at h
  split at h <;> cases h <;> simp [Rep]
theorem scal_rep {fp : List Addr} (h : scal d = some v) {w : V} (r : Rep K H d w fp) : w = v := by
  unfold scal at h
  split at h <;> cases h <;> (simp only [Rep] at r; exact r.1)
theorem pout_scal (h : scal d = some v) : POut K H H xs d .unq v [] := ⟨rep_scal h, fun _ _ => rfl, fun b hb => (by cases hb), ⟨List.nodup_nil, fun b hb => (by cases hb)⟩⟩
theorem pout_part {fp : List Addr} (r : Rep K H d v fp) (s : ∀ b ∈ fp, ∃ x ∈ xs, b ∈ inn x.d x.fp) : POut K H H xs d (partTag .sh d) v fp := by
  by_cases hm : noMut d = true
  · have e0 := rep_noMut _ _ _ hm r
    subst e0
    have : partTag .sh d = .unq := by unfold partTag; simp [hm]
    rw [this]
    exact ⟨r, fun _ _ => rfl, fun b hb => (by cases hb), ⟨List.nodup_nil, fun b hb => (by cases hb)⟩⟩
  · have : partTag .sh d = .sh := by unfold partTag; simp [hm]
    rw [this]
    exact ⟨r, fun _ _ => rfl, fun b hb => .inr (s b hb), trivial⟩
theorem pout_lst {q : Addr} {fs : List Addr} (hp : H q = none) (r : RepL K H ds vs fs) (s : ∀ b ∈ fs, ∃ x ∈ xs, b ∈ inn x.d x.fp) : POut K H (upd H q (.lst vs)) xs (.list ds) (lTag ds) (.ref q) (q :: fs) := by
  have sm := same_upd (o := .lst vs) hp
  have tr := repL_trk _ _ _ r
  have hq : q ∉ fs := fun z => tr q z hp
  refine ⟨?_, sm, fun b hb => ?_, ?_⟩
  · simp only [Rep]
    exact ⟨q, vs, fs, rfl, .inl upd_same, repL_mono (Grow.tup sm) _ _ _ (fun b hb => sm b (tr b hb)) r, rfl⟩
  · rcases List.mem_cons.mp hb with rfl | hb
    · exact .inl hp
    · exact .inr (s b hb)
  · unfold lTag
    by_cases hm : noMutL ds = true
    · have e0 := repL_noMut _ _ _ hm r
      subst e0
      rw [if_pos hm]
      refine ⟨by simp, fun b hb => ?_⟩
      simp at hb; subst hb
      exact ⟨hp, by rw [upd_same]; trivial⟩
    · rw [if_neg hm]
      exact ⟨rfl, q, fs, rfl, rfl, hq, hp, by rw [upd_same]; trivial⟩
theorem pout_tup {q : Addr} {fs : List Addr} (hp : H q = none) (r : RepL K H ds vs fs) (s : ∀ b ∈ fs, ∃ x ∈ xs, b ∈ inn x.d x.fp) : POut K H (upd H q (.tup vs)) xs (.tuple ds) (tTag ds) (.ref q) fs := by
  have sm := same_upd (o := .tup vs) hp
  have tr := repL_trk _ _ _ r
  refine ⟨?_, sm, fun b hb => .inr (s b hb), ?_⟩
  · simp only [Rep]
    exact ⟨q, vs, rfl, .inl (.inl upd_same), repL_mono (Grow.tup sm) _ _ _ (fun b hb => sm b (tr b hb)) r⟩
  · unfold tTag
    by_cases hm : noMutL ds = true
    · have e0 := repL_noMut _ _ _ hm r
      subst e0
      rw [if_pos hm]
      exact ⟨List.nodup_nil, fun b hb => by cases hb⟩
    · rw [if_neg hm]; trivial
/-- a tuple at hand, as it is -/
theorem pout_same {fs : List Addr} (r : Rep K H (.tuple ds) v fs) (s : ∀ b ∈ fs, ∃ x ∈ xs, b ∈ inn x.d x.fp) : POut K H H xs (.tuple ds) (tTag ds) v fs := by
  have := pout_part r s
  have e : partTag .sh (.tuple ds) = tTag ds := by
    unfold partTag tTag
    simp [noMut]
  rw [← e]; exact this
theorem pureR1_of {r : V → Hp → VK → Prop} {f : D → Option (D × Tag)} (h : ∀ (H : Hp) (x : Ent) (d : D) (t : Tag) (Q : VK), Rep K H x.d x.v x.fp → f x.d = some (d, t) → (∀ v fp H', POut K H H' [x] d t v fp → Q v H') → r x.v H Q) : PureR1 K r (pf1 f) := by
  intro H xs d t Q hx hf hQ
  match xs, hx, hf, hQ with
  | [x], hx, hf, hQ => exact ⟨x.v, rfl, h H x d t Q (hx x (by simp)) hf hQ⟩
  | [], _, hf, _ => cases hf
  | _ :: _ :: _, _, hf, _ => cases hf
theorem pureR2_of {r : R2} {f : D → D → Option (D × Tag)} (h : ∀ (H : Hp) (x y : Ent) (d : D) (t : Tag) (Q : VK), Rep K H x.d x.v x.fp → Rep K H y.d y.v y.fp → f x.d y.d = some (d, t) → (∀ v fp H', POut K H H' [x, y] d t v fp → Q v H') → r x.v y.v H Q) : PureR2 K r (pf2 f) := by
  intro H xs d t Q hx hf hQ
  match xs, hx, hf, hQ with
  | [x, y], hx, hf, hQ => exact ⟨x.v, y.v, rfl, h H x y d t Q (hx x (by simp)) (hx y (by simp)) hf hQ⟩
  | [], _, hf, _ => cases hf
  | [_], _, hf, _ => cases hf
  | _ :: _ :: _ :: _, _, hf, _ => cases hf
theorem pureC1_of {r : List V → Hp → VK → Prop} {f : D → Option (D × Tag)} (h : ∀ (H : Hp) (x : Ent) (d : D) (t : Tag) (Q : VK), Rep K H x.d x.v x.fp → f x.d = some (d, t) → (∀ v fp H', POut K H H' [x] d t v fp → Q v H') → r [x.v] H Q) : PureR K r (pf1 f) := by
  intro H xs d t Q hx hf hQ
  match xs, hx, hf, hQ with
  | [x], hx, hf, hQ => exact h H x d t Q (hx x (by simp)) hf hQ
  | [], _, hf, _ => cases hf
  | _ :: _ :: _, _, hf, _ => cases hf
theorem pureC2_of {r : List V → Hp → VK → Prop} {f : D → D → Option (D × Tag)} (h : ∀ (H : Hp) (x y : Ent) (d : D) (t : Tag) (Q : VK), Rep K H x.d x.v x.fp → Rep K H y.d y.v y.fp → f x.d y.d = some (d, t) → (∀ v fp H', POut K H H' [x, y] d t v fp → Q v H') → r [x.v, y.v] H Q) : PureR K r (pf2 f) := by
  intro H xs d t Q hx hf hQ
  match xs, hx, hf, hQ with
  | [x, y], hx, hf, hQ => exact h H x y d t Q (hx x (by simp)) (hx y (by simp)) hf hQ
  | [], _, hf, _ => cases hf
  | [_], _, hf, _ => cases hf
  | _ :: _ :: _ :: _, _, hf, _ => cases hf
/-! ints -/
def pI (C : Int → Int → Bool) (g : Int → Int → D) : D → D → Option D := fun d e => match d, e with
  | .int i, .int j => if C i j then some (g i j) else none
  | _, _ => none
theorem pI_some {C : Int → Int → Bool} {g : Int → Int → D} {d e r : D} (h : pI C g d e = some r) : ∃ i j, d = .int i ∧ e = .int j ∧ C i j = true ∧ r = g i j := by
  unfold pI at h
  split at h
  · split at h
    · rename_i hc; cases h; exact ⟨_, _, rfl, rfl, hc, rfl⟩
    · cases h
  · cases h
theorem pure_rI {P : Int → Int → Prop} {C : Int → Int → Bool} {gv : Int → Int → V} {g : Int → Int → D} (hC : ∀ i j, C i j = true → P i j) (hg : ∀ i j, scal (g i j) = some (gv i j)) : PureR2 K (rI P gv) (ps2 (pI C g)) :=
  pureR2_of fun H x y d t Q hx hy hf hQ => by
    obtain ⟨r, hr, e⟩ := Option.map_eq_some_iff.mp hf
    obtain ⟨i, j, e1, e2, hc, rfl⟩ := pI_some hr
    cases e
    exact ⟨i, j, rep_intV hx e1, rep_intV hy e2, hC i j hc, hQ _ _ _ (pout_scal (hg i j))⟩
def yes2 : Int → Int → Bool := fun _ _ => true
theorem pure_rI0 {gv : Int → Int → V} {g : Int → Int → D} (hg : ∀ i j, scal (g i j) = some (gv i j)) : PureR2 K (rI0 gv) (ps2 (pI yes2 g)) :=
  pureR2_of fun H x y d t Q hx hy hf hQ => by
    obtain ⟨r, hr, e⟩ := Option.map_eq_some_iff.mp hf
    obtain ⟨i, j, e1, e2, hc, rfl⟩ := pI_some hr
    cases e
    exact ⟨i, j, rep_intV hx e1, rep_intV hy e2, hQ _ _ _ (pout_scal (hg i j))⟩
def pSub : PF := ps2 (pI yes2 fun i j => .int (i - j))
theorem pure_sub : PureR2 K (rI0 fun i j => .int (i - j)) pSub := pure_rI0 fun _ _ => rfl
def pLt : PF := ps2 (pI yes2 fun i j => .bool (decide (i < j)))
def pLe : PF := ps2 (pI yes2 fun i j => .bool (decide (i ≤ j)))
def pGt : PF := ps2 (pI yes2 fun i j => .bool (decide (j < i)))
def pGe : PF := ps2 (pI yes2 fun i j => .bool (decide (j ≤ i)))
theorem pure_lt : PureR2 K (rI0 fun i j => .bl (decide (i < j))) pLt := pure_rI0 fun _ _ => rfl
theorem pure_le : PureR2 K (rI0 fun i j => .bl (decide (i ≤ j))) pLe := pure_rI0 fun _ _ => rfl
theorem pure_gt : PureR2 K (rI0 fun i j => .bl (decide (j < i))) pGt := pure_rI0 fun _ _ => rfl
theorem pure_ge : PureR2 K (rI0 fun i j => .bl (decide (j ≤ i))) pGe := pure_rI0 fun _ _ => rfl
/-- a divisor above 0, not too long -/
def cDiv (_ j : Int) : Bool := decide (0 < j) && decide (j.natAbs.log2 < 9000)
def pFdiv : PF := ps2 (pI cDiv fun i j => .int (i / j))
theorem pure_fdiv : PureR2 K (rI CDivW fun i j => .int (i / j)) pFdiv := pure_rI (fun i j h => by
  unfold cDiv at h; simp only [Bool.and_eq_true, decide_eq_true_eq] at h; exact h) fun _ _ => rfl
def cPos (_ j : Int) : Bool := decide (0 < j)
def pMod : PF := ps2 (pI cPos fun i j => .int (i % j))
theorem pure_mod : PureR2 K (rI (fun _ j => 0 < j) fun i j => .int (i % j)) pMod := pure_rI (fun i j h => of_decide_eq_true h) fun _ _ => rfl
def cPow (i j : Int) : Bool := decide (0 ≤ j) && Nat.ble j.natAbs 1000000 && Nat.ble i.natAbs 18446744073709551615
def pPow : PF := ps2 (pI cPow fun i j => .int (i ^ j.toNat))
theorem pure_pow : PureR2 K (rI CPow fun i j => .int (i ^ j.toNat)) pPow := pure_rI (fun i j h => by
  unfold cPow at h; simp only [Bool.and_eq_true, decide_eq_true_eq] at h
  have h1 := Nat.le_of_ble_eq_true h.1.2
  have h2 := Nat.le_of_ble_eq_true h.2
  exact ⟨h.1.1, by have := h.1.1; omega, by omega⟩) fun _ _ => rfl
def negD (d : D) : Option D := match d with
  | .int i => some (.int (-i))
  | _ => none
def pNeg : PF := ps1 negD
theorem pure_neg : PureR1 K (rU fun i => .int (-i)) pNeg := pureR1_of fun H x d t Q hx hf hQ => by
  obtain ⟨r, hr, e⟩ := Option.map_eq_some_iff.mp hf
  cases e
  unfold negD at hr
  split at hr
  · rename_i i hi
    cases hr
    exact ⟨i, rep_intV hx hi, hQ _ _ _ (pout_scal rfl)⟩
  · cases hr
theorem rep_lst (r : Rep K H (.list ds) v fp) : ∃ a xs fs, v = .ref a ∧ Rd H a (.lst xs) ∧ RepL K H ds xs fs ∧ fp = a :: fs := by simpa only [Rep] using r
theorem rep_tup (r : Rep K H (.tuple ds) v fp) : ∃ a xs, v = .ref a ∧ SqT K H a xs ∧ RepL K H ds xs fp := by simpa only [Rep] using r
theorem ent_lst (h : x.d = .list ds) (r : Rep K H x.d x.v x.fp) : ∃ a xs fs, x.v = .ref a ∧ Rd H a (.lst xs) ∧ RepL K H ds xs fs ∧ ∀ b ∈ fs, b ∈ inn x.d x.fp := by
  rw [h] at r
  obtain ⟨a, xs, fs, e1, e2, e3, e4⟩ := rep_lst r
  exact ⟨a, xs, fs, e1, e2, e3, fun b hb => by rw [h, e4]; exact hb⟩
theorem ent_tup (h : x.d = .tuple ds) (r : Rep K H x.d x.v x.fp) : ∃ a xs, x.v = .ref a ∧ SqT K H a xs ∧ RepL K H ds xs x.fp ∧ ∀ b ∈ x.fp, b ∈ inn x.d x.fp := by
  rw [h] at r
  obtain ⟨a, xs, e1, e2, e3⟩ := rep_tup r
  exact ⟨a, xs, e1, e2, e3, fun b hb => by rw [h]; exact hb⟩
theorem ent_str {z : Str} (h : x.d = .str z) (r : Rep K H x.d x.v x.fp) : x.v = .str z := by
  rw [h] at r; simp only [Rep] at r; exact r.1
theorem ent_bool {z : Bool} (h : x.d = .bool z) (r : Rep K H x.d x.v x.fp) : x.v = .bl z := by
  rw [h] at r; simp only [Rep] at r; exact r.1
/-! a + b -/
def rCatQ : R2 := fun x y H Q => ∃ l b xs zs, x = .ref l ∧ y = .ref b ∧ Rd H l (.lst xs) ∧ Rd H b (.lst zs) ∧ xs.length + zs.length ≤ sizeLine ∧ ∀ p, H p = none → Q (.ref p) (upd H p (.lst (xs ++ zs)))
theorem op_catQ {X : Cx} : OpR X (binaryOp .Add) rCatQ := by
  rintro pins s σ H x y v u Q I rx ry ⟨l, b, xs, zs, rfl, rfl, hH, hB, hz, q⟩
  cases rx
  cases ry
  obtain ⟨_, its, n, r, e⟩ := hH.ok I.hok
  obtain ⟨_, its2, n2, r2, e2⟩ := hB.ok I.hok
  have hl := r.length
  have hl2 := r2.length
  refine PySem.P.add_list e e2 ?_ (by rw [List.size_toArray, List.size_toArray]; omega)
  rw [show its.toArray ++ its2.toArray = (its ++ its2).toArray by simp]
  exact ⟨.ref _, _, I.lnew (t' := s.toks) (r.append r2) (by rw [List.length_append]; omega), rfl, q _ I.fresh⟩
def rStrCat : R2 := fun x y H Q => ∃ i j, x = .str i ∧ y = .str j ∧ i.length + j.length ≤ sizeLine ∧ Q (.str (i ++ j)) H
def rAdd (K : PySem.W.Frag) : R2 := fun x y H Q => rI0 (fun i j => .int (i + j)) x y H Q ∨ (rCatQ x y H Q ∨ (rCatA K x y H Q ∨ rStrCat x y H Q))
theorem op_addD {X : Cx} : OpR X (binaryOp .Add) (rAdd X.K) := op_add.or (op_catQ.or (op_catA.or op_add_str))
def addD (d e : D) : Option (D × Tag) := match d, e with
  | .int i, .int j => some (.int (i + j), .unq)
  | .list a, .list b => if a.length + b.length ≤ lim then some (.list (a ++ b), lTag (a ++ b)) else none
  | .tuple a, .tuple b => if a.length + b.length ≤ lim then some (.tuple (a ++ b), tTag (a ++ b)) else none
  | .str a, .str b => if a.length + b.length ≤ lim then some (.str (a ++ b), .unq) else none
  | _, _ => none
def pAdd : PF := pf2 addD
theorem pure_add : PureR2 K (rAdd K) pAdd := pureR2_of fun H x y d t Q hx hy hf hQ => by
  unfold addD at hf
  split at hf
  · rename_i i j e1 e2
    cases hf
    exact .inl ⟨i, j, rep_intV hx e1, rep_intV hy e2, hQ _ _ _ (pout_scal rfl)⟩
  · rename_i a b e1 e2
    split at hf
    · rename_i hl
      cases hf
      obtain ⟨p, xs, fs, v1, r1, l1, s1⟩ := ent_lst e1 hx
      obtain ⟨q, ys, gs, v2, r2, l2, s2⟩ := ent_lst e2 hy
      refine .inr (.inl ⟨p, q, xs, ys, v1, v2, r1, r2, by rw [l1.length, l2.length, ← lim_eq]; exact hl, fun m hm => hQ _ _ _ (pout_lst hm (l1.append l2) fun b hb => ?_)⟩)
      rcases List.mem_append.mp hb with hb | hb
      · exact ⟨x, by simp, s1 b hb⟩
      · exact ⟨y, by simp, s2 b hb⟩
    · cases hf
  · rename_i a b e1 e2
    split at hf
    · rename_i hl
      cases hf
      obtain ⟨p, xs, v1, r1, l1, s1⟩ := ent_tup e1 hx
      obtain ⟨q, ys, v2, r2, l2, s2⟩ := ent_tup e2 hy
      have hx' := hx
      have hy' := hy
      rw [e1] at hx'
      rw [e2] at hy'
      refine .inr (.inr (.inl ⟨p, q, xs, ys, v1, v2, r1, r2, by rw [l1.length, l2.length, ← lim_eq]; exact hl, fun z => ?_, fun _ z => ?_, fun _ _ m hm => hQ _ _ _ (pout_tup hm (l1.append l2) fun b hb => ?_)⟩))
      · have : a = [] := List.length_eq_zero_iff.mp (by rw [← l1.length, z]; rfl)
        subst this
        rw [← v2]
        exact hQ _ _ _ (pout_same hy' fun b hb => ⟨y, by simp, s2 b hb⟩)
      · have : b = [] := List.length_eq_zero_iff.mp (by rw [← l2.length, z]; rfl)
        subst this
        rw [← v1]
        rw [List.append_nil] at hQ
        exact hQ _ _ _ (pout_same hx' fun b hb => ⟨x, by simp, s1 b hb⟩)
      · rcases List.mem_append.mp hb with hb | hb
        · exact ⟨x, by simp, s1 b hb⟩
        · exact ⟨y, by simp, s2 b hb⟩
    · cases hf
  · rename_i a b e1 e2
    split at hf
    · rename_i hl
      cases hf
      exact .inr (.inr (.inr ⟨a, b, ent_str e1 hx, ent_str e2 hy, by rw [← lim_eq]; exact hl, hQ _ _ _ (pout_scal rfl)⟩))
    · cases hf
  · cases hf
/-! a * b -/
def repN {α : Type} (k : Int) (l : List α) : List α := (List.replicate k.toNat l).flatten
theorem RepL.rep {vs : List V} {fs : List Addr} (h : RepL K H ds vs fs) : ∀ n : Nat, ∃ gs, RepL K H (List.replicate n ds).flatten (List.replicate n vs).flatten gs ∧ ∀ b ∈ gs, b ∈ fs
  | 0 => ⟨[], by simpa using RepL.nil, fun b hb => by cases hb⟩
  | n + 1 => by
    obtain ⟨gs, h1, h2⟩ := RepL.rep h n
    refine ⟨fs ++ gs, by rw [List.replicate_succ, List.replicate_succ, List.flatten_cons, List.flatten_cons]; exact h.append h1, fun b hb => ?_⟩
    rcases List.mem_append.mp hb with hb | hb
    · exact hb
    · exact h2 b hb
def cMul (i j : Int) : Bool := Nat.ble (Builtin.Int.intBits i + Builtin.Int.intBits j) 134217728
theorem cMul_ok {i j : Int} (h : cMul i j = true) : CMulX i j := by
  have := Nat.le_of_ble_eq_true h
  show (Builtin.Int.intBits i : Int) + (Builtin.Int.intBits j : Int) ≤ 134217728
  omega
def rRepQ : R2 := fun x y H Q => ∃ l k xs, x = .ref l ∧ y = .int k ∧ Rd H l (.lst xs) ∧ -(2 ^ 63) ≤ k ∧ k < 2 ^ 63 ∧ xs.length * k.toNat ≤ sizeLine ∧ ∀ p, H p = none → Q (.ref p) (upd H p (.lst (List.replicate k.toNat xs).flatten))
theorem rep_new (its : List Value) (k : Int) : List.foldl (fun x1 x2 => x1 ++ x2) #[] (List.replicate (if its.toArray.isEmpty = true then 0 else k.toNat) its.toArray) = (List.replicate k.toNat its).flatten.toArray := by
  have f0 := fun m : Nat => foldl_rep its m []
  simp only [List.nil_append] at f0
  cases its with
  | nil => simp
  | cons a r' =>
    rw [if_neg (by simp)]
    exact f0 _
theorem op_repQ {X : Cx} : OpR X (binaryOp .Mult) rRepQ := by
  rintro pins s σ H x y v u Q I rx ry ⟨l, k, xs, rfl, rfl, hH, h1, h2, hz, q⟩
  cases rx
  obtain ⟨t, rfl⟩ := ry
  obtain ⟨z, its, n, r, e⟩ := hH.ok I.hok
  have hs : its.toArray.size * k.toNat ≤ sizeLine := by rw [List.size_toArray, ← r.length]; exact hz
  have c1 : ¬ its.toArray.size * k.toNat > (2 ^ 63 - 1) / 8 := by
    have : (sizeLine : Nat) ≤ (2 ^ 63 - 1) / 8 := by decide
    omega
  have c2 : ¬ (!Builtin.List.listFitsIndex k) = true := by rw [fitsIndex_both h1 h2]; exact Bool.false_ne_true
  have c3 : ¬ Builtin.List.listTooLong (its.toArray.size * k.toNat) = true := by rw [notLongL hs]; exact Bool.false_ne_true
  refine wpAny_binaryOp_repeat_ref (T := "list") (U := "int") (by decide) ⟨_, e, rfl⟩ (fun s' => typeIs_int s' k t) noFill_list_mul F.fills_int_mul F.slot_int_rmul repeat_list F.slot_int_index.lookup ?_
  refine call_meets F.slot_int_rmul (typeIs_int s k t) F.entry_int_rmul (F.args_int_rmul_2 _ _) (int___rmul___int_list k t l its.toArray n) ⟨e, rfl, ⟨_, e, rfl⟩, ?_⟩
  refine call_meets F.slot_list_mul ⟨_, e, rfl⟩ F.entry_list_mul (F.args_list_mul_2 _ _) (AutoListH.list___mul___list_int_3 l its.toArray n k t c2 c1 c3) ⟨e, ?_⟩
  rw [rep_new]
  exact ⟨.ref _, _, I.lnew (t' := s.toks) (r.rep k.toNat) (by rw [PyProof.Rows.lm_len_rep_flat, Nat.mul_comm]; exact hz), rfl, q _ I.fresh⟩
def rMulD (K : PySem.W.Frag) : R2 := fun x y H Q => rI CMulX (fun i j => .int (i * j)) x y H Q ∨ (rRepQ x y H Q ∨ rRepT K x y H Q)
theorem op_mulD {X : Cx} : OpR X (binaryOp .Mult) (rMulD X.K) := op_mulX.or (op_repQ.or op_repT)
def half63 : Int := 9223372036854775808
def mulD (d e : D) : Option (D × Tag) := match d, e with
  | .int i, .int j => if cMul i j then some (.int (i * j), .unq) else none
  | .list a, .int k => if Nat.ble k.natAbs 9223372036854775807 && Nat.ble (a.length * k.toNat) lim then some (.list (repN k a), lTag (repN k a)) else none
  | .tuple a, .int k => if decide (a ≠ []) && decide (2 ≤ k) && decide (k ≤ 1000) && decide (a.length ≤ 1000) then some (.tuple (repN k a), tTag (repN k a)) else none
  | _, _ => none
def pMul : PF := pf2 mulD
theorem pure_mul : PureR2 K (rMulD K) pMul := pureR2_of fun H x y d t Q hx hy hf hQ => by
  unfold mulD at hf
  split at hf
  · rename_i i j e1 e2
    split at hf
    · rename_i hc
      cases hf
      exact .inl ⟨i, j, rep_intV hx e1, rep_intV hy e2, cMul_ok hc, hQ _ _ _ (pout_scal rfl)⟩
    · cases hf
  · rename_i a k e1 e2
    split at hf
    · rename_i hl
      rw [Bool.and_eq_true] at hl
      have k1 := Nat.le_of_ble_eq_true hl.1
      have k2 := Nat.le_of_ble_eq_true hl.2
      cases hf
      obtain ⟨p, xs, fs, v1, r1, l1, s1⟩ := ent_lst e1 hx
      obtain ⟨gs, h1, h2⟩ := l1.rep k.toNat
      have hh : (9223372036854775808 : Int) = 2 ^ 63 := by decide
      exact .inr (.inl ⟨p, k, xs, v1, rep_intV hy e2, r1, by rw [← hh]; omega, by rw [← hh]; omega, by rw [l1.length, ← lim_eq]; exact k2, fun m hm => hQ _ _ _ (pout_lst hm h1 fun b hb => ⟨x, by simp, s1 b (h2 b hb)⟩)⟩)
    · cases hf
  · rename_i a k e1 e2
    split at hf
    · rename_i hl
      simp only [Bool.and_eq_true, decide_eq_true_eq] at hl
      cases hf
      obtain ⟨p, xs, v1, r1, l1, s1⟩ := ent_tup e1 hx
      obtain ⟨gs, h1, h2⟩ := l1.rep k.toNat
      refine .inr (.inr ⟨p, k, xs, v1, rep_intV hy e2, r1, fun z => ?_, hl.1.1.2, hl.1.2, by rw [l1.length]; exact hl.2, fun m hm => hQ _ _ _ (pout_tup hm h1 fun b hb => ⟨x, by simp, s1 b (h2 b hb)⟩)⟩)
      exact hl.1.1.1 (List.length_eq_zero_iff.mp (by rw [← l1.length, z]; rfl))
    · cases hf
  · cases hf
/-! a[i] -/
def ixD (d e : D) : Option (D × Tag) := match d, e with
  | .list a, .int i => (atI a i).map fun r => (r, partTag .sh r)
  | .tuple a, .int i => (atI a i).map fun r => (r, partTag .sh r)
  | .str z, .int i => if z.length ≤ lim then (atI z.cps.toList i).map fun c => (.str ⟨#[c]⟩, .unq) else none
  | _, _ => none
def pIx : PF := pf2 ixD
theorem repL_atI {i : Int} {vs : List V} {fs : List Addr} (h : RepL K H ds vs fs) (e : atI ds i = some d) : ∃ v f, atI vs i = some v ∧ Rep K H d v f ∧ ∀ b ∈ f, b ∈ fs := by
  unfold atI at *
  rw [h.length]
  cases q : ixN ds.length i with
  | none => rw [q] at e; cases e
  | some j =>
    rw [q] at e
    obtain ⟨v, f, h1, h2, h3⟩ := h.get j d e
    exact ⟨v, f, h1, h2, fun b hb => h3.subset hb⟩
theorem pure_ix : PureR2 K (rIx K) pIx := pureR2_of fun H x y d t Q hx hy hf hQ => by
  unfold ixD at hf
  split at hf
  · rename_i a i e1 e2
    obtain ⟨r, hr, e⟩ := Option.map_eq_some_iff.mp hf
    cases e
    obtain ⟨p, xs, fs, v1, r1, l1, s1⟩ := ent_lst e1 hx
    obtain ⟨v, f, h1, h2, h3⟩ := repL_atI l1 hr
    exact .inl ⟨p, xs, i, v, v1, rep_intV hy e2, .inl r1, h1, hQ _ _ _ (pout_part h2 fun b hb => ⟨x, by simp, s1 b (h3 b hb)⟩)⟩
  · rename_i a i e1 e2
    obtain ⟨r, hr, e⟩ := Option.map_eq_some_iff.mp hf
    cases e
    obtain ⟨p, xs, v1, r1, l1, s1⟩ := ent_tup e1 hx
    obtain ⟨v, f, h1, h2, h3⟩ := repL_atI l1 hr
    exact .inr (.inl ⟨p, xs, i, v, v1, rep_intV hy e2, r1, h1, hQ _ _ _ (pout_part h2 fun b hb => ⟨x, by simp, s1 b (h3 b hb)⟩)⟩)
  · rename_i z i e1 e2
    split at hf
    · rename_i hl
      obtain ⟨r, hr, e⟩ := Option.map_eq_some_iff.mp hf
      cases e
      exact .inr (.inr ⟨z, i, r, ent_str e1 hx, rep_intV hy e2, by rw [← lim_eq]; exact hl, hr, hQ _ _ _ (pout_scal rfl)⟩)
    · cases hf
  · cases hf
/-! slices -/
def cutD {α : Type} (xs : List α) (lo hi : Option Int) : List α := (xs.drop (HT.sIx xs.length 0 lo)).take (HT.sIx xs.length xs.length hi - HT.sIx xs.length 0 lo)
theorem RepL.cut {vs : List V} {fs : List Addr} (h : RepL K H ds vs fs) (lo hi : Option Int) : ∃ gs, RepL K H (cutD ds lo hi) (cutV vs lo hi) gs ∧ ∀ b ∈ gs, b ∈ fs := by
  unfold cutD cutV
  rw [h.length]
  obtain ⟨f, g, rfl, h1, h2⟩ := h.sub (HT.sIx ds.length 0 lo)
  obtain ⟨f', g', rfl, h3, h4⟩ := h2.sub (HT.sIx ds.length ds.length hi - HT.sIx ds.length 0 lo)
  exact ⟨f', h3, fun b hb => List.mem_append_right _ (List.mem_append_left _ hb)⟩
def rSlD (K : PySem.W.Frag) : V → Option Int → Option Int → Hp → VK → Prop := fun x lo hi H Q => rSlL K x lo hi H Q ∨ (rSlA K x lo hi H Q ∨ rSlS x lo hi H Q)
theorem sl_D {X : Cx} : SlR X (rSlD X.K) := sl_list.or (sl_tupA.or sl_str)
def slD (lo hi : Option Int) (d : D) : Option (D × Tag) := match d with
  | .list a => some (.list (cutD a lo hi), lTag (cutD a lo hi))
  | .tuple a => some (.tuple (cutD a lo hi), tTag (cutD a lo hi))
  | .str z => if z.length ≤ lim then some (.str (cutS z lo hi), .unq) else none
  | _ => none
/-- a bound of a slice: left out, or an expression's int -/
inductive Bd where
  | no | e (f : ER)
def bdE (b : Bd) (env : Env) : Res (Option Int × Env) := match b with
  | .no => .ok (none, env)
  | .e f => (f env).bind fun p => match p.1.d p.2 with
    | some (.int i) => .ok (some i, p.2)
    | _ => .bad
def BOut (F : Frm) (R : List Ent) (σ : L2.St) (W : WV) (r : Res (Option Int × Env)) (Q : Option Int → Hp → Prop) : Prop := match r with
  | .ok (o, env) => ∀ G H, envOf G = env → Now F G R σ H → Q o H
  | .exc c env => ∀ G H, envOf G = env → Now F G R σ H → W c σ H
  | .bad => False
def SpecB (K : PySem.W.Frag) (W : WV) (t : TO) (b : Bd) : Prop := ∀ F G R σ H Q, F.K = K → Now F G R σ H → BOut F R σ W (bdE b (envOf G)) Q → t σ H Q
theorem spec_bNo : SpecB K W tNoPart .no := fun F G R σ H Q hK n h => h G H rfl n
theorem spec_bE {te : TE} {f : ER} (he : SpecE K W te f) : SpecB K W (tPart te) (.e f) := fun F G R σ H Q hK n h => by
  refine he F G R σ H _ hK n ?_
  simp only [bdE] at h
  cases q : f (envOf G) with
  | bad => rw [q] at h; exact h
  | exc c env => rw [q] at h; exact h
  | ok p =>
    obtain ⟨o, env⟩ := p
    rw [q] at h
    intro G1 H1 es v g1 n1 w
    subst g1
    simp only [Res.bind] at h
    split at h
    · rename_i i hi
      exact ⟨i, int_of n1 w hi, h G1 H1 rfl n1.drop⟩
    · exact h.elim
def slE (a : ER) (lo hi : Bd) : ER := fun env => (a env).bind fun p => (bdE lo p.2).bind fun q => (bdE hi q.2).bind fun r => pureOf (pf1 (slD q.1 r.1)) [p.1] r.2
theorem pure_sl (lo hi : Option Int) : PureR1 K (fun x H Q => rSlD K x lo hi H Q) (pf1 (slD lo hi)) := pureR1_of fun H x d t Q hx hf hQ => by
  unfold slD at hf
  split at hf
  · rename_i a e1
    cases hf
    obtain ⟨p, xs, fs, v1, r1, l1, s1⟩ := ent_lst e1 hx
    obtain ⟨gs, h1, h2⟩ := l1.cut lo hi
    exact .inl ⟨p, xs, v1, .inl r1, fun m hm => hQ _ _ _ (pout_lst hm h1 fun b hb => ⟨x, by simp, s1 b (h2 b hb)⟩)⟩
  · rename_i a e1
    cases hf
    obtain ⟨p, xs, v1, r1, l1, s1⟩ := ent_tup e1 hx
    obtain ⟨gs, h1, h2⟩ := l1.cut lo hi
    refine .inr (.inl ⟨p, xs, v1, r1, fun z => ?_, fun _ m hm => hQ _ _ _ (pout_tup hm h1 fun b hb => ⟨x, by simp, s1 b (h2 b hb)⟩)⟩)
    have e : cutD a lo hi = a := by
      rw [l1.length] at z
      unfold cutD
      rw [z.1, z.2]
      simp
    rw [e] at hQ
    rw [← v1]
    have hx' := hx
    rw [e1] at hx'
    exact hQ _ _ _ (pout_same hx' fun b hb => ⟨x, by simp, s1 b hb⟩)
  · rename_i z e1
    split at hf
    · rename_i hl
      cases hf
      exact .inr (.inr ⟨z, ent_str e1 hx, by rw [← lim_eq]; exact hl, hQ _ _ _ (pout_scal rfl)⟩)
    · cases hf
  · cases hf
theorem spec_sl {te : TE} {tl th : TO} {a : ER} {lo hi : Bd} (ha : SpecE K W te a) (hl : SpecB K W tl lo) (hh : SpecB K W th hi) : SpecE K W (tSl (rSlD K) te tl th) (slE a lo hi) := fun F G R σ H Q hK n h => by
  refine ha F G R σ H _ hK n ?_
  simp only [slE] at h
  cases q : a (envOf G) with
  | bad => rw [q] at h; exact h
  | exc c env => rw [q] at h; exact h
  | ok p =>
    obtain ⟨o, env⟩ := p
    rw [q] at h
    intro G1 H1 es v g1 n1 w
    subst g1
    refine hl F G1 (R ++ es) σ H1 _ hK n1 ?_
    simp only [Res.bind] at h
    cases q2 : bdE lo (envOf G1) with
    | bad => rw [q2] at h; exact h
    | exc c env => rw [q2] at h; exact fun G2 H2 g2 n2 => h G2 H2 g2 n2.drop
    | ok p2 =>
      obtain ⟨l, env2⟩ := p2
      rw [q2] at h
      intro G2 H2 g2 n2
      subst g2
      refine hh F G2 (R ++ es) σ H2 _ hK n2 ?_
      simp only [] at h
      cases q3 : bdE hi (envOf G2) with
      | bad => rw [q3] at h; exact h
      | exc c env => rw [q3] at h; exact fun G3 H3 g3 n3 => h G3 H3 g3 n3.drop
      | ok p3 =>
        obtain ⟨u, env3⟩ := p3
        rw [q3] at h
        intro G3 H3 g3 n3
        subst g3
        obtain ⟨y, e3, q⟩ := pure_of (pure_sl l u) hK n3 w h
        cases e3
        exact q
/-! [::-1] -/
def revD (d : D) : Option (D × Tag) := match d with
  | .list a => some (.list a.reverse, lTag a.reverse)
  | .tuple a => some (.tuple a.reverse, tTag a.reverse)
  | _ => none
def pRev : PF := pf1 revD
theorem RepL.rev : ∀ {ds : List D} {vs : List V} {fs : List Addr}, RepL K H ds vs fs → ∃ gs, RepL K H ds.reverse vs.reverse gs ∧ ∀ b ∈ gs, b ∈ fs
  | [], vs, fs, h => by
    simp only [RepL] at h
    obtain ⟨rfl, rfl⟩ := h
    exact ⟨[], by simpa using RepL.nil, fun b hb => hb⟩
  | d :: ds, vs, fs, h => by
    simp only [RepL] at h
    obtain ⟨x, r, f, g, rfl, rfl, h1, h2⟩ := h
    obtain ⟨gs, h3, h4⟩ := RepL.rev h2
    refine ⟨gs ++ (f ++ []), by rw [List.reverse_cons, List.reverse_cons]; exact h3.append (RepL.cons h1 RepL.nil), fun b hb => ?_⟩
    rw [List.append_nil] at hb
    rcases List.mem_append.mp hb with hb | hb
    · exact List.mem_append_right _ (h4 b hb)
    · exact List.mem_append_left _ hb
/-! len, tuple(x), list(x) -/
def lenD (d : D) : Option D := match d with
  | .list a => some (.int a.length)
  | .tuple a => some (.int a.length)
  | .str z => if z.length ≤ lim then some (.int z.length) else none
  | _ => none
def pLen : PF := ps1 lenD
theorem pure_len : PureR K (fun xs H Q => ∃ x n, xs = [x] ∧ LenV K x H n ∧ Q (.int n) H) pLen := pureC1_of fun H x d t Q hx hf hQ => by
  obtain ⟨r, hr, e⟩ := Option.map_eq_some_iff.mp hf
  cases e
  unfold lenD at hr
  split at hr
  · rename_i a e1
    cases hr
    obtain ⟨p, xs, fs, v1, r1, l1, s1⟩ := ent_lst e1 hx
    exact ⟨x.v, a.length, rfl, by rw [v1]; exact .inl ⟨xs, .inl r1, l1.length.symm⟩, hQ _ _ _ (pout_scal rfl)⟩
  · rename_i a e1
    cases hr
    obtain ⟨p, xs, v1, r1, l1, s1⟩ := ent_tup e1 hx
    exact ⟨x.v, a.length, rfl, by rw [v1]; exact .inr ⟨xs, r1, l1.length.symm⟩, hQ _ _ _ (pout_scal rfl)⟩
  · rename_i z e1
    split at hr
    · rename_i hl
      cases hr
      exact ⟨x.v, z.length, rfl, by rw [ent_str e1 hx]; exact ⟨by rw [← lim_eq]; exact hl, rfl⟩, hQ _ _ _ (pout_scal rfl)⟩
    · cases hr
  · cases hr
def tupD (d : D) : Option (D × Tag) := match d with
  | .list a => some (.tuple a, tTag a)
  | .tuple a => some (.tuple a, tTag a)
  | _ => none
def pTup : PF := pf1 tupD
theorem pure_tup : PureR1 K (fun x H Q => kTup K x H Q) pTup := pureR1_of fun H x d t Q hx hf hQ => by
  unfold tupD at hf
  split at hf
  · rename_i a e1
    cases hf
    obtain ⟨p, xs, fs, v1, r1, l1, s1⟩ := ent_lst e1 hx
    exact .inl ⟨p, xs, v1, .inl r1, fun m hm => hQ _ _ _ (pout_tup hm l1 fun b hb => ⟨x, by simp, s1 b hb⟩)⟩
  · rename_i a e1
    cases hf
    obtain ⟨p, xs, v1, r1, l1, s1⟩ := ent_tup e1 hx
    have hx' := hx
    rw [e1] at hx'
    exact .inr ⟨p, xs, v1, r1, by rw [← v1]; exact hQ _ _ _ (pout_same hx' fun b hb => ⟨x, by simp, s1 b hb⟩)⟩
  · cases hf
theorem spec_tupleOf {te : TE} {a : ER} (ha : SpecE K W te a) : SpecE K W (tThen te (kTup K)) (ePure1 pTup a) := spec_un pure_tup ha
end
end VL
end
section
set_option Elab.async false
set_option linter.all false
set_option maxRecDepth 100000
set_option autoImplicit false
namespace VL
open PySem PySem.Spec PyProof.Rows L2

section
variable {K : PySem.W.Frag} {W : WV} {F : Frm} {G G' : List (Option Ent)} {H H' : Hp} {e x p : Ent} {i : Nat} {R ps Δ es : List Ent} {σ : L2.St} {vs : List V} {ds : List D} {d : D} {v : V} {t : Tag} {xs : List Ent} {fp : List Addr}
mutual
theorem rep_dp : ∀ (d : D) (v : V) (fp : List Addr), d.plain = true → Rep K H d v fp → Dp K H v d
  | .none, v, fp, _, h => by simp only [Rep] at h; rw [h.1]; exact .non
  | .bool _, v, fp, _, h => by simp only [Rep] at h; rw [h.1]; exact .bl _
  | .int _, v, fp, _, h => by simp only [Rep] at h; rw [h.1]; exact .int _
  | .str _, v, fp, _, h => by simp only [Rep] at h; rw [h.1]; exact .str _
  | .list ds, v, fp, q, h => by
    simp only [Rep] at h
    simp only [PyData.plain] at q
    obtain ⟨a, xs, fs, rfl, e2, e3, _⟩ := h
    exact .lst (.inl e2) (repL_dp ds xs fs q e3)
  | .tuple ds, v, fp, q, h => by
    simp only [Rep] at h
    simp only [PyData.plain] at q
    obtain ⟨a, xs, rfl, e2, e3⟩ := h
    exact .tup e2 (repL_dp ds xs fp q e3)
  | .dict _, v, fp, q, h => by simp [PyData.plain] at q
theorem repL_dp : ∀ (ds : List D) (vs : List V) (fp : List Addr), PyData.plainAll ds = true → RepL K H ds vs fp → DpAll K H vs ds
  | [], vs, fp, _, h => by simp only [RepL] at h; rw [h.1]; exact .nil
  | d :: ds, vs, fp, q, h => by
    simp only [RepL] at h
    simp only [PyData.plainAll, Bool.and_eq_true] at q
    obtain ⟨x, r, f, g, rfl, rfl, h1, h2⟩ := h
    exact .cons (rep_dp d x f q.1 h1) (repL_dp ds r g q.2 h2)
end
theorem rep_dat (h : Rep K H d v fp) (o : okD d = true) : DatV K H d v := ⟨rep_dp d v fp (okD_plain o) h, o⟩
theorem pure_rev : PureR1 K (rRevA K) pRev := pureR1_of fun H x d t Q hx hf hQ => by
  unfold revD at hf
  split at hf
  · rename_i a e1
    cases hf
    obtain ⟨p, xs, fs, v1, r1, l1, s1⟩ := ent_lst e1 hx
    obtain ⟨gs, h1, h2⟩ := l1.rev
    exact .inl ⟨p, xs, v1, .inl r1, fun m hm => hQ _ _ _ (pout_lst hm h1 fun b hb => ⟨x, by simp, s1 b (h2 b hb)⟩)⟩
  · rename_i a e1
    cases hf
    obtain ⟨p, xs, v1, r1, l1, s1⟩ := ent_tup e1 hx
    obtain ⟨gs, h1, h2⟩ := l1.rev
    exact .inr ⟨p, xs, v1, r1, fun m hm => hQ _ _ _ (pout_tup hm h1 fun b hb => ⟨x, by simp, s1 b (h2 b hb)⟩)⟩
  · cases hf
/-! ==, != -/
def eqD (d e : D) : Option D := if okD d && okD e then some (.bool (PyData.eqv d e)) else none
def neD (d e : D) : Option D := if okD d && okD e then some (.bool (!PyData.eqv d e)) else none
def pEq : PF := ps2 eqD
def pNe : PF := ps2 neD
theorem pure_eq : PureR2 K (rEqQ K) pEq := pureR2_of fun H x y d t Q hx hy hf hQ => by
  obtain ⟨r, hr, e⟩ := Option.map_eq_some_iff.mp hf
  cases e
  unfold eqD at hr
  split at hr
  · rename_i ho
    rw [Bool.and_eq_true] at ho
    cases hr
    exact ⟨x.d, y.d, rep_dat hx ho.1, rep_dat hy ho.2, hQ _ _ _ (pout_scal rfl)⟩
  · cases hr
theorem pure_ne : PureR2 K (rNeQ K) pNe := pureR2_of fun H x y d t Q hx hy hf hQ => by
  obtain ⟨r, hr, e⟩ := Option.map_eq_some_iff.mp hf
  cases e
  unfold neD at hr
  split at hr
  · rename_i ho
    rw [Bool.and_eq_true] at ho
    cases hr
    exact ⟨x.d, y.d, rep_dat hx ho.1, rep_dat hy ho.2, hQ _ _ _ (pout_scal rfl)⟩
  · cases hr
/-! in, not in -/
def hasD (ds : List D) (d : D) : Bool := ds.any fun z => PyData.eqv z d
def inD (neg : Bool) (d e : D) : Option D := match e with
  | .list ds => if okD d && okD (.list ds) then some (.bool (if neg then !hasD ds d else hasD ds d)) else none
  | .tuple ds => if okD d && okD (.tuple ds) then some (.bool (if neg then !hasD ds d else hasD ds d)) else none
  | _ => none
def pIn : PF := ps2 (inD false)
def pNotIn : PF := ps2 (inD true)
theorem pure_inN (neg : Bool) : PureR2 K (rInQ K neg) (ps2 (inD neg)) := pureR2_of fun H x y d t Q hx hy hf hQ => by
  obtain ⟨r, hr, e⟩ := Option.map_eq_some_iff.mp hf
  cases e
  unfold inD at hr
  split at hr
  · rename_i ds hd
    split at hr
    · rename_i ho
      rw [Bool.and_eq_true] at ho
      cases hr
      rw [hd] at hy
      exact ⟨x.d, ds, rep_dat hx ho.1, .inl (rep_dat hy ho.2), hQ _ _ _ (pout_scal rfl)⟩
    · cases hr
  · rename_i ds hd
    split at hr
    · rename_i ho
      rw [Bool.and_eq_true] at ho
      cases hr
      rw [hd] at hy
      exact ⟨x.d, ds, rep_dat hx ho.1, .inr (rep_dat hy ho.2), hQ _ _ _ (pout_scal rfl)⟩
    · cases hr
  · cases hr
theorem pure_in : PureR2 K (rInQ K false) pIn := pure_inN false
theorem pure_notIn : PureR2 K (rInQ K true) pNotIn := pure_inN true
/-! repr -/
def isSeq : D → Bool
  | .list _ => true
  | .tuple _ => true
  | _ => false
def reprD (d : D) : Option D := if isSeq d && (okD d && (d.showable && decide (d.shown.length ≤ lim))) then some (.str d.shown) else none
def pRepr : PF := ps1 reprD
theorem seq_ref (h : isSeq d = true) (r : Rep K H d v fp) : ∃ a, v = .ref a := by
  unfold isSeq at h
  split at h
  · obtain ⟨a, _, _, e, _⟩ := rep_lst r; exact ⟨a, e⟩
  · obtain ⟨a, _, e, _⟩ := rep_tup r; exact ⟨a, e⟩
  · cases h
theorem pure_repr : PureR K (rRepr K) pRepr := pureC1_of fun H x d t Q hx hf hQ => by
  obtain ⟨r, hr, e⟩ := Option.map_eq_some_iff.mp hf
  cases e
  unfold reprD at hr
  split at hr
  · rename_i ho
    simp only [Bool.and_eq_true] at ho
    obtain ⟨h1, h2, h3, h4⟩ := ho
    cases hr
    exact ⟨x.v, x.d, rfl, rep_dat hx h2, seq_ref h1 hx, h3, by rw [← lim_eq]; exact of_decide_eq_true h4, hQ _ _ _ (pout_scal rfl)⟩
  · cases hr
/-! lists of numbers, of truths -/
def intsOf : List D → Option (List Int)
  | [] => some []
  | .int i :: r => (intsOf r).map (i :: ·)
  | _ :: _ => none
def boolsOf : List D → Option (List Bool)
  | [] => some []
  | .bool i :: r => (boolsOf r).map (i :: ·)
  | _ :: _ => none
def seqOf : D → Option (List D)
  | .list ds => some ds
  | .tuple ds => some ds
  | _ => none
def dInts (ns : List Int) : List D := ns.map .int
def dBools (ns : List Bool) : List D := ns.map .bool
theorem intsOf_ints : ∀ ns : List Int, intsOf (dInts ns) = some ns
  | [] => rfl
  | n :: ns => by
    have := intsOf_ints ns
    unfold dInts at *
    simp only [List.map_cons, intsOf, this, Option.map_some]
theorem boolsOf_bools : ∀ ns : List Bool, boolsOf (dBools ns) = some ns
  | [] => rfl
  | n :: ns => by
    have := boolsOf_bools ns
    unfold dBools at *
    simp only [List.map_cons, boolsOf, this, Option.map_some]
theorem ints_of : ∀ {ds : List D} {ns : List Int}, intsOf ds = some ns → ds = dInts ns
  | [], ns, h => by simp only [intsOf] at h; cases h; rfl
  | .int i :: r, ns, h => by
    simp only [intsOf] at h
    obtain ⟨m, h1, rfl⟩ := Option.map_eq_some_iff.mp h
    rw [ints_of h1]; rfl
  | .none :: r, ns, h => by simp [intsOf] at h
  | .bool _ :: r, ns, h => by simp [intsOf] at h
  | .str _ :: r, ns, h => by simp [intsOf] at h
  | .list _ :: r, ns, h => by simp [intsOf] at h
  | .tuple _ :: r, ns, h => by simp [intsOf] at h
  | .dict _ :: r, ns, h => by simp [intsOf] at h
theorem bools_of : ∀ {ds : List D} {ns : List Bool}, boolsOf ds = some ns → ds = dBools ns
  | [], ns, h => by simp only [boolsOf] at h; cases h; rfl
  | .bool i :: r, ns, h => by
    simp only [boolsOf] at h
    obtain ⟨m, h1, rfl⟩ := Option.map_eq_some_iff.mp h
    rw [bools_of h1]; rfl
  | .none :: r, ns, h => by simp [boolsOf] at h
  | .int _ :: r, ns, h => by simp [boolsOf] at h
  | .str _ :: r, ns, h => by simp [boolsOf] at h
  | .list _ :: r, ns, h => by simp [boolsOf] at h
  | .tuple _ :: r, ns, h => by simp [boolsOf] at h
  | .dict _ :: r, ns, h => by simp [boolsOf] at h
theorem repL_ints : ∀ {ns : List Int} {vs : List V} {fs : List Addr}, RepL K H (dInts ns) vs fs → vs = ns.map V.int
  | [], vs, fs, h => by simp only [dInts, List.map_nil, RepL] at h; exact h.1
  | n :: ns, vs, fs, h => by
    simp only [dInts, List.map_cons, RepL] at h
    obtain ⟨x, r, f, g, rfl, rfl, h1, h2⟩ := h
    simp only [Rep] at h1
    rw [h1.1, repL_ints (ns := ns) h2]; rfl
theorem repL_bools : ∀ {ns : List Bool} {vs : List V} {fs : List Addr}, RepL K H (dBools ns) vs fs → vs = ns.map V.bl
  | [], vs, fs, h => by simp only [dBools, List.map_nil, RepL] at h; exact h.1
  | n :: ns, vs, fs, h => by
    simp only [dBools, List.map_cons, RepL] at h
    obtain ⟨x, r, f, g, rfl, rfl, h1, h2⟩ := h
    simp only [Rep] at h1
    rw [h1.1, repL_bools (ns := ns) h2]; rfl
theorem ints_rep : ∀ (ns : List Int), RepL K H (dInts ns) (ns.map V.int) []
  | [] => by simpa [dInts] using RepL.nil
  | n :: ns => by
    have := RepL.cons (K := K) (H := H) (rep_int n) (ints_rep ns)
    simpa [dInts] using this
theorem noMut_ints : ∀ ns : List Int, noMutL (dInts ns) = true
  | [] => rfl
  | n :: ns => by simp only [dInts, List.map_cons, noMutL, noMut, Bool.true_and]; exact noMut_ints ns
def listOf : D → Option (List D)
  | .list ds => some ds
  | _ => none
theorem ent_ints {ns : List Int} (h : (listOf x.d).bind intsOf = some ns) (r : Rep K H x.d x.v x.fp) : ∃ a, x.v = .ref a ∧ SqL K H a (ns.map V.int) := by
  unfold listOf at h
  split at h
  · rename_i ds hd
    have e := ints_of (by simpa using h)
    obtain ⟨a, xs, fs, v1, r1, l1, _⟩ := ent_lst hd r
    rw [e] at l1
    rw [repL_ints l1] at r1
    exact ⟨a, v1, .inl r1⟩
  · cases h
def sumD (d : D) : Option D := ((listOf d).bind intsOf).map fun ns => .int ns.sum
def pSum : PF := ps1 sumD
theorem pure_sum : PureR K (rSum K) pSum := pureC1_of fun H x d t Q hx hf hQ => by
  obtain ⟨r, hr, e⟩ := Option.map_eq_some_iff.mp hf
  cases e
  obtain ⟨ns, h1, rfl⟩ := Option.map_eq_some_iff.mp hr
  obtain ⟨a, v1, s⟩ := ent_ints h1 hx
  exact ⟨a, ns, by rw [v1], s, hQ _ _ _ (pout_scal rfl)⟩
def allD (d : D) : Option D := ((listOf d).bind boolsOf).map fun ns => .bool (ns.all id)
def anyD (d : D) : Option D := ((listOf d).bind boolsOf).map fun ns => .bool (ns.any id)
def pAll : PF := ps1 allD
def pAny : PF := ps1 anyD
theorem ent_bools {ns : List Bool} (h : (listOf x.d).bind boolsOf = some ns) (r : Rep K H x.d x.v x.fp) : ∃ a, x.v = .ref a ∧ SqL K H a (ns.map V.bl) := by
  unfold listOf at h
  split at h
  · rename_i ds hd
    have e := bools_of (by simpa using h)
    obtain ⟨a, xs, fs, v1, r1, l1, _⟩ := ent_lst hd r
    rw [e] at l1
    rw [repL_bools l1] at r1
    exact ⟨a, v1, .inl r1⟩
  · cases h
theorem pure_all : PureR K (rAll K) pAll := pureC1_of fun H x d t Q hx hf hQ => by
  obtain ⟨r, hr, e⟩ := Option.map_eq_some_iff.mp hf
  cases e
  obtain ⟨ns, h1, rfl⟩ := Option.map_eq_some_iff.mp hr
  obtain ⟨a, v1, s⟩ := ent_bools h1 hx
  exact ⟨a, ns, by rw [v1], s, hQ _ _ _ (pout_scal rfl)⟩
theorem pure_any : PureR K (rAny K) pAny := pureC1_of fun H x d t Q hx hf hQ => by
  obtain ⟨r, hr, e⟩ := Option.map_eq_some_iff.mp hf
  cases e
  obtain ⟨ns, h1, rfl⟩ := Option.map_eq_some_iff.mp hr
  obtain ⟨a, v1, s⟩ := ent_bools h1 hx
  exact ⟨a, ns, by rw [v1], s, hQ _ _ _ (pout_scal rfl)⟩
/-- the greatest, the least -/
def maxL : List Int → Int
  | [] => 0
  | a :: l => l.foldl max a
def minL : List Int → Int
  | [] => 0
  | a :: l => l.foldl min a
theorem foldl_max_spec : ∀ (l : List Int) (a : Int), (l.foldl max a = a ∨ l.foldl max a ∈ l) ∧ a ≤ l.foldl max a ∧ ∀ y ∈ l, y ≤ l.foldl max a
  | [], a => ⟨.inl rfl, Int.le_refl _, fun y hy => by cases hy⟩
  | b :: l, a => by
    obtain ⟨h1, h2, h3⟩ := foldl_max_spec l (max a b)
    rw [List.foldl_cons]
    refine ⟨?_, by omega, fun y hy => ?_⟩
    · rcases h1 with h1 | h1
      · rw [h1]
        by_cases h : a ≤ b
        · right; rw [show max a b = b by omega]; exact List.mem_cons_self ..
        · left; omega
      · right; exact List.mem_cons_of_mem _ h1
    · rcases List.mem_cons.mp hy with rfl | hy
      · omega
      · exact h3 y hy
theorem foldl_min_spec : ∀ (l : List Int) (a : Int), (l.foldl min a = a ∨ l.foldl min a ∈ l) ∧ l.foldl min a ≤ a ∧ ∀ y ∈ l, l.foldl min a ≤ y
  | [], a => ⟨.inl rfl, Int.le_refl _, fun y hy => by cases hy⟩
  | b :: l, a => by
    obtain ⟨h1, h2, h3⟩ := foldl_min_spec l (min a b)
    rw [List.foldl_cons]
    refine ⟨?_, by omega, fun y hy => ?_⟩
    · rcases h1 with h1 | h1
      · rw [h1]
        by_cases h : b ≤ a
        · right; rw [show min a b = b by omega]; exact List.mem_cons_self ..
        · left; omega
      · right; exact List.mem_cons_of_mem _ h1
    · rcases List.mem_cons.mp hy with rfl | hy
      · omega
      · exact h3 y hy
theorem maxL_spec {l : List Int} (h : 0 < l.length) : maxL l ∈ l ∧ ∀ y ∈ l, y ≤ maxL l := by
  cases l with
  | nil => simp at h
  | cons a l =>
    obtain ⟨h1, h2, h3⟩ := foldl_max_spec l a
    show l.foldl max a ∈ a :: l ∧ ∀ y ∈ a :: l, y ≤ l.foldl max a
    refine ⟨?_, fun y hy => ?_⟩
    · rcases h1 with h1 | h1
      · rw [h1]; exact List.mem_cons_self ..
      · exact List.mem_cons_of_mem _ h1
    · rcases List.mem_cons.mp hy with rfl | hy
      · exact h2
      · exact h3 y hy
theorem minL_spec {l : List Int} (h : 0 < l.length) : minL l ∈ l ∧ ∀ y ∈ l, minL l ≤ y := by
  cases l with
  | nil => simp at h
  | cons a l =>
    obtain ⟨h1, h2, h3⟩ := foldl_min_spec l a
    show l.foldl min a ∈ a :: l ∧ ∀ y ∈ a :: l, l.foldl min a ≤ y
    refine ⟨?_, fun y hy => ?_⟩
    · rcases h1 with h1 | h1
      · rw [h1]; exact List.mem_cons_self ..
      · exact List.mem_cons_of_mem _ h1
    · rcases List.mem_cons.mp hy with rfl | hy
      · exact h2
      · exact h3 y hy
def maxD (d : D) : Option D := ((listOf d).bind intsOf).bind fun ns => if 0 < ns.length then some (.int (maxL ns)) else none
def minD (d : D) : Option D := ((listOf d).bind intsOf).bind fun ns => if 0 < ns.length then some (.int (minL ns)) else none
def pMaxL : PF := ps1 maxD
def pMinL : PF := ps1 minD
theorem pure_maxL : PureR K (rMax K) pMaxL := pureC1_of fun H x d t Q hx hf hQ => by
  obtain ⟨r, hr, e⟩ := Option.map_eq_some_iff.mp hf
  cases e
  obtain ⟨ns, h1, h2⟩ := Option.bind_eq_some_iff.mp hr
  split at h2
  · rename_i hl
    cases h2
    obtain ⟨a, v1, s⟩ := ent_ints h1 hx
    refine ⟨a, ns, by rw [v1], s, hl, fun m hm hle => ?_⟩
    obtain ⟨q1, q2⟩ := maxL_spec hl
    have : m = maxL ns := Int.le_antisymm (q2 m hm) (hle _ q1)
    rw [this]
    exact hQ _ _ _ (pout_scal rfl)
  · cases h2
theorem pure_minL : PureR K (rMin K) pMinL := pureC1_of fun H x d t Q hx hf hQ => by
  obtain ⟨r, hr, e⟩ := Option.map_eq_some_iff.mp hf
  cases e
  obtain ⟨ns, h1, h2⟩ := Option.bind_eq_some_iff.mp hr
  split at h2
  · rename_i hl
    cases h2
    obtain ⟨a, v1, s⟩ := ent_ints h1 hx
    refine ⟨a, ns, by rw [v1], s, hl, fun m hm hle => ?_⟩
    obtain ⟨q1, q2⟩ := minL_spec hl
    have : m = minL ns := Int.le_antisymm (hle _ q1) (q2 m hm)
    rw [this]
    exact hQ _ _ _ (pout_scal rfl)
  · cases h2
def pMax2 : PF := ps2 (pI yes2 fun i j => .int (max i j))
def pMin2 : PF := ps2 (pI yes2 fun i j => .int (min i j))
theorem pure_max2 : PureR K (fun xs H Q => ∃ i j, xs = [.int i, .int j] ∧ Q (.int (if j > i then j else i)) H) pMax2 := pureC2_of fun H x y d t Q hx hy hf hQ => by
  obtain ⟨r, hr, e⟩ := Option.map_eq_some_iff.mp hf
  obtain ⟨i, j, e1, e2, hc, rfl⟩ := pI_some hr
  cases e
  refine ⟨i, j, by rw [rep_intV hx e1, rep_intV hy e2], ?_⟩
  rw [show (if j > i then j else i) = max i j by split <;> omega]
  exact hQ _ _ _ (pout_scal rfl)
theorem pure_min2 : PureR K (fun xs H Q => ∃ i j, xs = [.int i, .int j] ∧ Q (.int (if j < i then j else i)) H) pMin2 := pureC2_of fun H x y d t Q hx hy hf hQ => by
  obtain ⟨r, hr, e⟩ := Option.map_eq_some_iff.mp hf
  obtain ⟨i, j, e1, e2, hc, rfl⟩ := pI_some hr
  cases e
  refine ⟨i, j, by rw [rep_intV hx e1, rep_intV hy e2], ?_⟩
  rw [show (if j < i then j else i) = min i j by split <;> omega]
  exact hQ _ _ _ (pout_scal rfl)
def absD (d : D) : Option D := match d with
  | .int i => some (.int i.natAbs)
  | _ => none
def pAbs : PF := ps1 absD
theorem pure_abs : PureR K (fun xs H Q => ∃ i, xs = [.int i] ∧ Q (.int (if i < 0 then -i else i)) H) pAbs := pureC1_of fun H x d t Q hx hf hQ => by
  obtain ⟨r, hr, e⟩ := Option.map_eq_some_iff.mp hf
  cases e
  unfold absD at hr
  split at hr
  · rename_i i hi
    cases hr
    refine ⟨i, by rw [rep_intV hx hi], ?_⟩
    rw [show (if i < 0 then -i else i) = (i.natAbs : Int) by split <;> omega]
    exact hQ _ _ _ (pout_scal rfl)
  · cases hr
def intD (d : D) : Option D := match d with
  | .int i => some (.int i)
  | .bool k => some (.int (if k then 1 else 0))
  | _ => none
def pInt : PF := ps1 intD
theorem pure_int : PureR K (fun xs H Q => (∃ i, xs = [.int i] ∧ Q (.int i) H) ∨ ∃ k, xs = [.bl k] ∧ Q (.int (if k then 1 else 0)) H) pInt := pureC1_of fun H x d t Q hx hf hQ => by
  obtain ⟨r, hr, e⟩ := Option.map_eq_some_iff.mp hf
  cases e
  unfold intD at hr
  split at hr
  · rename_i i hi
    cases hr
    exact .inl ⟨i, by rw [rep_intV hx hi], hQ _ _ _ (pout_scal rfl)⟩
  · rename_i k hi
    cases hr
    exact .inr ⟨k, by rw [ent_bool hi hx], hQ _ _ _ (pout_scal rfl)⟩
  · cases hr
/-! list(x) -/
def listD (d : D) : Option (D × Tag) := (seqOf d).map fun ds => (.list ds, lTag ds)
def pList : PF := pf1 listD
theorem pure_list : PureR K (fun xs H Q => ∃ p ys, xs = [.ref p] ∧ (SqL K H p ys ∨ SqT K H p ys) ∧ ∀ l, H l = none → Q (.ref l) (upd H l (.lst ys))) pList := pureC1_of fun H x d t Q hx hf hQ => by
  obtain ⟨ds, h1, e⟩ := Option.map_eq_some_iff.mp hf
  cases e
  unfold seqOf at h1
  split at h1
  · rename_i a e1
    cases h1
    obtain ⟨p, xs, fs, v1, r1, l1, s1⟩ := ent_lst e1 hx
    exact ⟨p, xs, by rw [v1], .inl (.inl r1), fun m hm => hQ _ _ _ (pout_lst hm l1 fun b hb => ⟨x, by simp, s1 b hb⟩)⟩
  · rename_i a e1
    cases h1
    obtain ⟨p, xs, v1, r1, l1, s1⟩ := ent_tup e1 hx
    exact ⟨p, xs, by rw [v1], .inr r1, fun m hm => hQ _ _ _ (pout_lst hm l1 fun b hb => ⟨x, by simp, s1 b hb⟩)⟩
  · cases h1
/-! len(set(x)) -/
def lenSetD (d : D) : Option D := ((seqOf d).bind intsOf).bind fun ns => if ns.length ≤ 4000 then some (.int (dist ns)) else none
def pLenSet : PF := ps1 lenSetD
theorem pure_lenSet : PureR1 K (fun x H Q => ∃ (l : Addr) (ns : List Int), x = .ref l ∧ (SqL K H l (ns.map V.int) ∨ SqT K H l (ns.map V.int)) ∧ ns.length ≤ 4000 ∧ Q (.int (dist ns : Nat)) H) pLenSet := pureR1_of fun H x d t Q hx hf hQ => by
  obtain ⟨r, hr, e⟩ := Option.map_eq_some_iff.mp hf
  cases e
  obtain ⟨ns, h1, h2⟩ := Option.bind_eq_some_iff.mp hr
  obtain ⟨ds, h3, h4⟩ := Option.bind_eq_some_iff.mp h1
  have e := ints_of h4
  split at h2
  · rename_i hl
    cases h2
    unfold seqOf at h3
    split at h3
    · rename_i a e1
      cases h3
      obtain ⟨p, xs, fs, v1, r1, l1, s1⟩ := ent_lst e1 hx
      rw [e] at l1
      rw [repL_ints l1] at r1
      exact ⟨p, ns, v1, .inl (.inl r1), hl, hQ _ _ _ (pout_scal rfl)⟩
    · rename_i a e1
      cases h3
      obtain ⟨p, xs, v1, r1, l1, s1⟩ := ent_tup e1 hx
      rw [e] at l1
      rw [repL_ints l1] at r1
      exact ⟨p, ns, v1, .inr r1, hl, hQ _ _ _ (pout_scal rfl)⟩
    · cases h3
  · cases h2
theorem spec_lenSet {te : TE} {a : ER} (ha : SpecE K W te a) : SpecE K W (tLenSet K te) (ePure1 pLenSet a) := spec_un pure_lenSet ha
/-! isinstance(x, T) -/
def tyD : D → String
  | .none => "NoneType"
  | .bool _ => "bool"
  | .int _ => "int"
  | .str _ => "str"
  | .list _ => "list"
  | .tuple _ => "tuple"
  | .dict _ => "dict"
def isiB (d : D) (T : String) : Bool := tyD d == T || (tyD d == "bool" && T == "int")
def isDict : D → Bool
  | .dict _ => true
  | _ => false
theorem rep_ty (nd : isDict d = false) (r : Rep K H d v fp) : TyX K H v (.type (tyD d)) := by
  cases d with
  | none => simp only [Rep] at r; rw [r.1]; exact .base .non
  | bool b => simp only [Rep] at r; rw [r.1]; exact .base (.bl b)
  | int b => simp only [Rep] at r; rw [r.1]; exact .base (.int b)
  | str b => simp only [Rep] at r; rw [r.1]; exact .base (.str b)
  | list ds =>
    obtain ⟨a, xs, fs, rfl, r1, _⟩ := rep_lst r
    rcases r1 with r1 | ⟨o, r1⟩
    · exact .base (.lst r1)
    · exact .base (.frz r1)
  | tuple ds =>
    obtain ⟨a, xs, rfl, r1, _⟩ := rep_tup r
    rcases r1 with (r1 | ⟨o, r1⟩) | ⟨o, its, n, h1, h2, _⟩
    · exact .base (.tup r1)
    · exact .fTuple r1
    · exact .kTuple h1 h2
  | dict kvs => cases nd
def okT (T : String) : Bool := T == "int" || (T == "bool" || (T == "tuple" || (T == "list" || T == "str")))
theorem kit_b {T : String} (h : okT T = true) (d : D) : PySem.W.kitOne K (.type (tyD d)) (.type T) = some (isiB d T) := by
  have h : T = "int" ∨ T = "bool" ∨ T = "tuple" ∨ T = "list" ∨ T = "str" := by simpa [okT] using h
  rcases h with rfl | rfl | rfl | rfl | rfl <;> cases d <;> rfl
def isiD (T : String) (d : D) : Option D := if okT T && !isDict d then some (.bool (isiB d T)) else none
def pIsi (T : String) : PF := ps1 (isiD T)
theorem pure_isi (T : String) : PureR1 K (fun x H Q => rIsi K [x, .ty T] H Q) (pIsi T) := pureR1_of fun H x d t Q hx hf hQ => by
  obtain ⟨r, hr, e⟩ := Option.map_eq_some_iff.mp hf
  cases e
  unfold isiD at hr
  split at hr
  · rename_i ho
    rw [Bool.and_eq_true] at ho
    cases hr
    exact ⟨x.v, .ty T, .type (tyD x.d), .type T, isiB x.d T, rfl, .ty T, rep_ty (by simpa using ho.2) hx, kit_b ho.1 x.d, hQ _ _ _ (pout_scal rfl)⟩
  · cases hr
theorem spec_isi {te : TE} {a : ER} (T : String) (ha : SpecE K W te a) : SpecE K W (tCB (rIsi K) (tCons te (tCons (tC (.ty T)) tNil))) (ePure1 (pIsi T) a) := spec_un (pure_isi T) ha
/-! list(range(..)) -/
def rgE1 (f : ER) (mk : List D → D) : ER := fun env => (f env).bind fun p => match p.1.d p.2 with
  | some (.int n) => if inBig n && decide (n.toNat ≤ lim) then .ok (.val (mk (rngL 0 1 n.toNat)) .unq, p.2) else .bad
  | _ => .bad
def rgK (mk : List D → D) (o1 o2 : Opd) (env : Env) : Res (Opd × Env) := match o1.d env, o2.d env with
  | some (.int i), some (.int j) => if (inBig i && inBig j) && decide ((j - i).toNat ≤ lim) then .ok (.val (mk (rngL i 1 (j - i).toNat)) .unq, env) else .bad
  | _, _ => .bad
def rgE2 (a b : ER) (mk : List D → D) : ER := fun env => (a env).bind fun p => (b p.2).bind fun q => rgK mk p.1 q.1 q.2
theorem rgV_rep (i j : Int) : RepL K H (rngL i 1 (j - i).toNat) (rgV i j) [] := by
  have e1 : rngL i 1 (j - i).toNat = dInts ((List.range (j - i).toNat).map fun k : Nat => i + (k : Int)) := by
    simp [rngL, dInts, Int.mul_one]
  have e2 : rgV i j = ((List.range (j - i).toNat).map fun k : Nat => i + (k : Int)).map V.int := by
    simp [rgV]
  rw [e1, e2]; exact ints_rep _
theorem rgOk_of {i j : Int} (h : inBig i = true) (h2 : inBig j = true) (h3 : (j - i).toNat ≤ lim) : RgOk i j := by
  obtain ⟨a, b⟩ := inBig_ok h
  obtain ⟨c, d⟩ := inBig_ok h2
  exact ⟨a, b, c, d, by have : lim = 2 ^ 24 := by decide
                        omega⟩
theorem Now.rgL (n : Now F G R σ H) (i j : Int) {q : Addr} (hq : H q = none) : Now F G (R ++ [⟨.ref q, .list (rngL i 1 (j - i).toNat), .unq, [q]⟩]) σ (upd H q (.lst (rgV i j))) := by
  have n' : Now F G (R ++ []) σ H := by simpa using n
  have po := pout_lst (xs := []) hq (rgV_rep (K := F.K) i j) (fun b hb => by cases hb)
  refine n'.make ⟨po.rep, po.same, fun b hb => ?_, ?_⟩
  · rcases po.sub b hb with z | ⟨x, hx, _⟩
    · exact .inl z
    · cases hx
  · have tg := po.tag
    unfold lTag at tg
    rw [if_pos (rng_noMut i 1 _)] at tg
    exact ⟨tg.1, fun b hb => .inl (tg.2 b hb)⟩
theorem Now.rgT (n : Now F G R σ H) (i j : Int) {q : Addr} (hq : H q = none) : Now F G (R ++ [⟨.ref q, .tuple (rngL i 1 (j - i).toNat), .unq, []⟩]) σ (upd H q (.tup (rgV i j))) := by
  have n' : Now F G (R ++ []) σ H := by simpa using n
  have po := pout_tup (xs := []) hq (rgV_rep (K := F.K) i j) (fun b hb => by cases hb)
  exact n'.make ⟨po.rep, po.same, fun b hb => (by cases hb), ⟨List.nodup_nil, fun b hb => (by cases hb)⟩⟩
theorem rg_ok {mk : List D → D} {σ : L2.St} {Q : VK} {l : List D} {q : Addr} {fp : List Addr} (n : Now F G (R ++ [⟨.ref q, mk l, .unq, fp⟩]) σ H) (h : EOut F R σ W (.ok (.val (mk l) .unq, envOf G)) Q) : Q (.ref q) H :=
  h G H [_] _ rfl n ⟨_, [], [], rfl, rfl, rfl, rfl, rfl, rfl⟩
theorem spec_rg1 {te : TE} {f : ER} (he : SpecE K W te f) : SpecE K W (tLstRg (tRg1 te)) (rgE1 f .list) := fun F G R σ H Q hK n h => by
  refine he F G R σ H _ hK n ?_
  simp only [rgE1] at h
  cases q : f (envOf G) with
  | bad => rw [q] at h; exact h
  | exc c env => rw [q] at h; exact h
  | ok p =>
    obtain ⟨o, env⟩ := p
    rw [q] at h
    intro G1 H1 es v g1 n1 w
    subst g1
    simp only [Res.bind] at h
    split at h
    · rename_i j hj
      split at h
      · rename_i hb
        rw [Bool.and_eq_true] at hb
        refine ⟨j, int_of n1 w hj, rgOk_of (by decide) hb.1 (by have := of_decide_eq_true hb.2; simpa using this), fun m hm => ?_⟩
        have := n1.drop.rgL 0 j hm
        rw [Int.sub_zero] at this
        exact rg_ok this h
      · exact h.elim
    · exact h.elim
theorem spec_rgT1 {te : TE} {f : ER} (he : SpecE K W te f) : SpecE K W (tTupRg (tRg1 te)) (rgE1 f .tuple) := fun F G R σ H Q hK n h => by
  refine he F G R σ H _ hK n ?_
  simp only [rgE1] at h
  cases q : f (envOf G) with
  | bad => rw [q] at h; exact h
  | exc c env => rw [q] at h; exact h
  | ok p =>
    obtain ⟨o, env⟩ := p
    rw [q] at h
    intro G1 H1 es v g1 n1 w
    subst g1
    simp only [Res.bind] at h
    split at h
    · rename_i j hj
      split at h
      · rename_i hb
        rw [Bool.and_eq_true] at hb
        refine ⟨j, int_of n1 w hj, rgOk_of (by decide) hb.1 (by have := of_decide_eq_true hb.2; simpa using this), fun m hm => ?_⟩
        have := n1.drop.rgT 0 j hm
        rw [Int.sub_zero] at this
        exact rg_ok this h
      · exact h.elim
    · exact h.elim
theorem opd_int {o : Opd} {os : List Opd} {vs : List V} {v : V} {j : Int} (n : Now F G (R ++ es) σ H) (w : OpsV σ (o :: os) es (v :: vs)) (hj : o.d (envOf G) = some (.int j)) (hos : ∃ ds, opsD (envOf G) os = some ds) : v = .int j := by
  obtain ⟨ds, hos⟩ := hos
  obtain ⟨xs, e1, e2, hx⟩ := n.opsRep w (ds := .int j :: ds) (by simp [opsD, hj, hos])
  cases xs with
  | nil => cases e1
  | cons x xs =>
    simp at e1 e2
    rw [e1.1]
    exact rep_intV (hx x (by simp)) e2.1.symm
theorem spec_rg2 {ta tb : TE} {a b : ER} (ha : SpecE K W ta a) (hb : SpecE K W tb b) : SpecE K W (tLstRg (tRg2 ta tb)) (rgE2 a b .list) := fun F G R σ H Q hK n h => by
  refine spec_two ha hb hK n (k := rgK .list) (eOut_exc h) (eOut_bad h) fun o1 o2 G2 H2 es v1 v2 e n2 w => ?_
  have h' : EOut F R σ W (rgK .list o1 o2 (envOf G2)) Q := by rw [← e]; exact h
  unfold rgK at h'
  split at h'
  · rename_i i j hi hj
    split at h'
    · rename_i hc
      simp only [Bool.and_eq_true] at hc
      obtain ⟨xs, e1, e2, hx⟩ := n2.opsRep w (ds := [.int i, .int j]) (by simp [opsD, hi, hj])
      match xs, e1, e2, hx with
      | [x, y], e1, e2, hx =>
        simp at e1 e2
        refine ⟨i, j, by rw [e1.1]; exact rep_intV (hx x (by simp)) e2.1.symm, by rw [e1.2]; exact rep_intV (hx y (by simp)) e2.2.symm, rgOk_of hc.1.1 hc.1.2 (of_decide_eq_true hc.2), fun m hm => ?_⟩
        exact rg_ok (n2.drop.rgL i j hm) h'
      | [], e1, _, _ => simp at e1
      | [_], e1, _, _ => simp at e1
      | _ :: _ :: _ :: _, e1, _, _ => simp at e1
    · exact h'.elim
  · exact h'.elim
theorem spec_rgT2 {ta tb : TE} {a b : ER} (ha : SpecE K W ta a) (hb : SpecE K W tb b) : SpecE K W (tTupRg (tRg2 ta tb)) (rgE2 a b .tuple) := fun F G R σ H Q hK n h => by
  refine spec_two ha hb hK n (k := rgK .tuple) (eOut_exc h) (eOut_bad h) fun o1 o2 G2 H2 es v1 v2 e n2 w => ?_
  have h' : EOut F R σ W (rgK .tuple o1 o2 (envOf G2)) Q := by rw [← e]; exact h
  unfold rgK at h'
  split at h'
  · rename_i i j hi hj
    split at h'
    · rename_i hc
      simp only [Bool.and_eq_true] at hc
      obtain ⟨xs, e1, e2, hx⟩ := n2.opsRep w (ds := [.int i, .int j]) (by simp [opsD, hi, hj])
      match xs, e1, e2, hx with
      | [x, y], e1, e2, hx =>
        simp at e1 e2
        refine ⟨i, j, by rw [e1.1]; exact rep_intV (hx x (by simp)) e2.1.symm, by rw [e1.2]; exact rep_intV (hx y (by simp)) e2.2.symm, rgOk_of hc.1.1 hc.1.2 (of_decide_eq_true hc.2), fun m hm => ?_⟩
        exact rg_ok (n2.drop.rgT i j hm) h'
      | [], e1, _, _ => simp at e1
      | [_], e1, _, _ => simp at e1
      | _ :: _ :: _ :: _, e1, _, _ => simp at e1
    · exact h'.elim
  · exact h'.elim
end
end VL
end
section
set_option Elab.async false
set_option linter.all false
set_option maxRecDepth 100000
set_option autoImplicit false
/-! defs that keep a promise where nothing is being shown (guards empty): so that repr may be called within -/
namespace VL
open PySem PySem.Spec PyProof.Rows L2

structure RoomG (k : Nat) (A : Around) : Prop where
  room : Room k A
  gd : A.guards = some []
theorem RoomG.mono {j k : Nat} {A : Around} (r : RoomG k A) (h : j ≤ k) : RoomG j A := ⟨r.room.mono h, r.gd⟩
theorem RoomG.deeper {k : Nat} {A : Around} (r : RoomG (k + 1) A) (env : PySem.Env) : RoomG k (A.deeper env) := ⟨r.room.deeper env, r.gd⟩
structure FnG (P : Program) (w : World) (K : PySem.W.Frag) (mg : Str → Option Value) (base : Heap) (CX : CXT) (k : Nat) (f : Addr) (fd : FuncData) (ps : List Str) (sp : Sp) : Prop where
  many : ∀ vs H Q E, sp vs H Q E → vs.length = ps.length
  goes : ∀ (A : Around) (outer : List PySem.Env) (s : Shared) (H : Hp) (args : Args) (us : List Value) (vs : List V) (Q : VK) (E : XK), RoomG k A → Env0 P w K mg base A outer s H → BindsTo s fd args (ps.zip us) → Vals vs us → sp vs H Q E →
    codeAny (model P w) A (.call (.ref f) args) (CR CX outer P w H s Q E) s
section
variable {P : Program} {w : World} {K : PySem.W.Frag} {mg : Str → Option Value} {base : Heap} {CX : CXT} {k j : Nat} {f : Addr} {fd : FuncData} {ps : List Str} {sp : Sp}
theorem FnG.mono (F : FnG P w K mg base CX j f fd ps sp) (h : j ≤ k) : FnG P w K mg base CX k f fd ps sp := ⟨F.many, fun A outer s H args us vs Q E r => F.goes A outer s H args us vs Q E (r.mono h)⟩
/-- the rule for a def's body -/
theorem fnG_of {name qual : Str} {params : Arguments} {body : List Stmt} {scope : Scope} {dV kV doc pm cdv ct oc : Value} {an od : Option Addr} {osl : Array (Option Value)} {N : List Str}
    (lk : K.lookup f = some ⟨oc, od, .func (PySem.W.fnOf name qual params body scope dV kV doc pm an cdv ct), osl⟩) (cd : PySem.W.codeIn K cdv qual = true) (S : FnScope N ps scope) (many : ∀ vs H Q E, sp vs H Q E → vs.length = ps.length)
    (bd : ∀ (A : Around) (outer : List PySem.Env) (s : Shared) (H : Hp) (vs : List V) (Q : VK) (E : XK), RoomG k (A.deeper (envOfC qual scope s.heap.objs.size f cdv)) → sp vs H Q E →
      ∃ t, PSs (cxOf CX P w K mg base N qual scope f cdv A outer s H E) body t ∧ t { nx := fun _ H' => Q .non H', rt := Q } (start N vs) H) :
    FnG P w K mg base CX (k + 1) f (PySem.W.fnOf name qual params body scope dV kV doc pm an cdv ct) ps sp := by
  constructor
  · exact many
  intro A outer s H args us vs Q E r e0 hb rv hsp
  have n1 := many vs H Q E hsp
  have old : ∀ b o, base.get? b = some o → s.heap.get? b = some o := fun b o e => (e0.bs b o e).1
  have KX : K.In s.heap := e0.mod.kin.keeps old
  have nl : s.heap.NoLimit := e0.mod.nolimit.keeps old
  refine codeAny_call_function r.room.depth (KX _ _ lk) rfl S.co S.gen rfl (PySem.W.codeRec_of KX cd) (hb _ _ _ _ ?_)
  refine wpAny_newFunctionEnv_cells S.kind (fun y hy => ?_) fun env he s1 x => ?_
  · rcases S.par y.1 (List.of_mem_zip (b := y.2) hy).1 with q | q
    · exact .inl q
    · exact .inr ⟨q, PySem.W.cellsFrom_some _ _ _ (.inl q)⟩
  subst he
  refine ⟨nl.keeps x.toInCall.keep, codeAny_func ?_⟩
  obtain ⟨t, ht, hq⟩ := bd A outer s H vs Q E (r.deeper _) hsp
  have I0 := inv_start (CX := CX) (E := E) S r.room.hd e0 n1 rv x
  refine wpAny_mono (ht.run [] s1 (start N vs) H _ I0 hq) (fun fl s' hs => ?_) fun _ _ hs => hs
  cases fl with
  | next =>
    obtain ⟨_, H', J, q⟩ := hs
    exact ⟨V.non, H', J.os, J.bare, J.base, J.hok, (rfl : RelV V.non Value.none), q⟩
  | ret u =>
    obtain ⟨v, _, H', J, rv', q⟩ := hs
    exact ⟨v, H', J.os, J.bare, J.base, J.hok, rv', q⟩
  | brk => exact (hs.choose_spec.choose_spec.2 : False).elim
  | cont => exact (hs.choose_spec.choose_spec.2 : False).elim
/-- .. of a def of the text -/
theorem Fun.okG {x qual : Str} {st : Stmt} {N : List Str} (F : L2.Fun K x qual st f fd) (S : FnScope N ps (defScope st)) (many : ∀ vs H Q E, sp vs H Q E → vs.length = ps.length)
    (bd : ∀ (cdv : Value) (A : Around) (outer : List PySem.Env) (s : Shared) (H : Hp) (vs : List V) (Q : VK) (E : XK), RoomG k (A.deeper (envOfC qual (defScope st) s.heap.objs.size f cdv)) → sp vs H Q E →
      ∃ t, PSs (cxOf CX P w K mg base N qual (defScope st) f cdv A outer s H E).nox (defBody st) t ∧ t { nx := fun _ H' => Q .non H', rt := Q } (start N vs) H) : FnG P w K mg base CX (k + 1) f fd ps sp := by
  obtain ⟨oc, od, kV, doc, pm, an, cdv, ct, osl, rfl, lk, hcd⟩ := F.ex
  exact fnG_of lk hcd S many fun A outer s H vs Q E r h => let ⟨t, h1, h2⟩ := bd cdv A outer s H vs Q E r h; ⟨t, h1.nox, h2⟩
end
section
variable {X : Cx} {CX : CXT} {k : Nat} {f : Addr} {fd : FuncData} {ps : List Str} {sp : Sp} {E : XK} {x : Str} {p pos : Pos} {e : Expr} {es : List Expr} {t : TA}
theorem runG {pins : List (Addr × Obj)} {σ : L2.St} {H : Hp} {s : Shared} {Q : VK} {args : Args} {us : List Value} {vs : List V} (F : FnG X.prog X.w X.K X.mg X.base CX k f fd ps sp) (r : RoomG k X.A) (hb : BindsTo s fd args (ps.zip us)) (hx : Passes CX X E)
    (I : L2.Inv X pins σ H s) (rv : Vals vs us) (h : sp vs H Q E) : wpAny (model X.prog X.w) X.A (call (.ref f) args.pos args.kw) (EP X pins σ Q) X.xe s := by
  refine wpAny_call (codeAny_mono (F.goes X.A X.stack s H args us vs Q E r I.env0 hb rv h) fun res s' hq => ?_)
  match res, hq with
  | .error _, hq => exact hx pins σ H s _ s' I hq
  | .ok (.ret _), hq => exact I.after hq
  | .ok .next, hq => exact (hq : False).elim
  | .ok .brk, hq => exact (hq : False).elim
  | .ok .cont, hq => exact (hq : False).elim
theorem pe_callG (F : FnG X.prog X.w X.K X.mg X.base CX k f fd ps sp) (r : RoomG k X.A) (hg : Gl X x) (hm : X.mg x = some (.ref f)) (hk : PySem.W.keepIn X.K (.ref f) = true) (hb : Binds X.K fd ps []) (hx : Passes CX X E) (ha : PA X (e :: es) t)
    (hdb : (x == ("__debug__" : Str)) = false := by decide) (he : starEach (e :: es) X.env = (false, eval e X.env) :: starEach es X.env := by rfl) (hpl : (backTo pos (starEach es X.env)).any (·.1) = false := by rfl) :
    PE X (.Call (.Name x p) (e :: es) [] pos) (tCall sp [] E t) := by
  refine ⟨fun pins s σ H Q I h => wpAny_Call_Name_kw (ld_glob I hg hm ?_ hdb)⟩
  refine PySem.W.callWith_K (h₀ := X.base) I.ok.mod.kin hk ?_ he hpl
  refine thn (ha.run pos pins s σ H _ I h) fun us s1 ⟨vs, H1, I1, rv, q⟩ => ⟨I1.kIn, ?_⟩
  have q : sp (vs ++ []) H1 Q E := q
  rw [List.append_nil] at q
  have n1 := F.many _ _ _ _ q
  have hb' := hb s1 us I1.kIn (by rw [List.append_nil, ← rv.length]; exact n1)
  rw [List.append_nil] at hb'
  exact runG (args := ⟨us, []⟩) F r hb' hx I1 rv q
theorem pe_callG0 (F : FnG X.prog X.w X.K X.mg X.base CX k f fd [] sp) (r : RoomG k X.A) (hg : Gl X x) (hm : X.mg x = some (.ref f)) (hk : PySem.W.keepIn X.K (.ref f) = true) (hb : Binds X.K fd [] []) (hx : Passes CX X E)
    (hdb : (x == ("__debug__" : Str)) = false := by decide) : PE X (.Call (.Name x p) [] [] pos) (tCall sp [] E tNil) := by
  refine ⟨fun pins s σ H Q I h => wpAny_Call_Name_kw (ld_glob I hg hm ?_ hdb)⟩
  exact PySem.W.callWith_K0 I.kIn hk (runG (args := ⟨[], []⟩) F r (hb s [] I.kIn rfl) hx I .nil h)
/-- keywords alone, in any sequence: g puts them in the parameters' -/
structure KwB (fd : FuncData) (ps ks : List Str) (g : List Value → List Value) (gV : List V → List V) : Prop where
  to : ∀ (s : Shared) (ws : List Value), (g ws).length = ps.length → BindsTo s fd ⟨[], ks.zip ws⟩ (ps.zip (g ws))
  rel : ∀ {zs : List V} {ws : List Value}, Vals zs ws → Vals (gV zs) (g ws)
def tCallKO (sp : Sp) (gV : List V → List V) (E : XK) (tk : TA) : TE := fun σ H Q => tk σ H fun zs H2 => sp (gV zs) H2 Q E
theorem pe_callGK {kws : List Keyword} {ks : List Str} {tk : TA} {g : List Value → List Value} {gV : List V → List V} (F : FnG X.prog X.w X.K X.mg X.base CX k f fd ps sp) (r : RoomG k X.A) (hg : Gl X x) (hm : X.mg x = some (.ref f)) (hk : PySem.W.keepIn X.K (.ref f) = true)
    (hb : KwB fd ps ks g gV) (hx : Passes CX X E) (hkw : PK X kws tk) (hall : (backToKw pos (keywordEach kws X.env)).all (·.1.isSome) = true := by rfl) (hks : (backToKw pos (keywordEach kws X.env)).filterMap (·.1) = ks := by rfl)
    (hdb : (x == ("__debug__" : Str)) = false := by decide) (hpl : ((backTo pos (starEach [] X.env)).any (·.1) || (backToKw pos (keywordEach kws X.env)).any (·.1.isNone)) = false := by rfl) :
    PE X (.Call (.Name x p) [] kws pos) (tCallKO sp gV E tk) := by
  refine ⟨fun pins s σ H Q I h => wpAny_Call_Name_kw (ld_glob I hg hm ?_ hdb)⟩
  refine PySem.W.callWith_KW0 (h₀ := X.base) I.ok.mod.kin hk hall ?_ hpl
  refine thn (hkw.run pos pins s σ H _ I h) fun ws s2 ⟨zs, H2, I2, rz, q2⟩ => ⟨I2.kIn, ?_⟩
  have q2 : sp (gV zs) H2 Q E := q2
  rw [hks]
  have rv := hb.rel rz
  have n1 := F.many _ _ _ _ q2
  exact runG (args := ⟨[], ks.zip ws⟩) F r (hb.to s2 ws (by rw [← rv.length]; exact n1)) hx I2 rv q2
end

/-! ### the law's own call -/
theorem room_caller {k : Nat} (r : Room k callerA) : RoomG k callerA := ⟨r, rfl⟩
theorem lk_mem {α β : Type} [BEq α] [LawfulBEq α] {a : α} {b : β} : ∀ {l : List (α × β)}, l.lookup a = some b → (a, b) ∈ l
  | [], h => by cases h
  | (c, d) :: l, h => by
    rw [List.lookup_cons] at h
    split at h
    · rename_i e
      cases h
      rw [eq_of_beq e]
      exact List.mem_cons_self ..
    · exact List.mem_cons_of_mem _ (lk_mem h)
/-- no list stands in the written part -/
def noLc (o : Obj) : Bool := match o.cls with
  | .type n => n != "list"
  | _ => true
def scriptH (a : Addr) (vs : List Value) (ns : List Int) : Hp := fun b => if b = a then some (.frz { cls := .type "list", data := .seq vs.toArray } (.lst (ns.map V.int))) else none
theorem lawG {P : Program} {w : World} {K : PySem.W.Frag} {mg mb : Str → Option Value} {CX : CXT} {k : Nat} {fa a : Addr} {fd : FuncData} {x : Str} {sp : Sp} {s₁ : Shared} {vs : List Value} {ns : List Int}
    (KX : K.In s₁.heap) (noL : K.all (fun p => noLc p.2) = true) (hns : s₁.heap.Ns mainGlobals mg) (hb : s₁.heap.Ns builtinsNs mb) (hbb : ∀ x : Str, x ≠ "__name__" → mb x = bootBuiltins x) (nl : s₁.heap.NoLimit) (hg : s₁.gens = #[])
    (ha : s₁.heap.get? a = some { cls := .type "list", data := .seq vs.toArray }) (hi : IntsAre vs ns) (hl : ns.length ≤ sizeLine) (hr : Room k callerA)
    (F : ∀ base : Heap, K.In base → base.Ns mainGlobals mg → FnG P w K mg base CX k fa fd [x] sp) (hbind : ∀ (s : Shared) (u : Value), BindsTo s fd ⟨[u], []⟩ [(x, u)])
    (hsp : ∀ H : Hp, H = scriptH a vs ns → sp [.ref a] H (fun v _ => v = .bl true) fun _ _ _ => False) (hCX : ∀ H e s', CX [] H s₁ (fun _ _ _ => False) e s' → False) :
    codeAny (model P w) callerA (.call (.ref fa) ⟨[.ref a], []⟩) (fun r s' => r = .ok (.ret (.bool true)) ∧ OldK s₁.heap s'.heap ∧ s'.os = s₁.os ∧ AllBare s'.gens) s₁ := by
  have rv := vals_ints hi
  -- the script is none of the written part's
  have notK : K.lookup a = none := by
    cases q : K.lookup a with
    | none => rfl
    | some o =>
      have e := KX a o q
      rw [ha] at e; cases e
      have hm : (a, ({ cls := .type "list", data := .seq vs.toArray } : Obj)) ∈ K := lk_mem q
      have := List.all_eq_true.mp noL _ hm
      simp [noLc] at this
  have onA : ∀ b, scriptH a vs ns b ≠ none → b = a := fun b hb => by
    unfold scriptH at hb
    split at hb
    · assumption
    · exact absurd rfl hb
  have atA : scriptH a vs ns a = some (.frz { cls := .type "list", data := .seq vs.toArray } (.lst (ns.map V.int))) := if_pos rfl
  have free : ∀ b, b ≠ a → scriptH a vs ns b = none := fun b hb => if_neg hb
  have keepB : ∀ {b : Addr} {o : Obj}, b ≠ a → s₁.heap.get? b = some o → (hidT s₁.heap (scriptH a vs ns)).get? b = some o := fun {b o} hb e => hidT_get e (free b hb)
  have nsB : ∀ {b : Addr} {m : Str → Option Value}, s₁.heap.Ns b m → (hidT s₁.heap (scriptH a vs ns)).Ns b m := fun {b m} ⟨o, es, ep, e, d, r⟩ => by
    have hb : b ≠ a := by
      rintro rfl
      rw [ha] at e; cases e
      have d' : Data.seq vs.toArray _ = Data.dict es ep := d
      cases d'
    exact ⟨o, es, ep, keepB hb e, d, r⟩
  have kB : K.In (hidT s₁.heap (scriptH a vs ns)) := fun b o e => keepB (by rintro rfl; rw [notK] at e; cases e) (KX b o e)
  have hok : HOk P w (scriptH a vs ns) s₁.heap := fun b u z => by
    have hb := onA b (by rw [z]; simp)
    subst hb
    rw [atA] at z
    cases z
    exact ⟨ha, by rw [List.length_map]; exact hl, vs, _, rv, ha⟩
  obtain ⟨mc, c1, c2⟩ := nl
  have e0 : Env0 P w K mg (hidT s₁.heap (scriptH a vs ns)) callerA [] s₁ (scriptH a vs ns) :=
    ⟨rfl, ⟨kB, nsB hns, ⟨mb, nsB hb, hbb⟩, ⟨mc, nsB c1, c2⟩⟩, fun b o e => of_hidT e, Nat.le_of_eq (hidT_size _ _), trivial, fun b hb => (by cases hb), hok, .of_eq hg⟩
  refine codeAny_mono ((F _ kB (nsB hns)).goes callerA [] s₁ _ ⟨[.ref a], []⟩ [.ref a] [.ref a] _ _ (room_caller hr) e0 (hbind s₁ (.ref a)) (.cons rfl .nil) (hsp _ rfl)) fun r s' h => ?_
  match r, h with
  | .error e, h => exact (hCX _ e s' h).elim
  | .ok .next, h => exact (h : False).elim
  | .ok .brk, h => exact (h : False).elim
  | .ok .cont, h => exact (h : False).elim
  | .ok (.ret u), h =>
    obtain ⟨v, H', os, bare, un, hok', rv', q⟩ := h
    have q : v = .bl true := q
    subst q
    obtain rfl : u = Value.bool true := rv'
    refine ⟨rfl, OldK.of_keep fun b o e => ?_, os, bare⟩
    by_cases hb : b = a
    · subst hb
      obtain ⟨e2, _⟩ := hok' b _ (un.frzs b _ _ atA)
      rw [ha] at e; cases e
      exact e2
    · exact un.keep b o e (free b hb) (fun z => by cases z) (by simp)
theorem walkG {l : PySem.W.OpenLaw} {n k : Nat} {q : Program} {loose : List Str} {XP : (Str → Option Value) → Heap → Prop} {YP : World → Heap → Prop} {d : DefRec} {K : Params → PySem.W.Frag} {CX : CXT} {x : Str} {sp : PySem.W.Frag → Sp}
    (hn : l.most = some n) (hn2 : n ≤ sizeLine) (hdf : d.params.defaults = []) (hr : Room k callerA) (noL : ∀ w : World, (K w.params).all (fun p => noLc p.2) = true) (hY : ∀ (w : World) (h : Heap), YP w h → (K w.params).In h)
    (F : ∀ (w : World) (mg : Str → Option Value) (fa : Addr) (h : Heap), (K w.params).In h → h.Ns mainGlobals mg → mg d.name = some (.ref fa) →
      ∃ fd : FuncData, (∀ (s : Shared) (u : Value), BindsTo s fd ⟨[u], []⟩ [(x, u)]) ∧ ∀ base : Heap, (K w.params).In base → base.Ns mainGlobals mg → FnG l.prog w (K w.params) mg base CX k fa fd [x] (sp (K w.params)))
    (hsp : ∀ (K : PySem.W.Frag) (a : Addr) (vs : List Value) (ns : List Int), ns.length ≤ n → (∀ k ∈ ns, Builtin.Int.intBits k ≤ 1048576) → sp K [.ref a] (scriptH a vs ns) (fun v _ => v = .bl true) fun _ _ _ => False)
    (hCX : ∀ (H : Hp) (s : Shared) (e : Value) (s' : Shared), CX [] H s (fun _ _ _ => False) e s' → False) : PySem.W.WalkO q loose XP YP l.row.toRowW d [] (fun f vs => PySem.call f vs) := by
  refine Att.attach_callB hn hdf fun w s₀ s₁ mg mb fa o pm cd doc a vs ns G Y ho hd hcd hmg hobj hints hlen hbits hg => ?_
  have KX := hY w _ Y
  obtain ⟨fd, hb, hF⟩ := F w mg fa _ KX G.T.g hmg
  exact lawG KX (noL w) G.T.g G.T.b G.T.builtins G.T.nolimit hg hobj hints (Nat.le_trans hlen hn2) hr hF hb (fun H e => by subst e; exact hsp _ a vs ns hlen hbits) fun H e s' => hCX H s₁ e s'
end VL
end
section
set_option Elab.async false
set_option linter.all false
set_option maxRecDepth 100000
set_option autoImplicit false
/-! exceptions: a caught one as a value that is tracked; defs that raise, over guards -/
namespace VL
open PySem PySem.Spec PyProof.Rows L2

section
variable {X : Cx} {pins : List (Addr × Obj)} {σ : L2.St} {H : Hp} {s sI : Shared} {a : Addr} {oe : Obj} {vs : Array Value} {cls : Value}
theorem Inv.trackX (I : L2.Inv X pins σ H s) (he : s.heap.get? a = some oe) (hz : Zc cls none oe) (hd : oe.data = .fields vs) (na : H a = none) (n0 : X.s_0.heap.get? a = none) (nL : a ≠ X.env.locals) (np : ∀ p ∈ X.pn ++ pins, p.1 ≠ a) :
    L2.Inv X pins σ (upd H a (ExV cls a)) s := by
  have ne : ∀ {b : Addr} {u : HO}, H b = some u → b ≠ a := fun {b u} e z => by rw [z, na] at e; cases e
  have nc : ∀ x c, X.env.cells.lookup x = some c → c ≠ a := fun x c e z => by
    obtain ⟨v, o, ho, hdc⟩ := I.cell x c e
    rw [z, he] at ho; cases ho
    rw [hd] at hdc; cases hdc
  refine ⟨I.ok, I.os, I.bare, ⟨I.base.keep, I.base.slot, fun b o e n hx => ?_, I.base.there, fun b xs e => ?_, fun b o u e => ?_, fun b ps e => ?_⟩, I.loc, I.cell, ?_, fun x c e => ?_, fun p hp => ?_, fun b u e => ?_, I.len⟩
  · rw [upd_ne (fun z => by rw [z, n0] at e; cases e)]
    exact I.base.free b o e n hx
  · have q := I.base.tups b xs e
    rw [upd_ne (ne q)]; exact q
  · have q := I.base.frzs b o u e
    rw [upd_ne (ne q)]; exact q
  · obtain ⟨m, q⟩ := I.base.tbls b ps e
    exact ⟨m, by rw [upd_ne (ne q)]; exact q⟩
  · rw [upd_ne (Ne.symm nL)]; exact I.free
  · rw [upd_ne (nc x c e)]; exact I.freeC x c e
  · obtain ⟨e, n, n2, nf, d⟩ := I.pin p hp
    exact ⟨e, by rw [upd_ne (np p hp)]; exact n, n2, nf, d⟩
  · by_cases hb : b = a
    · subst hb
      rw [upd_same] at e
      cases e
      exact ⟨⟨oe, he, hz, vs, hd⟩, ⟨oe, he⟩, fun _ _ ⟨o, q, r⟩ k => ⟨o, k o q, r⟩⟩
    · rw [upd_ne hb] at e
      exact (I.hok b u e).stay (fun c w' _ q => q) (fun c q => by rw [upd_ne (ne q)]; exact q) fun c xs q => by rw [upd_ne (ne q)]; exact q
end
/-- what 'except x as n' wishes of an exception of the body: slot i holds it, it is tracked -/
def wAsV (K : PySem.W.Frag) (c : Value) (i : Nat) (ts : TS) (Wout : WX) (D : Ends) : WX := fun cls d σ H => d = none ∧
  ∃ b, PySem.W.exmOne K cls c = some b ∧ (b = true → ∀ a, H a = none → ts { nx := fun σ' H' => D.nx (σ'.set i none) H', rt := D.rt, bk := fun σ' H' => D.bk (σ'.set i none) H', ct := fun σ' H' => D.ct (σ'.set i none) H' } (σ.set i (some (.ref a))) (upd H a (ExV cls a))) ∧
    (b = false → Wout cls d σ H)
section
variable {X : Cx} {x n : Str} {c : Value} {i : Nat} {body suite : List Stmt} {b₀ : Stmt} {np pos pos' : Pos} {tb : WX → TS} {ts : TS} {Wout : WX}
theorem ps_try_asV (hex : X.ex = []) (hs : X.stack = X.env :: X.outer) (hf : X.env.frame = some X.env.locals) (hN : X.N.Nodup) (hi : X.N[i]? = some n) (hln : X.env.kindOf n = some .local) (hc : Names X x c) (tk : Takes X Wout)
    (hb : ∀ (W : WX) (pn : List (Addr × Obj)) (xe : Value → Shared → Prop), Takes (X.tr pn xe) W → PassesOwn (model X.prog X.w) X.A X.env xe → PSs (X.tr pn xe) body (tb W))
    (hsu : ∀ (a : Addr) (pn : List (Addr × Obj)), PSs (X.suite a pn) (b₀ :: suite) ts) :
    PS X (.Try body [.ExceptHandler (some (.Name x np)) (some n) (b₀ :: suite) pos'] [] [] pos) (fun D σ H => tb (wAsV X.K c i ts Wout D) D σ H) := by
  refine ⟨fun pins s σ H D I h => ?_⟩
  have ok := I.ok
  have hfr : X.A.frames = some (X.env :: X.outer) := by rw [ok.frames, hs]
  have hloc : Loc X.env.scope n := .inl hln
  refine wpAny_Try_except ?_
  refine wpAny_mono ((hb (wAsV X.K c i ts Wout D) (X.pn ++ pins) (fun e s₁ => wpAny (model X.prog X.w) X.A (noteFrame e X.env) (fun _ s₂ => wpAny (model X.prog X.w) X.A (setFlight e none) (fun _ s₃ =>
    wpAny (model X.prog X.w) X.A (handleBy e X.env [.ExceptHandler (some (.Name x np)) (some n) (b₀ :: suite) pos']) (SP X pins D) X.xe s₃) X.xe s₂) X.xe s₁) (fun u s' xx => ?_) PassesOwn.looking).run [] s σ H D (I.toTry _) h) (fun f s1 hsp => ?_) (fun e s1 he => he)
  · -- the catch
    obtain ⟨a, B, sI, pins', σ', H', cls, d, rfl, J', nb, up, sky, na, os, ag, hdn, b, hb1, hyes, hno⟩ := xx
    subst hdn
    have J : L2.Inv X pins σ' H' sI := J'.ofTry ok
    have sky' : Sky B (X.env :: X.outer) a (Zc cls none) X.env.locals s'.heap := by rw [← hs]; exact sky
    show wpAny (model X.prog X.w) X.A (noteFrame (.ref a) X.env) _ _ _
    refine Sky.land Zc.steady hfr hf sky' fun h3 fl3 up3 => ?_
    have J3 : L2.Inv X pins σ' H' { s' with heap := h3 } := J.landed nb fl3.1 (up.trans up3) os ag
    obtain ⟨oe3, vs3, he3, hz3, hd3⟩ := fl3.there
    have notFr : ∀ {h : Heap} {o : Obj} {vs : Array Value}, h.FunFrames B (X.env :: X.outer) → h.get? a = some o → o.data = .fields vs → a ∉ frs (X.env :: X.outer) := fun {h o vs} ff e dd hm => by
      obtain ⟨_, o', e', hnf⟩ := ff.mem hm
      rw [e] at e'; cases e'
      exact hnf _ dd
    have nfr := notFr fl3.2.2.1 he3 hd3
    have nL : a ≠ X.env.locals := fun z => nfr (List.mem_filterMap.mpr ⟨X.env, List.mem_cons_self, by rw [hf, z]⟩)
    have nF : a ∉ X.fs := fun hm => by
      obtain ⟨e, he, q⟩ := List.mem_filterMap.mp hm
      exact nfr (List.mem_filterMap.mpr ⟨e, List.mem_cons_of_mem _ he, q⟩)
    have nB : B.get? a = none := fl3.2.1
    have nst : a ∉ frs X.stack := by rw [hs]; exact nfr
    have noI : ∀ o, sI.heap.get? a ≠ some o := fun o e => by
      have := nb a o e nst
      rw [nB] at this; cases this
    have n0 : X.s_0.heap.get? a = none := by
      cases e : X.s_0.heap.get? a with
      | none => rfl
      | some o =>
        obtain ⟨o', q⟩ := J.base.there a o e (by rw [hex]; exact fun z => nomatch z)
        exact absurd q (noI o')
    have nPin : ∀ p ∈ X.pn ++ pins, p.1 ≠ a := fun p hp z => by
      obtain ⟨e, _⟩ := J.pin p hp
      rw [z] at e
      exact noI _ e
    have toS : ∀ {s : Shared} {H : Hp} {σ : L2.St}, L2.Inv X pins σ H s → L2.Inv (X.suite a (X.pn ++ pins)) [] σ H s := fun I =>
      ⟨I.ok.suite _ _, I.os, I.bare, I.base, I.loc, I.cell, I.free, I.freeC, fun p hp => I.pin p (by rw [List.append_nil] at hp; exact hp), I.hok, I.len⟩
    have ofS : ∀ {s : Shared} {H : Hp} {σ : L2.St} {pn' : List (Addr × Obj)}, L2.Inv (X.suite a (X.pn ++ pins)) pn' σ H s → L2.Inv X pins σ H s := fun I =>
      ⟨ok, I.os, I.bare, I.base, I.loc, I.cell, I.free, I.freeC, fun p hp => I.pin p (List.mem_append_left _ hp), I.hok, I.len⟩
    have S3 := toS J3
    refine wpAny_handleBy_cons (codeAny_handlers_test ?_) (by intro q; cases q)
    have LT : PySem.W.Looks (model X.prog X.w) h3 (typeOf (.ref a)) cls := fun A Q E s k q => wpAny_typeOf_ref (k _ _ he3) (by rw [hz3.1]; exact q)
    have LM := PySem.W.exm_one (M := model X.prog X.w) (J3.kIn) LT hb1
    have test : ∀ {Q : Value → Shared → Prop} {E : Value → Shared → Prop}, Q c { s' with heap := h3 } → wpAny (model X.prog X.w) (X.A.mark (some (.ref a))) (eval (.Name x np) X.env) Q E { s' with heap := h3 } := fun {Q E} q => by
      obtain ⟨hg, hdbg, hm | ⟨hm, hv, hnn⟩⟩ := hc
      · exact ld_glob (X := X.suite a (X.pn ++ pins)) S3 hg hm q hdbg
      · exact ld_blt (X := X.suite a (X.pn ++ pins)) S3 hg hm hv q hnn hdbg
    refine test (LM.here ?_)
    cases b with
    | true =>
      refine codeAny_handlers_suite_as ?_
      refine HandSPX.lands_againZ fl3 fun h4 fl4 up4 => ?_
      have J4 : L2.Inv X pins σ' H' { s' with heap := h4 } := J.landed nb fl4.1 ((up.trans up3).trans up4) os ag
      obtain ⟨oe4, vs4, he4, hz4, hd4⟩ := fl4.there
      have S4 := toS (VL.Inv.trackX J4 he4 hz4 hd4 na n0 nL nPin)
      refine store_ok (X := X.suite a (X.pn ++ pins)) (v := .ref a) S4 hN hi hloc rfl (fun s5 S5 => ?_) (.inr hln)
      refine wpAny_mono ((hsu a (X.pn ++ pins)).run [] s5 _ (upd H' a (ExV cls a)) _ S5 (hyes rfl a na)) (fun f s6 hsp => ?_) (fun _ _ z => False.elim z)
      have end_ : ∀ {σ6 : L2.St} {H6 : Hp} {Q : Shared → Prop}, L2.Inv (X.suite a (X.pn ++ pins)) [] σ6 H6 s6 → (∀ s7, L2.Inv X pins (σ6.set i none) H6 s7 → Q s7) →
          wpAny (model X.prog X.w) X.A (do bindName X.env n .none; unbindBehindTheSuite X.env n pos') (fun _ s7 => Q s7) X.xe s6 := fun {σ6 H6 Q} S6 hq => gone_ok (ofS S6) hN hi hln hq
      cases f with
      | next =>
        obtain ⟨σ6, H6, S6, q6⟩ := hsp
        exact end_ S6 fun s7 J7 => ⟨_, _, J7, q6⟩
      | brk =>
        obtain ⟨σ6, H6, S6, q6⟩ := hsp
        exact end_ S6 fun s7 J7 => ⟨_, _, J7, q6⟩
      | cont =>
        obtain ⟨σ6, H6, S6, q6⟩ := hsp
        exact end_ S6 fun s7 J7 => ⟨_, _, J7, q6⟩
      | ret u =>
        obtain ⟨v6, σ6, H6, S6, r6, q6⟩ := hsp
        exact end_ S6 fun s7 J7 => ⟨_, _, _, J7, r6, q6⟩
    | false =>
      show wpAny _ X.A (handleBy (.ref a) X.env []) _ _ _
      refine wpAny_handleBy_nil ?_
      obtain ⟨k1, k2, k3, oe, vs, T, oT, ts', he, hz, hd, h1, hr⟩ := id fl3
      unfold PySem.passOn
      refine wpAny_bind (wpAny_field he hd h1 ?_)
      rw [if_neg (show ¬ ((Value.ref T == Value.none) = true) from by simp)]
      have fin : wpAny (model X.prog X.w) X.A (setFlight (.ref a) X.env.frame) (fun _ s4 => wpAny (model X.prog X.w) X.A (throw (.ref a) : Sem Flow) (SP X pins D) X.xe s4) X.xe { s' with heap := h3 } := by
        rw [hf]
        refine HandSPX.setFlight_upZ fl3 fun h4 hh4 up4 => wpAny_throw (tk _ _ ?_)
        exact ⟨a, B, sI, pins, σ', H', cls, none, rfl, J, nb, (up.trans up3).trans up4, .inr (.inr (by rw [hs]; exact hh4)), na, os, ag, hno rfl⟩
      first
        | exact wpAny_bind (wpAny_pure (wpAny_bind fin))
        | exact wpAny_bind fin
  · cases f with
    | next =>
      obtain ⟨σ', H', J', q⟩ := hsp
      exact wpAny_execs_nil ⟨σ', H', J'.ofTry ok, q⟩
    | brk =>
      obtain ⟨σ', H', J', q⟩ := hsp
      exact ⟨σ', H', J'.ofTry ok, q⟩
    | cont =>
      obtain ⟨σ', H', J', q⟩ := hsp
      exact ⟨σ', H', J'.ofTry ok, q⟩
    | ret u =>
      obtain ⟨v, σ', H', J', r, q⟩ := hsp
      exact ⟨v, σ', H', J'.ofTry ok, r, q⟩
end
/-! ### calls of defs that raise -/
section
variable {X : Cx} {CX : CXT} {k : Nat} {f : Addr} {fd : FuncData} {ps : List Str} {sp : Sp} {E : L2.St → XK} {x : Str} {p pos : Pos} {e : Expr} {es : List Expr} {t : TA}
theorem runGS {pins : List (Addr × Obj)} {σ : L2.St} {H : Hp} {s : Shared} {Q : VK} {args : Args} {us : List Value} {vs : List V} (F : FnG X.prog X.w X.K X.mg X.base CX k f fd ps sp) (r : RoomG k X.A) (hb : BindsTo s fd args (ps.zip us)) (hx : PassesAt CX X σ (E σ))
    (I : L2.Inv X pins σ H s) (rv : Vals vs us) (h : sp vs H Q (E σ)) : wpAny (model X.prog X.w) X.A (call (.ref f) args.pos args.kw) (EP X pins σ Q) X.xe s := by
  refine wpAny_call (codeAny_mono (F.goes X.A X.stack s H args us vs Q (E σ) r I.env0 hb rv h) fun res s' hq => ?_)
  match res, hq with
  | .error _, hq => exact hx pins H s _ s' I hq
  | .ok (.ret _), hq => exact I.after hq
  | .ok .next, hq => exact (hq : False).elim
  | .ok .brk, hq => exact (hq : False).elim
  | .ok .cont, hq => exact (hq : False).elim
theorem pe_callGS (F : FnG X.prog X.w X.K X.mg X.base CX k f fd ps sp) (r : RoomG k X.A) (hg : Gl X x) (hm : X.mg x = some (.ref f)) (hk : PySem.W.keepIn X.K (.ref f) = true) (hb : Binds X.K fd ps []) (hx : ∀ σ, PassesAt CX X σ (E σ)) (ha : PA X (e :: es) t)
    (hdb : (x == ("__debug__" : Str)) = false := by decide) (he : starEach (e :: es) X.env = (false, eval e X.env) :: starEach es X.env := by rfl) (hpl : (backTo pos (starEach es X.env)).any (·.1) = false := by rfl) :
    PE X (.Call (.Name x p) (e :: es) [] pos) (tCallS sp E t) := by
  refine ⟨fun pins s σ H Q I h => wpAny_Call_Name_kw (ld_glob I hg hm ?_ hdb)⟩
  refine PySem.W.callWith_K (h₀ := X.base) I.ok.mod.kin hk ?_ he hpl
  refine thn (ha.run pos pins s σ H _ I h) fun us s1 ⟨vs, H1, I1, rv, q⟩ => ⟨I1.kIn, ?_⟩
  have q : sp vs H1 Q (E σ) := q
  have n1 := F.many _ _ _ _ q
  have hb' := hb s1 us I1.kIn (by rw [List.append_nil, ← rv.length]; exact n1)
  rw [List.append_nil] at hb'
  exact runGS (σ := σ) (E := E) (args := ⟨us, []⟩) F r hb' (hx σ) I1 rv q
end
section
variable {P : Program} {w : World} {K : PySem.W.Frag} {mg : Str → Option Value} {base : Heap} {k j : Nat} {f : Addr} {fd : FuncData} {ps : List Str} {sp : Sp}
/-- .. of a def of the text that may raise -/
theorem Fun.okGX {CX : CXT} {x qual : Str} {st : Stmt} {N : List Str} (F : L2.Fun K x qual st f fd) (S : FnScope N ps (defScope st)) (many : ∀ vs H Q E, sp vs H Q E → vs.length = ps.length)
    (bd : ∀ (cdv : Value) (A : Around) (outer : List PySem.Env) (s : Shared) (H : Hp) (vs : List V) (Q : VK) (E : XK), RoomG k (A.deeper (envOfC qual (defScope st) s.heap.objs.size f cdv)) → sp vs H Q E →
      ∃ t, PSs (cxOf CX P w K mg base N qual (defScope st) f cdv A outer s H E) (defBody st) t ∧ t { nx := fun _ H' => Q .non H', rt := Q } (start N vs) H) : FnG P w K mg base CX (k + 1) f fd ps sp := by
  obtain ⟨oc, od, kV, doc, pm, an, cdv, ct, osl, rfl, lk, hcd⟩ := F.ex
  exact fnG_of lk hcd S many fun A outer s H vs Q E r h => bd cdv A outer s H vs Q E r h
end
/-! ### isinstance of a tracked exception -/
def rIsV (K : PySem.W.Frag) : List V → Hp → VK → Prop := fun xs H Q => ∃ (a D : Addr) (c : V) (cv : Value) (b : Bool), xs = [.ref a, c] ∧ H a = some (ExV (.ref D) a) ∧ ExcC K D ∧ (∀ u, RelV c u → u = cv) ∧ PySem.W.kitOne K (.ref D) cv = some b ∧ Q (.bl b) H
theorem call_isV {X : Cx} : CallR X (.builtin "isinstance") (rIsV X.K) := by
  intro pins s σ H xs us Q I r h
  obtain ⟨a, D, c, cv, b, rfl, ha, C, hcv, e, q⟩ := h
  cases r with
  | cons rx rr =>
    cases rr with
    | cons rt rr =>
      cases rr
      cases rx
      have ec := hcv _ rt
      subst ec
      obtain ⟨⟨oe, hget, hz, vs, hv⟩, _⟩ := I.hok a _ ha
      have J : PySem.W.InstAt s.heap a oe D none := by
        obtain ⟨oc, od, oda, osl⟩ := oe
        obtain ⟨h1, h2⟩ := hz
        dsimp only at h1 h2 hv
        subst h1 h2 hv
        exact ⟨hget, rfl, rfl, trivial⟩
      exact PySem.W.kia_one (PySem.W.handS_kitx_exc C.hg C.hk C.hs C.hd C.ha C.hn C.ht C.hm) I.kIn J e (fun z => nomatch z) fun tk => ⟨.bl b, H, I.kept (t' := tk) fun _ _ z => z, rfl, q⟩
end VL
end
section
set_option Elab.async false
set_option linter.all false
set_option maxRecDepth 100000
set_option autoImplicit false
namespace VL
open PySem PySem.Spec PyProof.Rows L2

/-! ### defs: data to data -/
inductive FRes where
  | ret (d : D) (t : Tag) (p : D) | exc (c : Str) (p : D) | bad
abbrev Fn := List D → FRes
def inTag (d : D) : Tag := if noMut d then .unq else .sh
def entE (par : Bool) (n : Nat) : List D → Env
  | [] => List.replicate n none
  | d :: r => (some (d, if par then .par else inTag d) :: r.map fun d => some (d, inTag d)) ++ List.replicate (n - (r.length + 1)) none
def p0 (env : Env) : D := match env[0]? with
  | some (some (d, _)) => d
  | _ => .none
def pOut (par : Bool) (env : Env) : D := if par then p0 env else .none
def fnOf (par : Bool) (n : Nat) (B : SR) : Fn := fun ds => match B (entE par n ds) with
  | .rt d t env => if t = .par then .bad else .ret d t (pOut par env)
  | .nx env => .ret .none .unq (pOut par env)
  | .exc c env => .exc c (pOut par env)
  | _ => .bad
/-- the written parameter's address -/
def hd (par : Bool) (es : List Ent) : Option Addr := if par then (match es with
  | x :: _ => (match x.v with
    | .ref a => some a
    | _ => none)
  | [] => none) else none
structure Post (K : PySem.W.Frag) (par : Bool) (es : List Ent) (H H' : Hp) (p : D) (e : Ent) : Prop where
  rep : Rep K H' e.d e.v e.fp
  keep : ∀ b, H b ≠ none → hd par es ≠ some b → H' b = H b
  trk : ∀ b, H b ≠ none → H' b ≠ none
  sub : ∀ b ∈ e.fp, H b = none ∨ ∃ x ∈ es, b ∈ x.fp
  nhd : ∀ b ∈ e.fp, hd par es ≠ some b
  tag : match e.t with
    | .sh => True
    | .own => isLD e.d = true ∧ ∃ a fs, e.v = .ref a ∧ e.fp = a :: fs ∧ a ∉ fs ∧ H a = none ∧ Mut (H' a)
    | .unq => e.fp.Nodup ∧ ∀ b ∈ e.fp, H b = none ∧ Mut (H' b)
    | .par => False
  par : ∀ b, hd par es = some b → Rep K H' p (.ref b) [b] ∧ Mut (H' b) ∧ isLD p = true
structure ParOk (es : List Ent) (H : Hp) (x : Ent) (r : List Ent) (a : Addr) : Prop where
  es : es = x :: r
  v : x.v = .ref a
  fp : x.fp = [a]
  ld : isLD x.d = true
  mu : Mut (H a)
  no : ∀ y ∈ r, a ∉ y.fp
def spV (K : PySem.W.Frag) (par : Bool) (m : Nat) (fn : Fn) : Sp := fun vs H Q E => ∃ es : List Ent, vs = es.map (·.v) ∧ es.length = m ∧ (∀ x ∈ es, Rep K H x.d x.v x.fp) ∧ (par = true → ∃ x r a, ParOk es H x r a) ∧
  match fn (es.map (·.d)) with
  | .ret d t p => ∀ e H', e.d = d → e.t = t → Post K par es H H' p e → Q e.v H'
  | _ => False
/-- a def that may raise -/
def spX (K : PySem.W.Frag) (m : Nat) (fn : Fn) : Sp := fun vs H Q E => ∃ es : List Ent, vs = es.map (·.v) ∧ es.length = m ∧ (∀ x ∈ es, Rep K H x.d x.v x.fp) ∧
  match fn (es.map (·.d)) with
  | .ret d t p => ∀ e H', e.d = d → e.t = t → Post K false es H H' p e → Q e.v H'
  | .exc c _ => ∀ C H', clsOf K c = some C → (∀ b, H b ≠ none → H' b = H b) → E (.ref C) none H'
  | .bad => False
theorem spX_len {K : PySem.W.Frag} {m : Nat} {fn : Fn} : ∀ vs H Q E, spX K m fn vs H Q E → vs.length = m := fun vs H Q E ⟨es, e, l, _⟩ => by rw [e, List.length_map]; exact l
/-- the wish of a context, by the class's name -/
def wX (K : PySem.W.Frag) (WX : L2.WX) : WV := fun c σ H => ∀ C, clsOf K c = some C → WX (.ref C) none σ H
theorem spV_len {K : PySem.W.Frag} {par : Bool} {m : Nat} {fn : Fn} : ∀ vs H Q E, spV K par m fn vs H Q E → vs.length = m := fun vs H Q E ⟨es, e, l, _⟩ => by rw [e, List.length_map]; exact l

section
variable {K : PySem.W.Frag} {W : WV} {F : Frm} {G G' : List (Option Ent)} {H H' : Hp} {e x p : Ent} {i : Nat} {R ps Δ es : List Ent} {σ : L2.St} {vs : List V} {ds : List D} {d : D} {v : V} {t : Tag} {xs : List Ent} {fp : List Addr}
/-! the entry -/
def entT (par : Bool) : List Ent → List Ent
  | [] => []
  | x :: r => { x with t := if par then .par else inTag x.d } :: r.map fun y => { y with t := inTag y.d }
theorem entT_get {par : Bool} {k : Nat} {y : Ent} (h : (entT par es)[k]? = some y) : ∃ x, es[k]? = some x ∧ y.v = x.v ∧ y.d = x.d ∧ y.fp = x.fp ∧ ((k = 0 ∧ par = true ∧ y.t = .par) ∨ ((k ≠ 0 ∨ par = false) ∧ y.t = inTag x.d)) := by
  cases es with
  | nil => simp [entT] at h
  | cons x r =>
    cases k with
    | zero =>
      simp only [entT, List.getElem?_cons_zero, Option.some.injEq] at h
      subst h
      refine ⟨x, rfl, rfl, rfl, rfl, ?_⟩
      cases par
      · exact .inr ⟨.inr rfl, rfl⟩
      · exact .inl ⟨rfl, rfl, rfl⟩
    | succ k =>
      simp only [entT, List.getElem?_cons_succ, List.getElem?_map] at h
      cases q : r[k]? with
      | none => rw [q] at h; cases h
      | some z =>
        rw [q] at h
        simp at h
        subst h
        exact ⟨z, by simpa using q, rfl, rfl, rfl, .inr ⟨.inl (by simp), rfl⟩⟩
theorem entT_map {β : Type} {par : Bool} (f : Ent → β) (hf : ∀ x t, f { x with t := t } = f x) : (entT par es).map f = es.map f := by
  cases es with
  | nil => rfl
  | cons x r =>
    simp only [entT, List.map_cons, List.map_map]
    congr 1
    · exact hf _ _
    · exact List.map_congr_left fun y _ => hf _ _
theorem entT_env {par : Bool} {n : Nat} : envOf ((entT par es).map some ++ List.replicate (n - es.length) none) = entE par n (es.map (·.d)) := by
  cases es with
  | nil => simp [entT, entE, envOf]
  | cons x r =>
    simp only [entT, entE, envOf, List.map_append, List.map_cons, List.map_map, List.map_replicate, List.length_cons, List.length_map]
    rfl
def frmOf (K : PySem.W.Frag) (par : Bool) (es : List Ent) (H : Hp) : Frm := ⟨K, H, fun b => H b ≠ none ∧ hd par es ≠ some b, fun b => H b = none ∨ ∃ x ∈ es, b ∈ x.fp, fun i => if i = 0 then hd par es else none⟩
theorem hd_of {r : List Ent} {a : Addr} (po : ParOk es H x r a) : hd true es = some a := by
  rw [po.es]
  simp [hd, po.v]
theorem entry {par : Bool} {n : Nat} {N : List Str} (hN : N.length = n) (hl : es.length ≤ n) (hr : ∀ x ∈ es, Rep K H x.d x.v x.fp) (hp : par = true → ∃ x r a, ParOk es H x r a) :
    Now (frmOf K par es H) ((entT par es).map some ++ List.replicate (n - es.length) none) [] (start N (es.map (·.v))) H := by
  have lenT : (entT par es).length = es.length := by
    have := entT_map (par := par) (es := es) (fun x => x.v) (fun _ _ => rfl)
    have := congrArg List.length this
    simpa using this
  have lk : ∀ {k : Nat} {y : Ent}, ((entT par es).map some ++ List.replicate (n - es.length) none)[k]? = some (some y) → (entT par es)[k]? = some y := fun {k y} h => by
    by_cases hk : k < (entT par es).length
    · rw [List.getElem?_append_left (by simpa using hk), List.getElem?_map] at h
      cases q : (entT par es)[k]? with
      | none => rw [q] at h; cases h
      | some z => rw [q] at h; simpa using h
    · rw [List.getElem?_append_right (by simpa using hk), List.getElem?_replicate] at h
      split at h <;> cases h
  have tag0 : ∀ (k : Nat) (y z : Ent), (entT par es)[k]? = some y → es[k]? = some z → y.t = .par → par = true ∧ k = 0 := fun k y z h1 h2 h3 => by
    obtain ⟨x, q1, _, _, _, q | ⟨q, q2⟩⟩ := entT_get h1
    · exact ⟨q.2.1, q.1⟩
    · rw [h3] at q2; unfold inTag at q2; split at q2 <;> cases q2
  refine ⟨?_, ?_, ?_, ?_⟩
  · rw [List.map_nil, List.append_nil]
    refine ⟨fun k y hk => ?_, fun i j y z hij hi hj => ?_, fun b _ => rfl, fun b hb => hb, fun b hb => .inl hb, fun b hb => hb.1⟩
    · obtain ⟨x, q1, q2, q3, q4, q5⟩ := entT_get (lk hk)
      have hx := hr x (List.mem_of_getElem? q1)
      refine ⟨by rw [q2, q3, q4]; exact hx, fun b hb => .inr ⟨x, List.mem_of_getElem? q1, by rw [← q4]; exact hb⟩, ?_⟩
      rcases q5 with ⟨rfl, rfl, q5⟩ | ⟨_, q5⟩
      · obtain ⟨x', r, a, po⟩ := hp rfl
        have e0 : x = x' := by
          have := q1
          rw [po.es] at this
          simpa using this.symm
        subst e0
        unfold TagOk; rw [q5]
        exact ⟨by rw [q3]; exact po.ld, a, by rw [q2]; exact po.v, by rw [q4]; exact po.fp, fun z => z.2 (hd_of po), po.mu⟩
      · unfold TagOk inTag at *
        by_cases hm : noMut x.d = true
        · rw [if_pos hm] at q5
          rw [q5, q4, rep_noMut _ _ _ hm hx]
          exact ⟨List.nodup_nil, fun b hb => by cases hb⟩
        · rw [if_neg hm] at q5
          rw [q5]; trivial
    · obtain ⟨x, q1, q2, q3, q4, q5⟩ := entT_get (lk hi)
      obtain ⟨x2, p1, p2, p3, p4, p5⟩ := entT_get (lk hj)
      have hx := hr x (List.mem_of_getElem? q1)
      rcases q5 with ⟨rfl, rfl, q5⟩ | ⟨_, q5⟩
      · obtain ⟨x', r, a, po⟩ := hp rfl
        have e0 : x = x' := by
          have := q1
          rw [po.es] at this
          simpa using this.symm
        subst e0
        unfold Sep1; rw [q5]
        intro c hc
        rw [q4, po.fp] at hc
        simp at hc; subst hc
        rw [p4]
        refine po.no x2 ?_
        rw [po.es] at p1
        cases j with
        | zero => exact absurd rfl hij
        | succ j => exact List.mem_of_getElem? (by simpa using p1)
      · unfold Sep1 inTag at *
        by_cases hm : noMut x.d = true
        · rw [if_pos hm] at q5
          rw [q5, q4, rep_noMut _ _ _ hm hx]
          intro b hb; cases hb
        · rw [if_neg hm] at q5
          rw [q5]; trivial
  · simp [L2.start, hN, lenT]
  · intro k y hk
    obtain ⟨x, q1, q2, _⟩ := entT_get (lk hk)
    have hkl := (List.getElem?_eq_some_iff.mp q1).1
    unfold L2.start
    rw [List.getElem?_append_left (by simpa using hkl), List.getElem?_map, List.getElem?_map, q1]
    simp [q2]
  · intro i a ha
    simp only [frmOf] at ha
    split at ha
    · rename_i hi
      subst hi
      have hpar : par = true := by
        cases par
        · simp [hd] at ha
        · rfl
      subst hpar
      obtain ⟨x', r, a', po⟩ := hp rfl
      rw [hd_of po] at ha; cases ha
      refine ⟨{ x' with t := .par }, ?_, po.v, rfl⟩
      rw [po.es]
      simp [entT]
    · cases ha
/-- a body keeps the promise -/
theorem post_of {par : Bool} : ∀ {G : List (Option Ent)} {σ : L2.St} {H' : Hp} {e : Ent}, Now (frmOf K par es H) G [e] σ H' → e.t ≠ .par → Post K par es H H' (pOut par (envOf G)) e := fun {G σ H' e} n np => by
    have hl : (G ++ [e].map some)[G.length]? = some (some e) := by simp
    have ok := n.gd.ok _ _ hl
    have parE : ∀ b, hd par es = some b → ∃ y : Ent, G[0]? = some (some y) ∧ y.v = .ref b ∧ y.t = .par := fun b hb => n.sl.par 0 b (by simp [frmOf, hb])
    have nh : ∀ b ∈ e.fp, hd par es ≠ some b := fun b hb z => by
      obtain ⟨y, y1, y2, y3⟩ := parE b z
      have y0 := (List.getElem?_eq_some_iff.mp y1).1
      have y1' : (G ++ [e].map some)[0]? = some (some y) := by rw [List.getElem?_append_left y0]; exact y1
      have tg := (n.gd.ok _ _ y1').tag
      unfold TagOk at tg; rw [y3] at tg
      obtain ⟨_, c, c1, c2, _⟩ := tg
      rw [y2] at c1; cases c1
      have s := n.gd.sep _ _ _ _ (by omega) y1' hl
      unfold Sep1 at s; rw [y3] at s
      exact s b (by rw [c2]; rfl) hb
    have fresh : ∀ b ∈ e.fp, ¬ (frmOf K par es H).Pr b → H b = none := fun b hb hn => by
      cases q : H b with
      | none => rfl
      | some o => exact absurd ⟨by rw [q]; simp, nh b hb⟩ hn
    refine ⟨ok.rep, fun b hb hh => n.gd.pr b ⟨hb, hh⟩, n.gd.trk, ok.al, nh, ?_, fun b hb => ?_⟩
    · have tg := ok.tag
      unfold TagOk at tg
      cases q : e.t with
      | sh => trivial
      | own =>
        rw [q] at tg
        obtain ⟨z0, a, fs, z1, z2, z3, z4, z5⟩ := tg
        exact ⟨z0, a, fs, z1, z2, z3, fresh a (by rw [z2]; exact List.mem_cons_self ..) z4, z5⟩
      | unq =>
        rw [q] at tg
        exact ⟨tg.1, fun b hb => ⟨fresh b hb (tg.2 b hb).1, (tg.2 b hb).2⟩⟩
      | par => exact absurd q np
    · obtain ⟨y, y1, y2, y3⟩ := parE b hb
      have y0 := (List.getElem?_eq_some_iff.mp y1).1
      have y1' : (G ++ [e].map some)[0]? = some (some y) := by rw [List.getElem?_append_left y0]; exact y1
      have oky := n.gd.ok _ _ y1'
      have tg := oky.tag
      unfold TagOk at tg; rw [y3] at tg
      obtain ⟨c0, c, c1, c2, c3, c4⟩ := tg
      rw [y2] at c1; cases c1
      have e0 : pOut par (envOf G) = y.d := by
        have hpar : par = true := by
          cases par
          · simp [hd] at hb
          · rfl
        rw [hpar]
        show p0 (envOf G) = y.d
        unfold p0
        rw [envOf_get y1]
      rw [e0]
      have := oky.rep
      rw [y2, c2] at this
      exact ⟨this, c4, c0⟩
theorem body_spV {par : Bool} {n m : Nat} {N : List Str} {T : TS} {B : SR} (hN : N.length = n) (hm : m ≤ n) (hs : SpecS K WF T B) {Q : VK} {E : XK} (h : spV K par m (fnOf par n B) vs H Q E) :
    T { nx := fun _ H' => Q .non H', rt := Q } (start N vs) H := by
  obtain ⟨es, rfl, rfl, hr, hp, h⟩ := h
  have n0 := entry (par := par) hN hm hr hp
  refine hs (frmOf K par es H) _ [] _ H _ rfl n0 ?_
  rw [entT_env]
  unfold fnOf at h
  cases q : B (entE par n (es.map (·.d))) with
  | bad => rw [q] at h; exact h.elim
  | bk env => rw [q] at h; exact h.elim
  | ct env => rw [q] at h; exact h.elim
  | exc c env => rw [q] at h; exact h.elim
  | nx env =>
    rw [q] at h
    intro G1 σ1 H1 g1 n1
    subst g1
    have n2 := n1.scalar (d := .none) (v := .non) rep_none
    exact h ⟨.non, .none, .unq, []⟩ H1 rfl rfl (post_of (by simpa using n2) (by simp))
  | rt d t env =>
    rw [q] at h
    intro G1 σ1 H1 e g1 n1 e1 e2
    subst g1
    by_cases hp : t = .par
    · simp only [if_pos hp] at h
    · simp only [if_neg hp] at h
      exact h e H1 e1 e2 (post_of (by simpa using n1) (by rw [e2]; exact hp))
theorem body_spX {n m : Nat} {N : List Str} {T : TS} {B : SR} (hN : N.length = n) (hm : m ≤ n) {Q : VK} {E : XK} (hs : SpecS K (wX K fun cls d _ H => E cls d H) T B) (h : spX K m (fnOf false n B) vs H Q E) :
    T { nx := fun _ H' => Q .non H', rt := Q } (start N vs) H := by
  obtain ⟨es, rfl, rfl, hr, h⟩ := h
  have n0 := entry (par := false) hN hm hr (fun z => nomatch z)
  refine hs (frmOf K false es H) _ [] _ H _ rfl n0 ?_
  rw [entT_env]
  unfold fnOf at h
  cases q : B (entE false n (es.map (·.d))) with
  | bad => rw [q] at h; exact h.elim
  | bk env => rw [q] at h; exact h.elim
  | ct env => rw [q] at h; exact h.elim
  | exc c env =>
    rw [q] at h
    intro G1 σ1 H1 g1 n1 C hC
    exact h C H1 hC fun b hb => n1.gd.pr b ⟨hb, by simp [hd]⟩
  | nx env =>
    rw [q] at h
    intro G1 σ1 H1 g1 n1
    subst g1
    have n2 := n1.scalar (d := .none) (v := .non) rep_none
    exact h ⟨.non, .none, .unq, []⟩ H1 rfl rfl (post_of (by simpa using n2) (by simp))
  | rt d t env =>
    rw [q] at h
    intro G1 σ1 H1 e g1 n1 e1 e2
    subst g1
    by_cases hp : t = .par
    · simp only [if_pos hp] at h
    · simp only [if_neg hp] at h
      exact h e H1 e1 e2 (post_of (by simpa using n1) (by rw [e2]; exact hp))
end
end VL
end
section
set_option Elab.async false
set_option linter.all false
set_option maxRecDepth 100000
set_option autoImplicit false
namespace VL
open PySem PySem.Spec PyProof.Rows L2

section
variable {K : PySem.W.Frag} {W : WV} {F : Frm} {Γ G G' : List (Option Ent)} {H H' : Hp} {e x p : Ent} {i j : Nat} {R ps Δ es : List Ent} {σ : L2.St} {vs : List V} {ds : List D} {d : D} {v : V} {t : Tag} {xs : List Ent} {fp : List Addr} {os : List Opd} {b : Addr}
/-! ### slots that are shared from now on -/
def shAll (os : List Opd) : Nat → Env → Env
  | _, [] => []
  | i, o :: r => (if hasSlot os i then o.map (fun p => (p.1, if noMut p.1 then p.2 else .sh)) else o) :: shAll os (i + 1) r
def Ent.sh1 (e : Ent) : Ent := if noMut e.d then e else e.toSh
def shG (os : List Opd) (i : Nat) : List (Option Ent) → List (Option Ent)
  | [] => []
  | o :: r => (if hasSlot os i then o.map Ent.sh1 else o) :: shG os (i + 1) r
theorem shG_length (os : List Opd) : ∀ (G : List (Option Ent)) (i : Nat), (shG os i G).length = G.length
  | [], _ => rfl
  | o :: r, i => by simp [shG, shG_length os r]
theorem shG_get (os : List Opd) : ∀ (G : List (Option Ent)) (i j : Nat), (shG os i G)[j]? = (G[j]?).map fun o => if hasSlot os (i + j) then o.map Ent.sh1 else o
  | [], i, j => by simp [shG]
  | o :: r, i, 0 => by simp [shG]
  | o :: r, i, j + 1 => by simp only [shG, List.getElem?_cons_succ]; rw [shG_get os r]; rw [show i + 1 + j = i + (j + 1) by omega]
theorem Ent.sh1_v (e : Ent) : e.sh1.v = e.v ∧ e.sh1.d = e.d ∧ e.sh1.fp = e.fp := by unfold Ent.sh1; split <;> exact ⟨rfl, rfl, rfl⟩
theorem shG_env (os : List Opd) : ∀ (G : List (Option Ent)) (i : Nat), envOf (shG os i G) = shAll os i (envOf G)
  | [], i => rfl
  | o :: r, i => by
    have ih := shG_env os r (i + 1)
    unfold envOf at *
    simp only [shG, shAll, List.map_cons, ih]
    congr 1
    split
    · cases o with
      | none => rfl
      | some e =>
        simp only [Option.map_some]
        unfold Ent.sh1
        split <;> simp_all [Ent.toSh]
    · rfl
theorem shG_inv (h : (shG os 0 G)[i]? = some (some e)) : ∃ e0, G[i]? = some (some e0) ∧ ((hasSlot os i = true ∧ e = e0.sh1) ∨ (hasSlot os i = false ∧ e = e0)) := by
  rw [shG_get] at h
  cases q : G[i]? with
  | none => rw [q] at h; simp at h
  | some o =>
    rw [q] at h
    simp only [Option.map_some, Nat.zero_add, Option.some.injEq] at h
    cases q2 : hasSlot os i with
    | true =>
      rw [q2] at h
      cases o with
      | none => simp at h
      | some e0 => simp at h; exact ⟨e0, rfl, .inl ⟨rfl, h.symm⟩⟩
    | false =>
      rw [q2] at h
      simp at h
      exact ⟨e, by rw [h], .inr ⟨rfl, rfl⟩⟩
def noParS (os : List Opd) (env : Env) : Bool := os.all fun o => match o with
  | .slot i => (match env[i]? with
    | some (some (d, .par)) => noMut d
    | _ => true)
  | _ => true
/-! ### a call -/
def parOkE (par : Bool) (os : List Opd) (env : Env) : Bool := if par then (match os with
  | .slot j :: r => !hasSlot r j && (match env[j]? with
    | some (some (.list ds, tg)) => noMutL ds && decide (tg ≠ .sh)
    | _ => false)
  | _ => false) else true
def setPar (par : Bool) (os : List Opd) (p : D) (env : Env) : Env := if par then (match os with
  | .slot j :: _ => (match env[j]? with
    | some (some (_, tg)) => env.set j (some (p, tg))
    | _ => env)
  | _ => env) else env
def rest (par : Bool) (os : List Opd) : List Opd := if par then os.tail else os
def callE (par : Bool) (m : Nat) (fn : Fn) (os : List Opd) (env : Env) : Res (Opd × Env) := match opsD env os with
  | some ds => if decide (os.length = m) && parOkE par os env then (match fn ds with
    | .ret d t p => if needDem d t then (if noParS (VL.rest par os) env then .ok (.val d t, shAll (VL.rest par os) 0 (setPar par os p env)) else .bad) else .ok (.val d t, setPar par os p env)
    | _ => .bad) else .bad
  | none => .bad
def eCall (par : Bool) (m : Nat) (fn : Fn) (a : AR) : ER := fun env => (a env).bind fun p => callE par m fn p.1 p.2
/-- the written list has changed, all else stands -/
theorem Gd.parSet (g : Gd F Γ H) (hj : Γ[j]? = some (some x)) (hv : x.v = .ref b) (hf : x.fp = [b]) (ht : x.t ≠ .sh) (keep : ∀ c, H c ≠ none → c ≠ b → H' c = H c) (trk : ∀ c, H c ≠ none → H' c ≠ none) {d' : D} (r : Rep F.K H' d' (.ref b) [b]) (mu : Mut (H b)) (mu' : Mut (H' b)) (ld : isLD d' = true) :
    Gd F (Γ.set j (some ⟨.ref b, d', x.t, [b]⟩)) H' := by
  have okx := g.ok j x hj
  have npr : ¬ F.Pr b := by
    have tg := okx.tag
    unfold TagOk at tg
    split at tg
    · rename_i z; exact absurd z ht
    · obtain ⟨_, a, fs, z1, z2, z3, z4, z5⟩ := tg
      rw [hv] at z1; cases z1; exact z4
    · exact (tg.2 b (by rw [hf]; simp)).1
    · obtain ⟨_, a, z1, z2, z4, z5⟩ := tg
      rw [hv] at z1; cases z1; exact z4
  have tk : TupKeep H H' := fun a ys rt => by
    have : a ≠ b := by
      rintro rfl
      rcases rt with z | ⟨o, z⟩ <;> rw [z] at mu <;> exact mu
    exact rd_at (keep a (rd_some rt) this) rt
  have lk : ∀ {k : Nat} {y : Ent}, (Γ.set j (some ⟨.ref b, d', x.t, [b]⟩))[k]? = some (some y) → (k = j ∧ y = ⟨.ref b, d', x.t, [b]⟩) ∨ (k ≠ j ∧ Γ[k]? = some (some y)) := fun {k y} h => by
    rw [List.getElem?_set] at h
    split at h
    · split at h
      · simp at h; exact .inl ⟨by omega, h.symm⟩
      · simp at h
    · exact .inr ⟨by omega, h⟩
  have nb : ∀ (k : Nat) (y : Ent), k ≠ j → Γ[k]? = some (some y) → b ∉ y.fp := fun k y hk hy => own_not ht hf (g.sep j k x y (Ne.symm hk) hj hy)
  refine ⟨fun k y hk => ?_, fun k m y z hne hk hm => ?_, fun c hc => ?_, fun c hc => trk c (g.trk c hc), g.fresh, g.prt⟩
  · rcases lk hk with ⟨_, rfl⟩ | ⟨q, hk⟩
    · refine ⟨r, fun c hc => okx.al c (by rw [hf]; exact hc), ?_⟩
      unfold TagOk
      split
      · trivial
      · exact ⟨ld, b, [], rfl, rfl, by simp, npr, mu'⟩
      · exact ⟨by simp, fun c hc => by simp at hc; subst hc; exact ⟨npr, mu'⟩⟩
      · exact ⟨ld, b, rfl, rfl, npr, mu'⟩
    · have ok := g.ok k y hk
      exact ok.mono tk fun c hc => keep c (ok.trk c hc) fun z => nb k y q hk (by rw [← z]; exact hc)
  · have same : ∀ y : Ent, (Sep1 ⟨.ref b, d', x.t, [b]⟩ y ↔ Sep1 x y) ∧ (Sep1 y ⟨.ref b, d', x.t, [b]⟩ ↔ Sep1 y x) := fun y => by
      refine ⟨?_, ?_⟩ <;> unfold Sep1 <;> simp only [hf]
    rcases lk hk with ⟨q1, p1⟩ | ⟨q1, hk⟩ <;> rcases lk hm with ⟨q2, p2⟩ | ⟨q2, hm⟩
    · omega
    · rw [p1]; exact (same z).1.mpr (g.sep j m x z (Ne.symm q2) hj hm)
    · rw [p2]; exact (same y).2.mpr (g.sep k j y x q1 hk hj)
    · exact g.sep k m y z hne hk hm
  · have : c ≠ b := fun z => npr (by rw [← z]; exact hc)
    rw [keep c (by rw [g.pr c hc]; exact g.prt c hc) this]
    exact g.pr c hc
theorem Gd.shG (g : Gd F (G ++ Γ) H) (os : List Opd) : Gd F (VL.shG os 0 G ++ Γ) H := by
  have l : ∀ {i : Nat} {e : Ent}, (VL.shG os 0 G ++ Γ)[i]? = some (some e) → ∃ e0, (G ++ Γ)[i]? = some (some e0) ∧ (e = e0.sh1 ∨ e = e0) := fun {i e} h => by
    by_cases hi : i < G.length
    · rw [List.getElem?_append_left (by rw [shG_length]; exact hi)] at h
      obtain ⟨e0, q, z⟩ := shG_inv h
      refine ⟨e0, by rw [List.getElem?_append_left hi]; exact q, ?_⟩
      rcases z with ⟨_, z⟩ | ⟨_, z⟩
      · exact .inl z
      · exact .inr z
    · rw [List.getElem?_append_right (by rw [shG_length]; omega), shG_length] at h
      exact ⟨e, by rw [List.getElem?_append_right (by omega)]; exact h, .inr rfl⟩
  have ok1 : ∀ e0 : Ent, EntOk F H e0 → EntOk F H e0.sh1 := fun e0 h => by
    unfold Ent.sh1; split
    · exact h
    · exact h.toSh
  have s1 : ∀ e0 y : Ent, Sep1 e0 y → Sep1 e0.sh1 y := fun e0 y h => by
    unfold Ent.sh1; split
    · exact h
    · trivial
  have s2 : ∀ e0 y : Ent, Sep1 y e0 → Sep1 y e0.sh1 := fun e0 y h => sep1_sub h fun b hb => by rw [(Ent.sh1_v e0).2.2] at hb; exact hb
  refine ⟨fun i e h => ?_, fun i j e e' n h h' => ?_, g.pr, g.trk, g.fresh, g.prt⟩
  · obtain ⟨e0, q, z⟩ := l h
    rcases z with rfl | rfl
    · exact ok1 _ (g.ok i e0 q)
    · exact g.ok i e q
  · obtain ⟨e0, q, z⟩ := l h
    obtain ⟨e1, q', z'⟩ := l h'
    have s := g.sep i j e0 e1 n q q'
    have s' : Sep1 e0 e' := by
      rcases z' with rfl | rfl
      · exact s2 _ _ s
      · exact s
    rcases z with rfl | rfl
    · exact s1 _ _ s'
    · exact s'
theorem noParS_ok (s : Slots F G σ) (h : noParS os (envOf G) = true) {a : Addr} (ha : F.par i = some a) (hs : hasSlot os i = true) : ∃ y : Ent, G[i]? = some (some y) ∧ y.v = .ref a ∧ y.t = .par ∧ noMut y.d = true := by
  obtain ⟨y, q1, q2, q3⟩ := s.par i a ha
  refine ⟨y, q1, q2, q3, ?_⟩
  unfold hasSlot at hs
  obtain ⟨o, ho, hoi⟩ := List.any_eq_true.mp hs
  have := List.all_eq_true.mp h o ho
  cases o with
  | val d t => cases hoi
  | slot k =>
    have : k = i := by simpa using hoi
    subst this
    simp only [envOf_get q1, q3] at this
    exact this
theorem Slots.shG (s : Slots F G σ) (os : List Opd) (h : noParS os (envOf G) = true) : Slots F (VL.shG os 0 G) σ := by
  refine ⟨by rw [shG_length]; exact s.len, fun i e h => ?_, fun i a ha => ?_⟩
  · obtain ⟨e0, q, z⟩ := shG_inv h
    rcases z with ⟨_, rfl⟩ | ⟨_, rfl⟩
    · rw [(Ent.sh1_v e0).1]; exact s.val i e0 q
    · exact s.val i e q
  · obtain ⟨y, q, z1, z2⟩ := s.par i a ha
    cases hs : hasSlot os i with
    | false => exact ⟨y, by rw [shG_get, q]; simp [hs], z1, z2⟩
    | true =>
      obtain ⟨y', q', _, _, hn⟩ := noParS_ok s h ha hs
      rw [q] at q'; cases q'
      refine ⟨y, ?_, z1, z2⟩
      rw [shG_get, q]
      simp [hs, Ent.sh1, hn]
theorem rest_has {k : Nat} {par : Bool} (h : hasSlot (VL.rest par os) k = true) : hasSlot os k = true := by
  unfold rest at h
  cases par with
  | false => exact h
  | true =>
    cases os with
    | nil => exact h
    | cons o r => unfold hasSlot at *; rw [List.any_cons, Bool.or_eq_true]; exact .inr h
/-- the operands' entries: where they stand -/
theorem opsV_at (s : Slots F G σ) : ∀ {os : List Opd} {es : List Ent} {vs : List V} {ds : List D}, OpsV σ os es vs → opsD (envOf G) os = some ds →
    ∃ xs : List Ent, xs.length = os.length ∧ vs = xs.map (·.v) ∧ ds = xs.map (·.d) ∧ ∀ (k : Nat) (x : Ent), xs[k]? = some x → (∃ i, os[k]? = some (.slot i) ∧ G[i]? = some (some x)) ∨ ((∃ d t, os[k]? = some (.val d t)) ∧ x ∈ es)
  | [], es, vs, ds, h, hd => by
    obtain ⟨rfl, rfl⟩ := h
    cases hd
    exact ⟨[], rfl, rfl, rfl, fun k x hx => by simp at hx⟩
  | .slot i :: os, es, vs, ds, h, hd => by
    obtain ⟨v, r, e1, rfl, h⟩ := h
    obtain ⟨d, dr, h1, h2, rfl⟩ := opsD_cons hd
    obtain ⟨e, q1, q2, q3⟩ := opd_slot s h1
    rw [e1] at q3; cases q3
    obtain ⟨xs, hl, rfl, rfl, hx⟩ := opsV_at s h h2
    refine ⟨e :: xs, by simp [hl], rfl, by simp [q2], fun k x hk => ?_⟩
    cases k with
    | zero => simp at hk; subst hk; exact .inl ⟨i, rfl, q1⟩
    | succ k => simpa using hx k x (by simpa using hk)
  | .val d t :: os, es, vs, ds, h, hd => by
    obtain ⟨e, r, s', rfl, e1, e2, rfl, h⟩ := h
    obtain ⟨d', dr, h1, h2, rfl⟩ := opsD_cons hd
    obtain ⟨xs, hl, rfl, rfl, hx⟩ := opsV_at s h h2
    simp only [Opd.d, Option.some.injEq] at h1
    refine ⟨e :: xs, by simp [hl], rfl, by simp [← h1, e1], fun k x hk => ?_⟩
    cases k with
    | zero => simp at hk; subst hk; exact .inr ⟨⟨d, t, rfl⟩, List.mem_cons_self ..⟩
    | succ k =>
      rcases hx k x (by simpa using hk) with q | ⟨q1, q2⟩
      · exact .inl (by simpa using q)
      · exact .inr ⟨by simpa using q1, List.mem_cons_of_mem _ q2⟩
theorem hasSlot_mem {k : Nat} (h : Opd.slot k ∈ os) : hasSlot os k = true := List.any_eq_true.mpr ⟨_, h, by simp⟩
theorem call_of {par : Bool} {m : Nat} {fn : Fn} {E : XK} {G1 : List (Option Ent)} {H1 : Hp} {Q : VK} (hK : F.K = K) (n1 : Now F G1 (R ++ es) σ H1) (w : OpsV σ os es vs) (h : EOut F R σ W (callE par m fn os (envOf G1)) Q) : spV K par m fn vs H1 Q E := by
  simp only [callE] at h
  split at h
  case h_2 => exact h.elim
  rename_i ds hds
  split at h
  case isFalse => exact h.elim
  rename_i hc
  rw [Bool.and_eq_true] at hc
  obtain ⟨hl0, hpo⟩ := hc
  have hl := of_decide_eq_true hl0
  clear hl0
  obtain ⟨xs, hxl, rfl, rfl, hx⟩ := opsV_at n1.sl w hds
  -- each operand's entry stands somewhere
  have at_ : ∀ (k : Nat) (x : Ent), xs[k]? = some x → ∃ q, (G1 ++ (R ++ es).map some)[q]? = some (some x) ∧ ((q < G1.length ∧ os[k]? = some (.slot q)) ∨ G1.length + R.length ≤ q) := fun k x hk => by
    rcases hx k x hk with ⟨i, q1, q2⟩ | ⟨_, q⟩
    · have hi := (List.getElem?_eq_some_iff.mp q2).1
      exact ⟨i, by rw [List.getElem?_append_left hi]; exact q2, .inl ⟨hi, q1⟩⟩
    · obtain ⟨q, q1, q2⟩ := n1.es_at q
      exact ⟨q, q2, .inr q1⟩
  have rep : ∀ x ∈ xs, Rep K H1 x.d x.v x.fp := fun x hxm => by
    obtain ⟨k, hk⟩ := List.getElem?_of_mem hxm
    obtain ⟨q, q1, _⟩ := at_ k x hk
    rw [← hK]; exact (n1.gd.ok q x q1).rep
  -- the written one
  have parX : par = true → ∃ x r b j, ParOk xs H1 x r b ∧ os.head? = some (.slot j) ∧ G1[j]? = some (some x) ∧ x.t ≠ .sh ∧ hasSlot os.tail j = false := fun hp => by
    subst hp
    simp only [parOkE, if_true] at hpo
    split at hpo
    · rename_i j r
      rw [Bool.and_eq_true] at hpo
      obtain ⟨hno, hpo⟩ := hpo
      have hno : hasSlot r j = false := by simpa using hno
      split at hpo
      · rename_i dl tg hj
        rw [Bool.and_eq_true] at hpo
        obtain ⟨hnm, htg⟩ := hpo
        have htg := of_decide_eq_true htg
        obtain ⟨x, x1, x2, x3⟩ := envOf_inv hj
        cases xs with
        | nil => simp at hxl
        | cons y ys =>
          have hy : y = x := by
            rcases hx 0 y rfl with ⟨i, q1, q2⟩ | ⟨⟨d, t, q⟩, _⟩
            · simp at q1; subst q1; rw [x1] at q2; cases q2; rfl
            · simp at q
          subst hy
          have nsh : y.t ≠ .sh := by rw [x3]; exact htg
          obtain ⟨b, zs, fs, v1, f1, h1, l1, na, npr⟩ := n1.owned x1 x2 nsh
          have e0 := repL_noMut _ _ _ hnm l1
          subst e0
          refine ⟨y, ys, b, j, ⟨rfl, v1, f1, by rw [x2]; rfl, by rw [h1]; trivial, fun z hz => ?_⟩, rfl, x1, nsh, hno⟩
          obtain ⟨k, hk⟩ := List.getElem?_of_mem hz
          obtain ⟨q, q1, q2⟩ := at_ (k + 1) z (by simpa using hk)
          have hjl := (List.getElem?_eq_some_iff.mp x1).1
          have x1' : (G1 ++ (R ++ es).map some)[j]? = some (some y) := by rw [List.getElem?_append_left hjl]; exact x1
          refine own_not nsh f1 (n1.gd.sep j q y z ?_ x1' q1)
          rintro rfl
          rcases q2 with ⟨_, q3⟩ | q3
          · have : hasSlot r j = true := hasSlot_mem (List.mem_of_getElem? (by simpa using q3))
            rw [hno] at this; cases this
          · omega
      · cases hpo
    · cases hpo
  refine ⟨xs, rfl, by rw [hxl]; exact hl, rep, fun hp => let ⟨x, r, b, j, q, _⟩ := parX hp; ⟨x, r, b, q⟩, ?_⟩
  cases e2 : fn (xs.map (·.d)) with
  | bad => rw [e2] at h; exact h.elim
  | exc c p => rw [e2] at h; exact h.elim
  | ret d t p =>
  rw [e2] at h
  simp only at h ⊢
  intro e H2 hed het po
  have g0 : Gd F (G1 ++ R.map some) H1 := n1.pre
  -- the heap behind, the written one set
  have stp : ∃ G2, envOf G2 = setPar par os p (envOf G1) ∧ G2.length = G1.length ∧ Gd F (G2 ++ R.map some) H2 ∧ Slots F G2 σ ∧ ∀ (k : Nat) (y : Ent), (G2 ++ R.map some)[k]? = some (some y) → ∃ y0 : Ent, (G1 ++ R.map some)[k]? = some (some y0) ∧ y.fp = y0.fp ∧ y.t = y0.t ∧ (noMut y.d = true → y.fp = []) := by
    cases hpar : par with
    | false =>
      subst hpar
      refine ⟨G1, by simp [setPar], rfl, g0.grow fun b hb => po.keep b hb (by simp [hd]), n1.sl, fun k y hk => ⟨y, hk, rfl, rfl, fun hm => rep_noMut _ _ _ hm (g0.ok k y hk).rep⟩⟩
    | true =>
      subst hpar
      obtain ⟨x, r, b, j, q, ho, hj, hsh, hno⟩ := parX rfl
      have hjl := (List.getElem?_eq_some_iff.mp hj).1
      have hb := hd_of q
      obtain ⟨r1, r2, r3⟩ := po.par b hb
      have g2 := g0.parSet (j := j) (x := x) (by rw [List.getElem?_append_left hjl]; exact hj) q.v q.fp hsh (fun c hc hcb => po.keep c hc (by rw [hb]; simpa using Ne.symm hcb)) po.trk (by rw [hK]; exact r1) q.mu r2 r3
      rw [set_app hjl] at g2
      refine ⟨G1.set j (some ⟨.ref b, p, x.t, [b]⟩), ?_, by rw [List.length_set], g2, ?_, fun k y hk => ?_⟩
      · rw [envOf_set]
        cases os with
        | nil => cases ho
        | cons o os =>
          simp at ho; subst ho
          simp [setPar, envOf_get hj]
      · refine ⟨by rw [List.length_set]; exact n1.sl.len, fun k y hk => ?_, fun k c hk => ?_⟩
        · rw [List.getElem?_set] at hk
          split at hk
          · rename_i z; subst z
            simp [hjl] at hk; subst hk
            rw [n1.sl.val j x hj, q.v]
          · exact n1.sl.val k y hk
        · obtain ⟨y, y1, y2, y3⟩ := n1.sl.par k c hk
          by_cases hkj : j = k
          · subst hkj
            rw [hj] at y1; cases y1
            rw [q.v] at y2; cases y2
            exact ⟨_, List.getElem?_set_self hjl, rfl, y3⟩
          · exact ⟨y, by rw [List.getElem?_set_ne hkj]; exact y1, y2, y3⟩
      · have okk := g2.ok k y hk
        rw [← set_app hjl, List.getElem?_set] at hk
        split at hk
        · rename_i z; subst z
          have : j < (G1 ++ R.map some).length := by simp; omega
          rw [if_pos this] at hk
          simp at hk; subst hk
          exact ⟨x, by rw [List.getElem?_append_left hjl]; exact hj, q.fp.symm, rfl, fun hm => rep_noMut _ _ _ hm okk.rep⟩
        · exact ⟨y, hk, rfl, rfl, fun hm => rep_noMut _ _ _ hm okk.rep⟩
  obtain ⟨G2, ge, gl, gd2, sl2, back⟩ := stp
  have nhead : ∀ b ∈ e.fp, par = true → ∀ x r c, ParOk xs H1 x r c → b ∉ x.fp := fun b hb hp x r c q z => by
    subst hp
    rw [q.fp] at z
    simp at z; subst z
    exact po.nhd _ hb (hd_of q)
  have ok : EntOk F H2 e := by
    refine ⟨by rw [hK]; exact po.rep, fun b hb => ?_, ?_⟩
    · rcases po.sub b hb with q | ⟨x, hxm, q⟩
      · exact n1.gd.fresh b (n1.gd.fresh0 q)
      · obtain ⟨k, hk⟩ := List.getElem?_of_mem hxm
        obtain ⟨m, hm, _⟩ := at_ k x hk
        exact (n1.gd.ok m x hm).al b q
    · have tg := po.tag
      unfold TagOk
      cases q : e.t with
      | sh => trivial
      | own =>
        rw [q] at tg
        obtain ⟨z0, c, fs, z1, z2, z3, z4, z5⟩ := tg
        exact ⟨z0, c, fs, z1, z2, z3, n1.gd.npr z4, z5⟩
      | unq =>
        rw [q] at tg
        exact ⟨tg.1, fun b hb => ⟨n1.gd.npr (tg.2 b hb).1, (tg.2 b hb).2⟩⟩
      | par => rw [q] at tg; exact tg.elim
  -- its own things are new
  have new1 : ∀ y : Ent, (∀ b ∈ y.fp, H1 b ≠ none) → Sep1 e y := fun y hy => by
    have tg := po.tag
    unfold Sep1
    cases q : e.t with
    | sh => trivial
    | own =>
      rw [q] at tg
      obtain ⟨z0, c, fs, z1, z2, z3, z4, z5⟩ := tg
      intro c' hc hm
      rw [z2] at hc; simp at hc; subst hc
      exact hy _ hm z4
    | unq => rw [q] at tg; exact fun b hb hm => hy b hm (tg.2 b hb).1
    | par => rw [q] at tg; exact tg.elim
  have trk0 : ∀ (k : Nat) (y : Ent), (G1 ++ R.map some)[k]? = some (some y) → ∀ b ∈ y.fp, H1 b ≠ none := fun k y hk => (g0.ok k y hk).trk
  cases nd : needDem d t with
  | false =>
    rw [nd] at h
    simp only [Bool.false_eq_true, if_false] at h
    have allnew : ∀ b ∈ e.fp, H1 b = none := by
      have tg := po.tag
      have hr := po.rep
      rw [hed] at hr
      cases t with
      | sh =>
        have q : noMut d = true := by simpa [needDem] using nd
        rw [rep_noMut _ _ _ q hr]; intro b hb; cases hb
      | own =>
        rw [het] at tg
        obtain ⟨z0, c, fs, z1, z2, z3, z4, z5⟩ := tg
        rw [hed] at z0
        cases d with
        | list dl =>
          obtain ⟨c', xs', fs', q1, q2, q3, q4⟩ := rep_lst hr
          have q5 : noMutL dl = true := by simpa [needDem] using nd
          have q6 := repL_noMut _ _ _ q5 q3
          rw [z2] at q4; cases q4
          rw [z2, q6]; intro b hb; simp at hb; rw [hb]; exact z4
        | dict dl =>
          simp only [Rep] at hr
          obtain ⟨c', xs', fs', q1, q2, q3, q4⟩ := hr
          have q5 : noMutV dl = true := by simpa [needDem] using nd
          have q6 := repP_noMut _ _ _ q5 q3
          rw [z2] at q4; cases q4
          rw [z2, q6]; intro b hb; simp at hb; rw [hb]; exact z4
        | _ => cases z0
      | unq => rw [het] at tg; exact fun b hb => (tg.2 b hb).1
      | par => rw [het] at tg; exact tg.elim
    have g3 := gd2.push ok fun k y hk => by
      obtain ⟨y0, y1, y2, y3, _⟩ := back k y hk
      have ty : ∀ b ∈ y.fp, H1 b ≠ none := by rw [y2]; exact trk0 k y0 y1
      refine ⟨new1 y ty, ?_⟩
      unfold Sep1
      split
      · trivial
      · exact fun b hb hm => ty b hb (allnew b hm)
      · exact fun c hc hm => ty c (head_mem hc) (allnew c hm)
    have n3 : Now F G2 (R ++ [e]) σ H2 := ⟨by simpa using g3, sl2⟩
    exact h G2 H2 [e] e.v ge n3 ⟨e, [], [], rfl, hed, het, rfl, rfl, rfl⟩
  | true =>
    rw [nd] at h
    simp only [if_true] at h
    split at h
    case isFalse => exact h.elim
    rename_i hnp
    have hnp2 : noParS (VL.rest par os) (envOf G2) = true := by
      rw [ge]
      refine List.all_eq_true.mpr fun o ho => ?_
      have h0 := List.all_eq_true.mp hnp o ho
      cases o with
      | val d t => rfl
      | slot k =>
        cases hpar : par with
        | false => subst hpar; simpa [setPar] using h0
        | true =>
          subst hpar
          obtain ⟨x, r, b, j, q, hoh, hj, hsh, hno⟩ := parX rfl
          cases os with
          | nil => cases hoh
          | cons o os =>
            simp at hoh; subst hoh
            have hkj : j ≠ k := by
              rintro rfl
              have : hasSlot os j = true := hasSlot_mem (by simpa [rest] using ho)
              simp at hno
              rw [hno] at this; cases this
            simp only [setPar, if_true, envOf_get hj]
            rw [List.getElem?_set_ne hkj]
            exact h0
    have g3 := gd2.shG (VL.rest par os)
    have s3 := sl2.shG (VL.rest par os) hnp2
    have g4 := g3.push ok fun k y hk => by
      -- the entry as it was
      have lk : ∃ y0 : Ent, (G1 ++ R.map some)[k]? = some (some y0) ∧ y.fp = y0.fp ∧ (y.t = .sh ∨ (y.t = y0.t ∧ (k < G1.length → hasSlot (VL.rest par os) k = true → y.fp = []))) := by
        by_cases hkl : k < G2.length
        · rw [List.getElem?_append_left (by rw [shG_length]; exact hkl)] at hk
          obtain ⟨y2, z1, z2⟩ := shG_inv hk
          obtain ⟨y0, w1, w2, w3, w4⟩ := back k y2 (by rw [List.getElem?_append_left hkl]; exact z1)
          rcases z2 with ⟨z3, rfl⟩ | ⟨z3, rfl⟩
          · refine ⟨y0, w1, by rw [(Ent.sh1_v y2).2.2]; exact w2, ?_⟩
            by_cases hm : noMut y2.d = true
            · right
              have e5 : y2.sh1 = y2 := by unfold Ent.sh1; simp [hm]
              rw [e5]
              exact ⟨w3, fun _ _ => w4 hm⟩
            · left
              unfold Ent.sh1; simp [hm, Ent.toSh]
          · exact ⟨y0, w1, w2, .inr ⟨w3, fun _ hh => by rw [z3] at hh; cases hh⟩⟩
        · rw [List.getElem?_append_right (by rw [shG_length]; omega), shG_length] at hk
          obtain ⟨y0, w1, w2, w3, w4⟩ := back k y (by rw [List.getElem?_append_right (by omega)]; exact hk)
          exact ⟨y0, w1, w2, .inr ⟨w3, fun hlt => by omega⟩⟩
      obtain ⟨y0, y1, y2, y3⟩ := lk
      have ty : ∀ b ∈ y.fp, H1 b ≠ none := by rw [y2]; exact trk0 k y0 y1
      refine ⟨new1 y ty, ?_⟩
      obtain ⟨hk1, hy1⟩ := n1.up y1
      -- what it owns is not in the new one
      have key : ∀ b ∈ y.fp, b ∈ e.fp → (∀ z : Ent, Sep1 y0 z → b ∉ z.fp) → (y.t = y0.t ∧ (k < G1.length → hasSlot (VL.rest par os) k = true → y.fp = [])) → False := fun b hb hm hs hy => by
        rcases po.sub b hm with q | ⟨x, hxm, q⟩
        · exact ty b hb q
        · obtain ⟨k2, hk2⟩ := List.getElem?_of_mem hxm
          obtain ⟨m, hm1, hm2⟩ := at_ k2 x hk2
          by_cases hmk : m = k
          · subst hmk
            rcases hm2 with ⟨hm3, hm4⟩ | hm3
            · -- the operand's own slot
              have : hasSlot (VL.rest par os) m = true ∨ (par = true ∧ k2 = 0) := by
                unfold VL.rest
                cases hpar : par with
                | false => exact .inl (by simpa using hasSlot_mem (List.mem_of_getElem? hm4))
                | true =>
                  cases k2 with
                  | zero => exact .inr ⟨rfl, rfl⟩
                  | succ k2 =>
                    left
                    cases os with
                    | nil => simp at hm4
                    | cons o os => exact hasSlot_mem (List.mem_of_getElem? (by simpa using hm4))
              rcases this with h5 | ⟨h5, h6⟩
              · have := hy.2 hm3 h5
                rw [this] at hb; cases hb
              · obtain ⟨x', r, c, j, q5, _⟩ := parX h5
                have : x = x' := by
                  rw [h6, q5.es] at hk2
                  simpa using hk2.symm
                subst this
                exact nhead b hm h5 _ r c q5 q
            · omega
          · exact hs x (n1.gd.sep k m y0 x (Ne.symm hmk) hy1 hm1) q
      unfold Sep1
      rcases y3 with hsh | hy
      · rw [hsh]; trivial
      · split
        · trivial
        · rename_i hu
          exact fun b hb hm => key b hb hm (fun z s => by
            unfold Sep1 at s
            rw [← hy.1, hu] at s
            exact s b (by rw [← y2]; exact hb)) hy
        · rename_i z1 z2
          exact fun c hc hm => key c (head_mem hc) hm (fun z s => by
            unfold Sep1 at s
            split at s
            · rename_i q; exact absurd (hy.1.trans q) z1
            · rename_i q; exact absurd (hy.1.trans q) z2
            · exact s c (by rw [← y2]; exact hc)) hy
    have n3 : Now F (VL.shG (VL.rest par os) 0 G2) (R ++ [e]) σ H2 := ⟨by simpa using g4, s3⟩
    exact h _ H2 [e] e.v (by rw [shG_env, ge]) n3 ⟨e, [], [], rfl, hed, het, rfl, rfl, rfl⟩
theorem spec_call {par : Bool} {m : Nat} {fn : Fn} {E : XK} {T : TA} {a : AR} (ha : SpecA K W T a) : SpecE K W (tCall (spV K par m fn) [] E T) (eCall par m fn a) := fun F G R σ H Q hK n h => by
  refine ha F G R σ H _ hK n ?_
  simp only [eCall] at h
  cases e1 : a (envOf G) with
  | bad => rw [e1] at h; exact h
  | exc c env => rw [e1] at h; exact h
  | ok p =>
  obtain ⟨os, env1⟩ := p
  rw [e1] at h
  intro G1 H1 es vs g1 n1 w
  subst g1
  show spV K par m fn (vs ++ []) H1 Q E
  rw [List.append_nil]
  exact call_of hK n1 w h
/-! ### a call that may raise -/
def callX (m : Nat) (fn : Fn) (os : List Opd) (env : Env) : Res (Opd × Env) := match opsD env os with
  | some ds => if os.length = m then (match fn ds with
    | .exc c _ => .exc c env
    | _ => callE false m fn os env) else .bad
  | none => .bad
def eCallX (m : Nat) (fn : Fn) (a : AR) : ER := fun env => (a env).bind fun p => callX m fn p.1 p.2
theorem spX_of {m : Nat} {fn : Fn} {Q : VK} {E E' : XK} (h : spV K false m fn vs H Q E) : spX K m fn vs H Q E' := by
  obtain ⟨es, h1, h2, h3, _, h5⟩ := h
  refine ⟨es, h1, h2, h3, ?_⟩
  revert h5
  cases fn (es.map (·.d)) with
  | ret d t p => exact fun h => h
  | exc c p => exact fun h => h.elim
  | bad => exact fun h => h
theorem callX_of {m : Nat} {fn : Fn} {E : XK} {G1 : List (Option Ent)} {H1 : Hp} {Q : VK} (hK : F.K = K) (n1 : Now F G1 (R ++ es) σ H1) (w : OpsV σ os es vs) (h : EOut F R σ W (callX m fn os (envOf G1)) Q)
    (hW : ∀ c C H, clsOf K c = some C → W c σ H → E (.ref C) none H) : spX K m fn vs H1 Q E := by
  simp only [callX] at h
  split at h
  case h_2 => exact h.elim
  rename_i ds hds
  split at h
  case isFalse => exact h.elim
  rename_i hl
  split at h
  · rename_i c p hf
    obtain ⟨xs, hxl, rfl, rfl, hx⟩ := opsV_at n1.sl w hds
    refine ⟨xs, rfl, by rw [hxl]; exact hl, fun x hxm => ?_, ?_⟩
    · obtain ⟨k, hk⟩ := List.getElem?_of_mem hxm
      rw [← hK]
      rcases hx k x hk with ⟨i, q1, q2⟩ | ⟨_, q⟩
      · have hi := (List.getElem?_eq_some_iff.mp q2).1
        exact (n1.gd.ok i x (by rw [List.getElem?_append_left hi]; exact q2)).rep
      · obtain ⟨q, q1, q2⟩ := n1.es_at q
        exact (n1.gd.ok q x q2).rep
    · rw [hf]
      intro C H' hC keep
      exact hW c C H' hC (h G1 H' rfl ⟨n1.drop.gd.grow keep, n1.sl⟩)
  · exact spX_of (call_of (E := E) hK n1 w h)
/-- .. where nothing may leave -/
theorem spec_callX0 {m : Nat} {fn : Fn} {E : XK} {T : TA} {a : AR} (ha : SpecA K WF T a) : SpecE K WF (tCall (spX K m fn) [] E T) (eCallX m fn a) := fun F G R σ H Q hK n h => by
  refine ha F G R σ H _ hK n ?_
  simp only [eCallX] at h
  cases e1 : a (envOf G) with
  | bad => rw [e1] at h; exact h
  | exc c env => rw [e1] at h; exact h
  | ok p =>
  obtain ⟨os, env1⟩ := p
  rw [e1] at h
  intro G1 H1 es vs g1 n1 w
  subst g1
  show spX K m fn (vs ++ []) H1 Q E
  rw [List.append_nil]
  exact callX_of hK n1 w h fun _ _ _ _ z => z.elim
theorem spec_callX0K {m : Nat} {fn : Fn} {E : XK} {T : TA} {a : AR} (ha : SpecA K WF T a) : SpecE K WF (tCallKO (spX K m fn) (fun zs => zs) E T) (eCallX m fn a) := by
  have e : (tCallKO (spX K m fn) (fun zs => zs) E T) = tCall (spX K m fn) [] E T := by
    unfold tCallKO tCall
    funext σ H Q
    congr 1
    funext vs H1
    rw [List.append_nil]
  rw [e]
  exact spec_callX0 ha
theorem callN_of {m : Nat} {fn : Fn} {E : XK} {G1 : List (Option Ent)} {H1 : Hp} {Q : VK} (hK : F.K = K) (n1 : Now F G1 (R ++ es) σ H1) (w : OpsV σ os es vs) (h : EOut F R σ WF (callX m fn os (envOf G1)) Q) : spV K false m fn vs H1 Q E := by
  simp only [callX] at h
  split at h
  case h_2 => exact h.elim
  split at h
  case isFalse => exact h.elim
  split at h
  · exact (h G1 H1 rfl n1.drop).elim
  · exact call_of (E := E) hK n1 w h
/-- a def that raises elsewhere, not here -/
theorem spec_callN {m : Nat} {fn : Fn} {E : XK} {T : TA} {a : AR} (ha : SpecA K WF T a) : SpecE K WF (tCall (spV K false m fn) [] E T) (eCallX m fn a) := fun F G R σ H Q hK n h => by
  refine ha F G R σ H _ hK n ?_
  simp only [eCallX] at h
  cases e1 : a (envOf G) with
  | bad => rw [e1] at h; exact h
  | exc c env => rw [e1] at h; exact h
  | ok p =>
  obtain ⟨os, env1⟩ := p
  rw [e1] at h
  intro G1 H1 es vs g1 n1 w
  subst g1
  show spV K false m fn (vs ++ []) H1 Q E
  rw [List.append_nil]
  exact callN_of hK n1 w h
theorem spec_callNK {m : Nat} {fn : Fn} {E : XK} {T : TA} {a : AR} (ha : SpecA K WF T a) : SpecE K WF (tCallKO (spV K false m fn) (fun zs => zs) E T) (eCallX m fn a) := by
  have e : (tCallKO (spV K false m fn) (fun zs => zs) E T) = tCall (spV K false m fn) [] E T := by
    unfold tCallKO tCall
    funext σ H Q
    congr 1
    funext vs H1
    rw [List.append_nil]
  rw [e]
  exact spec_callN ha
/-- raise C('..') -/
def sRaise (c : Str) : SR := fun env => .exc c env
theorem spec_raiseN (c : Str) : SpecS K WF tNever (sRaise c) := fun F G R σ H D hK n h => (h G σ H rfl n : False).elim
theorem spec_raiseX (c : Str) {WX : L2.WX} {C : Addr} (hC : clsOf K c = some C) : SpecS K (wX K WX) (fun _ σ H => WX (.ref C) none σ H) (sRaise c) := fun F G R σ H D hK n h => h G σ H rfl n C hC
theorem spec_callXS {m : Nat} {fn : Fn} {WX : L2.WX} {T : TA} {a : AR} (ha : SpecA K (wX K WX) T a) : SpecE K (wX K WX) (tCallS (spX K m fn) (WE WX) T) (eCallX m fn a) := fun F G R σ H Q hK n h => by
  refine ha F G R σ H _ hK n ?_
  simp only [eCallX] at h
  cases e1 : a (envOf G) with
  | bad => rw [e1] at h; exact h
  | exc c env => rw [e1] at h; exact h
  | ok p =>
  obtain ⟨os, env1⟩ := p
  rw [e1] at h
  intro G1 H1 es vs g1 n1 w
  subst g1
  show spX K m fn vs H1 Q (WE WX σ)
  exact callX_of hK n1 w h fun c C H hC z => z C hC

end
end VL
end
section
set_option Elab.async false
set_option linter.all false
set_option maxRecDepth 100000
set_option autoImplicit false
namespace VL
open PySem PySem.Spec PyProof.Rows L2
section
variable {K : PySem.W.Frag} {W : WV} {F : Frm} {Γ G G' : List (Option Ent)} {H H' : Hp} {e x p : Ent} {i j : Nat} {R ps Δ es : List Ent} {σ : L2.St} {vs : List V} {ds : List D} {d : D} {v : V} {t : Tag} {xs : List Ent} {fp : List Addr} {os : List Opd} {b : Addr}
theorem spec_callKO {par : Bool} {m : Nat} {fn : Fn} {E : XK} {T : TA} {a : AR} (ha : SpecA K W T a) : SpecE K W (tCallKO (spV K par m fn) (fun zs => zs) E T) (eCall par m fn a) := by
  have e : (tCallKO (spV K par m fn) (fun zs => zs) E T) = tCall (spV K par m fn) [] E T := by
    unfold tCallKO tCall
    funext σ H Q
    congr 1
    funext vs H1
    rw [List.append_nil]
  rw [e]
  exact spec_call ha
theorem spec_call0 {m : Nat} {fn : Fn} {E : XK} : SpecE K W (tCall (spV K false m fn) [] E tNil) (eCall false m fn aNil) := spec_call spec_nil
/-! ### name op= value -/
def sAug (i : Nat) (pf : PF) (f : ER) : SR := fun env => match env[i]? with
  | some (some _) => (f env).out fun p => (pureOf pf [.slot i, p.1] p.2).out fun q => (match q.1 with
    | .val d t => (setE i (d, t) q.2).out fun env => .nx env
    | .slot _ => .bad)
  | _ => .bad
theorem spec_sAug {te : TE} {f : ER} {ti : TIp} {pf : PF} (i : Nat) (hr : PureR2 K ti pf) (he : SpecE K W te f) : SpecS K W (tAug i te ti) (sAug i pf f) := fun F G R σ H D hK n h => by
  simp only [sAug] at h
  split at h
  case h_2 => exact h.elim
  rename_i p0 h0
  obtain ⟨d0, t0⟩ := p0
  obtain ⟨x0, hx0, hd0, _⟩ := envOf_inv h0
  have hσ := n.sl.val i x0 hx0
  refine ⟨x0.v, hσ, he F G R σ H _ hK n ?_⟩
  cases q : f (envOf G) with
  | bad => rw [q] at h; exact h.elim
  | exc c env => rw [q] at h; exact fun G1 H1 g1 n1 => h G1 σ H1 g1 n1
  | ok p =>
    obtain ⟨o, env⟩ := p
    rw [q] at h
    intro G1 H1 es v g1 n1 w
    subst g1
    simp only [Res.out] at h
    have w2 : OpsV σ [.slot i, o] es [x0.v, v] := by
      have := opsV_cons (o := .slot i) (es := []) (v := x0.v) (os := [o]) (fs := es) (vs := [v]) ⟨x0.v, [], hσ, rfl, rfl, rfl⟩ w
      simpa using this
    have hp : PureR K (fun vs H Q => ∃ x y, vs = [x, y] ∧ ti x y H Q) pf := hr
    have := pure_of (W := W) (Q := fun z H2 => D.nx (σ.set i (some z)) H2) hp hK n1 w2 (by
      cases q2 : pureOf pf [.slot i, o] (envOf G1) with
      | bad => rw [q2] at h; exact h
      | exc c env =>
        exfalso
        unfold pureOf at q2
        split at q2
        · split at q2 <;> cases q2
        · cases q2
      | ok r =>
        obtain ⟨o2, env2⟩ := r
        rw [q2] at h
        simp only at h
        cases o2 with
        | slot k => exact h.elim
        | val d t =>
          intro G3 H3 es3 v3 g3 n3 w3
          subst g3
          obtain ⟨e, r, s, rfl, e1, e2, e3, rfl, rfl⟩ := w3
          cases e3
          simp only at h
          cases q3 : setE i (d, t) (envOf G3) with
          | bad => rw [q3] at h; exact h.elim
          | exc c env => exact absurd q3 setE_nexc
          | ok env4 =>
            rw [q3] at h
            obtain ⟨z1, z2, z3⟩ := setE_ok q3
            have n4 := n3.set z1 z2
            exact h _ _ H3 (by rw [envOf_set, z3]; simp [e1, e2]) n4)
    obtain ⟨y1, y2, e3, q⟩ := this
    cases e3
    exact q
theorem pure_ipI {g : Int → Int → Int} : PureR2 K (ipI g) (ps2 (pI yes2 fun i j => .int (g i j))) := pureR2_of fun H x y d t Q hx hy hf hQ => by
  obtain ⟨r, hr, e⟩ := Option.map_eq_some_iff.mp hf
  obtain ⟨i, j, e1, e2, hc, rfl⟩ := pI_some hr
  cases e
  exact ⟨i, j, rep_intV hx e1, rep_intV hy e2, hQ _ _ _ (pout_scal rfl)⟩
def pIAdd : PF := ps2 (pI yes2 fun i j => .int (i + j))
/-! ### the law's own def -/
theorem law_sp {n : Nat} {B : SR} {a : Addr} {vs : List Value} {ns : List Int} (h : ∃ t p, fnOf false n B [.list (dInts ns)] = .ret (.bool true) t p) : spV K false 1 (fnOf false n B) [.ref a] (scriptH a vs ns) (fun v _ => v = .bl true) fun _ _ _ => False := by
  obtain ⟨t, p, h⟩ := h
  have at_ : Rd (scriptH a vs ns) a (.lst (ns.map V.int)) := .inr ⟨_, if_pos rfl⟩
  refine ⟨[⟨.ref a, .list (dInts ns), .sh, [a]⟩], rfl, rfl, fun x hx => ?_, fun z => (by cases z), ?_⟩
  · simp at hx; subst hx
    simp only [Rep]
    exact ⟨a, ns.map V.int, [], rfl, at_, ints_rep ns, rfl⟩
  · simp only [List.map_cons, List.map_nil, h]
    intro e H' e1 e2 po
    have := po.rep
    rw [e1] at this
    simp only [Rep] at this
    exact this.1
end
end VL
end
section
set_option Elab.async false
set_option linter.all false
set_option maxRecDepth 100000
set_option autoImplicit false
namespace VL
open PySem PySem.Spec PyProof.Rows L2
section
variable {K : PySem.W.Frag} {W : WV} {F : Frm} {Γ G G' : List (Option Ent)} {H H' : Hp} {e x p : Ent} {i j : Nat} {R ps Δ es : List Ent} {σ : L2.St} {vs : List V} {ds : List D} {d : D} {v : V} {t : Tag} {xs : List Ent} {fp : List Addr} {os : List Opd} {b : Addr}
def tYesF : TR := fun env => .ok (true, env)
theorem spec_tYes : SpecT K W tYes tYesF := fun F G R σ H Q hK n h => h G H rfl n
/-! ### a < b < c -/
def eChain (f g : PF) (a b c : ER) : ER := fun env => (a env).bind fun p => (b p.2).bind fun q => match (opsD q.2 [p.1, q.1]).bind f with
  | some (.bool true, _) => (c q.2).bind fun s => pureOf g [q.1, s.1] s.2
  | some (.bool false, _) => .ok (.val (.bool false) .unq, q.2)
  | _ => .bad
/-- a pure test of two operands: they stay -/
def PureB (K : PySem.W.Frag) (r : R2) (f : PF) : Prop := ∀ (H : Hp) (x y : Ent) (d : D) (t : Tag) (Q : VK), Rep K H x.d x.v x.fp → Rep K H y.d y.v y.fp → f [x.d, y.d] = some (d, t) → ∃ b, d = .bool b ∧ (Q (.bl b) H → r x.v y.v H Q)
theorem pureB_I {C : Int → Int → Bool} : PureB K (rI0 fun i j => .bl (C i j)) (ps2 (pI yes2 fun i j => .bool (C i j))) := fun H x y d t Q hx hy hf => by
  obtain ⟨r, hr, e⟩ := Option.map_eq_some_iff.mp hf
  obtain ⟨i, j, e1, e2, hc, rfl⟩ := pI_some hr
  cases e
  exact ⟨C i j, rfl, fun q => ⟨i, j, rep_intV hx e1, rep_intV hy e2, q⟩⟩
theorem pureB_lt : PureB K (rI0 fun i j => .bl (decide (i < j))) pLt := pureB_I
theorem pureB_le : PureB K (rI0 fun i j => .bl (decide (i ≤ j))) pLe := pureB_I
theorem pureB_gt : PureB K (rI0 fun i j => .bl (decide (j < i))) pGt := pureB_I
theorem pureB_ge : PureB K (rI0 fun i j => .bl (decide (j ≤ i))) pGe := pureB_I
theorem opd_of {o : Opd} (s : Slots F G σ) (h : OpsV σ [o] es [v]) : o.d (envOf G) = some d → ∃ x : Ent, x.v = v ∧ x.d = d ∧ ((∃ i, G[i]? = some (some x) ∧ hasSlot [o] i = true) ∨ x ∈ es) := opsV_one s h
theorem spec_chain {r r' : R2} {f g : PF} {ta tb tc : TE} {a b c : ER} (hr : PureB K r f) (hg : PureR2 K r' g) (ha : SpecE K W ta a) (hb : SpecE K W tb b) (hc : SpecE K W tc c) : SpecE K W (tChain r r' ta tb tc) (eChain f g a b c) := fun F G R σ H Q hK n h => by
  refine ha F G R σ H _ hK n ?_
  simp only [eChain] at h
  cases q1 : a (envOf G) with
  | bad => rw [q1] at h; exact h
  | exc c env => rw [q1] at h; exact h
  | ok p =>
  obtain ⟨o1, env1⟩ := p
  rw [q1] at h
  intro G1 H1 es1 v1 g1 n1 w1
  subst g1
  refine hb F G1 (R ++ es1) σ H1 _ hK n1 ?_
  simp only [Res.bind] at h
  cases q2 : b (envOf G1) with
  | bad => rw [q2] at h; exact h
  | exc c env => rw [q2] at h; exact fun G2 H2 g2 n2 => h G2 H2 g2 n2.drop
  | ok p2 =>
  obtain ⟨o2, env2⟩ := p2
  rw [q2] at h
  intro G2 H2 es2 v2 g2 n2 w2
  subst g2
  simp only at h
  have w := opsV_cons w1 w2
  have n2' : Now F G2 (R ++ (es1 ++ es2)) σ H2 := by rw [← List.append_assoc]; exact n2
  -- the first test
  cases q3 : (opsD (envOf G2) [o1, o2]).bind f with
  | none => rw [q3] at h; exact h.elim
  | some r0 =>
  rw [q3] at h
  obtain ⟨ds, hds, hf⟩ := Option.bind_eq_some_iff.mp q3
  obtain ⟨d, t⟩ := r0
  obtain ⟨xs, e1, e2, hx⟩ := n2'.opsRep w hds
  match xs, e1, e2, hx with
  | [], e1, _, _ => simp at e1
  | [_], e1, _, _ => simp at e1
  | _ :: _ :: _ :: _, e1, _, _ => simp at e1
  | [x, y], e1, e2, hx =>
  simp at e1 e2
  obtain ⟨rfl, rfl⟩ := e1
  subst e2
  obtain ⟨k, rfl, hk⟩ := hr H2 x y d t (fun z H3 => ∃ k, z = .bl k ∧ (if k = true then tc σ H3 fun w' H4 => r' y.v w' H4 Q else Q (.bl false) H3)) (by rw [← hK]; exact hx x (by simp)) (by rw [← hK]; exact hx y (by simp)) hf
  refine hk ⟨k, rfl, ?_⟩
  cases k with
  | false =>
    refine iteF ?_
    exact h G2 H2 [⟨.bl false, .bool false, .unq, []⟩] _ rfl (n2.drop.drop.scalar (rep_bool false)) ⟨⟨.bl false, .bool false, .unq, []⟩, [], [], rfl, rfl, rfl, rfl, rfl, rfl⟩
  | true =>
    refine iteT ?_
    simp only at h
    refine hc F G2 (R ++ (es1 ++ es2)) σ H2 _ hK n2' ?_
    cases q4 : c (envOf G2) with
    | bad => rw [q4] at h; exact h
    | exc c env => rw [q4] at h; exact fun G3 H3 g3 n3 => h G3 H3 g3 n3.drop
    | ok p4 =>
      obtain ⟨o3, env3⟩ := p4
      rw [q4] at h
      intro G3 H3 es3 v3 g3 n3 w3
      subst g3
      simp only at h
      -- the middle one's value once more: drop the first
      have n4 : Now F G3 (R ++ (es2 ++ es3)) σ H3 := by
        have : Now F G3 (R ++ ((es1 ++ es2) ++ es3)) σ H3 := by rw [← List.append_assoc]; exact n3
        have := this.perm (es' := (es2 ++ es3) ++ es1) (by
          rw [List.append_assoc]
          exact List.perm_append_comm)
        rw [← List.append_assoc] at this
        exact this.drop
      obtain ⟨z1, z2, e3, q⟩ := pure_of (r := fun vs H Q => ∃ x y, vs = [x, y] ∧ r' x y H Q) hg hK n4 (opsV_cons w2 w3) h
      cases e3
      exact q
/-! ### is None -/
def isNo : D → Bool
  | .none => true
  | _ => false
def isND (neg : Bool) (d e : D) : Option D := match e with
  | .none => some (.bool (if neg then !isNo d else isNo d))
  | _ => none
def pIsN : PF := ps2 (isND false)
def pNotN : PF := ps2 (isND true)
theorem isNo_v (r : Rep K H d v fp) : decide (v = .non) = isNo d := by
  cases d with
  | none => simp only [Rep] at r; rw [r.1]; rfl
  | bool b => simp only [Rep] at r; rw [r.1]; rfl
  | int b => simp only [Rep] at r; rw [r.1]; rfl
  | str b => simp only [Rep] at r; rw [r.1]; rfl
  | list ds => obtain ⟨a, xs, fs, rfl, _⟩ := rep_lst r; rfl
  | tuple ds => obtain ⟨a, xs, rfl, _⟩ := rep_tup r; rfl
  | dict ds => simp only [Rep] at r; obtain ⟨a, xs, fs, rfl, _⟩ := r; rfl
theorem pure_isN : PureR2 K (fun x y H Q => y = .non ∧ Q (.bl (decide (x = .non))) H) pIsN := pureR2_of fun H x y d t Q hx hy hf hQ => by
  obtain ⟨r, hr, e⟩ := Option.map_eq_some_iff.mp hf
  cases e
  unfold isND at hr
  split at hr
  · rename_i hd
    cases hr
    rw [hd] at hy
    simp only [Rep] at hy
    refine ⟨hy.1, ?_⟩
    rw [isNo_v hx]
    exact hQ _ _ _ (pout_scal rfl)
  · cases hr
theorem pure_notN : PureR2 K (fun x y H Q => y = .non ∧ Q (.bl (!decide (x = .non))) H) pNotN := pureR2_of fun H x y d t Q hx hy hf hQ => by
  obtain ⟨r, hr, e⟩ := Option.map_eq_some_iff.mp hf
  cases e
  unfold isND at hr
  split at hr
  · rename_i hd
    cases hr
    rw [hd] at hy
    simp only [Rep] at hy
    refine ⟨hy.1, ?_⟩
    rw [isNo_v hx]
    exact hQ _ _ _ (pout_scal rfl)
  · cases hr
/-! ### a value as a test -/
def truD : D → Option Bool
  | .none => some false
  | .bool b => some b
  | .int i => some (i != 0)
  | .str y => if y.length ≤ lim then some ((y.length : Int) != 0) else none
  | .list ds => some (!ds.isEmpty)
  | .tuple ds => some (!ds.isEmpty)
  | .dict _ => none
def tTru (f : ER) : TR := fun env => (f env).bind fun p => match (p.1.d p.2).bind truD with
  | some b => .ok (b, p.2)
  | none => .bad
theorem repL_empty {fs : List Addr} (r : RepL K H ds vs fs) : vs.isEmpty = ds.isEmpty := by
  have := r.length
  cases vs <;> cases ds <;> simp_all
theorem spec_tTru {te : TE} {f : ER} (he : SpecE K W te f) : SpecT K W (fun σ H Q => te σ H fun x H' => ∃ k, TruV K x H' k ∧ Q k H') (tTru f) := fun F G R σ H Q hK n h => by
  refine he F G R σ H _ hK n ?_
  simp only [tTru] at h
  cases q : f (envOf G) with
  | bad => rw [q] at h; exact h
  | exc c env => rw [q] at h; exact h
  | ok p =>
    obtain ⟨o, env⟩ := p
    rw [q] at h
    intro G1 H1 es v g1 n1 w
    subst g1
    simp only [Res.bind] at h
    split at h
    case h_2 => exact h.elim
    rename_i b hb
    obtain ⟨d, hd, ht⟩ := Option.bind_eq_some_iff.mp hb
    obtain ⟨x, rfl, rfl, hx⟩ := opsV_one n1.sl w hd
    have r := n1.rep hx
    rw [hK] at r
    refine ⟨b, ?_, h G1 H1 rfl n1.drop⟩
    unfold truD at ht
    split at ht
    · rename_i e1; cases ht; rw [e1] at r; simp only [Rep] at r; rw [r.1]; rfl
    · rename_i c e1; cases ht; rw [ent_bool e1 r]; rfl
    · rename_i c e1; cases ht; rw [rep_intV r e1]; rfl
    · rename_i y e1
      split at ht
      · rename_i hl; cases ht; rw [ent_str e1 r]; exact ⟨by rw [← lim_eq]; exact hl, rfl⟩
      · cases ht
    · rename_i l e1
      cases ht
      obtain ⟨a, xs, fs, v1, r1, l1, _⟩ := ent_lst e1 r
      rw [v1]
      exact .inl ⟨xs, .inl r1, by rw [repL_empty l1]⟩
    · rename_i l e1
      cases ht
      obtain ⟨a, xs, v1, r1, l1, _⟩ := ent_tup e1 r
      rw [v1]
      exact .inr (.inl ⟨xs, r1, by rw [repL_empty l1]⟩)
    · cases ht
/-! ### a, b, c = x, y, z -/
def sPar3 (i j l : Nat) (a : AR) : SR := fun env => (a env).out fun p => match valsOf p.1 with
  | some [u, v, w] => ((setE i u p.2).bind fun e => (setE j v e).bind fun e => setE l w e).out fun env => .nx env
  | _ => .bad
theorem spec_sPar3 {T : TA} {a : AR} {i j l : Nat} (ha : SpecA K W T a) : SpecS K W (tPar3 i j l T) (sPar3 i j l a) := fun F G R σ H D hK n h => by
  refine ha F G R σ H _ hK n ?_
  simp only [sPar3] at h
  cases q : a (envOf G) with
  | bad => rw [q] at h; exact h
  | exc c env => rw [q] at h; exact fun G1 H1 g1 n1 => h G1 σ H1 g1 n1
  | ok p =>
    obtain ⟨os, env⟩ := p
    rw [q] at h
    intro G1 H1 es vs g1 n1 w
    simp only [Res.out] at h
    split at h
    · rename_i u1 v1 w1 hv
      obtain ⟨rfl, e2⟩ := opsV_vals w hv
      match es, e2, n1 with
      | [e, f, g], e2, n1 =>
        simp at e2
        obtain ⟨rfl, rfl, rfl⟩ := e2
        refine ⟨e.v, f.v, g.v, rfl, ?_⟩
        subst g1
        simp only [Res.bind] at h
        cases q1 : setE i (e.d, e.t) (envOf G1) with
        | bad => rw [q1] at h; exact h.elim
        | exc c env => exact absurd q1 setE_nexc
        | ok env1 =>
          rw [q1] at h
          simp only at h
          obtain ⟨z1, z2, z3⟩ := setE_ok q1
          have n2 : Now F (G1.set i (some e)) (R ++ [f, g]) (σ.set i (some e.v)) H1 := (n1.last).set z1 z2
          have g2 : envOf (G1.set i (some e)) = env1 := by rw [envOf_set, z3]; rfl
          subst g2
          cases q2 : setE j (f.d, f.t) (envOf (G1.set i (some e))) with
          | bad => rw [q2] at h; exact h.elim
          | exc c env => exact absurd q2 setE_nexc
          | ok env2 =>
            rw [q2] at h
            simp only at h
            obtain ⟨y1, y2, y3⟩ := setE_ok q2
            have n3 := (n2.last).set y1 y2
            have g3 : envOf ((G1.set i (some e)).set j (some f)) = env2 := by rw [envOf_set, y3]; rfl
            subst g3
            cases q3 : setE l (g.d, g.t) (envOf ((G1.set i (some e)).set j (some f))) with
            | bad => rw [q3] at h; exact h.elim
            | exc c env => exact absurd q3 setE_nexc
            | ok env3 =>
              rw [q3] at h
              obtain ⟨x1, x2, x3⟩ := setE_ok q3
              exact h _ _ H1 (by rw [envOf_set, x3]; rfl) (n3.set x1 x2)
      | [], e2, _ => simp at e2
      | [_], e2, _ => simp at e2
      | [_, _], e2, _ => simp at e2
      | _ :: _ :: _ :: _ :: _, e2, _ => simp at e2
    · exact h.elim
/-! ### (a, b) = a list or a tuple -/
theorem spec_gLst {gs : TGs} {fs : GRs} {k : Nat} (h2 : SpecGs K W gs fs) : SpecG K W (L2.gLst K k gs) (gLstF k fs) := fun F G R σ H e Q hK n h => by
  simp only [gLstF, partsOfL] at h
  split at h
  · rename_i ps hp
    split at hp
    · rename_i ds hd
      cases hp
      split at h
      · rename_i hl
        have oke := n.es_rep e (List.mem_singleton.mpr rfl)
        have oke' := oke
        rw [hd] at oke'
        obtain ⟨a, xs, fl, ev, hq, hr, hfp⟩ := rep_lst oke'
        obtain ⟨es, e1, e2, e3, e4⟩ := repL_parts e.t hr
        have nu : e.t = .unq → fl.Nodup := fun hu => by
          obtain ⟨k, _, hk⟩ := n.es_at (List.mem_singleton.mpr rfl)
          have z := (n.gd.ok k e hk).tag
          unfold TagOk at z; rw [hu, hfp] at z
          exact (List.nodup_cons.mp z.1).2
        have n2 := n.parts (fun b hb => by rw [hfp]; exact List.mem_cons_of_mem _ hb) nu e3 e4
        refine ⟨a, xs, ev, .inl hq, ?_, ?_⟩
        · rw [← e1, List.length_map, ← List.length_map (f := fun x : Ent => x.d), e2]; simpa using hl
        · rw [← e1]
          refine h2 F G R σ H es Q hK n2 ?_
          have : (es.map fun x => (x.d, x.t)) = ds.map fun d => (d, partTag e.t d) := by
            rw [← e2, List.map_map]
            exact List.map_congr_left fun x hx => by simp [(e4 x hx).2]
          rw [this]; exact h
      · exact h.elim
    · cases hp
  · exact h.elim
def gUn (K : PySem.W.Frag) (n : Nat) (t : TGs) : TG := fun v σ H Q => gTup K n t v σ H Q ∨ L2.gLst K n t v σ H Q
theorem pg_un {X : Cx} {pos : Pos} {es : List Expr} {k : Nat} {t : TGs} {n : Nat} (hc : X.calm = true) (h : PGs X es t) (hn : (assignEach es X.env).length = n := by rfl) (hst : (assignEach es X.env).findIdx? (·.1) = none := by rfl) : PG X (.Tuple es k pos) (gUn X.K n t) := by
  refine ⟨fun pins s σ H v u Q I r hw => ?_⟩
  rcases hw with hw | hw
  · exact (pg_tup hc h hn hst).run pins s σ H v u Q I r hw
  · exact (pg_lst hc h hn hst).run pins s σ H v u Q I r hw
def gUnF (k : Nat) (fs : GRs) : GR := fun p env => match p.1 with
  | .list _ => gLstF k fs p env
  | _ => gTupF k fs p env
theorem spec_gUn {gs : TGs} {fs : GRs} {k : Nat} (h2 : SpecGs K W gs fs) : SpecG K W (gUn K k gs) (gUnF k fs) := fun F G R σ H e Q hK n h => by
  simp only [gUnF] at h
  split at h
  · exact .inr (spec_gLst h2 F G R σ H e Q hK n h)
  · exact .inl (spec_gTup h2 F G R σ H e Q hK n h)
theorem gk_un {own : List Nat} {m : Nat} {gs : TGs} (h : GsKeep own gs) : GKeep own (gUn K m gs) := fun v σ H Q Q' hq q => by
  rcases q with ⟨a, xs, e, h1, h2, q⟩ | ⟨a, xs, e, h1, h2, q⟩
  · exact .inl ⟨a, xs, e, h1, h2, h _ _ _ _ _ hq q⟩
  · exact .inr ⟨a, xs, e, h1, h2, h _ _ _ _ _ hq q⟩
/-! ### enumerate -/
def pairT (d : D) : Tag := if noMut d then .unq else .sh
def enumL (ds : List D) : List (D × Tag) := ds.mapIdx fun i d => (.tuple [.int i, d], pairT d)
def iEnumE (f : ER) : IR := fun env => (f env).bind fun p => match p.1 with
  | .val d _ => (match seqOf d with
    | some ds => .ok (enumL ds, p.2)
    | none => .bad)
  | .slot _ => .bad
theorem enumL_get {i : Nat} {q : D × Tag} (h : (enumL ds)[i]? = some q) : ∃ d, ds[i]? = some d ∧ q = (.tuple [.int i, d], pairT d) := by
  unfold enumL at h
  rw [List.getElem?_mapIdx] at h
  cases q2 : ds[i]? with
  | none => rw [q2] at h; cases h
  | some d => rw [q2] at h; simp at h; exact ⟨d, rfl, h.symm⟩
/-- a new pair of two parts at hand -/
theorem Now.pair {x y : Ent} {q : Addr} (n : Now F G (R ++ [x] ++ [y]) σ H) (hq : H q = none) (hx : x.t = .unq) : ∃ fp, Now F G (R ++ [⟨.ref q, .tuple [x.d, y.d], if y.t = .unq then .unq else .sh, fp⟩]) σ (upd H q (.tup [x.v, y.v])) := by
  have n' : Now F G (R ++ [x, y]) σ H := by simpa using n
  have := n'.tup hq
  refine ⟨fpsOf [x, y], ?_⟩
  have e : allUnq ([x, y].map fun e => (e.d, e.t)) = decide (y.t = .unq) := by
    simp [allUnq, hx]
    cases y.t <;> rfl
  rw [e] at this
  simpa using this
theorem jok_enumL {a : Addr} (hK : F.K = K) (hv : p.v = .ref a) (hd : p.d = .list ds) (ht : p.t = .sh) : JOk (Ite K a) F [p] (enumL ds) := by
  subst hK
  refine ⟨fun G R Δ σ H i q n hq => ?_, fun G R Δ σ H n => ?_⟩
  · obtain ⟨d, hdi, rfl⟩ := enumL_get hq
    have r := n.pinRep
    rw [hd, hv] at r
    simp only [Rep] at r
    obtain ⟨a', xs, fs, e1, e2, e3, e4⟩ := r
    cases e1
    obtain ⟨v, f, h1, h2, h3⟩ := e3.get i d hdi
    refine ⟨⟨xs, v, .inl e2, h1⟩, fun x H' y => ?_⟩
    obtain ⟨T, x', rfl, hT, rfl, y⟩ := y
    have := y xs (.inl e2)
    rw [h1] at this; cases this
    have n0 := n.scalar (d := .int i) (v := .int i) (rep_int _)
    have n0' : Now F G (R ++ [p] ++ (Δ ++ [⟨.int i, .int i, .unq, []⟩])) σ H := by simpa using n0
    obtain ⟨fp', n2⟩ := n0'.pinPart ht h2 fun b hb => by rw [e4]; exact List.mem_cons_of_mem _ (h3.subset hb)
    obtain ⟨fq, n3⟩ := Now.pair (R := R ++ [p] ++ Δ) (x := ⟨.int i, .int i, .unq, []⟩) (by simpa using n2) hT rfl
    refine ⟨_, rfl, ?_, n3⟩
    simp [partTag, pairT]
  · have r := n.pinRep
    rw [hd, hv] at r
    simp only [Rep] at r
    obtain ⟨a', xs, fs, e1, e2, e3, e4⟩ := r
    cases e1
    exact ⟨xs, .inl e2, by rw [e3.length]; simp [enumL]⟩
theorem jok_enumT {a : Addr} (hK : F.K = K) (hv : p.v = .ref a) (hd : p.d = .tuple ds) (ht : p.t = .sh) : JOk (IteT K a) F [p] (enumL ds) := by
  subst hK
  refine ⟨fun G R Δ σ H i q n hq => ?_, fun G R Δ σ H n => ?_⟩
  · obtain ⟨d, hdi, rfl⟩ := enumL_get hq
    have r := n.pinRep
    rw [hd, hv] at r
    simp only [Rep] at r
    obtain ⟨a', xs, e1, e2, e3⟩ := r
    cases e1
    obtain ⟨v, f, h1, h2, h3⟩ := e3.get i d hdi
    refine ⟨⟨xs, v, e2, h1⟩, fun x H' y => ?_⟩
    obtain ⟨T, x', rfl, hT, rfl, y⟩ := y
    have := y xs e2
    rw [h1] at this; cases this
    have n0 := n.scalar (d := .int i) (v := .int i) (rep_int _)
    have n0' : Now F G (R ++ [p] ++ (Δ ++ [⟨.int i, .int i, .unq, []⟩])) σ H := by simpa using n0
    obtain ⟨fp', n2⟩ := n0'.pinPart ht h2 fun b hb => h3.subset hb
    obtain ⟨fq, n3⟩ := Now.pair (R := R ++ [p] ++ Δ) (x := ⟨.int i, .int i, .unq, []⟩) (by simpa using n2) hT rfl
    refine ⟨_, rfl, ?_, n3⟩
    simp [partTag, pairT]
  · have r := n.pinRep
    rw [hd, hv] at r
    simp only [Rep] at r
    obtain ⟨a', xs, e1, e2, e3⟩ := r
    cases e1
    exact ⟨xs, e2, by rw [e3.length]; simp [enumL]⟩
theorem spec_iEnum {te : TE} {f : ER} (he : SpecE K W te f) : SpecI K W (iEnumA K te) (iEnumE f) := fun F G R σ H Q hK n h => by
  refine he F G R σ H _ hK n ?_
  simp only [iEnumE] at h
  cases q : f (envOf G) with
  | bad => rw [q] at h; exact h
  | exc c env => rw [q] at h; exact h
  | ok p =>
    obtain ⟨o, env⟩ := p
    rw [q] at h
    intro G1 H1 es v g1 n1 w
    cases o with
    | slot i => exact h.elim
    | val d t =>
      obtain ⟨e, r, s, rfl, e1, e2, e3, rfl, rfl⟩ := w
      cases e3
      simp only [Res.bind] at h
      have n2 := n1.toSh
      have rp := n1.es_rep e (List.mem_singleton.mpr rfl)
      cases d with
      | list ds =>
        have rp' := rp
        rw [e1] at rp'
        obtain ⟨a, xs, fs, q1, q2, q3, q4⟩ := rep_lst rp'
        exact ⟨a, xs, by rw [q1], .inl ⟨.inl q2, h G1 H1 _ [e.toSh] g1 n2 (jok_enumL hK q1 e1 rfl)⟩⟩
      | tuple ds =>
        have rp' := rp
        rw [e1] at rp'
        obtain ⟨a, xs, q1, q2, q3⟩ := rep_tup rp'
        exact ⟨a, xs, by rw [q1], .inr ⟨by rw [← hK]; exact q2, h G1 H1 _ [e.toSh] g1 n2 (jok_enumT hK q1 e1 rfl)⟩⟩
      | _ => exact h.elim
end
end VL
end
section
set_option Elab.async false
set_option linter.all false
set_option maxRecDepth 100000
set_option autoImplicit false
namespace VL
open PySem PySem.Spec PyProof.Rows L2
section
variable {K : PySem.W.Frag} {W : WV} {F : Frm} {Γ G G' : List (Option Ent)} {H H' : Hp} {e x p : Ent} {i j : Nat} {R ps Δ es : List Ent} {σ : L2.St} {vs : List V} {ds : List D} {d : D} {v : V} {t : Tag} {xs : List Ent} {fp : List Addr} {os : List Opd} {b : Addr}
/-! ### x[j] where x is not read again: the item moves out -/
def ixMR (i : Nat) (o : Opd) (env : Env) : Res (Opd × Env) := match env[i]?, o.d env with
  | some (some (d, t)), some (.int j) => (match (seqOf d).bind fun ds => atI ds j with
    | some r => if t = .par then .bad else .ok (.val r (partTag t r), env.set i none)
    | none => .bad)
  | _, _ => .bad
def eIxM (i : Nat) (f : ER) : ER := fun env => match env[i]? with
  | some (some _) => (f env).bind fun q => ixMR i q.1 q.2
  | _ => .bad
theorem Now.slotOut (n : Now F G R σ H) (hx : G[i]? = some (some x)) (np : x.t ≠ .par) : Now F (G.set i none) (R ++ [x]) σ H := by
  have hi := (List.getElem?_eq_some_iff.mp hx).1
  have hgi : (G ++ R.map some)[i]? = some (some x) := by rw [List.getElem?_append_left hi]; exact hx
  have okE := n.gd.ok i x hgi
  refine ⟨?_, n.sl.set_none fun e2 h2 => by rw [hx] at h2; cases h2; exact np⟩
  have g1 : Gd F (G.set i none ++ R.map some) H := by
    rw [← set_app hi]
    exact n.gd.set_none i
  have g2 := g1.push (e := x) okE fun j y hj => by
    rw [← set_app hi, List.getElem?_set] at hj
    split at hj
    · split at hj <;> simp at hj
    · rename_i hne
      exact ⟨n.gd.sep i j x y hne hgi hj, n.gd.sep j i y x (Ne.symm hne) hj hgi⟩
  simpa using g2
theorem spec_ixM {te : TE} {f : ER} (i : Nat) (he : SpecE K W te f) : SpecE K W (tOp (rIx K) (tVar i) te) (eIxM i f) := fun F G R σ H Q hK n h => by
  simp only [eIxM] at h
  split at h
  case h_2 => exact h.elim
  rename_i p0 h0
  obtain ⟨d0, t0⟩ := p0
  obtain ⟨x0, hx0, _, _⟩ := envOf_inv h0
  have hσ := n.sl.val i x0 hx0
  refine ⟨x0.v, hσ, he F G R σ H _ hK n ?_⟩
  cases q : f (envOf G) with
  | bad => rw [q] at h; exact h
  | exc c env => rw [q] at h; exact h
  | ok p =>
  obtain ⟨o, env⟩ := p
  rw [q] at h
  intro G1 H1 es v g1 n1 w
  subst g1
  simp only [Res.bind, ixMR] at h
  split at h
  case h_2 => exact h.elim
  rename_i d t j hd hj
  split at h
  case h_2 => exact h.elim
  rename_i r hr
  split at h
  case isTrue => exact h.elim
  rename_i np
  obtain ⟨ds, hs, hat⟩ := Option.bind_eq_some_iff.mp hr
  obtain ⟨x, hx, rfl, rfl⟩ := envOf_inv hd
  have hvv : x0.v = x.v := Option.some.inj (Option.some.inj (hσ.symm.trans (n1.sl.val i x hx)))
  have hj2 := int_of n1 w hj
  have n2 := n1.drop.slotOut hx np
  have rx := n2.es_rep x (List.mem_singleton.mpr rfl)
  have nd : x.t = .unq → x.fp.Nodup := fun hu => by
    obtain ⟨k, _, hk⟩ := n2.es_at (List.mem_singleton.mpr rfl)
    have z := (n2.gd.ok k x hk).tag
    unfold TagOk at z; rw [hu] at z; exact z.1
  have go : ∀ {xs : List V} {fs : List Addr}, RepL F.K H1 ds xs fs → fs.Sublist x.fp → ∃ y, atI xs j = some y ∧ Q y H1 := fun {xs fs} hl hsub => by
    unfold atI at hat ⊢
    rw [hl.length]
    cases q2 : ixN ds.length j with
    | none => rw [q2] at hat; cases hat
    | some m =>
      rw [q2] at hat
      obtain ⟨y, fy, h1, h2, h3⟩ := hl.get m r hat
      refine ⟨y, h1, ?_⟩
      have n3 := n2.parts (es := [⟨y, r, partTag x.t r, fy⟩]) (fs := fy) (fun b hb => hsub.subset (h3.subset hb)) (fun hu => (nd hu).sublist (h3.trans hsub)) (by simp [fpsOf]) (fun z hz => by simp at hz; subst hz; exact ⟨h2, rfl⟩)
      exact h _ H1 [_] _ (by rw [envOf_set]; rfl) n3 ⟨_, [], [], rfl, rfl, rfl, rfl, rfl, rfl⟩
  show rIx K x0.v v H1 Q
  rw [hvv, hj2]
  unfold seqOf at hs
  split at hs
  · rename_i l hl
    cases hs
    rw [hl] at rx
    obtain ⟨a, xs, fs, v1, r1, l1, f1⟩ := rep_lst rx
    obtain ⟨y, h1, h2⟩ := go l1 (by rw [f1]; exact List.sublist_cons_self a fs)
    exact .inl ⟨a, xs, j, y, v1, rfl, .inl r1, h1, h2⟩
  · rename_i l hl
    cases hs
    rw [hl] at rx
    obtain ⟨a, xs, v1, r1, l1⟩ := rep_tup rx
    obtain ⟨y, h1, h2⟩ := go l1 (List.Sublist.refl _)
    exact .inr (.inl ⟨a, xs, j, y, v1, rfl, by rw [← hK]; exact r1, h1, h2⟩)
  · cases hs
end
/-- a def that keeps its promise, as it stands in the text -/
structure OkD (P : Program) (w : World) (K : PySem.W.Frag) (mg : Str → Option Value) (base : Heap) (k : Nat) (x : Str) (ps : List Str) (sp : Sp) : Prop where
  ex : ∃ f fd, FnG P w K mg base CX0 k f fd ps sp ∧ Binds K fd ps [] ∧ KwB fd ps ps (fun ws => ws) (fun zs => zs) ∧ mg x = some (.ref f) ∧ PySem.W.keepIn K (.ref f) = true ∧ ∃ oc od osl, K.lookup f = some ⟨oc, od, .func fd, osl⟩
def Has (K : PySem.W.Frag) (mg : Str → Option Value) (x : Str) (st : Stmt) : Prop := ∃ f fd, L2.Fun K x x st f fd ∧ mg x = some (.ref f)
theorem has_mk {K : PySem.W.Frag} {h : Heap} {mg : Str → Option Value} {x : Str} {st : Stmt} (X : K.In h) (G : h.Ns mainGlobals mg) {f : Addr} {od an : Option Addr} {sl : Array (Option Value)} {oc kV dc pm cd ct : Value}
  (a : PySem.W.nsIn K mainGlobals x = some (some (.ref f))) (l : K.lookup f = some ⟨oc, od, .func (PySem.W.fnOf x x (defArgs st) (defBody st) (defScope st) .none kV dc pm an cd ct), sl⟩) (c : PySem.W.codeIn K cd x = true) (k : PySem.W.keepIn K (.ref f) = true) : Has K mg x st :=
  ⟨f, _, fun_mk l c k, PySem.W.mg_of X G a⟩
/-- a constant of the text -/
def Cn (mg : Str → Option Value) (x : Str) (v : V) : Prop := ∃ u, mg x = some u ∧ RelV v u
theorem cn_int {K : PySem.W.Frag} {h : Heap} {mg : Str → Option Value} {x : Str} {i : Int} {t : Tok} (X : K.In h) (G : h.Ns mainGlobals mg) (a : PySem.W.nsIn K mainGlobals x = some (some (.int i t))) : Cn mg x (.int i) := ⟨_, PySem.W.mg_of X G a, ⟨t, rfl⟩⟩
theorem cn_str {K : PySem.W.Frag} {h : Heap} {mg : Str → Option Value} {x : Str} {i : Str} {t : Tok} (X : K.In h) (G : h.Ns mainGlobals mg) (a : PySem.W.nsIn K mainGlobals x = some (some (.str i t))) : Cn mg x (.str i) := ⟨_, PySem.W.mg_of X G a, ⟨t, rfl⟩⟩
theorem no_mk {K : PySem.W.Frag} {h : Heap} {mg : Str → Option Value} {x : Str} (X : K.In h) (G : h.Ns mainGlobals mg) (a : PySem.W.nsIn K mainGlobals x = some none) : mg x = none := PySem.W.mg_none_of X G a
section
variable {P : Program} {w : World} {K : PySem.W.Frag} {mg : Str → Option Value} {base : Heap} {k : Nat} {ps : List Str} {sp : Sp} {x : Str} {st : Stmt}
theorem okD_mk {N : List Str} (F : Has K mg x st) (S : FnScope N ps (defScope st)) (many : ∀ vs H Q E, sp vs H Q E → vs.length = ps.length)
    (b1 : ∀ (kV doc pm : Value) (an : Option Addr) (cdv ct : Value) (us : List Value), us.length = ps.length → bindArgs (PySem.W.fnOf x x (defArgs st) (defBody st) (defScope st) .none kV doc pm an cdv ct) ⟨us, []⟩ = pure (ps.zip us))
    (b2 : ∀ (kV doc pm : Value) (an : Option Addr) (cdv ct : Value) (us : List Value), us.length = ps.length → bindArgs (PySem.W.fnOf x x (defArgs st) (defBody st) (defScope st) .none kV doc pm an cdv ct) ⟨[], ps.zip us⟩ = pure (ps.zip us))
    (bd : ∀ (cdv : Value) (f : Addr) (A : Around) (outer : List PySem.Env) (s : Shared) (H : Hp) (vs : List V) (Q : VK) (E : XK), RoomG k (A.deeper (envOfC x (defScope st) s.heap.objs.size f cdv)) → sp vs H Q E →
      ∃ t, PSs (cxOf CX0 P w K mg base N x (defScope st) f cdv A outer s H E).nox (defBody st) t ∧ t { nx := fun _ H' => Q .non H', rt := Q } (L2.start N vs) H) : OkD P w K mg base (k + 1) x ps sp := by
  obtain ⟨f, fd, F, g⟩ := F
  refine ⟨f, fd, Fun.okG F S many fun cdv => bd cdv f, F.binds b1, ⟨fun s ws hl => ?_, fun r => r⟩, g, F.kp, by
    obtain ⟨oc, od, kV, doc, pm, an, cdv, ct, osl, _, lk, _⟩ := F.ex
    exact ⟨oc, od, osl, lk⟩⟩
  obtain ⟨oc, od, kV, doc, pm, an, cdv, ct, osl, rfl, lk, hcd⟩ := F.ex
  exact .of_eq (b2 kV doc pm an cdv ct ws hl)
end
section
variable {X : Cx} {j k : Nat} {ps : List Str} {sp : Sp} {x : Str} {p pos : Pos} {e : Expr} {es : List Expr} {t : TA}
theorem pe_ok (O : OkD X.prog X.w X.K X.mg X.base j x ps sp) (r : RoomG k X.A) (h : j ≤ k) (ha : PA X (e :: es) t) (hg : Gl X x := by rfl) (hdb : (x == ("__debug__" : Str)) = false := by decide)
    (he : starEach (e :: es) X.env = (false, eval e X.env) :: starEach es X.env := by rfl) (hpl : (backTo pos (starEach es X.env)).any (·.1) = false := by rfl) : PE X (.Call (.Name x p) (e :: es) [] pos) (tCall sp [] E0 t) := by
  obtain ⟨f, fd, F, b, _, m, kp, _⟩ := O.ex
  exact pe_callG F (r.mono h) hg m kp b pass0 ha hdb he hpl
theorem pe_ok0 (O : OkD X.prog X.w X.K X.mg X.base j x [] sp) (r : RoomG k X.A) (h : j ≤ k) (hg : Gl X x := by rfl) (hdb : (x == ("__debug__" : Str)) = false := by decide) : PE X (.Call (.Name x p) [] [] pos) (tCall sp [] E0 tNil) := by
  obtain ⟨f, fd, F, b, _, m, kp, _⟩ := O.ex
  exact pe_callG0 F (r.mono h) hg m kp b pass0 hdb
theorem pe_okK {kws : List Keyword} {tk : TA} (O : OkD X.prog X.w X.K X.mg X.base j x ps sp) (r : RoomG k X.A) (h : j ≤ k) (hkw : PK X kws tk) (hall : (backToKw pos (keywordEach kws X.env)).all (·.1.isSome) = true := by rfl) (hks : (backToKw pos (keywordEach kws X.env)).filterMap (·.1) = ps := by rfl)
    (hg : Gl X x := by rfl) (hdb : (x == ("__debug__" : Str)) = false := by decide) (hpl : ((backTo pos (starEach [] X.env)).any (·.1) || (backToKw pos (keywordEach kws X.env)).any (·.1.isNone)) = false := by rfl) :
    PE X (.Call (.Name x p) [] kws pos) (tCallKO sp (fun zs => zs) E0 tk) := by
  obtain ⟨f, fd, F, _, b, m, kp, _⟩ := O.ex
  exact pe_callGK F (r.mono h) hg m kp b pass0 hkw hall hks hdb hpl
theorem pe_cn {v : V} (C : Cn X.mg x v) (hg : Gl X x := by rfl) (hdb : (x == ("__debug__" : Str)) = false := by decide) : PE X (.Name x pos) (tC v) := pe_glob hg C.choose_spec.1 C.choose_spec.2 hdb
end
/-! the rules, with the written part told (a comprehension's reading may not speak of its own context) -/
section
variable {X : Cx} (K : PySem.W.Frag)
theorem k_add (h : X.K = K) : OpR X (binaryOp .Add) (rAdd K) := h ▸ op_addD
theorem k_mul (h : X.K = K) : OpR X (binaryOp .Mult) (rMulD K) := h ▸ op_mulD
theorem k_ix (h : X.K = K) : IxR X (rIx K) := h ▸ ix_seq
theorem k_sl (h : X.K = K) : SlR X (rSlD K) := h ▸ sl_D
theorem k_rev (h : X.K = K) {e : Expr} {te : TE} {k : Nat} {p1 p2 p3 pos : Pos} (he : PE X e te) : PE X (.Subscript e (.Slice none none (some (.UnaryOp .USub (.Constant (.int 1) k p1) p2)) p3) pos) (tUn (rRevA K) te) := h ▸ pe_revA he
theorem k_tupleOf (h : X.K = K) {a : Expr} {ta : TE} {p pos : Pos} (hg : Gl X "tuple") (hm : X.mg "tuple" = none) (ha : PE X a ta) (na : starEach [a] X.env = (false, eval a X.env) :: starEach [] X.env := by rfl) : PE X (.Call (.Name "tuple" p) [a] [] pos) (tThen ta (kTup K)) := h ▸ pe_tupleOf hg hm ha na
theorem k_lenSet (h : X.K = K) {a : Expr} {ta : TE} {p p2 q pos : Pos} (hg : Gl X "len") (hm : X.mg "len" = none) (hg2 : Gl X "set") (hm2 : X.mg "set" = none) (ha : PE X a ta) (hc : X.calm = true) (na : starEach [a] X.env = (false, eval a X.env) :: starEach [] X.env := by rfl) :
    PE X (.Call (.Name "len" p) [.Call (.Name "set" p2) [a] [] q] [] pos) (tLenSet K ta) := h ▸ pe_lenSet hg hm hg2 hm2 ha hc na
theorem k_eq (h : X.K = K) (hu : X.A.units + 64 < cLine) : OpR X (compareOp .Eq) (rEqQ K) := h ▸ op_eqQ hu
theorem k_ne (h : X.K = K) (hu : X.A.units + 64 < cLine) : OpR X (compareOp .NotEq) (rNeQ K) := h ▸ op_neQ hu
theorem k_in (h : X.K = K) (hu : X.A.units + 64 < cLine) : OpR X (compareOp .In) (rInQ K false) := h ▸ op_inQ hu
theorem k_notIn (h : X.K = K) (hu : X.A.units + 64 < cLine) : OpR X (compareOp .NotIn) (rInQ K true) := h ▸ op_notInQ hu
theorem k_repr (h : X.K = K) (hu : X.A.units + 64 < cLine) (hg : X.A.guards = some []) : CallR X (.builtin "repr") (rRepr K) := h ▸ cr_repr hu hg
theorem k_len (h : X.K = K) : CallR X (.builtin "len") (fun xs H Q => ∃ x n, xs = [x] ∧ LenV K x H n ∧ Q (.int n) H) := h ▸ call_len
theorem k_sum (h : X.K = K) (hc : X.calm = true) : CallR X (.builtin "sum") (rSum K) := h ▸ cr_sum hc
theorem k_max (h : X.K = K) (hc : X.calm = true) : CallR X (.builtin "max") (rMax K) := h ▸ cr_max hc
theorem k_min (h : X.K = K) (hc : X.calm = true) : CallR X (.builtin "min") (rMin K) := h ▸ cr_min hc
theorem k_any (h : X.K = K) (hc : X.calm = true) : CallR X (.builtin "any") (rAny K) := h ▸ cr_any hc
theorem k_all (h : X.K = K) (hc : X.calm = true) : CallR X (.builtin "all") (rAll K) := h ▸ cr_all hc
theorem k_isi (h : X.K = K) : CallR X (.builtin "isinstance") (rIsi K) := h ▸ call_isi
theorem k_list (h : X.K = K) : CallR X (.type "list") (fun xs H Q => ∃ p ys, xs = [.ref p] ∧ (SqL K H p ys ∨ SqT K H p ys) ∧ ∀ l, H l = none → Q (.ref l) (upd H l (.lst ys))) := h ▸ call_list_of
theorem k_seq (h : X.K = K) {tg l : Expr} {tl : TE} (hl : PE X l tl) : PI X tg l (iSeq K tl) := h ▸ pi_seq hl
theorem k_enum (h : X.K = K) {e : Expr} {te : TE} {p pos tpos : Pos} {elts : List Expr} {kk : Nat} (hg : Gl X "enumerate") (hm : X.mg "enumerate" = none) (he : PE X e te) (hs : starEach [e] X.env = [(false, eval e X.env)] := by rfl) :
    PI X (.Tuple elts kk tpos) (.Call (.Name "enumerate" p) [e] [] pos) (iEnumA K te) := h ▸ pi_enumA hg hm he hs
theorem k_un (h : X.K = K) {pos : Pos} {es : List Expr} {k : Nat} {t : TGs} {n : Nat} (hc : X.calm = true) (hh : PGs X es t) (hn : (assignEach es X.env).length = n := by rfl) (hst : (assignEach es X.env).findIdx? (·.1) = none := by rfl) : PG X (.Tuple es k pos) (gUn K n t) := h ▸ pg_un hc hh hn hst
end
/-- the law's own def, for walkG -/
theorem law_fd {P : Program} {w : World} {K : PySem.W.Frag} {mg : Str → Option Value} {k : Nat} {x p : Str} {st : Stmt} {sp : Sp} {fa : Addr} {KIn : Heap → Prop} (hmg : mg x = some (.ref fa)) (T : Has K mg x st)
    (b1 : ∀ (kV doc pm : Value) (an : Option Addr) (cdv ct : Value) (u : Value), bindArgs (PySem.W.fnOf x x (defArgs st) (defBody st) (defScope st) .none kV doc pm an cdv ct) ⟨[u], []⟩ = pure [(p, u)])
    (O : ∀ base : Heap, OkD P w K mg base k x [p] sp) : ∃ fd : FuncData, (∀ (s : Shared) (u : Value), BindsTo s fd ⟨[u], []⟩ [(p, u)]) ∧ ∀ base : Heap, KIn base → base.Ns mainGlobals mg → FnG P w K mg base CX0 k fa fd [p] sp := by
  obtain ⟨f, fd, F, g⟩ := T
  obtain ⟨oc, od, kV, doc, pm, an, cdv, ct, osl, e1, lk, _⟩ := F.ex
  have ef : f = fa := by rw [g] at hmg; cases hmg; rfl
  subst ef
  refine ⟨fd, fun s u => ?_, fun base _ _ => ?_⟩
  · subst e1
    exact .of_eq (b1 kV doc pm an cdv ct u)
  · obtain ⟨f2, fd2, F2, _, _, m2, _, oc2, od2, osl2, lk2⟩ := (O base).ex
    have ef : f2 = f := by rw [g] at m2; cases m2; rfl
    subst ef
    rw [lk] at lk2
    cases lk2
    exact F2
end VL
end
section
set_option Elab.async false
set_option linter.all false
set_option maxRecDepth 100000
set_option autoImplicit false
/-! the plain functions, evaluated -/
namespace VL
open PySem PySem.Spec PyProof.Rows L2
/-- no simp by computing alone (the kernel would do the steps in its own way) -/
theorem nr {α : Sort _} {a b : α} (h : a = b) : a = b := h
section
variable {α β : Type} {env : Env} {i j : Nat} {f g : ER} {a b : AR}
@[simp] theorem bind_ok (x : α) (k : α → Res β) : (Res.ok x).bind k = k x := nr rfl
@[simp] theorem bind_bad (k : α → Res β) : (Res.bad : Res α).bind k = .bad := nr rfl
@[simp] theorem out_ok (x : α) (k : α → Out) : (Res.ok x).out k = k x := nr rfl
@[simp] theorem out_bad (k : α → Out) : (Res.bad : Res α).out k = .bad := nr rfl
@[simp] theorem nox_ok (x : α) : (Res.ok x).nox = .ok x := nr rfl
@[simp] theorem eVar_ap : eVar i env = match env[i]? with
  | some (some _) => .ok (.slot i, env)
  | _ => .bad := nr rfl
@[simp] theorem eC_ap (d : D) : eC d env = .ok (.val d .unq, env) := nr rfl
@[simp] theorem aNil_ap : aNil env = .ok ([], env) := nr rfl
@[simp] theorem aCons_ap : aCons f a env = (f env).bind fun p => (a p.2).bind fun q => .ok (p.1 :: q.1, q.2) := nr rfl
@[simp] theorem ePure_ap (p : PF) : ePure p a env = (a env).bind fun r => pureOf p r.1 r.2 := nr rfl
@[simp] theorem ePure2_ap (p : PF) : ePure2 p f g env = (f env).bind fun r => (g r.2).bind fun s => pureOf p [r.1, s.1] s.2 := nr rfl
@[simp] theorem ePure1_ap (p : PF) : ePure1 p f env = (f env).bind fun r => pureOf p [r.1] r.2 := nr rfl
@[simp] theorem opD_slot : Opd.d env (.slot i) = match env[i]? with
  | some (some (d, _)) => some d
  | _ => none := nr rfl
@[simp] theorem opD_val (d : D) (t : Tag) : Opd.d env (.val d t) = some d := nr rfl
@[simp] theorem opsD_nil : opsD env [] = some [] := nr rfl
@[simp] theorem opsD_cons' (o : Opd) (os : List Opd) : opsD env (o :: os) = match o.d env, opsD env os with
  | some d, some ds => some (d :: ds)
  | _, _ => none := nr rfl
@[simp] theorem demIf_unq (d : D) (os : List Opd) : demIf d .unq os env = env := nr rfl
theorem pureOf_ap (p : PF) (os : List Opd) : pureOf p os env = match opsD env os with
  | some ds => (match p ds with
    | some (d, t) => .ok (.val d t, demIf d t os env)
    | none => .bad)
  | none => .bad := nr rfl
@[simp] theorem keepR_true (o : Opd) : keepR true o env = match moveO o env with
  | some (d, t, e) => .ok (.val d t, e)
  | none => .bad := nr rfl
@[simp] theorem keepR_false (o : Opd) : keepR false o env = match keepO o env with
  | some (d, t, e) => .ok (.val d t, e)
  | none => .bad := nr rfl
@[simp] theorem eKeep_ap (mv : Bool) : eKeep mv f env = (f env).bind fun p => keepR mv p.1 p.2 := nr rfl
@[simp] theorem moveO_val (d : D) (t : Tag) : moveO (.val d t) env = some (d, t, env) := nr rfl
@[simp] theorem keepO_val (d : D) (t : Tag) : keepO (.val d t) env = some (d, t, env) := nr rfl
@[simp] theorem moveO_slot : moveO (.slot i) env = match env[i]? with
  | some (some (d, t)) => if noMut d then some (d, .unq, env) else if t = .par then none else some (d, t, env.set i none)
  | _ => none := nr rfl
@[simp] theorem keepO_slot : keepO (.slot i) env = match env[i]? with
  | some (some (d, t)) => if noMut d then some (d, .unq, env) else if t = .par then none else some (d, .sh, env.set i (some (d, .sh)))
  | _ => none := nr rfl
@[simp] theorem eLst_ap : eLst a env = (a env).bind fun p => dispOf .list .own p.1 p.2 := nr rfl
@[simp] theorem eTup_ap : eTup a env = (a env).bind fun p => dispOf .tuple .sh p.1 p.2 := nr rfl
theorem dispOf_ap (mk : List D → D) (t : Tag) (os : List Opd) : dispOf mk t os env = match valsOf os with
  | some ps => if ps.length ≤ 1000 then .ok (.val (mk (ps.map (·.1))) (if allUnq ps then .unq else t), env) else .bad
  | none => .bad := nr rfl
@[simp] theorem valsOf_nil : valsOf [] = some [] := nr rfl
@[simp] theorem valsOf_cons (d : D) (t : Tag) (os : List Opd) : valsOf (.val d t :: os) = (valsOf os).map fun r => (d, t) :: r := nr rfl
@[simp] theorem allUnq_nil : allUnq [] = true := nr rfl
@[simp] theorem allUnq_cons (p : D × Tag) (ps : List (D × Tag)) : allUnq (p :: ps) = (p.2 == .unq && allUnq ps) := nr rfl
@[simp] theorem tOfE_ap : tOfE f env = (f env).bind fun p => match p.1.d p.2 with
  | some (.bool b) => .ok (b, p.2)
  | _ => .bad := nr rfl
@[simp] theorem tAndF_ap (x y : TR) : tAndF x y env = (x env).bind fun p => if p.1 then y p.2 else .ok (false, p.2) := nr rfl
@[simp] theorem tOrF_ap (x y : TR) : tOrF x y env = (x env).bind fun p => if p.1 then .ok (true, p.2) else y p.2 := nr rfl
@[simp] theorem tNotF_ap (x : TR) : tNotF x env = (x env).bind fun p => .ok (!p.1, p.2) := nr rfl
@[simp] theorem tYesF_ap : tYesF env = .ok (true, env) := nr rfl
@[simp] theorem eIf_ap (c : TR) : eIf c f g env = (c env).bind fun p => if p.1 then f p.2 else g p.2 := nr rfl
def selB (o : Option D) (x y : Res β) : Res β := match o with
  | some (.bool true) => x
  | some (.bool false) => y
  | _ => .bad
@[simp] theorem selB_bool (k : Bool) (x y : Res β) : selB (some (.bool k)) x y = if k then x else y := by cases k <;> rfl
def selC (o : Option (D × Tag)) (x y : Res β) : Res β := match o with
  | some (.bool true, _) => x
  | some (.bool false, _) => y
  | _ => .bad
@[simp] theorem selC_bool (k : Bool) (t : Tag) (x y : Res β) : selC (some (.bool k, t)) x y = if k then x else y := by cases k <;> rfl
@[simp] theorem eChain_ap (p q : PF) (x y z : ER) : eChain p q x y z env = (x env).bind fun r => (y r.2).bind fun s => selC ((opsD s.2 [r.1, s.1]).bind p) ((z s.2).bind fun u => pureOf q [s.1, u.1] u.2) (.ok (.val (.bool false) .unq, s.2)) := nr rfl
@[simp] theorem eAndF_ap (x y : ER) : eAndF x y env = (x env).bind fun p => selB (p.1.d p.2) (y p.2) (.ok (.val (.bool false) .unq, p.2)) := nr rfl
@[simp] theorem eOrF_ap (x y : ER) : eOrF x y env = (x env).bind fun p => selB (p.1.d p.2) (.ok (.val (.bool true) .unq, p.2)) (y p.2) := by
  unfold eOrF selB
  congr 1
  funext p
  cases Opd.d p.2 p.1 with
  | none => rfl
  | some d => cases d with
    | bool k => cases k <;> rfl
    | _ => rfl
@[simp] theorem eNotF_ap (x : ER) : eNotF x env = (x env).bind fun p => match p.1.d p.2 with
  | some (.bool k) => .ok (.val (.bool !k) .unq, p.2)
  | _ => .bad := nr rfl
@[simp] theorem sSeq_ap (x y : SR) : sSeq x y env = match x env with
  | .nx env => y env
  | o => o := nr rfl
@[simp] theorem sNext_ap : sNext env = .nx env := nr rfl
@[simp] theorem sNever_ap : sNever env = .bad := nr rfl
@[simp] theorem sBreak_ap : sBreak env = .bk env := nr rfl
@[simp] theorem sCont_ap : sCont env = .ct env := nr rfl
@[simp] theorem sIf_ap (c : TR) (x y : SR) : sIf c x y env = (c env).out fun p => if p.1 then x p.2 else y p.2 := nr rfl
@[simp] theorem sDrop_ap : sDrop f env = (f env).out fun p => .nx p.2 := nr rfl
@[simp] theorem sRet_ap : sRet f env = (f env).out fun p => match p.1 with
  | .val d t => .rt d t p.2
  | .slot _ => .bad := nr rfl
@[simp] theorem sRetN_ap : sRetN env = .rt .none .unq env := nr rfl
@[simp] theorem sAsg_ap (h : GR) : sAsg f h env = (f env).out fun p => match p.1 with
  | .val d t => (h (d, t) p.2).out fun env => .nx env
  | .slot _ => .bad := nr rfl
@[simp] theorem setE_ap (p : D × Tag) : setE i p env = match env[i]? with
  | some (some (_, .par)) => .bad
  | some _ => .ok (env.set i (some p))
  | none => .bad := nr rfl
@[simp] theorem sPar_ap : sPar i j a env = (a env).out fun p => match valsOf p.1 with
  | some [v, w] => ((setE i v p.2).bind fun e => setE j w e).out fun env => .nx env
  | _ => .bad := nr rfl
@[simp] theorem sAug_ap (p : PF) : sAug i p f env = match env[i]? with
  | some (some _) => (f env).out fun r => (pureOf p [.slot i, r.1] r.2).out fun q => (match q.1 with
    | .val d t => (setE i (d, t) q.2).out fun env => .nx env
    | .slot _ => .bad)
  | _ => .bad := nr rfl
@[simp] theorem gsNil_ap : gsNil [] env = .ok env := nr rfl
@[simp] theorem gsCons_ap (h : GR) (r : GRs) (p : D × Tag) (ps : List (D × Tag)) : gsCons h r (p :: ps) env = (h p env).bind fun e => r ps e := nr rfl
@[simp] theorem gUnF_tup (k : Nat) (r : GRs) (ds : List D) (t : Tag) : gUnF k r (.tuple ds, t) env = if ds.length = k then r (ds.map fun d => (d, partTag t d)) env else .bad := by
  simp [gUnF, gTupF, partsOf]
@[simp] theorem gUnF_lst (k : Nat) (r : GRs) (ds : List D) (t : Tag) : gUnF k r (.list ds, t) env = if ds.length = k then r (ds.map fun d => (d, partTag t d)) env else .bad := by
  simp [gUnF, gLstF, partsOfL]
theorem gSetI_ap (p : D × Tag) : gSetI i f p env = match env[i]? with
  | some (some _) => (f env).bind fun q => (match q.1.d q.2 with
    | some (.int j) => storeE i j p q.2
    | _ => .bad)
  | _ => .bad := nr rfl
theorem storeE_ap (j : Int) (p : D × Tag) : storeE i j p env = match env[i]? with
  | some (some (.list ds, ti)) => (match ixN ds.length j, setTag ti p.1 with
    | some k, some t => .ok (env.set i (some (.list (ds.set k p.1), t)))
    | _, _ => .bad)
  | _ => .bad := nr rfl
@[simp] theorem sFor_ap (fi : IR) (h : GR) (x : SR) : sFor fi h x env = (fi env).out fun p => forE h x p.1 p.2 := nr rfl
@[simp] theorem iSeqE_ap : iSeqE f env = (f env).bind fun p => match p.1 with
  | .val d _ => (match itemsOf d with
    | some ds => .ok (unqOf ds, p.2)
    | none => .bad)
  | .slot _ => .bad := nr rfl
@[simp] theorem items_lst (ds : List D) : itemsOf (.list ds) = some ds := nr rfl
@[simp] theorem items_tup (ds : List D) : itemsOf (.tuple ds) = some ds := nr rfl
@[simp] theorem iEnumE_ap : iEnumE f env = (f env).bind fun p => match p.1 with
  | .val d _ => (match seqOf d with
    | some ds => .ok (enumL ds, p.2)
    | none => .bad)
  | .slot _ => .bad := nr rfl
@[simp] theorem seqOf_lst (ds : List D) : seqOf (.list ds) = some ds := nr rfl
@[simp] theorem seqOf_tup (ds : List D) : seqOf (.tuple ds) = some ds := nr rfl
def rng1R (o : Option (List D)) (env : Env) : Res (List (D × Tag) × Env) := match o with
  | some [.int j] => if inBig j then .ok (unqOf (rngL 0 1 j.toNat), env) else .bad
  | _ => .bad
def rng2R (o : Option (List D)) (env : Env) : Res (List (D × Tag) × Env) := match o with
  | some [.int i, .int j] => if inBig i && inBig j then .ok (unqOf (rngL i 1 (j - i).toNat), env) else .bad
  | _ => .bad
theorem rng1R_int (n : Int) (h : inBig n = true) : rng1R (some [.int n]) env = .ok (unqOf (rngL 0 1 n.toNat), env) := by
  show (if inBig n then _ else _) = _
  rw [if_pos h]
theorem rng2R_int (m n : Int) (h : inBig m = true) (h2 : inBig n = true) : rng2R (some [.int m, .int n]) env = .ok (unqOf (rngL m 1 (n - m).toNat), env) := by
  show (if (inBig m && inBig n) = true then _ else _) = _
  rw [if_pos (by rw [h, h2]; rfl)]
@[simp] theorem iRng1E_ap : iRng1E a env = (a env).bind fun p => rng1R (opsD p.2 p.1) p.2 := nr rfl
@[simp] theorem iRng2E_ap : iRng2E a env = (a env).bind fun p => rng2R (opsD p.2 p.1) p.2 := nr rfl
@[simp] theorem eLc_ap (fi : IR) (h : GR) (tt : TR) (te : ER) (own : List Nat) : eLc fi h tt te own env = (fi env).bind fun p =>
  if decide (p.1.length ≤ lim) && noPar own p.2 then ((lcE h tt te own p.1 (wipeE p.2 own)).nox).bind fun r => .ok (.val (.list (r.1.map (·.1))) (accTag r.1), r.2) else .bad := rfl
@[simp] theorem wipeE_nil : wipeE env [] = env := nr rfl
@[simp] theorem wipeE_cons (v : Nat) (vs : List Nat) : wipeE env (v :: vs) = (wipeE env vs).set v none := nr rfl
theorem noPar_ap (own : List Nat) : noPar own env = own.all fun i => match env[i]? with
  | some (some (_, .par)) => false
  | _ => true := nr rfl
@[simp] theorem eIxM_ap : eIxM i f env = match env[i]? with
  | some (some _) => (f env).bind fun q => ixMR i q.1 q.2
  | _ => .bad := nr rfl
theorem ixMR_ap (o : Opd) : ixMR i o env = match env[i]?, o.d env with
  | some (some (d, t)), some (.int j) => (match (seqOf d).bind fun ds => atI ds j with
    | some r => if t = .par then .bad else .ok (.val r (partTag t r), env.set i none)
    | none => .bad)
  | _, _ => .bad := nr rfl
@[simp] theorem eCall_ap (par : Bool) (m : Nat) (fn : Fn) : eCall par m fn a env = (a env).bind fun p => callE par m fn p.1 p.2 := nr rfl
@[simp] theorem eAppend_ap : eAppend i f env = match env[i]? with
  | some (some (.list _, _)) => (f env).bind fun p => (match p.1 with
    | .val d t => appendE i (d, t) p.2
    | .slot _ => .bad)
  | _ => .bad := nr rfl
theorem appendE_ap (p : D × Tag) : appendE i p env = match env[i]? with
  | some (some (.list ds, ti)) => (match newTag ti p.1 p.2 with
    | some t => if ds.length < lim then .ok (none1, env.set i (some (.list (ds ++ [p.1]), t))) else .bad
    | none => .bad)
  | _ => .bad := by
  unfold appendE atList
  cases env[i]? with
  | none => rfl
  | some o =>
    cases o with
    | none => rfl
    | some q => obtain ⟨d, t⟩ := q; cases d <;> rfl
@[simp] theorem slE_ap (lo hi : Bd) : slE f lo hi env = (f env).bind fun p => (bdE lo p.2).bind fun q => (bdE hi q.2).bind fun r => pureOf (pf1 (slD q.1 r.1)) [p.1] r.2 := nr rfl
@[simp] theorem bdE_no : bdE .no env = .ok (none, env) := nr rfl
@[simp] theorem bdE_e : bdE (.e f) env = (f env).bind fun p => match p.1.d p.2 with
    | some (.int i) => .ok (some i, p.2)
    | _ => .bad := rfl
@[simp] theorem entE_nil (par : Bool) (n : Nat) : entE par n [] = List.replicate n none := nr rfl
@[simp] theorem entE_cons (par : Bool) (n : Nat) (d : D) (r : List D) : entE par n (d :: r) = (some (d, if par then .par else inTag d) :: r.map fun d => some (d, inTag d)) ++ List.replicate (n - (r.length + 1)) none := nr rfl
theorem fnOf_ap (par : Bool) (n : Nat) (B : SR) (ds : List D) : fnOf par n B ds = match B (entE par n ds) with
  | .rt d t env => if t = .par then .bad else .ret d t (pOut par env)
  | .nx env => .ret .none .unq (pOut par env)
  | .exc c env => .exc c (pOut par env)
  | _ => .bad := nr rfl
@[simp] theorem pOut_true : pOut true env = p0 env := nr rfl
@[simp] theorem pOut_false : pOut false env = .none := nr rfl
@[simp] theorem sRaise_ap (c : Str) : sRaise c env = .exc c env := nr rfl
@[simp] theorem out_exc (c : Str) (k : α → Out) : (Res.exc c env : Res α).out k = .exc c env := nr rfl
@[simp] theorem bind_exc (c : Str) (k : α → Res β) : (Res.exc c env : Res α).bind k = .exc c env := nr rfl
@[simp] theorem eCallX_ap (m : Nat) (fn : Fn) : eCallX m fn a env = (a env).bind fun p => callX m fn p.1 p.2 := nr rfl
/-- what a def gives its caller -/
def finC (r : FRes) (os : List Opd) (env : Env) : Res (Opd × Env) := match r with
  | .ret d t _ => if needDem d t then (if noParS os env then .ok (.val d t, shAll os 0 env) else .bad) else .ok (.val d t, env)
  | _ => .bad
theorem callF (m : Nat) (fn : Fn) (os : List Opd) : callE false m fn os env = match opsD env os with
  | some ds => if os.length = m then finC (fn ds) os env else .bad
  | none => .bad := by
  unfold callE finC
  cases opsD env os with
  | none => rfl
  | some ds =>
    by_cases h : os.length = m
    · simp only [parOkE, setPar, VL.rest, h]
      cases fn ds <;> simp
    · simp [h]
@[simp] theorem finC_unq (d p : D) (os : List Opd) : finC (.ret d .unq p) os env = .ok (.val d .unq, env) := nr rfl
@[simp] theorem finC_exc (c : Str) (p : D) (os : List Opd) : finC (.exc c p) os env = .bad := nr rfl
theorem callXx (m : Nat) (fn : Fn) (os : List Opd) : callX m fn os env = match opsD env os with
  | some ds => if os.length = m then (match fn ds with
    | .exc c _ => .exc c env
    | r => finC r os env) else .bad
  | none => .bad := by
  unfold callX
  cases h0 : opsD env os with
  | none => rfl
  | some ds =>
    by_cases h : os.length = m
    · simp only [h, if_true]
      cases h1 : fn ds with
      | exc c p => rfl
      | bad => simp [callF, h0, h, h1]
      | ret d t p => simp [callF, h0, h, h1]
    · simp [h]
/-- the written one's place -/
def parP (o : Option (Option (D × Tag))) : Bool := match o with
  | some (some (.list ds, tg)) => noMutL ds && decide (tg ≠ .sh)
  | _ => false
def parS (j : Nat) (p : D) (o : Option (Option (D × Tag))) (env : Env) : Env := match o with
  | some (some (_, tg)) => env.set j (some (p, tg))
  | _ => env
def finT (j : Nat) (r : FRes) (os : List Opd) (env : Env) : Res (Opd × Env) := match r with
  | .ret d t p => if needDem d t then (if noParS os env then .ok (.val d t, shAll os 0 (parS j p env[j]? env)) else .bad) else .ok (.val d t, parS j p env[j]? env)
  | _ => .bad
theorem callT (m j : Nat) (fn : Fn) (os : List Opd) : callE true m fn (.slot j :: os) env = match opsD env (.slot j :: os) with
  | some ds => if os.length + 1 = m ∧ (!hasSlot os j && parP env[j]?) = true then finT j (fn ds) os env else .bad
  | none => .bad := by
  unfold callE finT
  cases opsD env (.slot j :: os) with
  | none => rfl
  | some ds =>
    by_cases h : os.length + 1 = m
    · simp only [parOkE, setPar, VL.rest, h, List.length_cons, List.tail_cons, if_true, decide_true, Bool.true_and, true_and]
      unfold parP parS
      cases fn ds <;> rfl
    · simp [h]
@[simp] theorem finT_unq (j : Nat) (d p : D) (os : List Opd) : finT j (.ret d .unq p) os env = .ok (.val d .unq, parS j p env[j]? env) := nr rfl
@[simp] theorem parS_some (j : Nat) (p d : D) (t : Tag) : parS j p (some (some (d, t))) env = env.set j (some (p, t)) := nr rfl
@[simp] theorem parP_list (ds : List D) (t : Tag) : parP (some (some (.list ds, t))) = (noMutL ds && decide (t ≠ .sh)) := nr rfl
@[simp] theorem hasSlot_nil (j : Nat) : hasSlot [] j = false := nr rfl
@[simp] theorem hasSlot_slot (i j : Nat) (os : List Opd) : hasSlot (.slot i :: os) j = (i == j || hasSlot os j) := nr rfl
@[simp] theorem hasSlot_val (d : D) (t : Tag) (j : Nat) (os : List Opd) : hasSlot (.val d t :: os) j = hasSlot os j := nr rfl
/-! the pure ones on plain values -/
section
variable (m n : Int) (x y : Bool) (t : Tag)
@[simp] theorem pAdd_int : pAdd [.int m, .int n] = some (.int (m + n), .unq) := nr rfl
@[simp] theorem pIAdd_int : pIAdd [.int m, .int n] = some (.int (m + n), .unq) := nr rfl
@[simp] theorem pSub_int : pSub [.int m, .int n] = some (.int (m - n), .unq) := nr rfl
@[simp] theorem pLt_int : pLt [.int m, .int n] = some (.bool (decide (m < n)), .unq) := nr rfl
@[simp] theorem pLe_int : pLe [.int m, .int n] = some (.bool (decide (m ≤ n)), .unq) := nr rfl
@[simp] theorem pGt_int : pGt [.int m, .int n] = some (.bool (decide (n < m)), .unq) := nr rfl
@[simp] theorem pGe_int : pGe [.int m, .int n] = some (.bool (decide (n ≤ m)), .unq) := nr rfl
@[simp] theorem pMax2_int : pMax2 [.int m, .int n] = some (.int (max m n), .unq) := nr rfl
@[simp] theorem pMin2_int : pMin2 [.int m, .int n] = some (.int (min m n), .unq) := nr rfl
@[simp] theorem pInt_int : pInt [.int m] = some (.int m, .unq) := nr rfl
@[simp] theorem pNeg_int : pNeg [.int m] = some (.int (-m), .unq) := nr rfl
theorem pMul_int (h : cMul m n = true) : pMul [.int m, .int n] = some (.int (m * n), .unq) := by
  show (if cMul m n then some (PyData.int (m * n), Tag.unq) else none) = _
  rw [if_pos h]
theorem pFdiv_int (h : cDiv m n = true) : pFdiv [.int m, .int n] = some (.int (m / n), .unq) := by
  show ((if cDiv m n then some (PyData.int (m / n)) else none).map fun r => (r, Tag.unq)) = _
  rw [if_pos h]; rfl
theorem pMod_int (h : 0 < n) : pMod [.int m, .int n] = some (.int (m % n), .unq) := by
  show ((if cPos m n then some (PyData.int (m % n)) else none).map fun r => (r, Tag.unq)) = _
  rw [if_pos (show cPos m n = true from decide_eq_true h)]; rfl
theorem pPow_int (h : cPow m n = true) : pPow [.int m, .int n] = some (.int (m ^ n.toNat), .unq) := by
  show ((if cPow m n then some (PyData.int (m ^ n.toNat)) else none).map fun r => (r, Tag.unq)) = _
  rw [if_pos h]; rfl
@[simp] theorem okD_int : okD (.int m) = true := by simp [okD, PyData.plain, PyData.depth]
@[simp] theorem okD_bool : okD (.bool x) = true := by simp [okD, PyData.plain, PyData.depth]
@[simp] theorem okD_none : okD .none = true := by simp [okD, PyData.plain, PyData.depth]
@[simp] theorem okD_str (s : Str) : okD (.str s) = true := by simp [okD, PyData.plain, PyData.depth]
@[simp] theorem pEq_int : pEq [.int m, .int n] = some (.bool (decide (m = n)), .unq) := by
  simp [pEq, ps2, pf2, eqD, PyData.eqv, BEq.beq]
@[simp] theorem pNe_int : pNe [.int m, .int n] = some (.bool (!decide (m = n)), .unq) := by
  simp [pNe, ps2, pf2, neD, PyData.eqv, BEq.beq]
@[simp] theorem pEq_bool : pEq [.bool x, .bool y] = some (.bool (x == y), .unq) := by
  simp [pEq, ps2, pf2, eqD, PyData.eqv]
@[simp] theorem pNe_bool : pNe [.bool x, .bool y] = some (.bool (x != y), .unq) := by
  simp [pNe, ps2, pf2, neD, PyData.eqv, bne]
@[simp] theorem pEq_str (s u : Str) : pEq [.str s, .str u] = some (.bool (s == u), .unq) := by
  simp [pEq, ps2, pf2, eqD, PyData.eqv]
@[simp] theorem pNe_str (s u : Str) : pNe [.str s, .str u] = some (.bool (s != u), .unq) := by
  simp [pNe, ps2, pf2, neD, PyData.eqv, bne]
@[simp] theorem noMut_int : noMut (.int m) = true := nr rfl
@[simp] theorem noMut_bool : noMut (.bool x) = true := nr rfl
@[simp] theorem noMut_none : noMut .none = true := nr rfl
@[simp] theorem noMut_str (s : Str) : noMut (.str s) = true := nr rfl
@[simp] theorem noMut_tup (ds : List D) : noMut (.tuple ds) = noMutL ds := nr rfl
@[simp] theorem noMut_lst (ds : List D) : noMut (.list ds) = false := nr rfl
@[simp] theorem noMutL_nil : noMutL [] = true := nr rfl
@[simp] theorem noMutL_cons (d : D) (ds : List D) : noMutL (d :: ds) = (noMut d && noMutL ds) := nr rfl
@[simp] theorem noMut_dInts (ns : List Int) : noMutL (dInts ns) = true := noMut_ints ns
@[simp] theorem inTag_int : inTag (.int m) = .unq := nr rfl
@[simp] theorem inTag_bool : inTag (.bool x) = .unq := nr rfl
@[simp] theorem inTag_lst (ds : List D) : inTag (.list ds) = .sh := nr rfl
@[simp] theorem inTag_ints (ns : List Int) : inTag (.tuple (dInts ns)) = .unq := by simp [inTag]
@[simp] theorem pIsi_int (T : String) : pIsi T [.int m] = if okT T then some (.bool ("int" == T), .unq) else none := by
  simp [pIsi, ps1, pf1, isiD, isDict, isiB, tyD]
@[simp] theorem pIsi_bool (T : String) : pIsi T [.bool x] = if okT T then some (.bool ("bool" == T || T == "int"), .unq) else none := by
  simp [pIsi, ps1, pf1, isiD, isDict, isiB, tyD]
@[simp] theorem pIsi_tup (T : String) (ds : List D) : pIsi T [.tuple ds] = if okT T then some (.bool ("tuple" == T), .unq) else none := by
  simp [pIsi, ps1, pf1, isiD, isDict, isiB, tyD]
@[simp] theorem pIsi_lst (T : String) (ds : List D) : pIsi T [.list ds] = if okT T then some (.bool ("list" == T), .unq) else none := by
  simp [pIsi, ps1, pf1, isiD, isDict, isiB, tyD]
@[simp] theorem pLen_tup (ds : List D) : pLen [.tuple ds] = some (.int ds.length, .unq) := nr rfl
@[simp] theorem pLen_lst (ds : List D) : pLen [.list ds] = some (.int ds.length, .unq) := nr rfl
@[simp] theorem len_dInts (ns : List Int) : (dInts ns).length = ns.length := by simp [dInts]
@[simp] theorem len_dBools (ns : List Bool) : (dBools ns).length = ns.length := by simp [dBools]
@[simp] theorem pTup_lst (ds : List D) : pTup [.list ds] = some (.tuple ds, tTag ds) := nr rfl
@[simp] theorem pTup_tup (ds : List D) : pTup [.tuple ds] = some (.tuple ds, tTag ds) := nr rfl
@[simp] theorem tTag_ints (ns : List Int) : tTag (dInts ns) = .unq := by simp [tTag]
@[simp] theorem lTag_ints (ns : List Int) : lTag (dInts ns) = .unq := by simp [lTag]
@[simp] theorem pList_lst (ds : List D) : pList [.list ds] = some (.list ds, lTag ds) := nr rfl
@[simp] theorem pList_tup (ds : List D) : pList [.tuple ds] = some (.list ds, lTag ds) := nr rfl
@[simp] theorem pRev_lst (ds : List D) : pRev [.list ds] = some (.list ds.reverse, lTag ds.reverse) := nr rfl
@[simp] theorem pRev_tup (ds : List D) : pRev [.tuple ds] = some (.tuple ds.reverse, tTag ds.reverse) := nr rfl
@[simp] theorem rev_dInts (ns : List Int) : (dInts ns).reverse = dInts ns.reverse := by simp [dInts]
@[simp] theorem app_dInts (ms ns : List Int) : dInts ms ++ dInts ns = dInts (ms ++ ns) := by simp [dInts]
@[simp] theorem intsOf_dInts (ns : List Int) : intsOf (dInts ns) = some ns := intsOf_ints ns
@[simp] theorem boolsOf_dBools (ns : List Bool) : boolsOf (dBools ns) = some ns := boolsOf_bools ns
@[simp] theorem pAll_bools (ns : List Bool) : pAll [.list (dBools ns)] = some (.bool (ns.all id), .unq) := by
  simp [pAll, ps1, pf1, allD, listOf]
@[simp] theorem pAny_bools (ns : List Bool) : pAny [.list (dBools ns)] = some (.bool (ns.any id), .unq) := by
  simp [pAny, ps1, pf1, anyD, listOf]
@[simp] theorem pSum_ints (ns : List Int) : pSum [.list (dInts ns)] = some (.int ns.sum, .unq) := by
  simp [pSum, ps1, pf1, sumD, listOf]
theorem pLenSet_tup (ns : List Int) (h : ns.length ≤ 4000) : pLenSet [.tuple (dInts ns)] = some (.int (dist ns), .unq) := by
  simp [pLenSet, ps1, pf1, lenSetD, seqOf, h]
theorem pLenSet_lst (ns : List Int) (h : ns.length ≤ 4000) : pLenSet [.list (dInts ns)] = some (.int (dist ns), .unq) := by
  simp [pLenSet, ps1, pf1, lenSetD, seqOf, h]
theorem callE_ret {par : Bool} {fn : Fn} {os : List Opd} {ds : List D} {d : D} {t : Tag} {q : D} (m : Nat) (h0 : opsD env os = some ds) (h1 : os.length = m) (h2 : parOkE par os env = true) (h3 : fn ds = .ret d t q) :
    callE par m fn os env = if needDem d t then (if noParS (VL.rest par os) env then .ok (.val d t, shAll (VL.rest par os) 0 (setPar par os q env)) else .bad) else .ok (.val d t, setPar par os q env) := by
  unfold callE
  simp [h0, h1, h2, h3]
@[simp] theorem needDem_unq (d : D) : needDem d .unq = false := nr rfl
@[simp] theorem parOk_false (os : List Opd) : parOkE false os env = true := nr rfl
@[simp] theorem setPar_false (os : List Opd) (q : D) : setPar false os q env = env := nr rfl
/-- a def that only reads gives d -/
def Gives (fn : Fn) (ds : List D) (d : D) : Prop := fn ds = .ret d .unq .none
theorem Gives.eq {fn : Fn} {ds : List D} {d : D} (h : Gives fn ds d) : fn ds = .ret d .unq .none := h
theorem call_gives {fn : Fn} {os : List Opd} {ds : List D} {d : D} (m : Nat) (h : Gives fn ds d) (h0 : opsD env os = some ds) (h1 : os.length = m) : callE false m fn os env = .ok (.val d .unq, env) := by
  rw [callE_ret m h0 h1 rfl h]; simp
end
end
/-! ### comprehensions, loops -/
section
variable {g : GR} {tt : TR} {te : ER} {own : List Nat} {env : Env}
theorem lcE_all {α : Type} {e : α → D × Tag} {f : α → D × Tag} : ∀ {l : List α}, (∀ a ∈ l, turnE g tt te own (e a) env = .ok (some (f a), env)) → lcE g tt te own (l.map e) env = .ok (l.map f, env)
  | [], _ => rfl
  | a :: l, h => by
    simp only [List.map_cons, lcE]
    rw [h a (List.mem_cons_self ..), bind_ok, lcE_all fun b hb => h b (List.mem_cons_of_mem _ hb)]
    rfl
theorem lcE_some {α : Type} {e : α → D × Tag} {c : α → Bool} {f : α → D × Tag} : ∀ {l : List α}, (∀ a ∈ l, turnE g tt te own (e a) env = .ok (if c a then some (f a) else none, env)) → lcE g tt te own (l.map e) env = .ok ((l.filter c).map f, env)
  | [], _ => rfl
  | a :: l, h => by
    simp only [List.map_cons, lcE]
    rw [h a (List.mem_cons_self ..), bind_ok, lcE_some fun b hb => h b (List.mem_cons_of_mem _ hb), bind_ok, List.filter_cons]
    split <;> rfl
/-- .. whose turns change the state -/
theorem lcE_from {α : Type} {e : α → D × Tag} (I : List α → List (D × Tag) → Env → Prop) (l0 : List α) : ∀ {l done : List α} {r : List (D × Tag)} {env : Env}, l0 = done ++ l → I done r env →
    (∀ done a rest r env, l0 = done ++ a :: rest → I done r env → ∃ o env', turnE g tt te own (e a) env = .ok (o, env') ∧ I (done ++ [a]) (r ++ o.toList) env') → ∃ r' env', lcE g tt te own (l.map e) env = .ok (r', env') ∧ I l0 (r ++ r') env'
  | [], done, r, env, hl, h, _ => ⟨[], env, rfl, by rw [hl]; simpa using h⟩
  | a :: l, done, r, env, hl, h, k => by
    obtain ⟨o, env1, h1, h2⟩ := k done a l r env hl h
    obtain ⟨r', env2, h3, h4⟩ := lcE_from I l0 (l := l) (by rw [hl]; simp) h2 k
    refine ⟨o.toList ++ r', env2, ?_, by simpa using h4⟩
    simp only [List.map_cons, lcE]
    rw [h1, bind_ok, h3, bind_ok]
theorem lcE_step {α : Type} {e : α → D × Tag} (I : List α → List (D × Tag) → Env → Prop) {l : List α} {env : Env} (h : I [] [] env)
    (k : ∀ done a rest r env, l = done ++ a :: rest → I done r env → ∃ o env', turnE g tt te own (e a) env = .ok (o, env') ∧ I (done ++ [a]) (r ++ o.toList) env') : ∃ r' env', lcE g tt te own (l.map e) env = .ok (r', env') ∧ I l r' env' := by
  obtain ⟨r', env', h1, h2⟩ := lcE_from I l (l := l) (done := []) (r := []) rfl h k
  exact ⟨r', env', h1, by simpa using h2⟩
end
section
variable {g : GR} {b : SR}
/-- one turn of a loop -/
def turnS (g : GR) (b : SR) (d : D × Tag) (env : Env) : Out := (g d env).out fun e1 => match b e1 with
    | .nx e => .nx e
    | .ct e => .nx e
    | .bk e => .bk e
    | o => o
theorem forE_cons (d : D × Tag) (ds : List (D × Tag)) (env : Env) : forE g b (d :: ds) env = match turnS g b d env with
  | .nx e => forE g b ds e
  | .bk e => .nx e
  | o => o := by
  simp only [forE, turnS]
  cases g d env with
  | bad => rfl
  | exc c e => rfl
  | ok e1 =>
    simp only [Res.out]
    cases b e1 <;> rfl
theorem forE_from {α : Type} {e : α → D × Tag} (I : List α → Env → Prop) (l0 : List α) : ∀ {l done : List α} {env : Env}, l0 = done ++ l → I done env → (∀ done a rest env, l0 = done ++ a :: rest → I done env → ∃ env', turnS g b (e a) env = .nx env' ∧ I (done ++ [a]) env') →
    ∃ env', forE g b (l.map e) env = .nx env' ∧ I l0 env'
  | [], done, env, hl, h, _ => ⟨env, rfl, by rw [hl]; simpa using h⟩
  | a :: l, done, env, hl, h, k => by
    obtain ⟨env1, h1, h2⟩ := k done a l env hl h
    obtain ⟨env2, h3, h4⟩ := forE_from I l0 (l := l) (by rw [hl]; simp) h2 k
    refine ⟨env2, ?_, h4⟩
    rw [List.map_cons, forE_cons, h1]
    exact h3
theorem forE_step {α : Type} {e : α → D × Tag} (I : List α → Env → Prop) {l : List α} {env : Env} (h : I [] env) (k : ∀ done a rest env, l = done ++ a :: rest → I done env → ∃ env', turnS g b (e a) env = .nx env' ∧ I (done ++ [a]) env') :
    ∃ env', forE g b (l.map e) env = .nx env' ∧ I l env' := forE_from I l rfl h k
end
end VL
end
section
set_option Elab.async false
set_option linter.all false
set_option maxRecDepth 100000
set_option autoImplicit false
/-! slots forgotten; try .. except; isinstance of a caught error -/
namespace VL
open PySem PySem.Spec PyProof.Rows L2
section
variable {K : PySem.W.Frag} {W : WV} {F : Frm} {Γ G G' : List (Option Ent)} {H H' : Hp} {e x p : Ent} {i j : Nat} {R ps Δ es : List Ent} {σ : L2.St} {vs : List V} {ds : List D} {d : D} {v : V} {t : Tag} {xs : List Ent} {fp : List Addr} {os : List Opd} {b : Addr}
/-! ### slots that nobody reads any more -/
def sW (ws : List Nat) (f : SR) : SR := fun env => match f env with
  | .nx e => if noPar ws e then .nx (wipeE e ws) else .bad
  | .ct e => if noPar ws e then .ct (wipeE e ws) else .bad
  | o => o
theorem spec_sW {T : TS} {f : SR} (ws : List Nat) (h : SpecS K W T f) : SpecS K W T (sW ws f) := fun F G R σ H D hK n k => by
  refine h F G R σ H D hK n ?_
  simp only [sW] at k
  cases q : f (envOf G) with
  | bad => rw [q] at k; exact k
  | exc c e => rw [q] at k; exact k
  | rt d t e => rw [q] at k; exact k
  | bk e => rw [q] at k; exact k
  | nx e =>
    rw [q] at k
    simp only at k
    split at k
    · rename_i np
      intro G1 σ1 H1 g1 n1
      subst g1
      exact k (wipeG G1 ws) σ1 H1 (wipe_env ws) (n1.wipe ws (noPar_ok n1.sl np))
    · exact k.elim
  | ct e =>
    rw [q] at k
    simp only at k
    split at k
    · rename_i np
      intro G1 σ1 H1 g1 n1
      subst g1
      exact k (wipeG G1 ws) σ1 H1 (wipe_env ws) (n1.wipe ws (noPar_ok n1.sl np))
    · exact k.elim
def sWn (ws : List Nat) (f : SR) : SR := fun env => match f env with
  | .nx e => if noPar ws e then .nx (wipeE e ws) else .bad
  | o => o
theorem spec_sWn {T : TS} {f : SR} (ws : List Nat) (h : SpecS K W T f) : SpecS K W T (sWn ws f) := fun F G R σ H D hK n k => by
  refine h F G R σ H D hK n ?_
  simp only [sWn] at k
  cases q : f (envOf G) with
  | bad => rw [q] at k; exact k
  | exc c e => rw [q] at k; exact k
  | rt d t e => rw [q] at k; exact k
  | bk e => rw [q] at k; exact k
  | ct e => rw [q] at k; exact k
  | nx e =>
    rw [q] at k
    simp only at k
    split at k
    · rename_i np
      intro G1 σ1 H1 g1 n1
      subst g1
      exact k (wipeG G1 ws) σ1 H1 (wipe_env ws) (n1.wipe ws (noPar_ok n1.sl np))
    · exact k.elim
/-! ### try .. except C as n: suite -/
def sTry (i : Nat) (sub : List Str) (B S : SR) : SR := fun env => match B env with
  | .exc c e => if sub.contains c && noPar [i] e && decide (i < e.length) then (match S (e.set i (some (excD c, .sh))) with
    | .nx e' => if noPar [i] e' then .nx (e'.set i none) else .bad
    | .rt d t e' => .rt d t e'
    | _ => .bad) else .bad
  | o => o
theorem Now.setBoth (n : Now F G R σ H) (np : F.par i = none) : Now F (G.set i none) R (σ.set i none) H := by
  have g : Gd F (G.set i none ++ R.map some) H := by
    by_cases hi : i < G.length
    · rw [← set_app hi]; exact n.gd.set_none i
    · rw [List.set_eq_of_length_le (by omega)]; exact n.gd
  refine ⟨g, by simpa using n.sl.len, fun j y hj => ?_, fun j a hj => ?_⟩
  · rw [List.getElem?_set] at hj
    split at hj
    · split at hj <;> simp at hj
    · rename_i q
      rw [List.getElem?_set_ne q]
      exact n.sl.val j y hj
  · obtain ⟨y, q1, q2, q3⟩ := n.sl.par j a hj
    refine ⟨y, ?_, q2, q3⟩
    rw [List.getElem?_set_ne]
    · exact q1
    · rintro rfl; rw [np] at hj; cases hj
theorem Now.newExc (n : Now F G R σ H) {a : Addr} (ha : H a = none) {c : Str} {C : Addr} (hC : clsOf F.K c = some C) : Now F G (R ++ [⟨.ref a, excD c, .sh, [a]⟩]) σ (upd H a (ExV (.ref C) a)) := by
  have keep : ∀ b, H b ≠ none → (upd H a (ExV (.ref C) a)) b = H b := fun b hb => upd_ne fun z => hb (by rw [z]; exact ha)
  have rep : Rep F.K (upd H a (ExV (.ref C) a)) (excD c) (.ref a) [a] := by
    show Rep F.K _ (.dict [(.none, .str c)]) (.ref a) [a]
    simp only [Rep]
    refine ⟨a, [.str c], [], rfl, .inl ⟨c, C, rfl, rfl, hC, upd_same ..⟩, ?_, rfl⟩
    simp only [RepP]
    exact ⟨.str c, [], [], [], rfl, rfl, rep_str c, rfl, rfl⟩
  have g := (n.gd.grow keep).push (e := ⟨.ref a, excD c, .sh, [a]⟩) ⟨rep, fun b hb => by
    simp at hb; subst hb
    exact n.gd.fresh b (n.gd.fresh0 ha), trivial⟩ fun i y hy => ⟨trivial, by
      have ty := (n.gd.ok i y hy).trk
      unfold Sep1
      split
      · trivial
      · intro b hb hm
        simp at hm; subst hm
        exact ty b hb ha
      · intro b hb hm
        simp at hm; subst hm
        exact ty b (head_mem hb) ha⟩
  refine ⟨?_, n.sl⟩
  simpa using g
theorem spec_sTry {tb : L2.WX → TS} {ts : TS} {cH : Value} {i : Nat} {sub : List Str} {B S : SR} (hsub : ∀ c ∈ sub, ∀ C, clsOf K c = some C → PySem.W.exmOne K (.ref C) cH = some true)
    (hB : ∀ WX : L2.WX, SpecS K (wX K WX) (tb WX) B) (hS : SpecS K WF ts S) : SpecS K W (fun D σ H => tb (wAsV K cH i ts (fun _ _ _ _ => False) D) D σ H) (sTry i sub B S) := fun F G R σ H D hK n h => by
  refine hB _ F G R σ H D hK n ?_
  simp only [sTry] at h
  cases q : B (envOf G) with
  | bad => rw [q] at h; exact h
  | nx e => rw [q] at h; exact h
  | rt d t e => rw [q] at h; exact h
  | bk e => rw [q] at h; exact h
  | ct e => rw [q] at h; exact h
  | exc c e =>
    rw [q] at h
    simp only at h
    split at h
    case isFalse => exact h.elim
    rename_i hc
    simp only [Bool.and_eq_true] at hc
    obtain ⟨⟨hc1, hc2⟩, hc3⟩ := hc
    have hc3 := of_decide_eq_true hc3
    intro G1 σ1 H1 g1 n1 C hC
    subst g1
    have np := noPar_ok n1.sl hc2 i (by simp)
    refine ⟨rfl, true, hsub c (by simpa using hc1) C hC, fun _ a ha => ?_, fun z => nomatch z⟩
    have n2 := n1.newExc (c := c) (C := C) ha (by rw [hK]; exact hC)
    have hl : i < G1.length := by simpa [envOf] using hc3
    have n3 := n2.set hl fun y hy z => by
      have := List.all_eq_true.mp hc2 i (by simp)
      rw [envOf_get hy, z] at this
      cases this
    refine hS F _ R _ _ _ hK n3 ?_
    rw [envOf_set]
    show SOut F R WF (S ((envOf G1).set i (some (excD c, .sh)))) _
    cases q2 : S ((envOf G1).set i (some (excD c, .sh))) with
    | bad => rw [q2] at h; exact h
    | exc c e => rw [q2] at h; exact h.elim
    | bk e => rw [q2] at h; exact h.elim
    | ct e => rw [q2] at h; exact h.elim
    | rt d t e => rw [q2] at h; exact h
    | nx e =>
      rw [q2] at h
      simp only at h
      split at h
      · rename_i np2
        intro G2 σ2 H2 g2 m2
        subst g2
        exact h _ _ _ envOf_set (m2.setBoth (noPar_ok m2.sl np2 i (by simp)))
      · exact h.elim
/-! ### isinstance(e, C) of a caught error -/
def isXD (L : List (Str × Bool)) (d : D) : Option D := match d with
  | .dict [(.none, .str c)] => (L.lookup c).map .bool
  | _ => none
def pIsX (L : List (Str × Bool)) : PF := ps1 (isXD L)
theorem pure_isX {D : Addr} {L : List (Str × Bool)} (X : ∀ p ∈ L, ∀ C, clsOf K p.1 = some C → ExcC K C ∧ PySem.W.kitOne K (.ref C) (.ref D) = some p.2) : PureR1 K (fun x H Q => rIsV K [x, .ref D] H Q) (pIsX L) := pureR1_of fun H x d t Q hx hf hQ => by
  obtain ⟨r, hr, e⟩ := Option.map_eq_some_iff.mp hf
  cases e
  unfold isXD at hr
  split at hr
  · rename_i c hd
    obtain ⟨b, hb, e⟩ := Option.map_eq_some_iff.mp hr
    subst e
    rw [hd] at hx
    simp only [Rep] at hx
    obtain ⟨a, xs, fs, hv, hx, hp, _⟩ := hx
    rcases hx with ⟨c', C, e1, e2, e3, e4⟩ | ⟨kvs, _, e1, _⟩ | ⟨kvs, _, e1, _⟩
    · subst e2
      simp only [RepP] at hp
      obtain ⟨y, r, f, g, e5, _, e6, _⟩ := hp
      simp only [Rep] at e6
      have ec : c' = c := by
        simp only [List.cons.injEq] at e5
        rw [e6.1] at e5
        exact V.str.inj e5.1
      subst ec
      obtain ⟨q1, q2⟩ := X _ (lk_mem hb) C e3
      exact ⟨a, C, .ref D, .ref D, b, by rw [hv], e4, q1, fun u hu => by cases hu; rfl, q2, hQ _ _ _ (pout_scal rfl)⟩
    · exfalso
      cases kvs with
      | nil => simp at e1
      | cons p r =>
        simp only [List.map_cons, List.map_nil, List.cons.injEq] at e1
        obtain ⟨k, w⟩ := p
        cases k <;> simp [keyD] at e1
    · exfalso
      cases kvs with
      | nil => simp at e1
      | cons p r =>
        simp at e1
  · cases hr
theorem spec_isX {D : Addr} {L : List (Str × Bool)} {te : TE} {a : ER} (X : ∀ p ∈ L, ∀ C, clsOf K p.1 = some C → ExcC K C ∧ PySem.W.kitOne K (.ref C) (.ref D) = some p.2) (ha : SpecE K W te a) : SpecE K W (tCB (rIsV K) (tCons te (tCons (tC (.ref D)) tNil))) (ePure1 (pIsX L) a) := spec_un (pure_isX X) ha
end
/-! ### evaluated -/
section
variable {env : Env}
theorem sW_ap (ws : List Nat) (f : SR) : sW ws f env = match f env with
  | .nx e => if noPar ws e then .nx (wipeE e ws) else .bad
  | .ct e => if noPar ws e then .ct (wipeE e ws) else .bad
  | o => o := nr rfl
theorem sWn_ap (ws : List Nat) (f : SR) : sWn ws f env = match f env with
  | .nx e => if noPar ws e then .nx (wipeE e ws) else .bad
  | o => o := nr rfl
theorem sTry_ap (i : Nat) (sub : List Str) (B S : SR) : sTry i sub B S env = match B env with
  | .exc c e => if sub.contains c && noPar [i] e && decide (i < e.length) then (match S (e.set i (some (excD c, .sh))) with
    | .nx e' => if noPar [i] e' then .nx (e'.set i none) else .bad
    | .rt d t e' => .rt d t e'
    | _ => .bad) else .bad
  | o => o := nr rfl
@[simp] theorem pIsX_exc (L : List (Str × Bool)) (c : Str) : pIsX L [excD c] = (L.lookup c).map fun b => (.bool b, .unq) := by
  show (isXD L (excD c)).map (fun r => (r, Tag.unq)) = _
  show ((L.lookup c).map PyData.bool).map (fun r => (r, Tag.unq)) = _
  rw [Option.map_map]; rfl
@[simp] theorem pIsN_exc (c : Str) : pIsN [excD c, .none] = some (.bool false, .unq) := nr rfl
@[simp] theorem pIsN_none : pIsN [.none, .none] = some (.bool true, .unq) := nr rfl
@[simp] theorem noMut_exc (c : Str) : noMut (excD c) = false := nr rfl
end
end VL
end
section
set_option Elab.async false
set_option linter.all false
set_option maxRecDepth 100000
set_option autoImplicit false
/-! defs that raise, as they stand in the text; the text's exception classes -/
namespace VL
open PySem PySem.Spec PyProof.Rows L2
/-- an own exception class of the text -/
structure ExF (K : PySem.W.Frag) (mg : Str → Option Value) (x : Str) : Prop where
  ex : ∃ C, mg x = some (.ref C) ∧ clsOf K x = some C ∧ PySem.W.excIn K C [.type "ValueError", .type "Exception", .type "BaseException", .type "object"] "ValueError.__new__" = true ∧ PySem.W.keepIn K (.ref C) = true ∧
    PySem.W.subIn K (.ref C) (.type "BaseException") = some true ∧ PySem.W.typeIn K (.ref C) = some (.type "type") ∧ ExcC K C
/-- isinstance of the one, of the other class -/
def KitF (K : PySem.W.Frag) (x y : Str) (b : Bool) : Prop := ∀ C D, clsOf K x = some C → clsOf K y = some D → PySem.W.kitOne K (.ref C) (.ref D) = some b ∧ PySem.W.exmOne K (.ref C) (.ref D) = some b
theorem clsOf_mk {K : PySem.W.Frag} {x : Str} {C : Addr} (a : PySem.W.nsIn K mainGlobals x = some (some (.ref C))) : clsOf K x = some C := by unfold clsOf; rw [a]
theorem exF_mk {K : PySem.W.Frag} {h : Heap} {mg : Str → Option Value} {x : Str} {C : Addr} (X : K.In h) (G : h.Ns mainGlobals mg) (a : PySem.W.nsIn K mainGlobals x = some (some (.ref C)))
    (e : PySem.W.excIn K C [.type "ValueError", .type "Exception", .type "BaseException", .type "object"] "ValueError.__new__" = true) (kp : PySem.W.keepIn K (.ref C) = true) (su : PySem.W.subIn K (.ref C) (.type "BaseException") = some true) (ty : PySem.W.typeIn K (.ref C) = some (.type "type"))
    (hg : PySem.W.findIn K (.ref C) "__getattribute__" = some (some (.builtin "BaseException.__getattribute__"))) (hk : PySem.W.findIn K (.ref C) "__getattr__" = some none) (hd : PySem.W.hasDictIn K C = true) (ha : PySem.W.findIn K (.ref C) "__class__" = some (some (.builtin "object.__class__")))
    (hn : PySem.W.specialIn K (.builtin "object.__class__") "__get__" = some (some (.builtin "getset_descriptor.__get__"))) (ht : PySem.W.takesIn K (.builtin "object.__class__") = some true) (hm : PySem.W.mroIn K C (.type "object") = some true) : ExF K mg x :=
  ⟨C, PySem.W.mg_of X G a, clsOf_mk a, e, kp, su, ty, hg, hk, su, hd, ha, hn, ht, hm⟩
theorem kit_ref {K : PySem.W.Frag} {C D : Addr} {b : Bool} (hdct : PySem.W.hasDictIn K D = true) (ht : PySem.W.typeIn K (.ref D) = some (.type "type")) (h4 : PySem.W.subIn K (.ref C) (.ref D) = some b) (hne : b = true ∨ (Value.ref C == Value.ref D) = false) : PySem.W.kitOne K (.ref C) (.ref D) = some b := by
  obtain ⟨cd, hc, _⟩ := PySem.W.any_some hdct
  have e2 : ((PySem.W.clsIn K D).isSome && PySem.W.typeIn K (.ref D) == some (.type "type")) = true := by rw [hc, ht] <;> rfl
  have key : PySem.W.kitCls K (.ref C) (.ref D) = some b := by
    show (if ((PySem.W.clsIn K D).isSome && PySem.W.typeIn K (.ref D) == some (.type "type")) = true then PySem.W.subIn K (.ref C) (.ref D) else none) = some b
    rw [if_pos e2]
    exact h4
  unfold PySem.W.kitOne
  split
  · rename_i h
    rcases hne with rfl | hne
    · rfl
    · rw [hne] at h; cases h
  · exact key
theorem kitF_mk {K : PySem.W.Frag} {x y : Str} {C D : Addr} {b : Bool} (a : PySem.W.nsIn K mainGlobals x = some (some (.ref C))) (a2 : PySem.W.nsIn K mainGlobals y = some (some (.ref D))) (hd : PySem.W.hasDictIn K D = true) (ht : PySem.W.typeIn K (.ref D) = some (.type "type"))
    (hs : PySem.W.subIn K (.ref D) (.type "BaseException") = some true) (h4 : PySem.W.subIn K (.ref C) (.ref D) = some b) (hne : b = true ∨ (Value.ref C == Value.ref D) = false) : KitF K x y b := fun C' D' h1 h2 => by
  rw [clsOf_mk a] at h1; cases h1
  rw [clsOf_mk a2] at h2; cases h2
  exact ⟨kit_ref hd ht h4 hne, PySem.W.exm_ref hs hd ht h4⟩
def AllKit (K : PySem.W.Frag) (mg : Str → Option Value) (y : Str) (L : List (Str × Bool)) : Prop := ∀ p ∈ L, ExF K mg p.1 ∧ KitF K p.1 y p.2
theorem allKit_nil {K : PySem.W.Frag} {mg : Str → Option Value} {y : Str} : AllKit K mg y [] := fun p hp => by cases hp
theorem allKit_cons {K : PySem.W.Frag} {mg : Str → Option Value} {x y : Str} {b : Bool} {L : List (Str × Bool)} (h : ExF K mg x) (k : KitF K x y b) (r : AllKit K mg y L) : AllKit K mg y ((x, b) :: L) := fun p hp => by
  rcases List.mem_cons.mp hp with rfl | hp
  · exact ⟨h, k⟩
  · exact r p hp
theorem isX_hyp {K : PySem.W.Frag} {mg : Str → Option Value} {y : Str} {D : Addr} {L : List (Str × Bool)} (hD : clsOf K y = some D) (A : AllKit K mg y L) : ∀ p ∈ L, ∀ C, clsOf K p.1 = some C → ExcC K C ∧ PySem.W.kitOne K (.ref C) (.ref D) = some p.2 := fun p hp C hC => by
  obtain ⟨⟨C', _, h2, _, _, _, _, h3⟩, k⟩ := A p hp
  rw [hC] at h2; cases h2
  exact ⟨h3, (k C D hC hD).1⟩
/-- .. in an except clause -/
def SubKit (K : PySem.W.Frag) (y : Str) (L : List Str) : Prop := ∀ c ∈ L, KitF K c y true
theorem subKit_nil {K : PySem.W.Frag} {y : Str} : SubKit K y [] := fun p hp => by cases hp
theorem subKit_cons {K : PySem.W.Frag} {x y : Str} {L : List Str} (k : KitF K x y true) (r : SubKit K y L) : SubKit K y (x :: L) := fun p hp => by
  rcases List.mem_cons.mp hp with rfl | hp
  · exact k
  · exact r p hp
theorem sub_hyp {K : PySem.W.Frag} {y : Str} {D : Addr} {L : List Str} (hD : clsOf K y = some D) (A : SubKit K y L) : ∀ c ∈ L, ∀ C, clsOf K c = some C → PySem.W.exmOne K (.ref C) (.ref D) = some true := fun c hc C hC => (A c hc C D hC hD).2
theorem k_isV {X : Cx} {K : PySem.W.Frag} (h : X.K = K) : CallR X (.builtin "isinstance") (rIsV K) := h ▸ call_isV
section
variable {X : Cx} {x m : Str} {C : Addr}
theorem ps_raiseC {W : L2.WX} {j : Nat} {p p2 pos pos' : Pos} (hc : X.calm = true) (tk : Takes X W) (g : X.mg x = some (.ref C)) (e : PySem.W.excIn X.K C [.type "ValueError", .type "Exception", .type "BaseException", .type "object"] "ValueError.__new__" = true) (kp : PySem.W.keepIn X.K (.ref C) = true)
    (su : PySem.W.subIn X.K (.ref C) (.type "BaseException") = some true) (ty : PySem.W.typeIn X.K (.ref C) = some (.type "type")) (hg : Gl X x) (hdb : (x == ("__debug__" : Str)) = false := by decide) :
    PS X (.Raise (some (.Call (.Name x p) [.Constant (.str m) j p2] [] pos)) none pos') (fun _ σ H => W (.ref C) none σ H) :=
  ps_raise hc tk (pmk_own PySem.F.excBase_ValueError e g kp (raises_own su ty) hg hdb)
end
/-- a def that may raise -/
structure OkX (P : Program) (w : World) (K : PySem.W.Frag) (mg : Str → Option Value) (base : Heap) (k : Nat) (x : Str) (ps : List Str) (sp : Sp) : Prop where
  ex : ∃ f fd, FnG P w K mg base (L2.CX P w) k f fd ps sp ∧ Binds K fd ps [] ∧ KwB fd ps ps (fun ws => ws) (fun zs => zs) ∧ mg x = some (.ref f) ∧ PySem.W.keepIn K (.ref f) = true ∧ ∃ oc od osl, K.lookup f = some ⟨oc, od, .func fd, osl⟩
section
variable {P : Program} {w : World} {K : PySem.W.Frag} {mg : Str → Option Value} {base : Heap} {k : Nat} {ps : List Str} {sp : Sp} {x : Str} {st : Stmt}
theorem okX_mk {N : List Str} (F : Has K mg x st) (S : FnScope N ps (defScope st)) (many : ∀ vs H Q E, sp vs H Q E → vs.length = ps.length)
    (b1 : ∀ (kV doc pm : Value) (an : Option Addr) (cdv ct : Value) (us : List Value), us.length = ps.length → bindArgs (PySem.W.fnOf x x (defArgs st) (defBody st) (defScope st) .none kV doc pm an cdv ct) ⟨us, []⟩ = pure (ps.zip us))
    (b2 : ∀ (kV doc pm : Value) (an : Option Addr) (cdv ct : Value) (us : List Value), us.length = ps.length → bindArgs (PySem.W.fnOf x x (defArgs st) (defBody st) (defScope st) .none kV doc pm an cdv ct) ⟨[], ps.zip us⟩ = pure (ps.zip us))
    (bd : ∀ (cdv : Value) (f : Addr) (A : Around) (outer : List PySem.Env) (s : Shared) (H : Hp) (vs : List V) (Q : VK) (E : XK), RoomG k (A.deeper (envOfC x (defScope st) s.heap.objs.size f cdv)) → sp vs H Q E → Takes (cxOf (L2.CX P w) P w K mg base N x (defScope st) f cdv A outer s H E) (fun cls d _ H => E cls d H) →
      ∃ t, PSs (cxOf (L2.CX P w) P w K mg base N x (defScope st) f cdv A outer s H E) (defBody st) t ∧ t { nx := fun _ H' => Q .non H', rt := Q } (L2.start N vs) H) : OkX P w K mg base (k + 1) x ps sp := by
  obtain ⟨f, fd, F, g⟩ := F
  refine ⟨f, fd, VL.Fun.okGX F S many fun cdv A outer s H vs Q E r h => bd cdv f A outer s H vs Q E r h (takes_of rfl rfl rfl rfl), F.binds b1, ⟨fun s ws hl => ?_, fun r => r⟩, g, F.kp, by
    obtain ⟨oc, od, kV, doc, pm, an, cdv, ct, osl, _, lk, _⟩ := F.ex
    exact ⟨oc, od, osl, lk⟩⟩
  obtain ⟨oc, od, kV, doc, pm, an, cdv, ct, osl, rfl, lk, hcd⟩ := F.ex
  exact .of_eq (b2 kV doc pm an cdv ct ws hl)
end
section
variable {X : Cx} {j k : Nat} {ps : List Str} {sp : Sp} {x : Str} {p pos : Pos} {e : Expr} {es : List Expr} {t : TA}
/-- .. called where it does not raise -/
theorem pe_okX0 (O : OkX X.prog X.w X.K X.mg X.base j x ps sp) (r : RoomG k X.A) (h : j ≤ k) (ha : PA X (e :: es) t) (hg : Gl X x := by rfl) (hdb : (x == ("__debug__" : Str)) = false := by decide)
    (he : starEach (e :: es) X.env = (false, eval e X.env) :: starEach es X.env := by rfl) (hpl : (backTo pos (starEach es X.env)).any (·.1) = false := by rfl) : PE X (.Call (.Name x p) (e :: es) [] pos) (tCall sp [] E0 t) := by
  obtain ⟨f, fd, F, b, _, m, kp, _⟩ := O.ex
  exact pe_callG F (r.mono h) hg m kp b passL ha hdb he hpl
theorem pe_okXK0 {kws : List Keyword} {tk : TA} (O : OkX X.prog X.w X.K X.mg X.base j x ps sp) (r : RoomG k X.A) (h : j ≤ k) (hkw : PK X kws tk) (hall : (backToKw pos (keywordEach kws X.env)).all (·.1.isSome) = true := by rfl) (hks : (backToKw pos (keywordEach kws X.env)).filterMap (·.1) = ps := by rfl)
    (hg : Gl X x := by rfl) (hdb : (x == ("__debug__" : Str)) = false := by decide) (hpl : ((backTo pos (starEach [] X.env)).any (·.1) || (backToKw pos (keywordEach kws X.env)).any (·.1.isNone)) = false := by rfl) :
    PE X (.Call (.Name x p) [] kws pos) (tCallKO sp (fun zs => zs) E0 tk) := by
  obtain ⟨f, fd, F, _, b, m, kp, _⟩ := O.ex
  exact pe_callGK F (r.mono h) hg m kp b passL hkw hall hks hdb hpl
/-- .. called where it may raise -/
theorem pe_okXS {W : L2.WX} (tk : Takes X W) (O : OkX X.prog X.w X.K X.mg X.base j x ps sp) (r : RoomG k X.A) (h : j ≤ k) (ha : PA X (e :: es) t) (hg : Gl X x := by rfl) (hdb : (x == ("__debug__" : Str)) = false := by decide)
    (he : starEach (e :: es) X.env = (false, eval e X.env) :: starEach es X.env := by rfl) (hpl : (backTo pos (starEach es X.env)).any (·.1) = false := by rfl) : PE X (.Call (.Name x p) (e :: es) [] pos) (tCallS sp (WE W) t) := by
  obtain ⟨f, fd, F, b, _, m, kp, _⟩ := O.ex
  exact pe_callGS F (r.mono h) hg m kp b (fun σ => passAt tk σ) ha hdb he hpl
end
end VL
end
section
set_option Elab.async false
set_option linter.all false
set_option maxRecDepth 100000
set_option autoImplicit false
/-! calls by keywords in another sequence -/
namespace VL
open PySem PySem.Spec PyProof.Rows L2
/-- the items told -/
def pk {α : Type} (ix : List Nat) (l : List α) : List α := ix.filterMap fun i => l[i]?
theorem pk_map {α β : Type} (f : α → β) (ix : List Nat) (l : List α) : pk ix (l.map f) = (pk ix l).map f := by
  unfold pk
  rw [List.map_filterMap]
  congr 1
  funext i
  simp
theorem vals_get {zs : List V} {ws : List Value} (h : Vals zs ws) (i : Nat) : (∃ z w, zs[i]? = some z ∧ ws[i]? = some w ∧ RelV z w) ∨ (zs[i]? = none ∧ ws[i]? = none) := by
  induction h generalizing i with
  | nil => exact .inr ⟨rfl, rfl⟩
  | cons r _ ih =>
    cases i with
    | zero => exact .inl ⟨_, _, rfl, rfl, r⟩
    | succ i => simpa using ih i
theorem pk_vals {zs : List V} {ws : List Value} (h : Vals zs ws) : ∀ ix : List Nat, Vals (pk ix zs) (pk ix ws)
  | [] => .nil
  | i :: ix => by
    have ih := pk_vals h ix
    unfold pk at *
    rw [List.filterMap_cons, List.filterMap_cons]
    rcases vals_get h i with ⟨z, w, h1, h2, r⟩ | ⟨h1, h2⟩
    · rw [h1, h2]; exact .cons r ih
    · rw [h1, h2]; exact ih
/-- an operand, what it holds, its entry -/
inductive OpT (σ : L2.St) : Opd → V → Option Ent → Prop
  | slot {i : Nat} {v : V} (h : σ[i]? = some (some v)) : OpT σ (.slot i) v none
  | val (e : Ent) : OpT σ (.val e.d e.t) e.v (some e)
theorem opsV_tri {σ : L2.St} : ∀ {os : List Opd} {es : List Ent} {vs : List V}, OpsV σ os es vs → ∃ l : List (Opd × V × Option Ent), l.map (·.1) = os ∧ l.map (·.2.1) = vs ∧ l.filterMap (·.2.2) = es ∧ ∀ t ∈ l, OpT σ t.1 t.2.1 t.2.2
  | [], es, vs, h => by
    obtain ⟨rfl, rfl⟩ := h
    exact ⟨[], rfl, rfl, rfl, fun t ht => by cases ht⟩
  | .slot i :: os, es, vs, h => by
    obtain ⟨v, r, e1, rfl, h⟩ := h
    obtain ⟨l, h1, h2, h3, h4⟩ := opsV_tri h
    refine ⟨(.slot i, v, none) :: l, by simp [h1], by simp [h2], by simp [h3], fun t ht => ?_⟩
    rcases List.mem_cons.mp ht with rfl | ht
    · exact .slot e1
    · exact h4 t ht
  | .val d t :: os, es, vs, h => by
    obtain ⟨e, r, s, rfl, rfl, rfl, rfl, h⟩ := h
    obtain ⟨l, h1, h2, h3, h4⟩ := opsV_tri h
    refine ⟨(.val e.d e.t, e.v, some e) :: l, by simp [h1], by simp [h2], by simp [h3], fun t ht => ?_⟩
    rcases List.mem_cons.mp ht with rfl | ht
    · exact .val e
    · exact h4 t ht
theorem tri_opsV {σ : L2.St} : ∀ {l : List (Opd × V × Option Ent)}, (∀ t ∈ l, OpT σ t.1 t.2.1 t.2.2) → OpsV σ (l.map (·.1)) (l.filterMap (·.2.2)) (l.map (·.2.1))
  | [], _ => ⟨rfl, rfl⟩
  | (o, v, e) :: l, h => by
    have ih := tri_opsV (l := l) fun t ht => h t (List.mem_cons_of_mem _ ht)
    have h0 := h (o, v, e) (List.mem_cons_self ..)
    cases h0 with
    | slot q => exact ⟨v, l.map (·.2.1), q, rfl, by simpa using ih⟩
    | val e => exact ⟨e, l.map (·.2.1), l.filterMap (·.2.2), by simp, rfl, rfl, rfl, ih⟩
theorem fm_range {α : Type} : ∀ (l : List α), (List.range l.length).filterMap (fun i => l[i]?) = l
  | [] => rfl
  | a :: l => by
    rw [List.length_cons, List.range_succ_eq_map, List.filterMap_cons]
    simp only [List.getElem?_cons_zero, List.filterMap_map]
    congr 1
    have := fm_range l
    simpa [Function.comp_def] using this
theorem pk_perm {α : Type} {l : List α} {ix : List Nat} (h : ix.Perm (List.range l.length)) : (pk ix l).Perm l := by
  have h1 : (pk ix l).Perm (pk (List.range l.length) l) := h.filterMap _
  rw [show pk (List.range l.length) l = l from fm_range l] at h1
  exact h1
theorem pk_opsV {σ : L2.St} {os : List Opd} {es : List Ent} {vs : List V} {ix : List Nat} (h : OpsV σ os es vs) (p : ix.Perm (List.range os.length)) : ∃ es', es'.Perm es ∧ OpsV σ (pk ix os) es' (pk ix vs) := by
  obtain ⟨l, rfl, rfl, rfl, h4⟩ := opsV_tri h
  have q := pk_perm (l := l) (ix := ix) (by simpa using p)
  refine ⟨(pk ix l).filterMap (·.2.2), q.filterMap _, ?_⟩
  rw [pk_map, pk_map]
  exact tri_opsV fun t ht => h4 t (q.mem_iff.mp ht)
section
variable {K : PySem.W.Frag} {W : WV}
def tPk (ix : List Nat) (t : TA) : TA := fun σ H Q => t σ H fun zs H2 => Q (pk ix zs) H2
def aPk (ix : List Nat) (a : AR) : AR := fun env => (a env).bind fun p => if ix.Perm (List.range p.1.length) then .ok (pk ix p.1, p.2) else .bad
theorem spec_pk {t : TA} {a : AR} (ix : List Nat) (ha : SpecA K W t a) : SpecA K W (tPk ix t) (aPk ix a) := fun F G R σ H Q hK n h => by
  refine ha F G R σ H _ hK n ?_
  simp only [aPk] at h
  cases e1 : a (envOf G) with
  | bad => rw [e1] at h; exact h
  | exc c env => rw [e1] at h; exact h
  | ok p =>
    obtain ⟨os, env1⟩ := p
    rw [e1] at h
    simp only [Res.bind] at h
    split at h
    · rename_i hp
      intro G1 H1 es vs g1 n1 w
      obtain ⟨es', q1, q2⟩ := pk_opsV w hp
      exact h G1 H1 es' (pk ix vs) g1 (n1.perm q1.symm) q2
    · exact h.elim
theorem tKO_eq {sp : Sp} {ix : List Nat} {E : XK} {T : TA} : tCallKO sp (pk ix) E T = tCall sp [] E (tPk ix T) := by
  unfold tCallKO tCall tPk
  funext σ H Q
  congr 1
  funext vs H1
  show _ = sp (pk ix vs ++ []) H1 Q E
  rw [List.append_nil]
theorem spec_callKP {par : Bool} {m : Nat} {fn : Fn} {E : XK} {T : TA} {a : AR} (ix : List Nat) (ha : SpecA K W T a) : SpecE K W (tCallKO (spV K par m fn) (pk ix) E T) (eCall par m fn (aPk ix a)) := by
  rw [tKO_eq]; exact spec_call (spec_pk ix ha)
theorem spec_callNKP {m : Nat} {fn : Fn} {E : XK} {T : TA} {a : AR} (ix : List Nat) (ha : SpecA K WF T a) : SpecE K WF (tCallKO (spV K false m fn) (pk ix) E T) (eCallX m fn (aPk ix a)) := by
  rw [tKO_eq]; exact spec_callN (spec_pk ix ha)
theorem spec_callX0KP {m : Nat} {fn : Fn} {E : XK} {T : TA} {a : AR} (ix : List Nat) (ha : SpecA K WF T a) : SpecE K WF (tCallKO (spX K m fn) (pk ix) E T) (eCallX m fn (aPk ix a)) := by
  rw [tKO_eq]; exact spec_callX0 (spec_pk ix ha)
@[simp] theorem aPk_ap (ix : List Nat) (a : AR) (env : Env) : aPk ix a env = (a env).bind fun p => if ix.Perm (List.range p.1.length) then .ok (pk ix p.1, p.2) else .bad := nr rfl
@[simp] theorem pk_10 {α : Type} (a b : α) : pk [1, 0] [a, b] = [b, a] := nr rfl
@[simp] theorem pk_210 {α : Type} (a b c : α) : pk [2, 1, 0] [a, b, c] = [c, b, a] := nr rfl
@[simp] theorem perm_10 : [1, 0].Perm (List.range 2) := by decide
@[simp] theorem perm_210 : [2, 1, 0].Perm (List.range 3) := by decide
end
section
variable {X : Cx} {j k : Nat} {ps : List Str} {sp : Sp} {x : Str} {p pos : Pos} {st : Stmt}
/-- keywords in another sequence: the parameter i is keyword ix i -/
theorem kw_pk {K : PySem.W.Frag} {mg : Str → Option Value} {f f2 : Addr} {fd : FuncData} {ks : List Str} (ix : List Nat) (F : Has K mg x st) (hm : mg x = some (.ref f)) (lk : ∃ oc od osl, K.lookup f = some ⟨oc, od, .func fd, osl⟩)
    (b : ∀ (kV doc pm : Value) (an : Option Addr) (cdv ct : Value) (ws : List Value), (pk ix ws).length = ps.length → bindArgs (PySem.W.fnOf x x (defArgs st) (defBody st) (defScope st) .none kV doc pm an cdv ct) ⟨[], ks.zip ws⟩ = pure (ps.zip (pk ix ws))) : KwB fd ps ks (pk ix) (pk ix) := by
  obtain ⟨f', fd', F, g⟩ := F
  obtain ⟨oc, od, kV, doc, pm, an, cdv, ct, osl, rfl, l1, _⟩ := F.ex
  rw [hm] at g; cases g
  obtain ⟨oc2, od2, osl2, l2⟩ := lk
  rw [l1] at l2; cases l2
  exact ⟨fun s ws hl => .of_eq (b kV doc pm an cdv ct ws hl), fun r => pk_vals r ix⟩
theorem pe_okKP {ks : List Str} {kws : List Keyword} {tk : TA} (ix : List Nat) (F : Has X.K X.mg x st) (b : ∀ (kV doc pm : Value) (an : Option Addr) (cdv ct : Value) (ws : List Value), (pk ix ws).length = ps.length → bindArgs (PySem.W.fnOf x x (defArgs st) (defBody st) (defScope st) .none kV doc pm an cdv ct) ⟨[], ks.zip ws⟩ = pure (ps.zip (pk ix ws)))
    (O : OkD X.prog X.w X.K X.mg X.base j x ps sp) (r : RoomG k X.A) (h : j ≤ k) (hkw : PK X kws tk) (hall : (backToKw pos (keywordEach kws X.env)).all (·.1.isSome) = true := by rfl) (hks : (backToKw pos (keywordEach kws X.env)).filterMap (·.1) = ks := by rfl)
    (hg : Gl X x := by rfl) (hdb : (x == ("__debug__" : Str)) = false := by decide) (hpl : ((backTo pos (starEach [] X.env)).any (·.1) || (backToKw pos (keywordEach kws X.env)).any (·.1.isNone)) = false := by rfl) :
    PE X (.Call (.Name x p) [] kws pos) (tCallKO sp (pk ix) E0 tk) := by
  obtain ⟨f, fd, G, _, _, m, kp, lk⟩ := O.ex
  exact pe_callGK G (r.mono h) hg m kp (kw_pk (f2 := f) ix F m lk b) pass0 hkw hall hks hdb hpl
theorem pe_okXKP {ks : List Str} {kws : List Keyword} {tk : TA} (ix : List Nat) (F : Has X.K X.mg x st) (b : ∀ (kV doc pm : Value) (an : Option Addr) (cdv ct : Value) (ws : List Value), (pk ix ws).length = ps.length → bindArgs (PySem.W.fnOf x x (defArgs st) (defBody st) (defScope st) .none kV doc pm an cdv ct) ⟨[], ks.zip ws⟩ = pure (ps.zip (pk ix ws)))
    (O : OkX X.prog X.w X.K X.mg X.base j x ps sp) (r : RoomG k X.A) (h : j ≤ k) (hkw : PK X kws tk) (hall : (backToKw pos (keywordEach kws X.env)).all (·.1.isSome) = true := by rfl) (hks : (backToKw pos (keywordEach kws X.env)).filterMap (·.1) = ks := by rfl)
    (hg : Gl X x := by rfl) (hdb : (x == ("__debug__" : Str)) = false := by decide) (hpl : ((backTo pos (starEach [] X.env)).any (·.1) || (backToKw pos (keywordEach kws X.env)).any (·.1.isNone)) = false := by rfl) :
    PE X (.Call (.Name x p) [] kws pos) (tCallKO sp (pk ix) E0 tk) := by
  obtain ⟨f, fd, G, _, _, m, kp, lk⟩ := O.ex
  exact pe_callGK G (r.mono h) hg m kp (kw_pk (f2 := f) ix F m lk b) passL hkw hall hks hdb hpl
end
end VL
end
section
set_option Elab.async false
set_option linter.all false
set_option maxRecDepth 100000
set_option autoImplicit false
/-! sorted(x), x a list or a tuple of data that are alike -/
namespace VL
open PySem PySem.Spec PyProof.Rows L2
section
variable {prog : Program} {w : World} {A : Around} {E : Value → Shared → Prop} {s : Shared}
theorem collect_tup {l : Addr} {vs : List Value} {Q : List Value → Shared → Prop} (hl : s.heap.IsTuple l vs.toArray)
    (h : Q vs { s with heap := (s.heap.push (seqObj "list" #[] 0)).update s.heap.objs.size (Obj.mapSeq (· ++ vs.toArray)) }) (hsz : vs.length ≤ sizeLine) :
    wpAny (model prog w) A (collect (.ref l)) Q E s := by
  obtain ⟨o, ho, hc, n, hd⟩ := id hl
  unfold collect
  refine wpAny_bind (wpAny_runValue (codeAny_builtin entry_proto_collect' ?_))
  show wpAny _ _ (do again (.builtin "list.__iadd__" ⟨[← newList [], .ref l], []⟩)) _ _ s
  refine wpAny_bind (wpAny_newList (wpAny_pure ⟨Code.quiet_builtin _ (by decide +kernel), codeAny_builtin entry_list_iadd' ?_⟩))
  show wpAny _ _ (Builtin.List.listExtendWith (.ref s.heap.objs.size) (.ref l) (.ref s.heap.objs.size)) _ _ { s with heap := s.heap.push (seqObj "list" #[] 0) }
  unfold Builtin.List.listExtendWith
  have ho' : (s.heap.push (seqObj "list" #[] 0)).get? l = some o := Heap.get?_push_of_some _ ho
  refine wpAny_bind (wpAny_typeOf (T := "tuple") ⟨o, ho', hc⟩ ?_)
  have ht : (Value.type "tuple" == Value.type "tuple") = true := by rfl
  rw [if_pos (by rw [ht]; simp)]
  refine wpAny_bind (listItems_at ho' hd ?_)
  refine wpAny_bind (listItems_at (xs := #[]) (n := 0) (Heap.get?_push_size _ rfl) rfl ?_)
  rw [if_neg (by simp)]
  refine wpAny_bind (listUpdate_at (xs := #[]) (n := 0) (Heap.get?_push_size _ rfl) rfl ?_ (Nat.zero_le _) (by show (#[] ++ vs.toArray).size ≤ sizeLine + 1; simp only [Array.size_append, List.size_toArray, List.length_nil]; omega))
  refine wpAny_pure ?_
  show wpAny (model prog w) A (do
      let o ← load s.heap.objs.size
      match o.data with
      | .seq xs _ => pure xs.toList
      | _ => unsupported "internal:collect") Q E { s with heap := (s.heap.push (seqObj "list" #[] 0)).update s.heap.objs.size (Obj.mapSeq (· ++ vs.toArray)) }
  refine wpAny_bind (wpAny_load (get?_update_seq (Heap.get?_push_size _ rfl) _) ?_)
  show wpAny _ _ (pure ((#[] : Array Value) ++ vs.toArray).toList) Q E _
  rw [show ((#[] : Array Value) ++ vs.toArray).toList = vs by simp]
  exact wpAny_pure h
/-- sorted(x) is list.sort() on a new list of x's items -/
theorem sorted_of_sortA {l : Addr} {vs : List Value} {Q : Value → Shared → Prop} (hl : s.heap.IsList l vs.toArray ∨ s.heap.IsTuple l vs.toArray) (hL : vs.length ≤ sizeLine)
    (body : ∀ E' : Value → Shared → Prop, wpAny (model prog w) A.in1.in1 (Builtin.«list.sort» ⟨[.ref (s.heap.objs.size + 1)], []⟩) (fun f s' => f = .done (.ret .none) ∧ Q (.ref (s.heap.objs.size + 1)) s') E' { s with heap := PySem.W.copyHeap s.heap vs }) :
    wpAny (model prog w) A (call (.builtin "sorted") [.ref l]) Q E s := by
  refine call_function_entry_kw kind_sorted plain_sorted entry_sorted (args_sorted1 _) ?_
  unfold Builtin.«sorted»
  refine wpAny_bind (m := checkCount "sorted" 1 1 _) (wpAny_pure ?_)
  have go : wpAny (model prog w) A.in1 (collect (.ref l)) (fun xs s' => xs = vs ∧ s' = { s with heap := (s.heap.push (seqObj "list" #[] 0)).update s.heap.objs.size (Obj.mapSeq (· ++ vs.toArray)) }) E s := by
    rcases hl with hl | hl
    · exact collect_list hl ⟨rfl, rfl⟩ hL
    · exact collect_tup hl ⟨rfl, rfl⟩ hL
  refine wpAny_bind (wpAny_mono go (fun xs s' hx => ?_) fun _ _ e => e)
  obtain ⟨rfl, rfl⟩ := hx
  refine wpAny_bind (wpAny_newList ?_ hL)
  have hsz : ((s.heap.push (seqObj "list" #[] 0)).update s.heap.objs.size (Obj.mapSeq (· ++ xs.toArray))).objs.size = s.heap.objs.size + 1 := by
    rw [Heap.size_update, size_push']
  show wpAny _ _ _ _ _ { s with heap := PySem.W.copyHeap s.heap xs }
  rw [hsz]
  refine wpAny_bind (wpAny_holding (wpAny_call_entry_kw slot_list_sort ⟨_, PySem.W.copyHeap_at s.heap xs, rfl⟩ entry_list_sort ?body (args_list_sort _)))
  case body =>
    show wpAny (model prog w) A.in1.in1 (Builtin.«list.sort» ⟨[.ref (s.heap.objs.size + 1)], []⟩) _ _ _
    refine wpAny_mono (body _) (fun f s' hf => ?_) fun _ _ e => e
    obtain ⟨rfl, hq⟩ := hf
    exact ⟨_, rfl, wpAny_pure ⟨_, rfl, hq⟩⟩
theorem sorted_dataA {β : Type} {R : Value → β → Prop} {enc : β → PyData} {vs : List Value} {bs : List β} {l : Addr} {Q : Value → Shared → Prop} (hl : s.heap.IsList l vs.toArray ∨ s.heap.IsTuple l vs.toArray) (e : PySem.W.EachIs R vs bs) (er : PySem.W.EachIs (fun v b => ∃ as, Reads s.heap v (enc b) as) vs bs)
    (hal : PySem.W.AllAlike (bs.map enc)) (hk : PySem.W.Sortable (bs.map enc)) (hL : bs.length ≤ sizeLine)
    (hu : ∀ b, b ∈ bs → A.units + 2 + (enc b).depth < cLine) (h : ∀ out, out.length = bs.length → PySem.W.EachIs R out (bs.mergeSort (PySem.W.dataLe false enc)) → Q (.ref (s.heap.objs.size + 1)) { s with heap := sortedAll s.heap vs (List.toArray out) }) :
    wpAny (model prog w) A (call (.builtin "sorted") [.ref l]) Q E s := by
  have er' : PySem.W.EachIs (fun v b => ∃ as, Reads (PySem.W.sortingHeap (PySem.W.copyHeap s.heap vs) (s.heap.objs.size + 1) vs) v (enc b) as) vs bs := er.mono fun _ _ ⟨as, r⟩ => ⟨as, PyProof.Rows.Reads.keeps (fun _ _ => PySem.W.sorting_copy_old) r⟩
  have hL' : vs.length ≤ sizeLine := by rw [e.length]; exact hL
  refine sorted_of_sortA hl hL' fun E' => PySem.W.list_sort_vals (s := { s with heap := PySem.W.copyHeap s.heap vs }) (PySem.W.copyHeap_at s.heap vs)
    (PySem.W.SortsAt.data (s := { s with heap := PySem.W.sortingHeap (PySem.W.copyHeap s.heap vs) (s.heap.objs.size + 1) vs }) (PySem.W.each_map (R := fun v d => ∃ as, Reads (PySem.W.sortingHeap (PySem.W.copyHeap s.heap vs) (s.heap.objs.size + 1) vs) v d as) enc er') hal hk (PySem.W.bound_map hu)) hL' ⟨rfl, ?_⟩
  exact h _ (by rw [PySem.W.sortVals_length false rfl]; exact e.length) (PySem.W.sortVals_data false e er' hal)
end
/-! ### over the layer -/
/-- by the order of data -/
def leD (d e : D) : Bool := PySem.W.dataLe false (fun x : D => x) d e
def alikeB (ds : List D) : Bool := ds.all fun d => ds.all fun e => PySem.W.alike d e
def isTup1 : D → Bool
  | .tuple (_ :: _) => true
  | _ => false
def notTN : D → Bool
  | .none => false
  | .tuple _ => false
  | _ => true
def sortOk (ds : List D) : Bool := alikeB ds && ((ds.all isTup1 || ds.all notTN) && decide (PyData.depthAll ds ≤ 50))
section
variable {X : Cx} {H : Hp}
/-- the items with what they stand for, sorted -/
def rSortedD (K : PySem.W.Frag) : List V → Hp → VK → Prop := fun vs H Q => ∃ (a : Addr) (bs : List (V × D)), vs = [V.ref a] ∧ (SqL K H a (bs.map (·.1)) ∨ SqT K H a (bs.map (·.1))) ∧ (∀ b ∈ bs, Dp K H b.1 b.2) ∧ sortOk (bs.map (·.2)) = true ∧
  ∀ (p : Addr), H p = none → Q (.ref p) (upd H p (.lst ((bs.mergeSort fun b c => leD b.2 c.2).map (·.1))))
theorem depth_mem : ∀ {ds : List D} {d : D}, d ∈ ds → d.depth ≤ PyData.depthAll ds
  | d :: ds, e, h => by
    simp only [PyData.depthAll]
    rcases List.mem_cons.mp h with rfl | h
    · omega
    · have := depth_mem h; omega
theorem each_of_vals : ∀ {bs : List (V × D)} {us : List Value}, Vals (bs.map (·.1)) us → PySem.W.EachIs (fun u b => RelV b.1 u) us bs
  | [], us, h => by cases h; exact .nil
  | b :: bs, us, h => by
    cases h with
    | cons r h => exact .cons r (each_of_vals h)
theorem vals_of_each : ∀ {bs : List (V × D)} {us : List Value}, PySem.W.EachIs (fun u b => RelV b.1 u) us bs → Vals (bs.map (·.1)) us
  | _, _, .nil => .nil
  | _, _, .cons r h => .cons r (vals_of_each h)
theorem each_reads {pins : List (Addr × Obj)} {σ : L2.St} {s : Shared} (I : L2.Inv X pins σ H s) : ∀ {bs : List (V × D)} {us : List Value}, Vals (bs.map (·.1)) us → (∀ b ∈ bs, Dp X.K H b.1 b.2) → PySem.W.EachIs (fun u b => ∃ as, Reads s.heap u b.2 as) us bs
  | [], us, h, _ => by cases h; exact .nil
  | b :: bs, us, h, k => by
    cases h with
    | cons r h => exact .cons (Dp.reads I b.2 b.1 _ (k b (List.mem_cons_self ..)) r) (each_reads I h fun c hc => k c (List.mem_cons_of_mem _ hc))
theorem cr_sortedD (hu : X.A.units + 64 < cLine) : CallR X (.builtin "sorted") (rSortedD X.K) := by
  intro pins s σ H vs us Q I r h
  obtain ⟨a, bs, rfl, hs, hd, ho, q⟩ := h
  rw [Vals.ref1 r]
  have key : ∃ its : List Value, Vals (bs.map (·.1)) its ∧ (s.heap.IsList a its.toArray ∨ s.heap.IsTuple a its.toArray) ∧ (bs.map (·.1)).length ≤ sizeLine := by
    rcases hs with hs | hs
    · obtain ⟨its, rv, hl, hz⟩ := I.list hs
      exact ⟨its, rv, .inl hl.isList, hz⟩
    · obtain ⟨its, rv, hl, hz⟩ := I.tuple hs
      exact ⟨its, rv, .inr hl, hz⟩
  obtain ⟨its, rv, hl, hz⟩ := key
  simp only [sortOk, Bool.and_eq_true] at ho
  obtain ⟨ho1, ho2, ho3⟩ := ho
  have ho3 := of_decide_eq_true ho3
  have hal : PySem.W.AllAlike (bs.map (·.2)) := fun d hd d' hd' => List.all_eq_true.mp (List.all_eq_true.mp ho1 d hd) d' hd'
  have hk : PySem.W.Sortable (bs.map (·.2)) := by
    rcases Bool.or_eq_true_iff.mp ho2 with z | z
    · left
      intro d hd
      have := List.all_eq_true.mp z d hd
      unfold isTup1 at this
      split at this
      · exact ⟨_, _, rfl⟩
      · cases this
    · right
      intro d hd
      have := List.all_eq_true.mp z d hd
      unfold notTN at this
      split at this
      · cases this
      · cases this
      · rename_i h1 h2
        exact ⟨h1, h2⟩
  refine sorted_dataA (β := V × D) (R := fun u b => RelV b.1 u) (enc := fun b => b.2) hl (each_of_vals rv) (each_reads I rv hd) hal hk (by simpa using hz) (fun b hb => ?_) fun out h1 h2 => ?_
  · have := depth_mem (List.mem_map_of_mem (f := (·.2)) hb)
    show X.A.units + 2 + b.2.depth < cLine
    omega
  · have hp : (bs.mergeSort (PySem.W.dataLe false (·.2))).Perm bs := List.mergeSort_perm ..
    have e0 : bs.mergeSort (fun b c => leD b.2 c.2) = bs.mergeSort (PySem.W.dataLe false (·.2)) := rfl
    obtain ⟨ep, he'⟩ := PyProof.Rows.sortedAll_at s.heap its out.toArray
    have hlen : ((bs.mergeSort (fun b c => leD b.2 c.2)).map (·.1)).length ≤ sizeLine := by
      rw [e0, List.length_map, hp.length_eq]
      simpa using hz
    refine ⟨.ref _, upd H (s.heap.objs.size + 1) (.lst ((bs.mergeSort fun b c => leD b.2 c.2).map (·.1))), I.laid (t' := s.toks) (fun _ _ => PyProof.Rows.sortedAll_old) (Nat.le_succ _) ⟨hlen, out, ep, ?_, he'⟩, rfl, q _ (I.hok.fresh (Nat.le_succ _))⟩
    rw [e0]
    exact vals_of_each h2
end
end VL
end
section
set_option Elab.async false
set_option linter.all false
set_option maxRecDepth 100000
set_option autoImplicit false
/-! sorted, factorial .. over the value layer -/
namespace VL
open PySem PySem.Spec PyProof.Rows L2
section
variable {K : PySem.W.Frag} {W : WV} {F : Frm} {H : Hp}
theorem RepL.zipD : ∀ {ds : List D} {xs : List V} {fs : List Addr}, RepL K H ds xs fs → ∃ bs : List (V × D), bs.map (·.1) = xs ∧ bs.map (·.2) = ds
  | [], xs, fs, h => by simp only [RepL] at h; exact ⟨[], h.1.symm, rfl⟩
  | d :: ds, xs, fs, h => by
    simp only [RepL] at h
    obtain ⟨x, r, f, g, rfl, rfl, h1, h2⟩ := h
    obtain ⟨bs, e1, e2⟩ := RepL.zipD h2
    exact ⟨(x, d) :: bs, by simp [e1], by simp [e2]⟩
theorem RepL.each : ∀ {bs : List (V × D)} {fs : List Addr}, RepL K H (bs.map (·.2)) (bs.map (·.1)) fs → ∀ b ∈ bs, ∃ f, Rep K H b.2 b.1 f ∧ ∀ c ∈ f, c ∈ fs
  | [], fs, h, b, hb => by cases hb
  | c :: bs, fs, h, b, hb => by
    simp only [List.map_cons, RepL] at h
    obtain ⟨x, r, f, g, e, rfl, h1, h2⟩ := h
    rw [List.cons.injEq] at e
    obtain ⟨rfl, rfl⟩ := e
    rcases List.mem_cons.mp hb with rfl | hb
    · exact ⟨f, h1, fun c hc => List.mem_append_left _ hc⟩
    · obtain ⟨f', k1, k2⟩ := RepL.each h2 b hb
      exact ⟨f', k1, fun c hc => List.mem_append_right _ (k2 c hc)⟩
theorem RepL.of_each {fs : List Addr} : ∀ {bs : List (V × D)}, (∀ b ∈ bs, ∃ f, Rep K H b.2 b.1 f ∧ ∀ c ∈ f, c ∈ fs) → ∃ gs, RepL K H (bs.map (·.2)) (bs.map (·.1)) gs ∧ ∀ c ∈ gs, c ∈ fs
  | [], _ => ⟨[], RepL.nil, fun c hc => by cases hc⟩
  | b :: bs, h => by
    obtain ⟨f, h1, h2⟩ := h b (List.mem_cons_self ..)
    obtain ⟨g, h3, h4⟩ := RepL.of_each (bs := bs) fun c hc => h c (List.mem_cons_of_mem _ hc)
    refine ⟨f ++ g, RepL.cons h1 h3, fun c hc => ?_⟩
    rcases List.mem_append.mp hc with hc | hc
    · exact h2 c hc
    · exact h4 c hc
/-! ### sorted -/
def sortD (d : D) : Option (D × Tag) := (seqOf d).bind fun ds => if sortOk ds && PyData.plainAll ds then some (.list (ds.mergeSort leD), lTag (ds.mergeSort leD)) else none
def pSorted : PF := pf1 sortD
theorem dpAll_each : ∀ {bs : List (V × D)}, DpAll K H (bs.map (·.1)) (bs.map (·.2)) → ∀ b ∈ bs, Dp K H b.1 b.2
  | [], h, b, hb => by cases hb
  | c :: bs, h, b, hb => by
    cases h with
    | cons h1 h2 =>
      rcases List.mem_cons.mp hb with rfl | hb
      · exact h1
      · exact dpAll_each h2 b hb
theorem pure_sorted : PureR K (rSortedD K) pSorted := pureC1_of fun H x d t Q hx hf hQ => by
  obtain ⟨ds, h1, h2⟩ := Option.bind_eq_some_iff.mp hf
  split at h2
  · rename_i hc
    rw [Bool.and_eq_true] at hc
    cases h2
    have key : ∃ a xs fs, x.v = .ref a ∧ (SqL K H a xs ∨ SqT K H a xs) ∧ RepL K H ds xs fs ∧ ∀ b ∈ fs, b ∈ inn x.d x.fp := by
      unfold seqOf at h1
      split at h1
      · rename_i a e1
        cases h1
        obtain ⟨p, xs, fs, v1, r1, l1, s1⟩ := ent_lst e1 hx
        exact ⟨p, xs, fs, v1, .inl (.inl r1), l1, s1⟩
      · rename_i a e1
        cases h1
        obtain ⟨p, xs, v1, r1, l1, s1⟩ := ent_tup e1 hx
        exact ⟨p, xs, x.fp, v1, .inr r1, l1, s1⟩
      · cases h1
    obtain ⟨a, xs, fs, v1, r1, l1, s1⟩ := key
    obtain ⟨bs, rfl, rfl⟩ := l1.zipD
    have hp : (bs.mergeSort fun b c => leD b.2 c.2).Perm bs := List.mergeSort_perm ..
    have e2 : (bs.mergeSort fun b c => leD b.2 c.2).map (·.2) = (bs.map (·.2)).mergeSort leD := List.map_mergeSort fun _ _ _ _ => rfl
    obtain ⟨gs, g1, g2⟩ := RepL.of_each (K := K) (H := H) (fs := fs) (bs := bs.mergeSort fun b c => leD b.2 c.2) fun b hb => l1.each b (hp.mem_iff.mp hb)
    rw [e2] at g1
    refine ⟨a, bs, by rw [v1], r1, dpAll_each (repL_dp _ _ _ hc.2 l1), hc.1, fun p hp0 => hQ _ _ _ (pout_lst hp0 g1 fun b hb => ⟨x, by simp, s1 b (g2 b hb)⟩)⟩
  · cases h2
theorem k_sorted {X : Cx} {K : PySem.W.Frag} (h : X.K = K) (hu : X.A.units + 64 < cLine) : CallR X (.builtin "sorted") (rSortedD K) := h ▸ cr_sortedD hu
/-! ### factorial -/
def factD (d : D) : Option D := match d with
  | .int n => if decide (0 ≤ n) && decide (n ≤ 20000) then some (.int ((Builtin.Math.factorialNat n.toNat : Nat) : Int)) else none
  | _ => none
def pFact : PF := ps1 factD
def rFact : List V → Hp → VK → Prop := fun vs H Q => ∃ n : Int, vs = [.int n] ∧ 0 ≤ n ∧ n ≤ 20000 ∧ Q (.int ((Builtin.Math.factorialNat n.toNat : Nat) : Int)) H
theorem cr_fact {X : Cx} : CallR X (.builtin "math.factorial") rFact := by
  intro pins s σ H vs us Q I r h
  obtain ⟨n, rfl, h0, h1, q⟩ := h
  obtain ⟨u, rfl, ru⟩ := vals1 r
  obtain ⟨t, rfl⟩ := ru
  exact PySem.W.mc_factorial h0 h1 fun _ => ⟨.int _, H, I.tok _, ⟨_, rfl⟩, q⟩
theorem pure_fact : PureR K rFact pFact := pureC1_of fun H x d t Q hx hf hQ => by
  obtain ⟨r, hr, e⟩ := Option.map_eq_some_iff.mp hf
  cases e
  unfold factD at hr
  split at hr
  · rename_i n hn
    split at hr
    · rename_i hc
      rw [Bool.and_eq_true] at hc
      cases hr
      exact ⟨n, by rw [rep_intV hx hn], of_decide_eq_true hc.1, of_decide_eq_true hc.2, hQ _ _ _ (pout_scal rfl)⟩
    · cases hr
  · cases hr
theorem pe_callM {X : Cx} {x : Str} {p pos : Pos} {e : Expr} {es : List Expr} {t : TA} {id : String} {r : List V → Hp → VK → Prop} (hc : CallR X (.builtin id) r) (hg : Gl X x) (hm : X.mg x = some (.builtin id)) (ha : PA X (e :: es) t) (hdb : (x == ("__debug__" : Str)) = false := by decide)
    (he : starEach (e :: es) X.env = (false, eval e X.env) :: starEach es X.env := by rfl) (hpl : (backTo pos (starEach es X.env)).any (·.1) = false := by rfl) : PE X (.Call (.Name x p) (e :: es) [] pos) (tCB r t) := L2.pe_callBfun hc hg hm ha hdb he hpl
theorem mg_mk {K : PySem.W.Frag} {h : Heap} {mg : Str → Option Value} {x : Str} {v : Value} (X : K.In h) (G : h.Ns mainGlobals mg) (a : PySem.W.nsIn K mainGlobals x = some (some v)) : mg x = some v := PySem.W.mg_of X G a
end
/-! ### evaluated -/
theorem leD_int (a b : Int) : leD (.int a) (.int b) = decide (a ≤ b) := congrFun (congrFun (PySem.W.dataLe_int (β := Int) id) a) b
theorem alikeB_ints (ns : List Int) : alikeB (dInts ns) = true := by
  unfold alikeB dInts
  simp [List.all_map, PySem.W.alike]
theorem depthAll_ints : ∀ ns : List Int, PyData.depthAll (dInts ns) = 0 := fun ns => PySem.W.depth_ints ns
theorem sortOk_ints (ns : List Int) : sortOk (dInts ns) = true := by
  unfold sortOk
  rw [alikeB_ints, depthAll_ints]
  have : (dInts ns).all notTN = true := by
    unfold dInts
    simp [List.all_map, notTN]
  rw [this]; simp
theorem plainAll_ints : ∀ ns : List Int, PyData.plainAll (dInts ns) = true
  | [] => rfl
  | n :: ns => by
    have := plainAll_ints ns
    simp only [dInts, List.map_cons, PyData.plainAll, PyData.plain, Bool.true_and] at this ⊢
    exact this
def isort (ns : List Int) : List Int := ns.mergeSort fun a b => decide (a ≤ b)
theorem sort_dInts (ns : List Int) : (dInts ns).mergeSort leD = dInts (isort ns) := by
  unfold dInts isort
  exact (List.map_mergeSort fun a _ b _ => (leD_int a b).symm).symm
@[simp] theorem pSorted_lst (ns : List Int) : pSorted [.list (dInts ns)] = some (.list (dInts (isort ns)), .unq) := by
  simp [pSorted, pf1, sortD, seqOf, sortOk_ints, plainAll_ints, sort_dInts]
@[simp] theorem pSorted_tup (ns : List Int) : pSorted [.tuple (dInts ns)] = some (.list (dInts (isort ns)), .unq) := by
  simp [pSorted, pf1, sortD, seqOf, sortOk_ints, plainAll_ints, sort_dInts]
theorem isort_perm (ns : List Int) : (isort ns).Perm ns := List.mergeSort_perm ..
theorem isort_srt (ns : List Int) : (isort ns).Pairwise (· ≤ ·) := by
  have := List.pairwise_mergeSort (le := fun a b : Int => decide (a ≤ b)) (fun a b c h1 h2 => by
    simp at h1 h2 ⊢; omega) (fun a b => by
    simp; omega) ns
  exact this.imp fun h => by simpa using h
/-- n! -/
def fac : Nat → Nat
  | 0 => 1
  | n + 1 => fac n * (n + 1)
theorem fac_eq : ∀ n : Nat, Builtin.Math.factorialNat n = fac n
  | 0 => rfl
  | n + 1 => by rw [PySem.W.mc_fac_succ, fac_eq n]; rfl
theorem pFact_int {n : Int} (h0 : 0 ≤ n) (h1 : n ≤ 20000) : pFact [.int n] = some (.int (fac n.toNat : Nat), .unq) := by
  show ((if decide (0 ≤ n) && decide (n ≤ 20000) then some (PyData.int ((Builtin.Math.factorialNat n.toNat : Nat) : Int)) else none).map fun r => (r, Tag.unq)) = _
  rw [if_pos (by simp [h0, h1]), fac_eq]; rfl
end VL
end
section
set_option Elab.async false
set_option linter.all false
set_option maxRecDepth 100000
/-! sum, max, min of a tuple of ints -/
namespace PySem
section
variable {prog : Program} {w : World} {A : Around} {E : Value → Shared → Prop} {s : Shared} {l : Addr} {xs : Array (Int × Tok)}
theorem iter_intTup {Q : Value → Shared → Prop} (hl : s.heap.IsTuple l (intItems xs))
    (h : ∀ s₂ : Shared, s₂ = { s with heap := s.heap.push { cls := .type "tuple_iterator", data := .fields #[.ref l, .int 0 0] } } →
      (s₂.heap.IsTupleIter s.heap.objs.size l 0 ∧ s₂.heap.IsTuple l (intItems xs)) → (∀ b ∈ [s.heap.objs.size, l], b < s₂.heap.objs.size) → l ≠ s.heap.objs.size → Q (.ref s.heap.objs.size) s₂) :
    wpAny (model prog w) A (pyIter (.ref l)) Q E s := by
  have hlt : l < s.heap.objs.size := by obtain ⟨_, e, _⟩ := hl; exact Heap.lt_size e
  refine wpAny_pyIter_tuple hl (h _ rfl ⟨⟨_, Heap.get?_push_size _ rfl, rfl, rfl⟩, hl.push _⟩ (fun b hb => ?_) (Nat.ne_of_lt hlt))
  show b < (s.heap.push _).objs.size
  rw [Heap.size_push]
  rcases List.mem_cons.mp hb with rfl | hb
  · exact Nat.lt_succ_self _
  · rcases List.mem_cons.mp hb with rfl | hb
    · exact Nat.lt_succ_of_lt hlt
    · cases hb
theorem old_keptT {o' : Obj} {h' : Heap} (hk : ∀ b o, b ∉ [s.heap.objs.size] → (s.heap.push o').get? b = some o → h'.get? b = some o) :
    ∀ b o, s.heap.get? b = some o → h'.get? b = some o := fun b o e => by
  refine hk b o (fun hm => ?_) (Heap.get?_push_of_some _ e)
  rcases List.mem_cons.mp hm with e1 | hm
  · exact absurd (e1 ▸ Heap.lt_size e) (Nat.lt_irrefl _)
  · cases hm
theorem sum_intTupG {Q : Value → Shared → Prop} (hh : A.handled = none) (hl : s.heap.IsTuple l (intItems xs))
    (h : ∀ h' tk t', (∀ b o, s.heap.get? b = some o → h'.get? b = some o) → Q (.int (preSum (numAt xs) xs.size) t') { s with heap := h', toks := tk }) :
    wpAny (model prog w) A (call (.builtin "sum") [.ref l]) Q E s := by
  refine call_sum_walkG (iter_intTup hl fun s₂ e st hfp hlI => ?_)
  subst e
  refine ⟨_, _, _, _, _, _, numAt xs, rfl, Walks.tuple (A := A.in1) hh _ l hlI (intItems xs), st, hfp, (fun _ _ => intItems_at), fun h' tk t' hk => ?_⟩
  have := h h' tk t' (old_keptT hk)
  simpa [intItems] using this
theorem max_intTup {Q : Value → Shared → Prop} (hh : A.handled = none) (hl : s.heap.IsTuple l (intItems xs)) (hne : 0 < xs.size)
    (h : ∀ v h' tk, (intItems xs)[argBest (fun i j => decide (numAt xs i > numAt xs j)) (xs.size - 1)]? = some v → (∀ b o, s.heap.get? b = some o → h'.get? b = some o) → Q v { s with heap := h', toks := tk }) :
    wpAny (model prog w) A (call (.builtin "max") [.ref l]) Q E s := by
  refine call_max_walk (iter_intTup hl fun s₂ e st hfp hlI => ?_)
  subst e
  refine ⟨_, _, _, _, _, _, _, rfl, Walks.tuple (A := A.in1) hh _ l hlI (intItems xs), st, hfp, by simpa [intItems] using hne, CmpOf.ints_gt (numAt xs) (fun _ _ => intItems_at), fun v h' tk hP hk => ?_⟩
  exact h v h' tk (by simpa [intItems] using hP) (old_keptT hk)
theorem min_intTup {Q : Value → Shared → Prop} (hh : A.handled = none) (hl : s.heap.IsTuple l (intItems xs)) (hne : 0 < xs.size)
    (h : ∀ v h' tk, (intItems xs)[argBest (fun i j => decide (numAt xs i < numAt xs j)) (xs.size - 1)]? = some v → (∀ b o, s.heap.get? b = some o → h'.get? b = some o) → Q v { s with heap := h', toks := tk }) :
    wpAny (model prog w) A (call (.builtin "min") [.ref l]) Q E s := by
  refine call_min_walk (iter_intTup hl fun s₂ e st hfp hlI => ?_)
  subst e
  refine ⟨_, _, _, _, _, _, _, rfl, Walks.tuple (A := A.in1) hh _ l hlI (intItems xs), st, hfp, by simpa [intItems] using hne, CmpOf.ints_lt (numAt xs) (fun _ _ => intItems_at), fun v h' tk hP hk => ?_⟩
  exact h v h' tk (by simpa [intItems] using hP) (old_keptT hk)
end
end PySem
namespace VL
open PySem PySem.Spec PyProof.Rows L2
section
variable {prog : Program} {w : World} {A : Around} {E : Value → Shared → Prop} {s : Shared} {l : Addr} {its : List Value} {ns : List Int} {Q : Value → Shared → Prop}
theorem sum_rawT (hh : A.handled = none) (hl : s.heap.IsTuple l its.toArray) (hi : IntsAre its ns)
    (h : ∀ h' tk t', (∀ b o, s.heap.get? b = some o → h'.get? b = some o) → Q (.int ns.sum t') { s with heap := h', toks := tk }) : wpAny (model prog w) A (call (.builtin "sum") [.ref l]) Q E s := by
  obtain ⟨xs, e⟩ := hi.allInts.items
  have hn : numsOf (intItems xs).toList = ns := by rw [← e]; exact hi.numsOf
  rw [nums_intItems] at hn
  rw [e] at hl
  refine PySem.sum_intTupG hh hl fun h' tk t' hk => ?_
  have := h h' tk t' hk
  rw [preSum_eq, List.take_of_length_le (by simp), hn]; exact this
theorem max_rawT (hh : A.handled = none) (hl : s.heap.IsTuple l its.toArray) (hi : IntsAre its ns) (hne : 0 < ns.length)
    (h : ∀ h' tk M t', (∀ b o, s.heap.get? b = some o → h'.get? b = some o) → M ∈ ns → (∀ a, a ∈ ns → a ≤ M) → Q (.int M t') { s with heap := h', toks := tk }) : wpAny (model prog w) A (call (.builtin "max") [.ref l]) Q E s := by
  obtain ⟨xs, e⟩ := hi.allInts.items
  have hn : numsOf (intItems xs).toList = ns := by rw [← e]; exact hi.numsOf
  rw [nums_intItems] at hn
  subst hn
  rw [e] at hl
  have hsz : 0 < xs.size := by simpa using hne
  refine PySem.max_intTup hh hl hsz fun v h' tk hv hk => ?_
  obtain ⟨t, rfl⟩ := intItems_at hv
  obtain ⟨h1, h2⟩ := argBest_gt (numAt xs) (xs.size - 1)
  refine h h' tk _ t hk ?_ fun a ha => ?_
  · rw [numAt_eq]; exact PySem.getD_mem (by rw [List.length_map, Array.length_toList]; omega)
  · obtain ⟨j, hj, rfl⟩ := mem_getD ha
    rw [List.length_map, Array.length_toList] at hj
    rw [← numAt_eq]; exact h2 j (by omega)
end
section
variable {X : Cx} {K : PySem.W.Frag} {H : Hp} {x : Ent}
def rSumQ (K : PySem.W.Frag) : List V → Hp → VK → Prop := fun vs H Q => ∃ (a : Addr) (ns : List Int), vs = [V.ref a] ∧ (SqL K H a (ns.map V.int) ∨ SqT K H a (ns.map V.int)) ∧ Q (.int ns.sum) H
theorem cr_sumQ (hc : X.calm = true) : CallR X (.builtin "sum") (rSumQ X.K) := by
  intro pins s σ H vs us Q I r h
  obtain ⟨a, ns, rfl, hs, q⟩ := h
  rw [Vals.ref1 r]
  rcases hs with hs | hs
  · obtain ⟨its, rv, hl, _⟩ := I.list hs
    exact sum_raw (I.ok.hd hc) hl.isList rv.ints fun h' tk t' hk => ⟨.int _, H, I.kept hk, ⟨_, rfl⟩, q⟩
  · obtain ⟨its, rv, hl, _⟩ := I.tuple hs
    exact sum_rawT (I.ok.hd hc) hl rv.ints fun h' tk t' hk => ⟨.int _, H, I.kept hk, ⟨_, rfl⟩, q⟩
theorem k_sumQ (K : PySem.W.Frag) {X : Cx} (h : X.K = K) (hc : X.calm = true) : CallR X (.builtin "sum") (rSumQ K) := h ▸ cr_sumQ hc
theorem ent_intsQ {ns : List Int} (h : (seqOf x.d).bind intsOf = some ns) (r : Rep K H x.d x.v x.fp) : ∃ a, x.v = .ref a ∧ (SqL K H a (ns.map V.int) ∨ SqT K H a (ns.map V.int)) := by
  unfold seqOf at h
  split at h
  · rename_i ds hd
    have e := ints_of (by simpa using h)
    obtain ⟨a, xs, fs, v1, r1, l1, _⟩ := ent_lst hd r
    rw [e] at l1
    rw [repL_ints l1] at r1
    exact ⟨a, v1, .inl (.inl r1)⟩
  · rename_i ds hd
    have e := ints_of (by simpa using h)
    obtain ⟨a, xs, v1, r1, l1, _⟩ := ent_tup hd r
    rw [e] at l1
    rw [repL_ints l1] at r1
    exact ⟨a, v1, .inr r1⟩
  · cases h
def sumQD (d : D) : Option D := ((seqOf d).bind intsOf).map fun ns => .int ns.sum
def pSumQ : PF := ps1 sumQD
theorem pure_sumQ : PureR K (rSumQ K) pSumQ := pureC1_of fun H x d t Q hx hf hQ => by
  obtain ⟨r, hr, e⟩ := Option.map_eq_some_iff.mp hf
  cases e
  obtain ⟨ns, h1, rfl⟩ := Option.map_eq_some_iff.mp hr
  obtain ⟨a, v1, s⟩ := ent_intsQ h1 hx
  exact ⟨a, ns, by rw [v1], s, hQ _ _ _ (pout_scal rfl)⟩
@[simp] theorem pSumQ_ints (ns : List Int) : pSumQ [.list (dInts ns)] = some (.int ns.sum, .unq) := by
  simp [pSumQ, ps1, pf1, sumQD, seqOf]
@[simp] theorem pSumQ_tints (ns : List Int) : pSumQ [.tuple (dInts ns)] = some (.int ns.sum, .unq) := by
  simp [pSumQ, ps1, pf1, sumQD, seqOf]
end
end VL
end
section
set_option Elab.async false
set_option linter.all false
set_option maxRecDepth 100000
/-! zip(a, b), a and b lists, tuples, texts or (a) range(..) -/
namespace PySem
open Sem (wp)
section
variable {prog : Program} {w : World} {A : Around} {E : Value → Shared → Prop} {s : Shared}
theorem nextOf_range_item {it : Addr} {x left step : Int} {Q : Value → Shared → Prop} (hit : IsRangeIter s.heap it x left step) (hleft : 0 < left)
    (hQ : ∀ h', IsRangeIter h' it (x + step) (left - 1) step → Heap.SameBut it s.heap h' → Q (.int x s.toks) { s with heap := h', toks := s.toks + 1 }) :
    wpAny (model prog w) A (Builtin.SmallTypes.nextOf (.ref it)) Q E s := by
  have hT : s.TypeIs (.ref it) "range_iterator" := ⟨_, hit, rfl⟩
  unfold Builtin.SmallTypes.nextOf
  refine wpAny_bind (wpAny_callSpecial?_slot (name := Str.ofString "__next__") hT F.slot_range_iterator_next
    (call_meets F.slot_range_iterator_next hT F.entry_range_iterator_next (F.args_range_iterator_next_1 _) (AutoRange.range_iterator___next___range_iterator_1 it x left step (by omega)) ⟨hit, ?_⟩))
  exact wpAny_pure (hQ _ (Heap.get?_update_self _ (Heap.get?_update_self _ hit rfl) rfl) ((Heap.SameBut.update ..).trans (Heap.SameBut.update ..)))
theorem nextOf_range_end {it : Addr} {x left step : Int} {Q : Value → Shared → Prop} (hh : A.handled = none) (hit : IsRangeIter s.heap it x left step) (hleft : left ≤ 0)
    (hE : ∀ h' e, Heap.ExtBut it s.heap h' → (∃ o, h'.get? e = some o ∧ o.cls = .type "StopIteration") → E (.ref e) { s with heap := h' }) : wpAny (model prog w) A (Builtin.SmallTypes.nextOf (.ref it)) Q E s := by
  have hT : s.TypeIs (.ref it) "range_iterator" := ⟨_, hit, rfl⟩
  unfold Builtin.SmallTypes.nextOf
  refine wpAny_bind (wpAny_callSpecial?_slot (name := Str.ofString "__next__") hT F.slot_range_iterator_next
    (wpAny_call_entry F.slot_range_iterator_next hT F.entry_range_iterator_next ?_ (F.args_range_iterator_next_1 _)))
  show wpAny _ _ (field (.ref it) 0 >>= _) _ _ s
  refine wpAny_bind (wpAny_field hit rfl (x := rawInt x) rfl ?_)
  show wpAny _ _ (field (.ref it) 1 >>= _) _ _ s
  refine wpAny_bind (wpAny_field hit rfl (x := rawInt left) rfl ?_)
  show wpAny _ _ (field (.ref it) 2 >>= _) _ _ s
  refine wpAny_bind (wpAny_field hit rfl (x := rawInt step) rfl ?_)
  show wpAny _ _ (if left ≤ 0 then _ else _) _ _ s
  rw [if_pos hleft]
  refine wpAny_bind (wpAny_rule ?_)
  refine wpAny_bind ?_
  show wpAny _ _ (newExc (.type "StopIteration") [] >>= _) _ _ _
  refine wpAny_bind ?_
  simp only [newExc, newTuple]
  refine wpAny_bind (wpAny_newObj_type ?_ (by size_fits))
  refine wpAny_bind (m := firstArgMember _ _) (wpAny_of_eq (a := Value.none) (by first | rfl | (simp only [firstArgMember]; rfl)) ?_)
  refine wpAny_newObj_type ?_ (by size_fits)
  simp only [raiseNew]
  refine wpAny_bind (wpAny_handled ?_)
  first | rw [show A.in1.handled = none from hh] | rw [hh]
  refine wpAny_bind (wpAny_pure (wpAny_throw ?_))
  exact hE _ _ (((Heap.ExtBut.refl it s.heap).push _).push _) ⟨_, Heap.get?_push_size _ rfl, rfl⟩
end
theorem Draws.range {prog : Program} {w : World} {A : Around} (hh : A.handled = none) (it : Addr) (a : Int) (n : Nat) :
    Draws prog w A it [it] n (fun i v => ∃ t, v = .int (a + (i : Nat)) t) (fun i h => IsRangeIter h it (a + (i : Nat)) ((n : Int) - (i : Nat)) 1) where
  live := fun _ _ st => ⟨_, st⟩
  frame := fun _ _ _ st hk => hk it (by simp) _ st
  item := fun i s Q E hi st hQ => by
    refine nextOf_range_item st (by omega) fun h' hit' hs' => ?_
    refine hQ _ h' (s.toks + 1) ⟨_, rfl⟩ ?_ hs'
    have e1 : a + ((i + 1 : Nat) : Int) = a + (i : Nat) + 1 := by omega
    have e2 : (n : Int) - ((i + 1 : Nat) : Int) = (n : Int) - (i : Nat) - 1 := by omega
    rw [e1, e2]; exact hit'
  done := fun s Q E st hE => nextOf_range_end hh st (by omega) hE
theorem begins_range (r : Addr) (a b : Int) (t u v : Tok) (hs : Builtin.Range.small a b 1 = true) : Begins (.ref r) { cls := .type "range_iterator", data := .fields #[rawInt a, rawInt (Builtin.Range.rangeSize a b 1), rawInt 1] } fun h => IsRange h r a b 1 t u v where
  iter := fun prog w A E s Q hl h => wpAny_pyIter_range hl hs h
  keeps := fun h h' x hk => hk r _ x
  free := rfl
end PySem
namespace VL
open PySem PySem.Spec PyProof.Rows L2
/-- what is walked -/
inductive SK where
  | lst (a : Addr) | tup (a : Addr) | txt (s : Str) | rng (lo : Int) (n : Nat)
def SK.At (K : PySem.W.Frag) (H : Hp) : SK → List V → Prop
  | .lst a, xs => SqL K H a xs
  | .tup a, xs => SqT K H a xs
  | .txt s, xs => xs = s.cps.toList.map fun c => V.str ⟨#[c]⟩
  | .rng lo n, xs => xs = (List.range n).map fun i => V.int (lo + (i : Nat))
def SK.st (it : Addr) : SK → Nat → Heap → Prop
  | .lst a, i, h => h.IsListIter it a i
  | .tup a, i, h => h.IsTupleIter it a i
  | .txt s, i, h => ∃ t, h.IsStrIter it (strIterType s) s t i
  | .rng lo n, i, h => IsRangeIter h it (lo + (i : Nat)) ((n : Int) - (i : Nat)) 1
def SK.adr : SK → List Addr
  | .lst a => [a]
  | .tup a => [a]
  | _ => []
def SK.val : SK → V → Prop
  | .lst a, v => v = .ref a
  | .tup a, v => v = .ref a
  | .txt s, v => v = .str s
  | .rng _ _, _ => False
theorem SK.inj {X : Cx} {pins : List (Addr × Obj)} {σ : L2.St} {H : Hp} {s : Shared} (I : Inv X pins σ H s) : ∀ {k : SK} {xs ys : List V}, k.At X.K H xs → k.At X.K H ys → xs = ys
  | .lst a, xs, ys, h, h' => I.list_inj h h'
  | .tup a, xs, ys, h, h' => I.tuple_inj h h'
  | .txt s, xs, ys, h, h' => by rw [show xs = _ from h, show ys = _ from h']
  | .rng _ _, xs, ys, h, h' => by rw [show xs = _ from h, show ys = _ from h']
theorem SK.obj {it : Addr} : ∀ {k : SK} {i : Nat} {h : Heap}, k.st it i h → ∃ o, h.get? it = some o ∧ ∀ v, o.data ≠ .cell v
  | .lst _, _, _, ⟨o, e, _, d⟩ => ⟨o, e, fun v q => by rw [d] at q; cases q⟩
  | .tup _, _, _, ⟨o, e, _, d⟩ => ⟨o, e, fun v q => by rw [d] at q; cases q⟩
  | .txt _, _, _, ⟨t, o, e, _, d⟩ => ⟨o, e, fun v q => by rw [d] at q; cases q⟩
  | .rng _ _, _, _, e => ⟨_, e, fun v q => nomatch q⟩
theorem SK.keep {it : Addr} : ∀ {k : SK} {i : Nat} {h h' : Heap}, k.st it i h → (∀ o, h.get? it = some o → h'.get? it = some o) → k.st it i h'
  | .lst _, _, _, _, st, k => st.at fun o q => k o q
  | .tup _, _, _, _, st, k => st.at fun o q => k o q
  | .txt _, _, _, _, ⟨t, o, e, r⟩, k => ⟨t, o, k o e, r⟩
  | .rng _ _, _, _, _, e, k => k _ e
theorem SK.draws {X : Cx} {pins : List (Addr × Obj)} {σ : L2.St} {H : Hp} {s : Shared} (I : Inv X pins σ H s) (hc : X.calm = true) {it : Addr} {i : Nat} : ∀ {k : SK} {xs : List V}, k.At X.K H xs → k.st it i s.heap → it ∉ k.adr →
    ∃ P St, Draws X.prog X.w X.A.in1 it (it :: k.adr) xs.length P St ∧ St i s.heap ∧ (∀ j v, P j v → ∃ x, xs[j]? = some x ∧ RelV x v) ∧ ∀ j h, St j h → k.st it j h
  | .lst a, xs, hA, hst, ap => by
    obtain ⟨its, rv, p, _⟩ := I.list hA
    have D := Draws.list (prog := X.prog) (w := X.w) (A := X.A.in1) (I.ok.hd hc) it a (fun z => ap (by simp [SK.adr, z])) its.toArray
    have e : its.toArray.size = xs.length := by rw [List.size_toArray, rv.length]
    rw [e] at D
    refine ⟨_, _, D, ⟨hst, p.isList⟩, fun j v hj => ?_, fun j h q => q.1⟩
    have hj' : its[j]? = some v := by simpa using hj
    have hlt := (List.getElem?_eq_some_iff.mp hj').1
    have hx : xs[j]? = some (xs[j]'(by rw [rv.length]; exact hlt)) := List.getElem?_eq_getElem _
    obtain ⟨u, hu, ru⟩ := rv.get hx
    rw [hj'] at hu; cases hu
    exact ⟨_, hx, ru⟩
  | .tup a, xs, hA, hst, ap => by
    obtain ⟨its, rv, p, _⟩ := I.tuple hA
    have D := Draws.tuple (prog := X.prog) (w := X.w) (A := X.A.in1) (I.ok.hd hc) it a (fun z => ap (by simp [SK.adr, z])) its.toArray
    have e : its.toArray.size = xs.length := by rw [List.size_toArray, rv.length]
    rw [e] at D
    refine ⟨_, _, D, ⟨hst, p⟩, fun j v hj => ?_, fun j h q => q.1⟩
    have hj' : its[j]? = some v := by simpa using hj
    have hlt := (List.getElem?_eq_some_iff.mp hj').1
    have hx : xs[j]? = some (xs[j]'(by rw [rv.length]; exact hlt)) := List.getElem?_eq_getElem _
    obtain ⟨u, hu, ru⟩ := rv.get hx
    rw [hj'] at hu; cases hu
    exact ⟨_, hx, ru⟩
  | .txt x, xs, hA, ⟨t, hst⟩, ap => by
    have D := Draws.text (prog := X.prog) (w := X.w) (A := X.A.in1) (I.ok.hd hc) it x t
    have hA' : xs = x.cps.toList.map fun c => V.str ⟨#[c]⟩ := hA
    have e : x.cps.size = xs.length := by rw [hA']; simp
    rw [e] at D
    refine ⟨_, _, D, hst, fun j v hj => ?_, fun j h q => ⟨t, q⟩⟩
    obtain ⟨c, u, hc, rfl⟩ := hj
    refine ⟨.str ⟨#[c]⟩, ?_, u, rfl⟩
    rw [hA', List.getElem?_map, Array.getElem?_toList, hc]
    rfl
  | .rng lo n, xs, hA, hst, ap => by
    have D := Draws.range (prog := X.prog) (w := X.w) (A := X.A.in1) (I.ok.hd hc) it lo n
    have hA' : xs = (List.range n).map fun i => V.int (lo + (i : Nat)) := hA
    have e : n = xs.length := by rw [hA']; simp
    refine ⟨fun i v => i < n ∧ ∃ t, v = .int (lo + (i : Nat)) t, _, ⟨D.live, D.frame, fun i s Q E hi st hQ => ?_, fun s Q E st hE => ?_⟩, hst, fun j v hj => ?_, fun j h q => q⟩
    · exact D.item i s Q E (by omega) st fun x h' tk hx st' sb => hQ x h' tk ⟨by omega, hx⟩ st' sb
    · rw [← e] at st
      exact D.done s Q E st hE
    · obtain ⟨hlt, t, rfl⟩ := hj
      refine ⟨.int (lo + (j : Nat)), ?_, t, rfl⟩
      rw [hA', List.getElem?_map, List.getElem?_range hlt]
      rfl
/-- pairs of items of both -/
def ItS (K : PySem.W.Frag) (k1 k2 : SK) : It :=
  ⟨fun i H => ∃ (xs ys : List V) (x y : V), k1.At K H xs ∧ k2.At K H ys ∧ xs[i]? = some x ∧ ys[i]? = some y,
    fun i H v H' => ∃ T x y, v = .ref T ∧ H T = none ∧ H' = upd H T (.tup [x, y]) ∧ (∀ xs, k1.At K H xs → xs[i]? = some x) ∧ ∀ ys, k2.At K H ys → ys[i]? = some y,
    fun i H => ∃ xs ys : List V, k1.At K H xs ∧ k2.At K H ys ∧ i = min xs.length ys.length⟩
theorem turn_zipS {P : Program} {w : World} {K : PySem.W.Frag} {elts : List Expr} {kk : Nat} {tpos : Pos} {k1 k2 : SK} {z TI TO i1 i2 : Addr} (S : ZipSep2 z TI TO i1 i2 (i1 :: k1.adr) (i2 :: k2.adr)) (a1 : i1 ∉ k1.adr) (a2 : i2 ∉ k2.adr) :
    Turn P w K (.Tuple elts kk tpos) (ItS K k1 k2) [z, TI, TO, i1, i2] z (fun i h => IsZip h z TI TO .none ∧ IsTupOf2 h TI (.ref i1) (.ref i2) ∧ (∃ x y, IsTupOf2 h TO x y) ∧ k1.st i1 i h ∧ k2.st i2 i h) where
  mem := by simp
  obj := fun i h st c hc => by
    obtain ⟨hz, hTI, ⟨x, y, hTO⟩, h1, h2⟩ := st
    have e' : c = z ∨ c = TI ∨ c = TO ∨ c = i1 ∨ c = i2 := by simpa using hc
    rcases e' with q | q | q | q | q
    · rw [q]; exact ⟨_, hz, fun v q => nomatch q⟩
    · rw [q]; exact ⟨_, hTI, fun v q => nomatch q⟩
    · rw [q]; exact ⟨_, hTO, fun v q => nomatch q⟩
    · rw [q]; exact SK.obj h1
    · rw [q]; exact SK.obj h2
  keep := fun i h h' st k => by
    obtain ⟨hz, hTI, ⟨x, y, hTO⟩, h1, h2⟩ := st
    exact ⟨k z (by simp) _ hz, k TI (by simp) _ hTI, ⟨x, y, k TO (by simp) _ hTO⟩, SK.keep h1 fun o q => k i1 (by simp) o q, SK.keep h2 fun o q => k i2 (by simp) o q⟩
  item := by
    intro X hP hw hK hc i pins s σ H E I hf st hg
    subst hP hw hK
    obtain ⟨hz, hTI, ⟨x0, y0, hTO⟩, h1, h2⟩ := st
    obtain ⟨xs, ys, x, y, hqx, hqy, hx, hy⟩ := hg
    obtain ⟨P1, St1, D1, st1, p1, b1⟩ := SK.draws I hc hqx h1 a1
    obtain ⟨P2, St2, D2, st2, p2, b2⟩ := SK.draws I hc hqy h2 a2
    have hzl : z < s.heap.objs.size := Heap.lt_size hz
    have l1 : i < xs.length := (List.getElem?_eq_some_iff.mp hx).1
    have l2 : i < ys.length := (List.getElem?_eq_some_iff.mp hy).1
    refine wpAny_pyNext_zipD2_item S D1 D2 hz hTI hTO st1 st2 l1 l2 fun u u2 h' tk hu hu2 z' TO' st1' st2' hT hsz hk => ?_
    obtain ⟨x', ex, ru⟩ := p1 i u hu
    obtain ⟨y', ey, ru2⟩ := p2 i u2 hu2
    rw [hx] at ex; cases ex
    rw [hy] at ey; cases ey
    refine ⟨_, rfl, wpAny_letOwnedTupleGo_zip (s := { s with heap := h', toks := tk }) z' fun h'' z'' sb => ?_⟩
    have hT2 : h''.get? s.heap.objs.size = some { cls := .type "tuple", data := .seq #[u, u2] } := (sb.2 _ (Nat.ne_of_gt hzl)).trans hT
    have new : ObjOk X.prog X.w (upd H s.heap.objs.size (.tup [x, y])) h'' s.heap.objs.size (.tup [x, y]) :=
      ⟨by show 2 ≤ sizeLine; decide, [u, u2], .cons ru (.cons ru2 .nil), ⟨_, hT2, rfl, _, rfl⟩⟩
    have I1 : Inv X pins σ (upd H s.heap.objs.size (.tup [x, y])) { s with heap := h'', toks := tk } :=
      I.turnedNew (t' := tk) (ch := [z, TI, TO, i1, i2]) (fun c o hb q => (sb.2 c (fun q' => hb (by simp [q']))).trans (hk c o (fun q' => hb (by simp [q'])) (fun q' => hb (by simp [q'])) (fun q' => hb (by simp [q'])) (fun q' => hb (by simp [q'])) q)) hf (Nat.le_refl _) new
    have zi1 : i1 ≠ z := S.zi1.symm
    have zi2 : i2 ≠ z := S.zi2.symm
    refine ⟨.ref s.heap.objs.size, _, I1, rfl, ⟨_, x, y, rfl, I.hok.fresh (Nat.le_refl _), rfl, fun l hl => by rw [SK.inj I hl hqx]; exact hx, fun l hl => by rw [SK.inj I hl hqy]; exact hy⟩, ⟨z'', ?_, ⟨u, u2, ?_⟩, ?_, ?_⟩, fun c hcm => ?_⟩
    · exact (sb.2 _ S.TIz).trans (hk _ _ S.TIz S.TITO S.TIi1 S.TIi2 hTI)
    · exact (sb.2 _ S.TOz).trans TO'
    · exact SK.keep (b1 _ _ st1') fun o q => (sb.2 _ zi1).trans q
    · exact SK.keep (b2 _ _ st2') fun o q => (sb.2 _ zi2).trans q
    · have hlt : c < s.heap.objs.size := by
        have e' : c = z ∨ c = TI ∨ c = TO ∨ c = i1 ∨ c = i2 := by simpa using hcm
        rcases e' with q | q | q | q | q
        · rw [q]; exact hzl
        · rw [q]; exact Heap.lt_size hTI
        · rw [q]; exact Heap.lt_size hTO
        · rw [q]; obtain ⟨_, e1, _⟩ := SK.obj h1; exact Heap.lt_size e1
        · rw [q]; obtain ⟨_, e2, _⟩ := SK.obj h2; exact Heap.lt_size e2
      rw [upd_ne (Nat.ne_of_lt hlt)]
      exact (hf c hcm).1
  done := by
    intro X hP hw hK hc i pins s σ H E I hf st hg
    subst hP hw hK
    obtain ⟨hz, hTI, ⟨x0, y0, hTO⟩, h1, h2⟩ := st
    obtain ⟨xs, ys, hqx, hqy, hend⟩ := hg
    obtain ⟨P1, St1, D1, st1, p1, b1⟩ := SK.draws I hc hqx h1 a1
    obtain ⟨P2, St2, D2, st2, p2, b2⟩ := SK.draws I hc hqy h2 a2
    exact wpAny_pyNext_zipD2_end S D1 D2 hz hTI hTO st1 st2 (by omega) (by omega) (by omega) fun h' tk hk => ⟨rfl, I.turnedL (t' := tk) (ch := [z, TI, TO, i1, i2]) (fun c o hb q =>
      hk c o (fun q' => hb (by simp [q'])) (fun q' => hb (by simp [q'])) (fun q' => hb (by simp [q'])) (fun q' => hb (by simp [q'])) q) hf⟩
  self := fun A i s Q E st h => wpAny_pyIter_zip st.1 h
theorem SK.begins {X : Cx} {pins : List (Addr × Obj)} {σ : L2.St} {H : Hp} {s : Shared} (I : Inv X pins σ H s) : ∀ {k : SK} {xs : List V} {v : V} {u : Value}, k.At X.K H xs → k.val v → RelV v u →
    ∃ o Hh, Begins u o Hh ∧ Hh s.heap ∧ (∀ it h', h'.get? it = some o → k.st it 0 h') ∧ ∀ a ∈ k.adr, a < s.heap.objs.size
  | .lst a, xs, v, u, hA, hv, r => by
    cases hv; cases r
    obtain ⟨its, rv, p, _⟩ := I.list hA
    exact ⟨_, _, begins_list a its.toArray, p.isList, fun it h' e => ⟨_, e, rfl, rfl⟩, fun b hb => by simp [SK.adr] at hb; rw [hb]; exact p.lt⟩
  | .tup a, xs, v, u, hA, hv, r => by
    cases hv; cases r
    obtain ⟨its, rv, p, _⟩ := I.tuple hA
    refine ⟨_, _, begins_tuple a its.toArray, p, fun it h' e => ⟨_, e, rfl, rfl⟩, fun b hb => ?_⟩
    simp [SK.adr] at hb; rw [hb]
    obtain ⟨_, e, _⟩ := id p
    exact Heap.lt_size e
  | .txt x, xs, v, u, hA, hv, r => by
    cases hv
    obtain ⟨t, rfl⟩ := r
    exact ⟨_, _, begins_text x t, trivial, fun it h' e => ⟨t, _, e, rfl, rfl⟩, fun b hb => by cases hb⟩
theorem ne_add {n a b : Nat} (h : a ≠ b) : n + a ≠ n + b := by omega
theorem ne_add0 {n a : Nat} (h : 0 < a) : n + a ≠ n := by omega
theorem sep_zip {n : Nat} {l1 l2 : List Addr} (h1 : ∀ a ∈ l1, a < n) (h2 : ∀ a ∈ l2, a < n) : ZipSep2 (n + 4) (n + 2) (n + 3) n (n + 1) (n :: l1) ((n + 1) :: l2) := by
  have f1 : ∀ k : Nat, n + k ∉ l1 := fun k z => absurd (h1 _ z) (Nat.not_lt.mpr (Nat.le_add_right _ _))
  have f2 : ∀ k : Nat, n + k ∉ l2 := fun k z => absurd (h2 _ z) (Nat.not_lt.mpr (Nat.le_add_right _ _))
  have f0 : n ∉ l2 := f2 0
  refine ⟨ne_add (by decide), ne_add (by decide), ne_add (by decide), ne_add0 (by decide), List.mem_cons_self .., ?_, ?_, ne_add (by decide), List.mem_cons_self .., ?_, ?_, ?_, ?_⟩
  · exact fun z => (List.mem_cons.mp z).elim (ne_add0 (by decide)) (f1 _)
  · exact fun z => (List.mem_cons.mp z).elim (ne_add0 (by decide)) (f1 _)
  · exact fun z => (List.mem_cons.mp z).elim (ne_add (by decide)) (f2 _)
  · exact fun z => (List.mem_cons.mp z).elim (ne_add (by decide)) (f2 _)
  · exact fun z => (List.mem_cons.mp z).elim (ne_add0 (by decide)).symm f0
  · exact fun z => (List.mem_cons.mp z).elim (ne_add0 (by decide)) (f1 _)
def iZipS (K : PySem.W.Frag) (ta : TA) : TI := fun σ H R => ta σ H fun vs H1 => ∃ k1 k2 v1 v2 xs ys, vs = [v1, v2] ∧ SK.val k1 v1 ∧ SK.val k2 v2 ∧ SK.At K H1 k1 xs ∧ SK.At K H1 k2 ys ∧ R (ItS K k1 k2) H1
theorem zip_it {X : Cx} {pins : List (Addr × Obj)} {σ : L2.St} {H : Hp} {s1 : Shared} {elts : List Expr} {kk : Nat} {tpos : Pos} {R : It → Hp → Prop} {k1 k2 : SK} {u1 u2 : Value} {o1 o2 : Obj} {H1 H2 : Heap → Prop} (I1 : Inv X pins σ H s1)
    (B1 : Begins u1 o1 H1) (B2 : Begins u2 o2 H2) (h1 : H1 s1.heap) (h2 : H2 s1.heap) (s1' : ∀ it h', h'.get? it = some o1 → k1.st it 0 h') (s2' : ∀ it h', h'.get? it = some o2 → k2.st it 0 h')
    (l1 : ∀ a ∈ k1.adr, a < s1.heap.objs.size) (l2 : ∀ a ∈ k2.adr, a < s1.heap.objs.size) (q : R (ItS X.K k1 k2) H) :
    wpAny (model X.prog X.w) X.A (call (.type "zip") [u1, u2]) (fun v s1 => wpAny (model X.prog X.w) X.A (pyIter v) (PIE X pins σ (.Tuple elts kk tpos) R) X.xe s1) X.xe s1 := by
  have fresh5 : ∀ c, c ∈ [s1.heap.objs.size + 4, s1.heap.objs.size + 2, s1.heap.objs.size + 3, s1.heap.objs.size, s1.heap.objs.size + 1] → FpOk X pins H c := fun c hcm => by
    have e' : c = s1.heap.objs.size + 4 ∨ c = s1.heap.objs.size + 2 ∨ c = s1.heap.objs.size + 3 ∨ c = s1.heap.objs.size ∨ c = s1.heap.objs.size + 1 := by simpa using hcm
    have hle : s1.heap.objs.size ≤ c := by
      rcases e' with z | z | z | z | z
      · rw [z]; exact Nat.le_add_right _ _
      · rw [z]; exact Nat.le_add_right _ _
      · rw [z]; exact Nat.le_add_right _ _
      · rw [z]; exact Nat.le_refl _
      · rw [z]; exact Nat.le_add_right _ _
    exact I1.fpOk hle (I1.hok.fresh hle)
  refine zip_begins2 B1 B2 h1 h2 fun h' hz hTI hTO g1 g2 hsz hk => wpAny_pyIter_zip hz ?_
  have I2 : Inv X pins σ H { s1 with heap := h' } := I1.kept (t' := s1.toks) hk
  exact ⟨s1.heap.objs.size + 4, [s1.heap.objs.size + 4, s1.heap.objs.size + 2, s1.heap.objs.size + 3, s1.heap.objs.size, s1.heap.objs.size + 1], _, _, H, rfl, I2, turn_zipS (sep_zip l1 l2) (fun z => absurd (l1 _ z) (Nat.lt_irrefl _)) (fun z => absurd (l2 _ z) (Nat.not_lt.mpr (Nat.le_add_right _ _))), ⟨hz, hTI, ⟨_, _, hTO⟩, s1' _ _ g1, s2' _ _ g2⟩, fresh5, q⟩
theorem pi_zipS {X : Cx} {e e2 : Expr} {ta : TA} {p pos tpos : Pos} {elts : List Expr} {kk : Nat} (hg : Gl X "zip") (hm : X.mg "zip" = none) (ha : PA X [e, e2] ta)
    (hs : starEach [e, e2] X.env = (false, eval e X.env) :: starEach [e2] X.env := by rfl) (hpl : (backTo pos (starEach [e2] X.env)).any (·.1) = false := by rfl) :
    PI X (.Tuple elts kk tpos) (.Call (.Name "zip" p) [e, e2] [] pos) (iZipS X.K ta) := by
  refine ⟨fun pins s σ H R I h => ?_⟩
  refine Call_ (ld_blt I hg hm PyProof.Rows.boot_zip (PyProof.Rows.callWith_type1 (thn (ha.run pos pins s σ H _ I h) fun us s1 ⟨vs, H1, I1, r1, q1⟩ => ?_) hs hpl))
  obtain ⟨k1, k2, v1, v2, xs, ys, ex, w1, w2, hq1, hq2, q⟩ := q1
  subst ex
  cases r1 with
  | cons r rr =>
    cases rr with
    | cons r' rr =>
      cases rr
      obtain ⟨o1, Hh1, B1, b1, c1, d1⟩ := SK.begins I1 hq1 w1 r
      obtain ⟨o2, Hh2, B2, b2, c2, d2⟩ := SK.begins I1 hq2 w2 r'
      exact zip_it I1 B1 B2 b1 b2 c1 c2 d1 d2 q
/-- zip(range(i, j), e) -/
def PRgP (X : Cx) (e : Expr) (t : L2.St → Hp → (Int → Int → Hp → Prop) → Prop) : Prop :=
  ∀ (pins : List (Addr × Obj)) (s : Shared) (σ : L2.St) (H : Hp) (Q : Int → Int → Hp → Prop), Inv X pins σ H s → t σ H Q →
    wpAny (model X.prog X.w) X.A (eval e X.env) (fun x s' => ∃ r a b t u v H', x = .ref r ∧ IsRange s'.heap r a b 1 t u v ∧ H' r = none ∧ r ≠ X.env.locals ∧ r ∉ X.fs ∧ Inv X pins σ H' s' ∧ Q a b H') X.xe s
section
variable {X : Cx} {a : Expr} {ta : TE}
theorem prgP_1 {p pos : Pos} (hg : Gl X "range") (hm : X.mg "range" = none) (ha : PE X a ta) (na : starEach [a] X.env = (false, eval a X.env) :: starEach [] X.env := by rfl) : PRgP X (.Call (.Name "range" p) [a] [] pos) (tRg1 ta) := by
  intro pins s σ H Q I h
  refine Call_ (ld_blt I hg hm boot_range (PyProof.Rows.callWith_type1 (one_arg ha I h (fun v s2 x H2 I2 r q => ?_) na) na))
  obtain ⟨n, rfl, q⟩ := q
  obtain ⟨t, rfl⟩ := r
  exact call_range_1 ⟨_, 0, n, _, _, _, H2, rfl, IsRange.new _ _ _ _ _ _ _, I2.hok.fresh (Nat.le_refl _), Nat.ne_of_gt I2.lt, I2.nofs (Nat.le_refl _), I2.kept fun b u e => Heap.get?_push_of_some _ e, q⟩
theorem prgP_2 {b : Expr} {tb : TE} {p pos : Pos} (hg : Gl X "range") (hm : X.mg "range" = none) (ha : PE X a ta) (hb : PE X b tb) (na : starEach [a, b] X.env = (false, eval a X.env) :: starEach [b] X.env := by rfl)
    (nb : starEach [b] X.env = (false, eval b X.env) :: starEach [] X.env := by rfl) (hp : (backTo pos (starEach [b] X.env)).any (·.1) = false := by rfl) : PRgP X (.Call (.Name "range" p) [a, b] [] pos) (tRg2 ta tb) := by
  intro pins s σ H Q I h
  refine Call_ (ld_blt I hg hm boot_range (PyProof.Rows.callWith_type1 (args_cons (thn (ha.run pins s σ H _ I h) fun v s1 ⟨x, H1, I1, r1, q1⟩ => one_arg hb I1 q1 (fun u s2 y H2 I2 r2 q => ?_) nb) na) na hp))
  obtain ⟨i, j, rfl, rfl, q⟩ := q
  obtain ⟨t, rfl⟩ := r1
  obtain ⟨t', rfl⟩ := r2
  exact call_range_2 ⟨_, i, j, _, _, _, H2, rfl, IsRange.new _ _ _ _ _ _ _, I2.hok.fresh (Nat.le_refl _), Nat.ne_of_gt I2.lt, I2.nofs (Nat.le_refl _), I2.kept fun b u e => Heap.get?_push_of_some _ e, q⟩
end
def iZipR (K : PySem.W.Frag) (tr : L2.St → Hp → (Int → Int → Hp → Prop) → Prop) (te : TE) : TI := fun σ H R => tr σ H fun i j H1 => (-(2 ^ 62) ≤ i ∧ i < 2 ^ 62 ∧ -(2 ^ 62) ≤ j ∧ j < 2 ^ 62) ∧ te σ H1 fun v H2 =>
  ∃ k xs, SK.val k v ∧ SK.At K H2 k xs ∧ R (ItS K (.rng i (j - i).toNat) k) H2
theorem pi_zipR {X : Cx} {e e2 : Expr} {tr : L2.St → Hp → (Int → Int → Hp → Prop) → Prop} {te : TE} {p pos tpos : Pos} {elts : List Expr} {kk : Nat} (hg : Gl X "zip") (hm : X.mg "zip" = none) (hr : PRgP X e tr) (he : PE X e2 te)
    (hs : starEach [e, e2] X.env = (false, eval e X.env) :: starEach [e2] X.env := by rfl) (hs2 : starEach [e2] X.env = (false, eval e2 X.env) :: starEach [] X.env := by rfl) (hpl : (backTo pos (starEach [e2] X.env)).any (·.1) = false := by rfl) :
    PI X (.Tuple elts kk tpos) (.Call (.Name "zip" p) [e, e2] [] pos) (iZipR X.K tr te) := by
  refine ⟨fun pins s σ H R I h => ?_⟩
  refine Call_ (ld_blt I hg hm PyProof.Rows.boot_zip (PyProof.Rows.callWith_type1 (args_cons (thn (hr pins s σ H _ I h) fun x s1 ⟨r, i, j, t, u, v, H1, ex, hR, z1, z2, z3, I1, q1⟩ => ?_) hs) hs hpl))
  subst ex
  obtain ⟨⟨m1, m2, m3, m4⟩, q1⟩ := q1
  have Ip : Inv X ((r, { cls := .type "range", dict := none, data := .fields #[.int i t, .int j u, .int 1 v], slots := #[] }) :: pins) σ H1 s1 := I1.pins_of fun p hp => by
    rcases List.mem_cons.mp hp with rfl | hp
    · exact ⟨hR, z1, z2, z3, fun v q => nomatch q⟩
    · exact I1.pin p (List.mem_append_right _ hp)
  refine one_arg he Ip q1 (fun y s2 x2 H2 I2 r2 q => ?_) hs2
  obtain ⟨k, xs, w2, hq2, q⟩ := q
  have I3 : Inv X pins σ H2 s2 := I2.pins_of fun p hp => I2.pin p (List.mem_append_right _ (List.mem_cons_of_mem _ hp))
  have hR2 : IsRange s2.heap r i j 1 t u v := (I2.pin (r, _) (List.mem_append_right _ (List.mem_cons_self ..))).1
  obtain ⟨o2, Hh2, B2, b2, c2, d2⟩ := SK.begins I3 hq2 w2 r2
  refine zip_it I3 (begins_range r i j t u v (small_one m1 m2 m3 m4)) B2 hR2 b2 (k1 := .rng i (j - i).toNat) (fun it h' e => ?_) c2 (fun b hb => by cases hb) d2 q
  show IsRangeIter h' it (i + ((0 : Nat) : Int)) (((j - i).toNat : Int) - ((0 : Nat) : Int)) 1
  have e1 : i + ((0 : Nat) : Int) = i := by simp
  have e2 : ((j - i).toNat : Int) - ((0 : Nat) : Int) = Builtin.Range.rangeSize i j 1 := by
    rw [rangeSize_one]
    split <;> omega
  rw [e1, e2]
  exact e
end VL
end
section
set_option Elab.async false
set_option linter.all false
set_option maxRecDepth 100000
namespace VL
open PySem PySem.Spec PyProof.Rows L2
section
variable {K : PySem.W.Frag} {W : WV} {F : Frm} {G : List (Option Ent)} {H : Hp} {R Δ : List Ent} {σ : L2.St} {p : Ent} {ds es : List D}
def srcOf : D → Option (List D)
  | .list ds => some ds
  | .tuple ds => some ds
  | .str s => some (s.cps.toList.map fun c => .str ⟨#[c]⟩)
  | _ => none
def pairT2 (x y : D) : Tag := if noMut x && noMut y then .unq else .sh
def zipDL (ds es : List D) : List (D × Tag) := (ds.zip es).map fun p => (.tuple [p.1, p.2], pairT2 p.1 p.2)
/-- the source's items may be had at any time -/
structure JS (k : SK) (F : Frm) (ps : List Ent) (ds : List D) : Prop where
  had : ∀ (G : List (Option Ent)) (R Δ : List Ent) (σ : L2.St) (H : Hp), Now F G (R ++ ps ++ Δ) σ H → ∃ xs : List V, k.At F.K H xs ∧ xs.length = ds.length ∧
    ∀ (i : Nat) (d : D), ds[i]? = some d → ∃ x, xs[i]? = some x ∧ ∃ fp, Now F G (R ++ ps ++ Δ ++ [⟨x, d, partTag .sh d, fp⟩]) σ H
theorem js_list {a : Addr} (hv : p.v = .ref a) (hd : p.d = .list ds) (ht : p.t = .sh) : JS (.lst a) F [p] ds := by
  refine ⟨fun G R Δ σ H n => ?_⟩
  have r := n.pinRep
  rw [hd, hv] at r
  simp only [Rep] at r
  obtain ⟨a', xs, fs, e1, e2, e3, e4⟩ := r
  cases e1
  refine ⟨xs, .inl e2, e3.length, fun i d hdi => ?_⟩
  obtain ⟨v, f, h1, h2, h3⟩ := e3.get i d hdi
  obtain ⟨fp', n2⟩ := n.pinPart ht h2 fun b hb => by rw [e4]; exact List.mem_cons_of_mem _ (h3.subset hb)
  exact ⟨v, h1, fp', n2⟩
theorem js_tup {a : Addr} (hv : p.v = .ref a) (hd : p.d = .tuple ds) (ht : p.t = .sh) : JS (.tup a) F [p] ds := by
  refine ⟨fun G R Δ σ H n => ?_⟩
  have r := n.pinRep
  rw [hd, hv] at r
  simp only [Rep] at r
  obtain ⟨a', xs, e1, e2, e3⟩ := r
  cases e1
  refine ⟨xs, e2, e3.length, fun i d hdi => ?_⟩
  obtain ⟨v, f, h1, h2, h3⟩ := e3.get i d hdi
  obtain ⟨fp', n2⟩ := n.pinPart ht h2 fun b hb => h3.subset hb
  exact ⟨v, h1, fp', n2⟩
theorem js_txt (s : Str) : JS (.txt s) F [p] (s.cps.toList.map fun c => .str ⟨#[c]⟩) := by
  refine ⟨fun G R Δ σ H n => ⟨_, rfl, by simp, fun i d hdi => ?_⟩⟩
  rw [List.getElem?_map] at hdi
  obtain ⟨c, hc, rfl⟩ := Option.map_eq_some_iff.mp hdi
  refine ⟨.str ⟨#[c]⟩, by rw [List.getElem?_map, hc]; rfl, [], ?_⟩
  exact n.scalar (d := .str ⟨#[c]⟩) (v := .str ⟨#[c]⟩) (rep_str _)
theorem js_rng (lo : Int) (m : Nat) : JS (.rng lo m) F [] (rngL lo 1 m) := by
  refine ⟨fun G R Δ σ H n => ⟨_, rfl, by simp [rngL], fun i d hdi => ?_⟩⟩
  have hi : i < m := by have := (List.getElem?_eq_some_iff.mp hdi).1; simpa [rngL] using this
  refine ⟨.int (lo + (i : Nat)), by rw [List.getElem?_map, List.getElem?_range hi]; rfl, [], ?_⟩
  have e : d = .int (lo + (i : Nat)) := by
    simp [rngL, hi] at hdi
    exact hdi.symm
  subst e
  exact n.scalar (d := .int (lo + (i : Nat))) (v := .int (lo + (i : Nat))) (rep_int _)
theorem zipDL_get {i : Nat} {q : D × Tag} (h : (zipDL ds es)[i]? = some q) : ∃ x y, ds[i]? = some x ∧ es[i]? = some y ∧ q = (.tuple [x, y], pairT2 x y) := by
  unfold zipDL at h
  rw [List.getElem?_map] at h
  obtain ⟨⟨x, y⟩, h2, rfl⟩ := Option.map_eq_some_iff.mp h
  rw [List.getElem?_zip_eq_some] at h2
  exact ⟨x, y, h2.1, h2.2, rfl⟩
theorem jok_zip {k1 k2 : SK} {ps1 ps2 : List Ent} (j1 : JS k1 F ps1 ds) (j2 : JS k2 F ps2 es) : JOk (ItS F.K k1 k2) F (ps1 ++ ps2) (zipDL ds es) := by
  refine ⟨fun G R Δ σ H i q n hq => ?_, fun G R Δ σ H n => ?_⟩
  · obtain ⟨x, y, hx, hy, rfl⟩ := zipDL_get hq
    obtain ⟨xs, A1, l1, g1⟩ := j1.had G R (ps2 ++ Δ) σ H (by simpa using n)
    obtain ⟨u, hu, f1, n1⟩ := g1 i x hx
    obtain ⟨ys, A2, l2, g2⟩ := j2.had G (R ++ ps1) (Δ ++ [⟨u, x, partTag .sh x, f1⟩]) σ H (by simpa using n1)
    obtain ⟨u2, hu2, f2, n2⟩ := g2 i y hy
    refine ⟨⟨xs, ys, u, u2, A1, A2, hu, hu2⟩, fun v H' yl => ?_⟩
    obtain ⟨T, x', y', rfl, hT, rfl, b1, b2⟩ := yl
    have c1 := b1 xs A1
    rw [hu] at c1; cases c1
    have c2 := b2 ys A2
    rw [hu2] at c2; cases c2
    have n3 : Now F G ((R ++ (ps1 ++ ps2) ++ Δ) ++ [⟨u, x, partTag .sh x, f1⟩, ⟨u2, y, partTag .sh y, f2⟩]) σ H := by simpa using n2
    have n4 := n3.tup hT
    refine ⟨_, rfl, ?_, n4⟩
    have e : allUnq ([⟨u, x, partTag .sh x, f1⟩, ⟨u2, y, partTag .sh y, f2⟩].map fun e : Ent => (e.d, e.t)) = (noMut x && noMut y) := by
      simp [allUnq, partTag]
      cases noMut x <;> cases noMut y <;> rfl
    simp only [e, pairT2]
    rfl
  · obtain ⟨xs, A1, l1, _⟩ := j1.had G R (ps2 ++ Δ) σ H (by simpa using n)
    obtain ⟨ys, A2, l2, _⟩ := j2.had G (R ++ ps1) Δ σ H (by simpa using n)
    exact ⟨xs, ys, A1, A2, by rw [l1, l2]; simp [zipDL]⟩
theorem src_of {e : Ent} (r : Rep F.K H e.d e.v e.fp) (h : srcOf e.d = some ds) : ∃ k xs, SK.val k e.v ∧ SK.At F.K H k xs ∧ JS k F [e.toSh] ds := by
  cases q : e.d with
  | list l =>
    rw [q] at h r; cases h
    obtain ⟨a, xs, fs, q1, q2, q3, q4⟩ := rep_lst r
    exact ⟨.lst a, xs, q1, .inl q2, js_list (p := e.toSh) q1 q rfl⟩
  | tuple l =>
    rw [q] at h r; cases h
    obtain ⟨a, xs, q1, q2, q3⟩ := rep_tup r
    exact ⟨.tup a, xs, q1, q2, js_tup (p := e.toSh) q1 q rfl⟩
  | str s =>
    rw [q] at h r; cases h
    simp only [Rep] at r
    exact ⟨.txt s, _, r.1, rfl, js_txt s⟩
  | _ => rw [q] at h; cases h
def iZipE (a : AR) : IR := fun env => (a env).bind fun p => match p.1 with
  | [.val d1 _, .val d2 _] => (match srcOf d1, srcOf d2 with
    | some ds, some es => .ok (zipDL ds es, p.2)
    | _, _ => .bad)
  | _ => .bad
theorem spec_iZipS {ta : TA} {a : AR} (ha : SpecA K W ta a) : SpecI K W (iZipS K ta) (iZipE a) := fun F G R σ H Q hK n h => by
  refine ha F G R σ H _ hK n ?_
  simp only [iZipE] at h
  cases q : a (envOf G) with
  | bad => rw [q] at h; exact h
  | exc c env => rw [q] at h; exact h
  | ok p =>
    obtain ⟨o, env⟩ := p
    rw [q] at h
    intro G1 H1 es vs g1 n1 w
    simp only [Res.bind] at h
    split at h
    · rename_i d1 t1 d2 t2
      obtain ⟨e1, r1, s1, rfl, w1, w2, rfl, w⟩ := w
      obtain ⟨e2, r2, s2, rfl, w3, w4, rfl, w⟩ := w
      obtain ⟨rfl, rfl⟩ := w
      split at h
      · rename_i ds es h1 h2
        rw [← w1] at h1
        rw [← w3] at h2
        obtain ⟨k1, xs, v1, A1, j1⟩ := src_of (n1.es_rep e1 (by simp)) h1
        obtain ⟨k2, ys, v2, A2, j2⟩ := src_of (n1.es_rep e2 (by simp)) h2
        subst hK
        refine ⟨k1, k2, e1.v, e2.v, xs, ys, rfl, v1, v2, A1, A2, h G1 H1 _ ([e1.toSh] ++ [e2.toSh]) g1 ?_ (jok_zip j1 j2)⟩
        have n2 : Now F G1 (R ++ [e1] ++ [e2.toSh]) σ H1 := Now.toSh (by simpa using n1)
        have n3 : Now F G1 (R ++ [e2.toSh] ++ [e1]) σ H1 := by
          have := Now.perm (es := [e1, e2.toSh]) (es' := [e2.toSh, e1]) (by simpa using n2) (List.Perm.swap ..)
          simpa using this
        have n4 : Now F G1 (R ++ [e2.toSh] ++ [e1.toSh]) σ H1 := n3.toSh
        exact Now.perm (es := [e2.toSh, e1.toSh]) (by simpa using n4) (List.Perm.swap ..)
      · exact h.elim
    · exact h.elim
def srcZ (ds : List D) (r : Opd × Env) : Res (List (D × Tag) × Env) := match r.1 with
  | .val d _ => (match srcOf d with
    | some es => .ok (zipDL ds es, r.2)
    | none => .bad)
  | _ => .bad
def rgZ (f : ER) (o1 o2 : Opd) (env : Env) : Res (List (D × Tag) × Env) := match o1.d env, o2.d env with
  | some (.int i), some (.int j) => if inBig i && inBig j then (f env).bind (srcZ (rngL i 1 (j - i).toNat)) else .bad
  | _, _ => .bad
def iZipRE (a b f : ER) : IR := fun env => (a env).bind fun p => (b p.2).bind fun q => rgZ f p.1 q.1 q.2
theorem spec_iZipR {ta tb te : TE} {a b f : ER} (ha : SpecE K W ta a) (hb : SpecE K W tb b) (hf : SpecE K W te f) : SpecI K W (iZipR K (tRg2 ta tb) te) (iZipRE a b f) := fun F G R σ H Q hK n h => by
  refine spec_two ha hb hK n (k := rgZ f) (fun c env e => by rw [iZipRE, e] at h; exact h) (fun e => by rw [iZipRE, e] at h; exact h) fun o1 o2 G2 H2 es v1 v2 e n2 w => ?_
  have h' : IOut F R σ W (rgZ f o1 o2 (envOf G2)) Q := by rw [← e]; exact h
  unfold rgZ at h'
  split at h'
  · rename_i i j hi hj
    split at h'
    · rename_i hc
      simp only [Bool.and_eq_true] at hc
      obtain ⟨b1, b2⟩ := inBig_ok hc.1
      obtain ⟨b3, b4⟩ := inBig_ok hc.2
      obtain ⟨xs, e1, e2, hx⟩ := n2.opsRep w (ds := [.int i, .int j]) (by simp [opsD, hi, hj])
      match xs, e1, e2, hx with
      | [x, y], e1, e2, hx =>
        simp at e1 e2
        refine ⟨i, j, by rw [e1.1]; exact rep_intV (hx x (by simp)) e2.1.symm, by rw [e1.2]; exact rep_intV (hx y (by simp)) e2.2.symm, ⟨b1, b2, b3, b4⟩, ?_⟩
        refine hf F G2 R σ H2 _ hK n2.drop ?_
        cases q : f (envOf G2) with
        | bad => rw [q] at h'; exact h'
        | exc c env => rw [q] at h'; exact h'
        | ok r =>
          obtain ⟨o, env⟩ := r
          rw [q] at h'
          intro G3 H3 es3 v3 g3 n3 w3
          simp only [Res.bind, srcZ] at h'
          split at h'
          · rename_i d t
            obtain ⟨e1, r1, s1, rfl, w1, w2, w5, w⟩ := w3
            cases w5
            obtain ⟨rfl, _⟩ := w
            split at h'
            · rename_i es h2
              rw [← w1] at h2
              obtain ⟨k2, ys, v2, A2, j2⟩ := src_of (n3.es_rep e1 (by simp)) h2
              subst hK
              exact ⟨k2, ys, v2, A2, h' G3 H3 _ ([] ++ [e1.toSh]) g3 (by simpa using n3.toSh) (jok_zip (js_rng i _) j2)⟩
            · exact h'.elim
          · exact h'.elim
      | [], e1, _, _ => simp at e1
      | [_], e1, _, _ => simp at e1
      | _ :: _ :: _ :: _, e1, _, _ => simp at e1
    · exact h'.elim
  · exact h'.elim
@[simp] theorem iZipE_ap (a : AR) (env : Env) : iZipE a env = (a env).bind fun p => match p.1 with
  | [.val d1 _, .val d2 _] => (match srcOf d1, srcOf d2 with
    | some ds, some es => .ok (zipDL ds es, p.2)
    | _, _ => .bad)
  | _ => .bad := nr rfl
@[simp] theorem srcOf_list : srcOf (.list ds) = some ds := nr rfl
@[simp] theorem srcOf_tuple : srcOf (.tuple ds) = some ds := nr rfl
@[simp] theorem srcOf_str {s : Str} : srcOf (.str s) = some (s.cps.toList.map fun c => .str ⟨#[c]⟩) := nr rfl
@[simp] theorem srcZ_list {ds es : List D} {t : Tag} {env : Env} : srcZ ds (.val (.list es) t, env) = .ok (zipDL ds es, env) := nr rfl
@[simp] theorem srcZ_tuple {ds es : List D} {t : Tag} {env : Env} : srcZ ds (.val (.tuple es) t, env) = .ok (zipDL ds es, env) := nr rfl
theorem rgZ_int {f : ER} {o1 o2 : Opd} {env : Env} {i j : Int} (h1 : o1.d env = some (.int i)) (h2 : o2.d env = some (.int j)) (b1 : inBig i = true) (b2 : inBig j = true) : rgZ f o1 o2 env = (f env).bind (srcZ (rngL i 1 (j - i).toNat)) := by
  unfold rgZ
  rw [h1, h2]
  simp only [b1, b2, Bool.and_self, if_true]
@[simp] theorem iZipRE_ap (a b f : ER) (env : Env) : iZipRE a b f env = (a env).bind fun p => (b p.2).bind fun q => rgZ f p.1 q.1 q.2 := nr rfl
/-! ### x.index(n), ints; x.insert(i, n) -/
def isIntD : D → Bool
  | .int _ => true
  | _ => false
def eqI (n : Int) : D → Bool
  | .int m => m == n
  | _ => false
def indexR (ds : List D) (n : Int) (env : Env) : Res (Opd × Env) := match ds.findIdx? (eqI n) with
  | some j => if ds.all isIntD then .ok (.val (.int j) .unq, env) else .bad
  | none => .bad
def eIndex (i : Nat) (f : ER) : ER := fun env => match env[i]? with
  | some (some (.list _, _)) => (f env).bind fun p => (match p.1.d p.2, p.2[i]? with
    | some (.int n), some (some (.list ds, _)) => indexR ds n p.2
    | _, _ => .bad)
  | _ => .bad
theorem k_index {X : Cx} (h : X.K = K) : MtR X "list.index" (rIndex K) := h ▸ mt_index
theorem repL_intV : ∀ {ds : List D} {vs : List V} {fs : List Addr}, RepL K H ds vs fs → ds.all isIntD = true → ∃ ns : List Int, ds = ns.map PyData.int ∧ vs = ns.map V.int
  | [], vs, fs, r, _ => by
    simp only [RepL] at r
    exact ⟨[], rfl, r.1⟩
  | d :: ds, vs, fs, r, h => by
    simp only [RepL] at r
    obtain ⟨v, ws, f, g, rfl, _, r1, r2⟩ := r
    simp only [List.all_cons, Bool.and_eq_true] at h
    obtain ⟨ns, e1, e2⟩ := repL_intV r2 h.2
    cases d <;> simp [isIntD] at h
    rename_i m
    simp only [Rep] at r1
    exact ⟨m :: ns, by rw [e1]; rfl, by rw [e2, r1.1]; rfl⟩
theorem spec_index {t : TE} {f : ER} (i : Nat) (hf : SpecE K W t f) : SpecE K W (tBM K "list" (rIndex K) (tVar i) (tCons t tNil)) (eIndex i f) := fun F G R σ H Q hK n h => by
  simp only [eIndex] at h
  split at h
  · rename_i ds0 t0 h0
    obtain ⟨x0, hx0, hd0, _⟩ := envOf_inv h0
    have hσ := n.sl.val i x0 hx0
    refine ⟨x0.v, hσ, by rw [← hK]; exact n.tyList hx0 hd0, ?_⟩
    refine hf F G R σ H _ hK n ?_
    cases q : f (envOf G) with
    | bad => rw [q] at h; exact h
    | exc c env => rw [q] at h; exact h
    | ok p =>
      obtain ⟨o, env⟩ := p
      rw [q] at h
      intro G1 H1 es v g1 n1 w
      subst g1
      simp only [Res.bind] at h
      split at h
      · rename_i m ds t hj h1
        obtain ⟨x1, q1, q2, q3⟩ := envOf_inv h1
        have hvv : x0.v = x1.v := Option.some.inj (Option.some.inj (hσ.symm.trans (n1.sl.val i x1 q1)))
        unfold indexR at h
        split at h
        · rename_i j hfi
          split at h
          · rename_i hall
            have r := n1.rep (os := [.slot i]) (.inl ⟨i, q1, by simp [hasSlot]⟩)
            rw [q2] at r
            obtain ⟨a, xs, fs, e1, e2, e3, e4⟩ := rep_lst r
            obtain ⟨ns, f1, f2⟩ := repL_intV e3 hall
            rw [List.findIdx?_eq_some_iff_getElem] at hfi
            obtain ⟨hjl, hjt, hjn⟩ := hfi
            have hl : ds.length = ns.length := by rw [f1]; simp
            have hjl' : j < ns.length := by rw [← hl]; exact hjl
            have dn : ∀ k (hk : k < ds.length), ds[k] = .int (ns[k]'(by rw [← hl]; exact hk)) := by
              intro k hk
              simp [f1]
            refine ⟨a, xs, .int m, j, .int (ns[j]), by rw [hvv, e1], by rw [int_of n1 w hj], by rw [← hK]; exact .inl e2, rfl, by rw [f2]; simp [flatV], ?_, ?_, fun k z' hk hz => ?_, ?_⟩
            · rw [f2, List.getElem?_map, List.getElem?_eq_getElem hjl']; rfl
            · rw [dn j hjl] at hjt
              simpa [eqI, eqV] using hjt
            · have hkl : k < ds.length := by omega
              rw [f2, List.getElem?_map, List.getElem?_eq_getElem (by rw [← hl]; exact hkl)] at hz
              cases hz
              have := hjn k hk
              rw [dn k hkl] at this
              simpa [eqI, eqV] using this
            · exact h G1 H1 _ (.int j) rfl (n1.drop.scalar (rep_int _)) ⟨_, [], [], rfl, rfl, rfl, rfl, rfl, rfl⟩
          · exact h.elim
        · exact h.elim
      · exact h.elim
  · exact h.elim
def rInsert : V → List V → Hp → VK → Prop := fun x vs H Q => ∃ (l : Addr) (xs : List V) (i : Int) (y : V), x = .ref l ∧ vs = [.int i, y] ∧ H l = some (.lst xs) ∧ xs.length < sizeLine ∧ 0 ≤ i ∧ i < 2 ^ 63 ∧
    Q .non (upd H l (.lst (xs.take i.toNat ++ [y] ++ xs.drop i.toNat)))
theorem mt_insertV {X : Cx} : MtR X "list.insert" rInsert := mt_insert
def insE (i : Nat) (j m : Int) (env : Env) : Res (Opd × Env) := atList env i fun ds ti =>
  if ti = .sh then .bad else if 0 ≤ j ∧ j ≤ 4611686018427387903 ∧ ds.length < lim then .ok (none1, env.set i (some (.list (ds.take j.toNat ++ [.int m] ++ ds.drop j.toNat), ti))) else .bad
def eInsert (i : Nat) (a : AR) : ER := fun env => match env[i]? with
  | some (some (.list _, _)) => (a env).bind fun p => (match opsD p.2 p.1 with
    | some [.int j, .int m] => insE i j m p.2
    | _ => .bad)
  | _ => .bad
theorem spec_insert {t : TA} {f : AR} (i : Nat) (hf : SpecA K W t f) : SpecE K W (tBM K "list" rInsert (tVar i) t) (eInsert i f) := fun F G R σ H Q hK n h => by
  simp only [eInsert] at h
  split at h
  · rename_i ds0 t0 h0
    obtain ⟨x0, hx0, hd0, _⟩ := envOf_inv h0
    have hσ := n.sl.val i x0 hx0
    refine ⟨x0.v, hσ, by rw [← hK]; exact n.tyList hx0 hd0, ?_⟩
    refine hf F G R σ H _ hK n ?_
    cases q : f (envOf G) with
    | bad => rw [q] at h; exact h
    | exc c env => rw [q] at h; exact h
    | ok p =>
      obtain ⟨o, env⟩ := p
      rw [q] at h
      intro G1 H1 es vs g1 n1 w
      subst g1
      simp only [Res.bind] at h
      split at h
      · rename_i j m hj
        obtain ⟨xs, e1, e2, hx⟩ := n1.opsRep w hj
        match xs, e1, e2, hx with
        | [x, y], e1, e2, hx =>
          simp at e2
          have hv1 := rep_intV (hx x (by simp)) e2.1.symm
          have hv2 := rep_intV (hx y (by simp)) e2.2.symm
          simp only [insE, atList] at h
          split at h
          · rename_i ds ti h1
            obtain ⟨z, hz, hd, hti⟩ := envOf_inv h1
            split at h
            · exact h.elim
            · rename_i nsh
              split at h
              · rename_i hb
                have n0 : Now F G1 (R ++ []) σ H1 := by simpa using n1.drop
                obtain ⟨a, ys, fs, hv, hfp, hHa, hrl, hm⟩ := n0.mutList hz hd (by rw [hti]; exact nsh)
                have hvv : x0.v = z.v := Option.some.inj (Option.some.inj (hσ.symm.trans (n1.sl.val i z hz)))
                have par0 : ti = .par → fs = [] := fun c => n1.drop.parFs hz hfp (by rw [hti]; exact c)
                obtain ⟨f0, g0, fe, r1, r2⟩ := hrl.sub j.toNat
                have rn := (r1.append (RepL.cons (rep_int m) RepL.nil)).append r2
                have efs : (f0 ++ ([] ++ [])) ++ g0 = fs := by rw [fe]; simp
                rw [efs] at rn
                have n2 := hm _ _ fs ti [] rn (fun b hb => .inl hb)
                  (by
                    cases ti with
                    | sh => exact absurd rfl nsh
                    | own => exact .inr (.inl ⟨rfl, by rw [hti]; simp⟩)
                    | par => exact .inl ⟨rfl, hti, par0 rfl⟩
                    | unq => exact .inr (.inr ⟨rfl, hti, n1.drop.unqNd hz hfp hti, fun b hb => .inl hb⟩))
                  (fun r hr => by cases hr) (by simp)
                have n3 := n2.drop.scalar (d := .none) (v := .non) rep_none
                refine ⟨a, ys, j, .int m, by rw [hvv, hv], ?_, hHa, by rw [hrl.length, ← lim_eq]; exact hb.2.2, hb.1, by have := hb.2.1; omega, h _ _ [_] .non (by rw [envOf_set]; rfl) n3 ⟨_, [], [], rfl, rfl, rfl, rfl, rfl, rfl⟩⟩
                rw [e1]; simp [hv1, hv2]
              · exact h.elim
          · exact h.elim
        | [], e1, e2, _ => simp at e2
        | [_], e1, e2, _ => simp at e2
        | _ :: _ :: _ :: _, e1, e2, _ => simp at e2
      · exact h.elim
  · exact h.elim
@[simp] theorem eIndex_ap (i : Nat) (f : ER) (env : Env) : eIndex i f env = match env[i]? with
  | some (some (.list _, _)) => (f env).bind fun p => (match p.1.d p.2, p.2[i]? with
    | some (.int n), some (some (.list ds, _)) => indexR ds n p.2
    | _, _ => .bad)
  | _ => .bad := nr rfl
@[simp] theorem eInsert_ap (i : Nat) (a : AR) (env : Env) : eInsert i a env = match env[i]? with
  | some (some (.list _, _)) => (a env).bind fun p => (match opsD p.2 p.1 with
    | some [.int j, .int m] => insE i j m p.2
    | _ => .bad)
  | _ => .bad := nr rfl
end
theorem k_zipS (K : PySem.W.Frag) {X : Cx} (h : X.K = K) {e e2 : Expr} {ta : TA} {p pos tpos : Pos} {elts : List Expr} {kk : Nat} (hg : Gl X "zip") (hm : X.mg "zip" = none) (ha : PA X [e, e2] ta)
    (hs : starEach [e, e2] X.env = (false, eval e X.env) :: starEach [e2] X.env := by rfl) (hpl : (backTo pos (starEach [e2] X.env)).any (·.1) = false := by rfl) :
    PI X (.Tuple elts kk tpos) (.Call (.Name "zip" p) [e, e2] [] pos) (iZipS K ta) := h ▸ pi_zipS hg hm ha hs hpl
theorem k_zipR (K : PySem.W.Frag) {X : Cx} (h : X.K = K) {e e2 : Expr} {tr : L2.St → Hp → (Int → Int → Hp → Prop) → Prop} {te : TE} {p pos tpos : Pos} {elts : List Expr} {kk : Nat} (hg : Gl X "zip") (hm : X.mg "zip" = none) (hr : PRgP X e tr) (he : PE X e2 te)
    (hs : starEach [e, e2] X.env = (false, eval e X.env) :: starEach [e2] X.env := by rfl) (hs2 : starEach [e2] X.env = (false, eval e2 X.env) :: starEach [] X.env := by rfl) (hpl : (backTo pos (starEach [e2] X.env)).any (·.1) = false := by rfl) :
    PI X (.Tuple elts kk tpos) (.Call (.Name "zip" p) [e, e2] [] pos) (iZipR K tr te) := h ▸ pi_zipR hg hm hr he hs hs2 hpl
end VL
end
section
set_option Elab.async false
set_option linter.all false
set_option maxRecDepth 100000
/-! comprehensions of two sources -/
namespace VL
open PySem PySem.Spec PyProof.Rows L2
section
variable {K : PySem.W.Frag} {W : WV}
def turn2E (g : GR) (tt : TR) (fi1 : IR) (g1 : GR) (tt1 : TR) (te : ER) (own own1 : List Nat) (p : D × Tag) (env : Env) : Res (List (D × Tag) × Env) :=
  (g p env).bind fun e1 => (tt e1).bind fun q => if q.1 then (fi1 q.2).bind fun z => (lcE g1 tt1 te own1 z.1 (wipeE z.2 own1)).bind fun r => .ok (r.1, wipeE r.2 own) else .ok ([], wipeE q.2 own)
def lc2E (g : GR) (tt : TR) (fi1 : IR) (g1 : GR) (tt1 : TR) (te : ER) (own own1 : List Nat) : List (D × Tag) → Env → Res (List (D × Tag) × Env)
  | [], env => .ok ([], env)
  | p :: ps, env => (turn2E g tt fi1 g1 tt1 te own own1 p env).bind fun q => (lc2E g tt fi1 g1 tt1 te own own1 ps q.2).bind fun r => .ok (q.1 ++ r.1, r.2)
def eLc2 (fi : IR) (g : GR) (tt : TR) (fi1 : IR) (g1 : GR) (tt1 : TR) (te : ER) (own own1 : List Nat) : ER := fun env => (fi env).bind fun p =>
  if noPar own p.2 then ((lc2E g tt fi1 g1 tt1 te own own1 p.1 (wipeE p.2 own)).nox).bind fun r => if decide (r.1.length ≤ lim) then .ok (.val (.list (r.1.map (·.1))) (accTag r.1), r.2) else .bad else .bad
theorem spec_lc2 {wi wi1 : TI} {fi fi1 : IR} {tg tg1 : TG} {g gg1 : GR} {tt tt1 : TT} {ft ft1 : TR} {te : TE} {fe : ER} {own own1 : List Nat} (hi : SpecI K W wi fi) (hg : SpecG K WF tg g) (hk : GKeep own tg) (ht : SpecT K WF tt ft)
    (hi1 : SpecI K WF wi1 fi1) (hg1 : SpecG K WF tg1 gg1) (hk1 : GKeep own1 tg1) (ht1 : SpecT K WF tt1 ft1) (he : SpecE K WF te fe) (hsub : ∀ i ∈ own1, i ∈ own) :
    SpecE K W (tLc2 wi tg tt wi1 tg1 tt1 te own own1) (eLc2 fi g ft fi1 gg1 ft1 fe own own1) := fun F G R σ H Q hK n h => by
  refine hi F G R σ H _ hK n ?_
  simp only [eLc2] at h
  cases q : fi (envOf G) with
  | bad => rw [q] at h; exact h
  | exc c env => rw [q] at h; exact h
  | ok p =>
    obtain ⟨ds, env⟩ := p
    rw [q] at h
    intro G1 H1 J ps g1 n1 jok
    subst g1
    simp only [Res.bind] at h
    split at h
    case isFalse => exact h.elim
    rename_i np
    have np := noPar_ok n1.sl np
    have np1 : ∀ i ∈ own1, _ := fun i hi => np i (hsub i hi)
    cases q2 : lc2E g ft fi1 gg1 ft1 fe own own1 ds (wipeE (envOf G1) own) with
    | bad => rw [q2] at h; exact h.elim
    | exc c env => rw [q2] at h; exact h.elim
    | ok rr =>
    obtain ⟨r, e2⟩ := rr
    rw [q2] at h
    simp only [Res.nox] at h
    split at h
    case isFalse => exact h.elim
    rename_i hl
    have hl := of_decide_eq_true hl
    intro L hL
    have n0 : Now F (wipeG G1 own) ((R ++ ps) ++ [⟨.ref L, .list [], accTag [], [L]⟩]) σ (upd H1 L (.lst [])) := by
      have := (n1.wipe own np)
      have n' : Now F (wipeG G1 own) ((R ++ ps) ++ []) σ H1 := by simpa using this
      have := n'.lst hL
      simpa [accTag, allUnq, fpsOf] using this
    refine ⟨fun i m H => m = ds.length - i ∧ i ≤ ds.length ∧ ∃ G2 acc r2 fp, Now F (wipeG G2 own) ((R ++ ps) ++ [⟨.ref L, .list (acc.map (·.1)), accTag acc, fp⟩]) σ H ∧ lc2E g ft fi1 gg1 ft1 fe own own1 (ds.drop i) (wipeE (envOf G2) own) = .ok (r2, e2) ∧ r = acc ++ r2, ⟨ds.length, by simp, Nat.zero_le _, G1, [], r, [L], n0, q2, rfl⟩, ?_⟩
    rintro i m H2 ⟨rfl, hi, G2, acc, r2, fp, n2, hr, er⟩
    by_cases hlt : i < ds.length
    · have hd : ds[i]? = some ds[i] := List.getElem?_eq_getElem hlt
      obtain ⟨go, yl⟩ := jok.item (wipeG G2 own) R [⟨.ref L, .list (acc.map (·.1)), accTag acc, fp⟩] σ H2 i _ n2 hd
      refine .inr ⟨go, fun H => ∃ G2 acc r2 fp, Now F (wipeG G2 own) ((R ++ ps) ++ [⟨.ref L, .list (acc.map (·.1)), accTag acc, fp⟩]) σ H ∧ lc2E g ft fi1 gg1 ft1 fe own own1 (ds.drop (i + 1)) (wipeE (envOf G2) own) = .ok (r2, e2) ∧ r = acc ++ r2, fun H' h' => ⟨ds.length - (i + 1), by omega, rfl, hlt, h'⟩, fun x H3 hy => ?_⟩
      obtain ⟨e, rfl, e3, n3⟩ := yl x H3 hy
      rw [List.drop_eq_getElem_cons hlt] at hr
      simp only [lc2E, turn2E] at hr
      have n3' : Now F (wipeG G2 own) ((R ++ ps ++ [⟨.ref L, .list (acc.map (·.1)), accTag acc, fp⟩]) ++ [e]) (L2.wipe σ own) H3 := n3.resl (wipe_wipe own).symm
      refine hk _ _ _ (fun σ4 H4 => L2.wipe σ4 own = L2.wipe σ own → tt σ4 H4 _) _ (fun σ4 H4 k4 q4 => ⟨k4.trans (wipe_wipe own), q4 (k4.trans (wipe_wipe own))⟩) ?_
      refine hg F _ _ _ H3 e _ hK n3' ?_
      rw [e3, wipe_env]
      cases q3 : g ds[i] (wipeE (envOf G2) own) with
      | bad => rw [q3] at hr; cases hr
      | exc c env => rw [q3] at hr; cases hr
      | ok env4 =>
      rw [q3] at hr
      intro G4 σ4 H4 g4 n4 k4
      subst g4
      refine ht F G4 _ σ4 H4 _ hK n4 ?_
      simp only [Res.bind] at hr
      cases q4 : ft (envOf G4) with
      | bad => rw [q4] at hr; cases hr
      | exc c env => rw [q4] at hr; cases hr
      | ok p5 =>
      obtain ⟨b, env5⟩ := p5
      rw [q4] at hr
      intro G5 H5 g5 n5
      subst g5
      simp only [] at hr
      cases b with
      | false =>
        refine iteF ?_
        simp only [Bool.false_eq_true, if_false, List.nil_append] at hr
        cases q6 : lc2E g ft fi1 gg1 ft1 fe own own1 (ds.drop (i + 1)) (wipeE (envOf G5) own) with
        | bad => rw [q6] at hr; cases hr
        | exc c env => rw [q6] at hr; cases hr
        | ok p6 =>
          rw [q6] at hr
          exact ⟨G5, acc, r2, fp, (n5.wipe own np).resl k4, by rw [q6]; exact hr, er⟩
      | true =>
        refine iteT ?_
        simp only [if_true] at hr
        refine hi1 F G5 _ σ4 H5 _ hK n5 ?_
        cases q6 : fi1 (envOf G5) with
        | bad => rw [q6] at hr; cases hr
        | exc c env => rw [q6] at hr; cases hr
        | ok z6 =>
        obtain ⟨ds1, env6⟩ := z6
        rw [q6] at hr
        intro G6 H6 J1 ps1 g6 n6 jok1
        subst g6
        simp only [] at hr
        cases q7 : lcE gg1 ft1 fe own1 ds1 (wipeE (envOf G6) own1) with
        | bad => rw [q7] at hr; cases hr
        | exc c env => rw [q7] at hr; cases hr
        | ok rr7 =>
        obtain ⟨rin, e7⟩ := rr7
        rw [q7] at hr
        simp only [] at hr
        cases q8 : lc2E g ft fi1 gg1 ft1 fe own own1 (ds.drop (i + 1)) (wipeE e7 own) with
        | bad => rw [q8] at hr; cases hr
        | exc c env => rw [q8] at hr; cases hr
        | ok rr8 =>
        obtain ⟨r8, e8⟩ := rr8
        rw [q8] at hr
        simp only [Res.ok.injEq, Prod.mk.injEq] at hr
        obtain ⟨hr1, hr2⟩ := hr
        subst hr2
        -- the inner loop
        have n6' : Now F (wipeG G6 own1) ((R ++ ps) ++ ps1 ++ [⟨.ref L, .list (acc.map (·.1)), accTag acc, fp⟩]) σ4 H6 := by
          have a1 := n6.wipe own1 np1
          have a2 : Now F (wipeG G6 own1) ((R ++ ps) ++ ([⟨.ref L, .list (acc.map (·.1)), accTag acc, fp⟩] ++ ps1)) σ4 H6 := by simpa using a1
          have a3 := a2.perm (es' := ps1 ++ [⟨.ref L, .list (acc.map (·.1)), accTag acc, fp⟩]) List.perm_append_comm
          simpa using a3
        refine ⟨fun j k H => k = ds1.length - j ∧ j ≤ ds1.length ∧ ∃ G7 acc1 r7 fp7, Now F (wipeG G7 own1) ((R ++ ps) ++ ps1 ++ [⟨.ref L, .list (acc1.map (·.1)), accTag acc1, fp7⟩]) σ4 H ∧ lcE gg1 ft1 fe own1 (ds1.drop j) (wipeE (envOf G7) own1) = .ok (r7, e7) ∧ acc ++ rin = acc1 ++ r7, ⟨ds1.length, by simp, Nat.zero_le _, G6, acc, rin, fp, n6', q7, rfl⟩, ?_⟩
        rintro j k H7 ⟨rfl, hj, G7, acc1, r7, fp7, n7, hr7, er7⟩
        have bound : acc1.length + r7.length ≤ lim := by
          have a1 : (acc1 ++ r7).length ≤ r.length := by
            rw [← er7, er, ← hr1]; simp
          rw [List.length_append] at a1
          omega
        by_cases hlt1 : j < ds1.length
        · have hd1 : ds1[j]? = some ds1[j] := List.getElem?_eq_getElem hlt1
          obtain ⟨go1, yl1⟩ := jok1.item (wipeG G7 own1) (R ++ ps) [⟨.ref L, .list (acc1.map (·.1)), accTag acc1, fp7⟩] σ4 H7 j _ n7 hd1
          refine .inr ⟨go1, fun H => ∃ G7 acc1 r7 fp7, Now F (wipeG G7 own1) ((R ++ ps) ++ ps1 ++ [⟨.ref L, .list (acc1.map (·.1)), accTag acc1, fp7⟩]) σ4 H ∧ lcE gg1 ft1 fe own1 (ds1.drop (j + 1)) (wipeE (envOf G7) own1) = .ok (r7, e7) ∧ acc ++ rin = acc1 ++ r7, fun H' h' => ⟨ds1.length - (j + 1), by omega, rfl, hlt1, h'⟩, fun x1 H8 hy1 => ?_⟩
          obtain ⟨y1, rfl, y3, m3⟩ := yl1 x1 H8 hy1
          rw [List.drop_eq_getElem_cons hlt1] at hr7
          simp only [lcE, turnE] at hr7
          have m3' : Now F (wipeG G7 own1) ((R ++ ps ++ ps1 ++ [⟨.ref L, .list (acc1.map (·.1)), accTag acc1, fp7⟩]) ++ [y1]) (L2.wipe σ4 own1) H8 := m3.resl (wipe_wipe own1).symm
          refine hk1 _ _ _ (fun σ5 H9 => L2.wipe σ5 own1 = L2.wipe σ4 own1 → tt1 σ5 H9 _) _ (fun σ5 H9 k5 q5 => ⟨k5.trans (wipe_wipe own1), q5 (k5.trans (wipe_wipe own1))⟩) ?_
          refine hg1 F _ _ _ H8 y1 _ hK m3' ?_
          rw [y3, wipe_env]
          cases p3 : gg1 ds1[j] (wipeE (envOf G7) own1) with
          | bad => rw [p3] at hr7; cases hr7
          | exc c env => rw [p3] at hr7; cases hr7
          | ok env9 =>
          rw [p3] at hr7
          intro G9 σ5 H9 g9 m4 k5
          subst g9
          refine ht1 F G9 _ σ5 H9 _ hK m4 ?_
          simp only [Res.bind] at hr7
          cases p4 : ft1 (envOf G9) with
          | bad => rw [p4] at hr7; cases hr7
          | exc c env => rw [p4] at hr7; cases hr7
          | ok p5 =>
          obtain ⟨b, env10⟩ := p5
          rw [p4] at hr7
          intro G10 H10 g10 m5
          subst g10
          simp only [] at hr7
          cases b with
          | false =>
            refine iteF ?_
            simp only [Bool.false_eq_true, if_false, Option.toList, List.nil_append] at hr7
            cases p6 : lcE gg1 ft1 fe own1 (ds1.drop (j + 1)) (wipeE (envOf G10) own1) with
            | bad => rw [p6] at hr7; cases hr7
            | exc c env => rw [p6] at hr7; cases hr7
            | ok z =>
              rw [p6] at hr7
              exact ⟨G10, acc1, r7, fp7, (m5.wipe own1 np1).resl k5, by rw [p6]; exact hr7, er7⟩
          | true =>
            refine iteT ?_
            simp only [if_true] at hr7
            refine he F G10 _ σ5 H10 _ hK m5 ?_
            cases p6 : fe (envOf G10) with
            | bad => rw [p6] at hr7; cases hr7
            | exc c env => rw [p6] at hr7; cases hr7
            | ok p7 =>
            obtain ⟨o, env11⟩ := p7
            rw [p6] at hr7
            intro G11 H11 es v g11 m6 w6
            subst g11
            simp only [] at hr7
            cases o with
            | slot i => cases hr7
            | val d t =>
            obtain ⟨y, rr, ss, rfl, e4, e5, e6, rfl, rfl⟩ := w6
            cases e6
            simp only [] at hr7
            cases p8 : lcE gg1 ft1 fe own1 (ds1.drop (j + 1)) (wipeE (envOf G11) own1) with
            | bad => rw [p8] at hr7; cases hr7
            | exc c env => rw [p8] at hr7; cases hr7
            | ok p9 =>
            obtain ⟨r9, e9⟩ := p9
            rw [p8] at hr7
            simp only [Option.toList, List.cons_append, List.nil_append, Res.ok.injEq, Prod.mk.injEq] at hr7
            have hlen : acc1.length < lim := by
              rw [← hr7.1, List.length_cons] at bound
              omega
            obtain ⟨xs, fs', z1, z2, z3⟩ := m6.appendAcc (t' := accTag (acc1 ++ [(d, t)])) rfl rfl (by rw [e4, e5]; exact accTag_app acc1 (d, t))
            refine ⟨xs, z1, ?_, ?_⟩
            · rw [z2, List.length_map, ← lim_eq]; exact hlen
            · refine ⟨G11, acc1 ++ [(d, t)], r9, fs', ?_, by rw [p8, hr7.2], by rw [er7, ← hr7.1]; simp⟩
              have := (z3.wipe own1 np1).resl k5
              rw [e4] at this
              simpa using this
        · have e1 : j = ds1.length := by omega
          subst e1
          rw [List.drop_length] at hr7
          simp [lcE] at hr7
          refine .inl ⟨jok1.stop (wipeG G7 own1) (R ++ ps) _ σ4 H7 n7, ?_⟩
          refine ⟨wipeG G7 own1, acc1, r8, fp7, ((n7.dropM).wipe own np).resl k4, ?_, ?_⟩
          · rw [wipe_env, hr7.2]; exact q8
          · rw [er, ← hr1, ← List.append_assoc, er7, hr7.1]; simp
    · have e1 : i = ds.length := by omega
      subst e1
      rw [List.drop_length] at hr
      simp [lc2E] at hr
      refine .inl ⟨jok.stop (wipeG G2 own) R _ σ H2 n2, ?_⟩
      rw [hr.1, List.append_nil] at er
      subst er
      exact h (wipeG G2 own) H2 [_] _ (by rw [wipe_env]; exact hr.2) n2.dropM ⟨_, [], [], rfl, rfl, rfl, rfl, rfl, rfl⟩
@[simp] theorem eLc2_ap (fi : IR) (g : GR) (tt : TR) (fi1 : IR) (g1 : GR) (tt1 : TR) (te : ER) (own own1 : List Nat) (env : Env) : eLc2 fi g tt fi1 g1 tt1 te own own1 env = (fi env).bind fun p =>
  if noPar own p.2 then ((lc2E g tt fi1 g1 tt1 te own own1 p.1 (wipeE p.2 own)).nox).bind fun r => if decide (r.1.length ≤ lim) then .ok (.val (.list (r.1.map (·.1))) (accTag r.1), r.2) else .bad else .bad := rfl
end
end VL
end
section
set_option Elab.async false
set_option linter.all false
set_option maxRecDepth 100000
/-! sorted(set(x)), x a tuple of ints; sep.join(x) -/
namespace VL
open PySem PySem.Spec PyProof.Rows L2
def rSortSet (K : PySem.W.Frag) : V → Hp → VK → Prop := fun x H Q => ∃ (l : Addr) (ns : List Int), x = .ref l ∧ SqT K H l (ns.map V.int) ∧ ns.length < 64 ∧
  ∀ (ms : List Int) (p : Addr), ms.Pairwise (· < ·) → (∀ k : Int, k ∈ ms ↔ k ∈ ns) → H p = none → Q (.ref p) (upd H p (.lst (ms.map V.int)))
section
variable {X : Cx}
theorem pe_sortSet {a : Expr} {ta : TE} {p p2 q pos : Pos} (hg : Gl X "sorted") (hm : X.mg "sorted" = none) (hg2 : Gl X "set") (hm2 : X.mg "set" = none) (ha : PE X a ta) (hc : X.calm = true)
    (na : starEach [a] X.env = (false, eval a X.env) :: starEach [] X.env := by rfl) : PE X (.Call (.Name "sorted" p) [.Call (.Name "set" p2) [a] [] q] [] pos) (tUn (rSortSet X.K) ta) := by
  refine ⟨fun pins s σ H Q I h => Call_ (ld_blt I hg hm boot_sorted (callWith_builtin1 (args_cons ?_ rfl) rfl rfl))⟩
  refine Call_ (ld_blt I hg2 hm2 boot_set (callWith_type1 (args_cons (thn (ha.run pins s σ H _ I h) fun v s1 ⟨x, H1, I1, r1, q1⟩ => args_nil ?_) na) na rfl))
  obtain ⟨l, ns, rfl, hq, hl, q1⟩ := q1
  cases r1
  obtain ⟨its, r, pl, hz⟩ := I1.tuple hq
  refine call_set_tupI ns (I1.ok.hd hc) pl (by simpa using intsAre_of r) (by unfold scanBound; omega) fun h' tk c hS hcl hk => args_nil ?_
  have I2 : Inv X pins σ H1 { s1 with heap := h', toks := tk } := I1.kept hk
  refine sorted_set hS (I2.ok.hd hc) (by omega) fun s' p out c ms k g o hp hg hi hs hmm hlm => ?_
  have hlen : (ms.map V.int).length ≤ sizeLine := by rw [List.length_map, hlm, sizeLine_eq]; omega
  have hn : H1 p = none := I2.hok.fresh hp
  have J : Inv X pins σ (upd H1 p (.lst (ms.map V.int))) { ({ s1 with heap := h', toks := tk } : Shared) with heap := s'.heap, gens := s'.gens, drawn := s'.drawn, toks := s'.toks } :=
    I2.call (ch := []) (Un.laid k hp hn) (I2.hok.laid k hp ⟨hlen, out.toList, c, vals_of_ints hi, hg⟩) (by rw [g]; exact I2.bare) (fun _ z => nomatch z)
  have e : s' = { ({ s1 with heap := h', toks := tk } : Shared) with heap := s'.heap, gens := s'.gens, drawn := s'.drawn, toks := s'.toks } := by
    cases s'
    cases s1
    cases o
    rfl
  rw [e]
  exact ⟨.ref p, _, J, rfl, q1 ms p hs (fun k => (hmm k).trans decide_eq_true_iff) hn⟩
theorem k_sortSet (K : PySem.W.Frag) (h : X.K = K) {a : Expr} {ta : TE} {p p2 q pos : Pos} (hg : Gl X "sorted") (hm : X.mg "sorted" = none) (hg2 : Gl X "set") (hm2 : X.mg "set" = none) (ha : PE X a ta) (hc : X.calm = true)
    (na : starEach [a] X.env = (false, eval a X.env) :: starEach [] X.env := by rfl) : PE X (.Call (.Name "sorted" p) [.Call (.Name "set" p2) [a] [] q] [] pos) (tUn (rSortSet K) ta) := h ▸ pe_sortSet hg hm hg2 hm2 ha hc na
end
section
variable {K : PySem.W.Frag} {W : WV}
/-- ascending, each once -/
def insI (x : Int) : List Int → List Int
  | [] => [x]
  | y :: l => if x < y then x :: y :: l else if x = y then y :: l else y :: insI x l
def setI (ns : List Int) : List Int := ns.foldr insI []
theorem mem_insI {x z : Int} : ∀ {l : List Int}, z ∈ insI x l ↔ z = x ∨ z ∈ l
  | [] => by simp [insI]
  | y :: l => by
    unfold insI
    split
    · simp
    · split
      · rename_i h; subst h; simp
      · rw [List.mem_cons, mem_insI, List.mem_cons]
        constructor
        · rintro (h | h | h) <;> simp [h]
        · rintro (h | h | h) <;> simp [h]
theorem insI_asc {x : Int} : ∀ {l : List Int}, l.Pairwise (· < ·) → (insI x l).Pairwise (· < ·)
  | [], _ => by simp [insI]
  | y :: l, h => by
    have h' := List.pairwise_cons.mp h
    unfold insI
    split
    · rename_i hx
      refine List.pairwise_cons.mpr ⟨fun z hz => ?_, h⟩
      rcases List.mem_cons.mp hz with rfl | hz
      · exact hx
      · have := h'.1 z hz; omega
    · split
      · exact h
      · refine List.pairwise_cons.mpr ⟨fun z hz => ?_, insI_asc h'.2⟩
        rcases mem_insI.mp hz with rfl | hz
        · omega
        · exact h'.1 z hz
theorem setI_mem {ns : List Int} {z : Int} : z ∈ setI ns ↔ z ∈ ns := by
  unfold setI
  induction ns with
  | nil => simp
  | cons x ns ih => simp [mem_insI, ih]
theorem setI_asc (ns : List Int) : (setI ns).Pairwise (· < ·) := by
  unfold setI
  induction ns with
  | nil => simp
  | cons x ns ih => exact insI_asc ih
theorem asc_ext : ∀ {l m : List Int}, l.Pairwise (· < ·) → m.Pairwise (· < ·) → (∀ k : Int, k ∈ l ↔ k ∈ m) → l = m
  | [], [], _, _, _ => rfl
  | [], y :: m, _, _, h => by have := (h y).mpr (by simp); simp at this
  | x :: l, [], _, _, h => by have := (h x).mp (by simp); simp at this
  | x :: l, y :: m, hl, hm, h => by
    have hl := List.pairwise_cons.mp hl
    have hm := List.pairwise_cons.mp hm
    have e : x = y := by
      rcases List.mem_cons.mp ((h x).mp (by simp)) with e | e
      · exact e
      · rcases List.mem_cons.mp ((h y).mpr (by simp)) with e2 | e2
        · exact e2.symm
        · have := hl.1 y e2; have := hm.1 x e; omega
    subst e
    congr 1
    refine asc_ext hl.2 hm.2 fun k => ⟨fun hk => ?_, fun hk => ?_⟩
    · rcases List.mem_cons.mp ((h k).mp (by simp [hk])) with e | e
      · subst e; exact absurd (hl.1 _ hk) (Int.lt_irrefl _)
      · exact e
    · rcases List.mem_cons.mp ((h k).mpr (by simp [hk])) with e | e
      · subst e; exact absurd (hm.1 _ hk) (Int.lt_irrefl _)
      · exact e
def sortSetD (d : D) : Option (D × Tag) := match d with
  | .tuple ds => (intsOf ds).bind fun ns => if ns.length < 64 then some (.list (dInts (setI ns)), .unq) else none
  | _ => none
def pSortSet : PF := pf1 sortSetD
theorem noMutL_dI : ∀ ns : List Int, noMutL (dInts ns) = true := noMut_ints
theorem repL_of_ints {H : Hp} : ∀ ns : List Int, RepL K H (dInts ns) (ns.map V.int) []
  | [] => by simpa [dInts] using (RepL.nil (K := K) (H := H))
  | n :: ns => by
    have := RepL.cons (rep_int (K := K) (H := H) n) (repL_of_ints (H := H) ns)
    simpa [dInts] using this
theorem pure_sortSet : PureR1 K (rSortSet K) pSortSet := pureR1_of fun H x d t Q hx hf hQ => by
  unfold sortSetD at hf
  split at hf
  · rename_i ds hd
    obtain ⟨ns, h1, h2⟩ := Option.bind_eq_some_iff.mp hf
    have e := ints_of h1
    split at h2
    · rename_i hl
      cases h2
      obtain ⟨p, xs, v1, r1, l1, s1⟩ := ent_tup hd hx
      rw [e] at l1
      rw [repL_ints l1] at r1
      refine ⟨p, ns, v1, r1, hl, fun ms q hs hm hq => ?_⟩
      have em : ms = setI ns := asc_ext hs (setI_asc ns) fun k => (hm k).trans setI_mem.symm
      subst em
      have P := pout_lst (xs := [x]) hq (repL_of_ints (K := K) (H := H) (setI ns)) (fun b hb => by cases hb)
      have et : lTag (dInts (setI ns)) = .unq := by unfold lTag; rw [noMutL_dI]; rfl
      rw [et] at P
      exact hQ _ _ _ P
    · cases h2
  · cases hf
theorem spec_sortSet {te : TE} {a : ER} (ha : SpecE K W te a) : SpecE K W (tUn (rSortSet K) te) (ePure1 pSortSet a) := spec_un pure_sortSet ha
@[simp] theorem pSortSet_tup (ns : List Int) (h : ns.length < 64) : pSortSet [.tuple (dInts ns)] = some (.list (dInts (setI ns)), .unq) := by
  simp [pSortSet, pf1, sortSetD, h]
end
/-! ### join -/
section
variable {X : Cx} {K : PySem.W.Frag} {W : WV}
def rJ (K : PySem.W.Frag) : V → List V → Hp → VK → Prop := fun x xs H Q => ∃ a p, ∃ ys : List Str, x = .str a ∧ xs = [.ref p] ∧ (SqL K H p (ys.map V.str) ∨ SqT K H p (ys.map V.str)) ∧
    (ys.map (·.length)).sum + ys.length * a.length ≤ 16777216 ∧ Q (.str (Txt.join a ys)) H
theorem k_join (K : PySem.W.Frag) (h : X.K = K) {o e : Expr} {to te : TE} {apos pos : Pos} (ho : PE X o to) (he : PE X e te) (hs : starEach [e] X.env = [(false, eval e X.env)] := by rfl) (hbase : attributeBase o "join" X.env (eval o X.env) = eval o X.env := by rfl) (hline : (apos.endLine == pos.line) = true := by rfl) :
    PE X (.Call (.Attribute o "join" apos) [e] [] pos) (tM1 (rJ K) to te) := by
  subst h
  exact pe_join ho he hs hbase hline
def strsOf : List D → Option (List Str)
  | [] => some []
  | .str x :: ds => (strsOf ds).map fun l => x :: l
  | _ => none
theorem repL_strs {H : Hp} : ∀ {ds : List D} {ys : List Str} {vs : List V} {fs : List Addr}, strsOf ds = some ys → RepL K H ds vs fs → vs = ys.map V.str
  | [], ys, vs, fs, h, r => by
    simp only [strsOf] at h
    cases h
    simp only [RepL] at r
    exact r.1
  | d :: ds, ys, vs, fs, h, r => by
    cases d <;> simp only [strsOf] at h <;> try cases h
    obtain ⟨l, h1, rfl⟩ := Option.map_eq_some_iff.mp h
    simp only [RepL] at r
    obtain ⟨v, ws, f, g, rfl, _, r1, r2⟩ := r
    simp only [Rep] at r1
    rw [r1.1, repL_strs h1 r2]; rfl
def joinD (c : Str) (d : D) : Option D := ((seqOf d).bind strsOf).bind fun ys => if (ys.map (·.length)).sum + ys.length * c.length ≤ 16777216 then some (.str (Txt.join c ys)) else none
def pJoin (c : Str) : PF := ps1 (joinD c)
theorem pure_join (c : Str) : PureR1 K (fun y H Q => rJ K (.str c) [y] H Q) (pJoin c) := pureR1_of fun H x d t Q hx hf hQ => by
  obtain ⟨r, hr, e⟩ := Option.map_eq_some_iff.mp hf
  cases e
  obtain ⟨ys, h1, h2⟩ := Option.bind_eq_some_iff.mp hr
  obtain ⟨ds, h3, h4⟩ := Option.bind_eq_some_iff.mp h1
  split at h2
  · rename_i hl
    cases h2
    unfold seqOf at h3
    split at h3
    · rename_i a e1
      cases h3
      obtain ⟨p, xs, fs, v1, r1, l1, s1⟩ := ent_lst e1 hx
      rw [repL_strs h4 l1] at r1
      exact ⟨c, p, ys, rfl, by rw [v1], .inl (.inl r1), hl, hQ _ _ _ (pout_scal rfl)⟩
    · rename_i a e1
      cases h3
      obtain ⟨p, xs, v1, r1, l1, s1⟩ := ent_tup e1 hx
      rw [repL_strs h4 l1] at r1
      exact ⟨c, p, ys, rfl, by rw [v1], .inr r1, hl, hQ _ _ _ (pout_scal rfl)⟩
    · cases h3
  · cases h2
theorem spec_join {te : TE} {f : ER} (c : Str) (hf : SpecE K W te f) : SpecE K W (tM1 (rJ K) (tC (.str c)) te) (ePure1 (pJoin c) f) := fun F G R σ H Q hK n h =>
  ⟨⟨c, rfl⟩, spec_un (pure_join c) hf F G R σ H Q hK n h⟩
end
end VL
end
section
set_option Elab.async false
set_option linter.all false
set_option maxRecDepth 100000
/-! zip(a, b, c) -/
namespace VL
open PySem PySem.Spec PyProof.Rows L2
def ItS3 (K : PySem.W.Frag) (k1 k2 k3 : SK) : It :=
  ⟨fun i H => ∃ (xs ys zs : List V) (x y z : V), k1.At K H xs ∧ k2.At K H ys ∧ k3.At K H zs ∧ xs[i]? = some x ∧ ys[i]? = some y ∧ zs[i]? = some z,
    fun i H v H' => ∃ T x y z, v = .ref T ∧ H T = none ∧ H' = upd H T (.tup [x, y, z]) ∧ (∀ xs, k1.At K H xs → xs[i]? = some x) ∧ (∀ ys, k2.At K H ys → ys[i]? = some y) ∧ ∀ zs, k3.At K H zs → zs[i]? = some z,
    fun i H => ∃ xs ys zs : List V, k1.At K H xs ∧ k2.At K H ys ∧ k3.At K H zs ∧ i = min (min xs.length ys.length) zs.length⟩
theorem turn_zipS3 {P : Program} {w : World} {K : PySem.W.Frag} {elts : List Expr} {kk : Nat} {tpos : Pos} {k1 k2 k3 : SK} {z TI TO i1 i2 i3 : Addr} (S : ZipSep3 z TI TO i1 i2 i3 (i1 :: k1.adr) (i2 :: k2.adr) (i3 :: k3.adr)) (a1 : i1 ∉ k1.adr) (a2 : i2 ∉ k2.adr) (a3 : i3 ∉ k3.adr) :
    Turn P w K (.Tuple elts kk tpos) (ItS3 K k1 k2 k3) [z, TI, TO, i1, i2, i3] z (fun i h => IsZip h z TI TO .none ∧ IsTupOf3 h TI (.ref i1) (.ref i2) (.ref i3) ∧ (∃ x y z, IsTupOf3 h TO x y z) ∧ k1.st i1 i h ∧ k2.st i2 i h ∧ k3.st i3 i h) where
  mem := by simp
  obj := fun i h st c hc => by
    obtain ⟨hz, hTI, ⟨x, y, w, hTO⟩, h1, h2, h3⟩ := st
    have e' : c = z ∨ c = TI ∨ c = TO ∨ c = i1 ∨ c = i2 ∨ c = i3 := by simpa using hc
    rcases e' with q | q | q | q | q | q
    · rw [q]; exact ⟨_, hz, fun v q => nomatch q⟩
    · rw [q]; exact ⟨_, hTI, fun v q => nomatch q⟩
    · rw [q]; exact ⟨_, hTO, fun v q => nomatch q⟩
    · rw [q]; exact SK.obj h1
    · rw [q]; exact SK.obj h2
    · rw [q]; exact SK.obj h3
  keep := fun i h h' st k => by
    obtain ⟨hz, hTI, ⟨x, y, w, hTO⟩, h1, h2, h3⟩ := st
    exact ⟨k z (by simp) _ hz, k TI (by simp) _ hTI, ⟨x, y, w, k TO (by simp) _ hTO⟩, SK.keep h1 fun o q => k i1 (by simp) o q, SK.keep h2 fun o q => k i2 (by simp) o q, SK.keep h3 fun o q => k i3 (by simp) o q⟩
  item := by
    intro X hP hw hK hc i pins s σ H E I hf st hg
    subst hP hw hK
    obtain ⟨hz, hTI, ⟨x0, y0, z0, hTO⟩, h1, h2, h3⟩ := st
    obtain ⟨xs, ys, zs, x, y, v, hqx, hqy, hqz, hx, hy, hv⟩ := hg
    obtain ⟨P1, St1, D1, st1, p1, b1⟩ := SK.draws I hc hqx h1 a1
    obtain ⟨P2, St2, D2, st2, p2, b2⟩ := SK.draws I hc hqy h2 a2
    obtain ⟨P3, St3, D3, st3, p3, b3⟩ := SK.draws I hc hqz h3 a3
    have hzl : z < s.heap.objs.size := Heap.lt_size hz
    have l1 : i < xs.length := (List.getElem?_eq_some_iff.mp hx).1
    have l2 : i < ys.length := (List.getElem?_eq_some_iff.mp hy).1
    have l3 : i < zs.length := (List.getElem?_eq_some_iff.mp hv).1
    refine wpAny_pyNext_zipD3_item S D1 D2 D3 hz hTI hTO st1 st2 st3 l1 l2 l3 fun u u2 u3 h' tk hu hu2 hu3 z' TO' st1' st2' st3' hT hsz hk => ?_
    obtain ⟨x', ex, ru⟩ := p1 i u hu
    obtain ⟨y', ey, ru2⟩ := p2 i u2 hu2
    obtain ⟨v', ev, ru3⟩ := p3 i u3 hu3
    rw [hx] at ex; cases ex
    rw [hy] at ey; cases ey
    rw [hv] at ev; cases ev
    refine ⟨_, rfl, wpAny_letOwnedTupleGo_zip (s := { s with heap := h', toks := tk }) z' fun h'' z'' sb => ?_⟩
    have hT2 : h''.get? s.heap.objs.size = some { cls := .type "tuple", data := .seq #[u, u2, u3] } := (sb.2 _ (Nat.ne_of_gt hzl)).trans hT
    have new : ObjOk X.prog X.w (upd H s.heap.objs.size (.tup [x, y, v])) h'' s.heap.objs.size (.tup [x, y, v]) :=
      ⟨by show 3 ≤ sizeLine; decide, [u, u2, u3], .cons ru (.cons ru2 (.cons ru3 .nil)), ⟨_, hT2, rfl, _, rfl⟩⟩
    have I1 : Inv X pins σ (upd H s.heap.objs.size (.tup [x, y, v])) { s with heap := h'', toks := tk } :=
      I.turnedNew (t' := tk) (ch := [z, TI, TO, i1, i2, i3]) (fun c o hb q => (sb.2 c (fun q' => hb (by simp [q']))).trans (hk c o (fun q' => hb (by simp [q'])) (fun q' => hb (by simp [q'])) (fun q' => hb (by simp [q'])) (fun q' => hb (by simp [q'])) (fun q' => hb (by simp [q'])) q)) hf (Nat.le_refl _) new
    have zi1 : i1 ≠ z := S.zi1.symm
    have zi2 : i2 ≠ z := S.zi2.symm
    have zi3 : i3 ≠ z := S.zi3.symm
    refine ⟨.ref s.heap.objs.size, _, I1, rfl, ⟨_, x, y, v, rfl, I.hok.fresh (Nat.le_refl _), rfl, fun l hl => by rw [SK.inj I hl hqx]; exact hx, fun l hl => by rw [SK.inj I hl hqy]; exact hy, fun l hl => by rw [SK.inj I hl hqz]; exact hv⟩, ⟨z'', ?_, ⟨u, u2, u3, ?_⟩, ?_, ?_, ?_⟩, fun c hcm => ?_⟩
    · exact (sb.2 _ S.TIz).trans (hk _ _ S.TIz S.TITO S.TIi1 S.TIi2 S.TIi3 hTI)
    · exact (sb.2 _ S.TOz).trans TO'
    · exact SK.keep (b1 _ _ st1') fun o q => (sb.2 _ zi1).trans q
    · exact SK.keep (b2 _ _ st2') fun o q => (sb.2 _ zi2).trans q
    · exact SK.keep (b3 _ _ st3') fun o q => (sb.2 _ zi3).trans q
    · have hlt : c < s.heap.objs.size := by
        have e' : c = z ∨ c = TI ∨ c = TO ∨ c = i1 ∨ c = i2 ∨ c = i3 := by simpa using hcm
        rcases e' with q | q | q | q | q | q
        · rw [q]; exact hzl
        · rw [q]; exact Heap.lt_size hTI
        · rw [q]; exact Heap.lt_size hTO
        · rw [q]; obtain ⟨_, e1, _⟩ := SK.obj h1; exact Heap.lt_size e1
        · rw [q]; obtain ⟨_, e2, _⟩ := SK.obj h2; exact Heap.lt_size e2
        · rw [q]; obtain ⟨_, e3, _⟩ := SK.obj h3; exact Heap.lt_size e3
      rw [upd_ne (Nat.ne_of_lt hlt)]
      exact (hf c hcm).1
  done := by
    intro X hP hw hK hc i pins s σ H E I hf st hg
    subst hP hw hK
    obtain ⟨hz, hTI, ⟨x0, y0, z0, hTO⟩, h1, h2, h3⟩ := st
    obtain ⟨xs, ys, zs, hqx, hqy, hqz, hend⟩ := hg
    obtain ⟨P1, St1, D1, st1, p1, b1⟩ := SK.draws I hc hqx h1 a1
    obtain ⟨P2, St2, D2, st2, p2, b2⟩ := SK.draws I hc hqy h2 a2
    obtain ⟨P3, St3, D3, st3, p3, b3⟩ := SK.draws I hc hqz h3 a3
    exact wpAny_pyNext_zipD3_end S D1 D2 D3 hz hTI hTO st1 st2 st3 (by omega) (by omega) (by omega) (by omega) fun h' tk hk => ⟨rfl, I.turnedL (t' := tk) (ch := [z, TI, TO, i1, i2, i3]) (fun c o hb q =>
      hk c o (fun q' => hb (by simp [q'])) (fun q' => hb (by simp [q'])) (fun q' => hb (by simp [q'])) (fun q' => hb (by simp [q'])) (fun q' => hb (by simp [q'])) q) hf⟩
  self := fun A i s Q E st h => wpAny_pyIter_zip st.1 h
theorem sep_zip3 {n : Nat} {l1 l2 l3 : List Addr} (h1 : ∀ a ∈ l1, a < n) (h2 : ∀ a ∈ l2, a < n) (h3 : ∀ a ∈ l3, a < n) : ZipSep3 (n + 5) (n + 3) (n + 4) n (n + 1) (n + 2) (n :: l1) ((n + 1) :: l2) ((n + 2) :: l3) := by
  have f1 : ∀ k : Nat, n + k ∉ l1 := fun k z => absurd (h1 _ z) (Nat.not_lt.mpr (Nat.le_add_right _ _))
  have f2 : ∀ k : Nat, n + k ∉ l2 := fun k z => absurd (h2 _ z) (Nat.not_lt.mpr (Nat.le_add_right _ _))
  have f3 : ∀ k : Nat, n + k ∉ l3 := fun k z => absurd (h3 _ z) (Nat.not_lt.mpr (Nat.le_add_right _ _))
  have g1 : n ∉ l1 := f1 0
  have g2 : n ∉ l2 := f2 0
  have g3 : n ∉ l3 := f3 0
  constructor
  case TIz => exact ne_add (by decide)
  case TOz => exact ne_add (by decide)
  case TITO => exact ne_add (by decide)
  case TIi1 => exact ne_add0 (by decide)
  case mem1 => exact List.mem_cons_self ..
  case zf1 => exact fun z => (List.mem_cons.mp z).elim (ne_add0 (by decide)) (f1 _)
  case Tf1 => exact fun z => (List.mem_cons.mp z).elim (ne_add0 (by decide)) (f1 _)
  case TIi2 => exact ne_add (by decide)
  case mem2 => exact List.mem_cons_self ..
  case zf2 => exact fun z => (List.mem_cons.mp z).elim (ne_add (by decide)) (f2 _)
  case Tf2 => exact fun z => (List.mem_cons.mp z).elim (ne_add (by decide)) (f2 _)
  case TIi3 => exact ne_add (by decide)
  case mem3 => exact List.mem_cons_self ..
  case zf3 => exact fun z => (List.mem_cons.mp z).elim (ne_add (by decide)) (f3 _)
  case Tf3 => exact fun z => (List.mem_cons.mp z).elim (ne_add (by decide)) (f3 _)
  case sep1_2 => exact fun z => (List.mem_cons.mp z).elim (ne_add0 (by decide)).symm g2
  case sep1_3 => exact fun z => (List.mem_cons.mp z).elim (ne_add0 (by decide)).symm g3
  case sep2_1 => exact fun z => (List.mem_cons.mp z).elim (ne_add0 (by decide)) (f1 _)
  case sep2_3 => exact fun z => (List.mem_cons.mp z).elim (ne_add (by decide)) (f3 _)
  case sep3_1 => exact fun z => (List.mem_cons.mp z).elim (ne_add0 (by decide)) (f1 _)
  case sep3_2 => exact fun z => (List.mem_cons.mp z).elim (ne_add (by decide)) (f2 _)
def iZipS3 (K : PySem.W.Frag) (ta : TA) : TI := fun σ H R => ta σ H fun vs H1 => ∃ k1 k2 k3 v1 v2 v3 xs ys zs, vs = [v1, v2, v3] ∧ SK.val k1 v1 ∧ SK.val k2 v2 ∧ SK.val k3 v3 ∧ SK.At K H1 k1 xs ∧ SK.At K H1 k2 ys ∧ SK.At K H1 k3 zs ∧ R (ItS3 K k1 k2 k3) H1
theorem pi_zipS3 {X : Cx} {e e2 e3 : Expr} {ta : TA} {p pos tpos : Pos} {elts : List Expr} {kk : Nat} (hg : Gl X "zip") (hm : X.mg "zip" = none) (ha : PA X [e, e2, e3] ta)
    (hs : starEach [e, e2, e3] X.env = (false, eval e X.env) :: starEach [e2, e3] X.env := by rfl) (hpl : (backTo pos (starEach [e2, e3] X.env)).any (·.1) = false := by rfl) :
    PI X (.Tuple elts kk tpos) (.Call (.Name "zip" p) [e, e2, e3] [] pos) (iZipS3 X.K ta) := by
  refine ⟨fun pins s σ H R I h => ?_⟩
  refine Call_ (ld_blt I hg hm PyProof.Rows.boot_zip (PyProof.Rows.callWith_type1 (thn (ha.run pos pins s σ H _ I h) fun us s1 ⟨vs, H1, I1, r1, q1⟩ => ?_) hs hpl))
  obtain ⟨k1, k2, k3, v1, v2, v3, xs, ys, zs, ex, w1, w2, w3, hq1, hq2, hq3, q⟩ := q1
  subst ex
  cases r1 with
  | cons r rr =>
    cases rr with
    | cons r' rr =>
      cases rr with
      | cons r'' rr =>
        cases rr
        obtain ⟨o1, Hh1, B1, b1, c1, d1⟩ := SK.begins I1 hq1 w1 r
        obtain ⟨o2, Hh2, B2, b2, c2, d2⟩ := SK.begins I1 hq2 w2 r'
        obtain ⟨o3, Hh3, B3, b3, c3, d3⟩ := SK.begins I1 hq3 w3 r''
        have fresh6 : ∀ c, c ∈ [s1.heap.objs.size + 5, s1.heap.objs.size + 3, s1.heap.objs.size + 4, s1.heap.objs.size, s1.heap.objs.size + 1, s1.heap.objs.size + 2] → FpOk X pins H1 c := fun c hcm => by
          have e' : c = s1.heap.objs.size + 5 ∨ c = s1.heap.objs.size + 3 ∨ c = s1.heap.objs.size + 4 ∨ c = s1.heap.objs.size ∨ c = s1.heap.objs.size + 1 ∨ c = s1.heap.objs.size + 2 := by simpa using hcm
          have hle : s1.heap.objs.size ≤ c := by
            rcases e' with z | z | z | z | z | z
            · rw [z]; exact Nat.le_add_right _ _
            · rw [z]; exact Nat.le_add_right _ _
            · rw [z]; exact Nat.le_add_right _ _
            · rw [z]; exact Nat.le_refl _
            · rw [z]; exact Nat.le_add_right _ _
            · rw [z]; exact Nat.le_add_right _ _
          exact I1.fpOk hle (I1.hok.fresh hle)
        refine zip_begins3 B1 B2 B3 b1 b2 b3 fun h' hz hTI hTO g1 g2 g3 hsz hk => wpAny_pyIter_zip hz ?_
        have I2 : Inv X pins σ H1 { s1 with heap := h' } := I1.kept (t' := s1.toks) hk
        exact ⟨s1.heap.objs.size + 5, [s1.heap.objs.size + 5, s1.heap.objs.size + 3, s1.heap.objs.size + 4, s1.heap.objs.size, s1.heap.objs.size + 1, s1.heap.objs.size + 2], _, _, H1, rfl, I2, turn_zipS3 (sep_zip3 d1 d2 d3) (fun z => absurd (d1 _ z) (Nat.lt_irrefl _)) (fun z => absurd (d2 _ z) (Nat.not_lt.mpr (Nat.le_add_right _ _))) (fun z => absurd (d3 _ z) (Nat.not_lt.mpr (Nat.le_add_right _ _))), ⟨hz, hTI, ⟨_, _, _, hTO⟩, c1 _ _ g1, c2 _ _ g2, c3 _ _ g3⟩, fresh6, q⟩
theorem k_zipS3 (K : PySem.W.Frag) {X : Cx} (h : X.K = K) {e e2 e3 : Expr} {ta : TA} {p pos tpos : Pos} {elts : List Expr} {kk : Nat} (hg : Gl X "zip") (hm : X.mg "zip" = none) (ha : PA X [e, e2, e3] ta)
    (hs : starEach [e, e2, e3] X.env = (false, eval e X.env) :: starEach [e2, e3] X.env := by rfl) (hpl : (backTo pos (starEach [e2, e3] X.env)).any (·.1) = false := by rfl) :
    PI X (.Tuple elts kk tpos) (.Call (.Name "zip" p) [e, e2, e3] [] pos) (iZipS3 K ta) := h ▸ pi_zipS3 hg hm ha hs hpl
section
variable {K : PySem.W.Frag} {W : WV} {F : Frm} {ds es fs : List D}
def pairT3 (x y z : D) : Tag := if noMut x && (noMut y && noMut z) then .unq else .sh
def zipD3L (ds es fs : List D) : List (D × Tag) := (ds.zip (es.zip fs)).map fun p => (.tuple [p.1, p.2.1, p.2.2], pairT3 p.1 p.2.1 p.2.2)
theorem zipD3L_get {i : Nat} {q : D × Tag} (h : (zipD3L ds es fs)[i]? = some q) : ∃ x y z, ds[i]? = some x ∧ es[i]? = some y ∧ fs[i]? = some z ∧ q = (.tuple [x, y, z], pairT3 x y z) := by
  unfold zipD3L at h
  rw [List.getElem?_map] at h
  obtain ⟨⟨x, y, z⟩, h2, rfl⟩ := Option.map_eq_some_iff.mp h
  rw [List.getElem?_zip_eq_some] at h2
  have h3 := h2.2
  rw [List.getElem?_zip_eq_some] at h3
  exact ⟨x, y, z, h2.1, h3.1, h3.2, rfl⟩
theorem jok_zip3 {k1 k2 k3 : SK} {ps1 ps2 ps3 : List Ent} (j1 : JS k1 F ps1 ds) (j2 : JS k2 F ps2 es) (j3 : JS k3 F ps3 fs) : JOk (ItS3 F.K k1 k2 k3) F (ps1 ++ (ps2 ++ ps3)) (zipD3L ds es fs) := by
  refine ⟨fun G R Δ σ H i q n hq => ?_, fun G R Δ σ H n => ?_⟩
  · obtain ⟨x, y, z, hx, hy, hz, rfl⟩ := zipD3L_get hq
    obtain ⟨xs, A1, l1, g1⟩ := j1.had G R (ps2 ++ ps3 ++ Δ) σ H (by simpa using n)
    obtain ⟨u, hu, f1, n1⟩ := g1 i x hx
    obtain ⟨ys, A2, l2, g2⟩ := j2.had G (R ++ ps1) (ps3 ++ Δ ++ [⟨u, x, partTag .sh x, f1⟩]) σ H (by simpa using n1)
    obtain ⟨u2, hu2, f2, n2⟩ := g2 i y hy
    obtain ⟨zs, A3, l3, g3⟩ := j3.had G (R ++ ps1 ++ ps2) (Δ ++ [⟨u, x, partTag .sh x, f1⟩] ++ [⟨u2, y, partTag .sh y, f2⟩]) σ H (by simpa using n2)
    obtain ⟨u3, hu3, f3, n3⟩ := g3 i z hz
    refine ⟨⟨xs, ys, zs, u, u2, u3, A1, A2, A3, hu, hu2, hu3⟩, fun v H' yl => ?_⟩
    obtain ⟨T, x', y', z', rfl, hT, rfl, b1, b2, b3⟩ := yl
    have c1 := b1 xs A1
    rw [hu] at c1; cases c1
    have c2 := b2 ys A2
    rw [hu2] at c2; cases c2
    have c3 := b3 zs A3
    rw [hu3] at c3; cases c3
    have n4 : Now F G ((R ++ (ps1 ++ (ps2 ++ ps3)) ++ Δ) ++ [⟨u, x, partTag .sh x, f1⟩, ⟨u2, y, partTag .sh y, f2⟩, ⟨u3, z, partTag .sh z, f3⟩]) σ H := by simpa using n3
    have n5 := n4.tup hT
    refine ⟨_, rfl, ?_, n5⟩
    have e : allUnq ([⟨u, x, partTag .sh x, f1⟩, ⟨u2, y, partTag .sh y, f2⟩, ⟨u3, z, partTag .sh z, f3⟩].map fun e : Ent => (e.d, e.t)) = (noMut x && (noMut y && noMut z)) := by
      simp [allUnq, partTag]
      cases noMut x <;> cases noMut y <;> cases noMut z <;> rfl
    simp only [e, pairT3]
    rfl
  · obtain ⟨xs, A1, l1, _⟩ := j1.had G R (ps2 ++ ps3 ++ Δ) σ H (by simpa using n)
    obtain ⟨ys, A2, l2, _⟩ := j2.had G (R ++ ps1) (ps3 ++ Δ) σ H (by simpa using n)
    obtain ⟨zs, A3, l3, _⟩ := j3.had G (R ++ ps1 ++ ps2) Δ σ H (by simpa using n)
    exact ⟨xs, ys, zs, A1, A2, A3, by rw [l1, l2, l3]; simp [zipD3L, Nat.min_assoc]⟩
def iZipE3 (a : AR) : IR := fun env => (a env).bind fun p => match p.1 with
  | [.val d1 _, .val d2 _, .val d3 _] => (match srcOf d1, srcOf d2, srcOf d3 with
    | some ds, some es, some fs => .ok (zipD3L ds es fs, p.2)
    | _, _, _ => .bad)
  | _ => .bad
theorem spec_iZipS3 {ta : TA} {a : AR} (ha : SpecA K W ta a) : SpecI K W (iZipS3 K ta) (iZipE3 a) := fun F G R σ H Q hK n h => by
  refine ha F G R σ H _ hK n ?_
  simp only [iZipE3] at h
  cases q : a (envOf G) with
  | bad => rw [q] at h; exact h
  | exc c env => rw [q] at h; exact h
  | ok p =>
    obtain ⟨o, env⟩ := p
    rw [q] at h
    intro G1 H1 es vs g1 n1 w
    simp only [Res.bind] at h
    split at h
    · rename_i d1 t1 d2 t2 d3 t3
      obtain ⟨e1, r1, s1, rfl, w1, w2, rfl, w⟩ := w
      obtain ⟨e2, r2, s2, rfl, w3, w4, rfl, w⟩ := w
      obtain ⟨e3, r3, s3, rfl, w5, w6, rfl, w⟩ := w
      obtain ⟨rfl, rfl⟩ := w
      split at h
      · rename_i ds es fs h1 h2 h3
        rw [← w1] at h1
        rw [← w3] at h2
        rw [← w5] at h3
        obtain ⟨k1, xs, v1, A1, j1⟩ := src_of (n1.es_rep e1 (by simp)) h1
        obtain ⟨k2, ys, v2, A2, j2⟩ := src_of (n1.es_rep e2 (by simp)) h2
        obtain ⟨k3, zs, v3, A3, j3⟩ := src_of (n1.es_rep e3 (by simp)) h3
        subst hK
        refine ⟨k1, k2, k3, e1.v, e2.v, e3.v, xs, ys, zs, rfl, v1, v2, v3, A1, A2, A3, h G1 H1 _ ([e1.toSh] ++ ([e2.toSh] ++ [e3.toSh])) g1 ?_ (jok_zip3 j1 j2 j3)⟩
        have rot : ∀ {a b c : Ent} {R : List Ent}, Now F G1 (R ++ [a, b, c]) σ H1 → Now F G1 (R ++ [b, c, a.toSh]) σ H1 := fun {a b c R} n => by
          have p1 : Now F G1 (R ++ [b, c, a]) σ H1 := n.perm (by
            have := List.perm_append_comm (l₁ := [a]) (l₂ := [b, c])
            simpa using this)
          have p2 : Now F G1 ((R ++ [b, c]) ++ [a.toSh]) σ H1 := Now.toSh (by simpa using p1)
          simpa using p2
        simpa using rot (rot (rot n1))
      · exact h.elim
    · exact h.elim
@[simp] theorem iZipE3_ap (a : AR) (env : Env) : iZipE3 a env = (a env).bind fun p => match p.1 with
  | [.val d1 _, .val d2 _, .val d3 _] => (match srcOf d1, srcOf d2, srcOf d3 with
    | some ds, some es, some fs => .ok (zipD3L ds es fs, p.2)
    | _, _, _ => .bad)
  | _ => .bad := nr rfl
end
end VL
end
section
set_option Elab.async false
set_option linter.all false
set_option maxRecDepth 100000
/-! repr of scalars, too -/
namespace VL
open PySem PySem.Spec PyProof.Rows L2
section
variable {X : Cx} {K : PySem.W.Frag} {H : Hp}
def rReprQ (K : PySem.W.Frag) : List V → Hp → VK → Prop := fun xs H Q => rRepr K xs H Q ∨ (xs = [.non] ∧ Q (.str "None") H) ∨ (∃ b, xs = [.bl b] ∧ Q (.str (if b then "True" else "False")) H) ∨ (∃ i : Int, xs = [.int i] ∧ i.natAbs.log2 < 1920 ∧ Q (.str (toString i)) H) ∨
  ∃ s : Str, xs = [.str s] ∧ (reprText s).length ≤ sizeLine ∧ Q (.str (reprText s)) H
theorem cr_reprQ (hu : X.A.units + 64 < cLine) (hg : X.A.guards = some []) : CallR X (.builtin "repr") (rReprQ X.K) := by
  intro pins s σ H xs us Q I r h
  rcases h with h | ⟨rfl, q⟩ | ⟨b, rfl, q⟩ | ⟨i, rfl, hi, q⟩ | ⟨t, rfl, hz, q⟩
  · exact cr_repr hu hg pins s σ H xs us Q I r h
  · obtain ⟨u, rfl, rx⟩ := vals1 r
    cases rx
    exact P.repr_of_none ⟨.str "None", H, I.tok _, ⟨_, rfl⟩, q⟩
  · obtain ⟨u, rfl, rx⟩ := vals1 r
    cases rx
    exact P.repr_of_bool ⟨.str _, H, I.tok _, ⟨_, rfl⟩, q⟩
  · obtain ⟨u, rfl, rx⟩ := vals1 r
    obtain ⟨t, rfl⟩ := rx
    exact P.repr_of_int hi ⟨.str _, H, I.tok _, ⟨_, rfl⟩, q⟩
  · obtain ⟨u, rfl, rx⟩ := vals1 r
    obtain ⟨t, rfl⟩ := rx
    exact P.repr_of_str ⟨.str _, H, I.tok _, ⟨_, rfl⟩, q⟩ hz
theorem k_reprQ (K : PySem.W.Frag) (h : X.K = K) (hu : X.A.units + 64 < cLine) (hg : X.A.guards = some []) : CallR X (.builtin "repr") (rReprQ K) := h ▸ cr_reprQ hu hg
def reprQD (d : D) : Option D := match d with
  | .none => some (.str "None")
  | .bool b => some (.str (if b then "True" else "False"))
  | .int i => if i.natAbs.log2 < 1920 then some (.str (toString i)) else none
  | .str s => if (reprText s).length ≤ lim then some (.str (reprText s)) else none
  | d => reprD d
def pReprQ : PF := ps1 reprQD
theorem pure_reprQ : PureR K (rReprQ K) pReprQ := pureC1_of fun H x d t Q hx hf hQ => by
  obtain ⟨r, hr, e⟩ := Option.map_eq_some_iff.mp hf
  obtain ⟨rfl, rfl⟩ : r = d ∧ Tag.unq = t := by simpa using e
  cases q : x.d with
  | none =>
    rw [q] at hr hx
    simp only [reprQD] at hr
    cases hr
    simp only [Rep] at hx
    exact .inr (.inl ⟨by rw [hx.1], hQ _ _ _ (pout_scal rfl)⟩)
  | bool b =>
    rw [q] at hr hx
    simp only [reprQD] at hr
    cases hr
    simp only [Rep] at hx
    exact .inr (.inr (.inl ⟨b, by rw [hx.1], hQ _ _ _ (pout_scal rfl)⟩))
  | int i =>
    rw [q] at hr hx
    simp only [reprQD] at hr
    split at hr
    · rename_i hi
      cases hr
      simp only [Rep] at hx
      exact .inr (.inr (.inr (.inl ⟨i, by rw [hx.1], hi, hQ _ _ _ (pout_scal rfl)⟩)))
    · cases hr
  | str s =>
    rw [q] at hr hx
    simp only [reprQD] at hr
    split at hr
    · rename_i hi
      cases hr
      simp only [Rep] at hx
      exact .inr (.inr (.inr (.inr ⟨s, by rw [hx.1], by rw [← lim_eq]; exact hi, hQ _ _ _ (pout_scal rfl)⟩)))
    · cases hr
  | list ds =>
    have hr' : reprD x.d = some r := by rw [q] at hr ⊢; exact hr
    exact .inl (pure_repr (K := K) H [x] r .unq Q (fun y hy => by rw [List.mem_singleton.mp hy]; exact hx) (by simp [pRepr, ps1, pf1, hr']) hQ)
  | tuple ds =>
    have hr' : reprD x.d = some r := by rw [q] at hr ⊢; exact hr
    exact .inl (pure_repr (K := K) H [x] r .unq Q (fun y hy => by rw [List.mem_singleton.mp hy]; exact hx) (by simp [pRepr, ps1, pf1, hr']) hQ)
  | dict ds =>
    have hr' : reprD x.d = some r := by rw [q] at hr ⊢; exact hr
    exact .inl (pure_repr (K := K) H [x] r .unq Q (fun y hy => by rw [List.mem_singleton.mp hy]; exact hx) (by simp [pRepr, ps1, pf1, hr']) hQ)
@[simp] theorem pReprQ_none : pReprQ [.none] = some (.str "None", .unq) := nr rfl
theorem pReprQ_seq {d : D} (h : isSeq d = true) : pReprQ [d] = pRepr [d] := by
  cases d <;> simp [isSeq] at h <;> rfl
end
end VL
end
section
set_option Elab.async false
set_option linter.all false
set_option maxRecDepth 100000
set_option autoImplicit false
namespace VL
open PySem PySem.Spec PyProof.Rows L2
/-- is_integer(thing): slots 0=thing -/
def B_is_integer : SR := (sRet (eKeep true (eAndF (ePure1 (pIsi "int") (eVar 0)) (eNotF (ePure1 (pIsi "bool") (eVar 0))))))
def fn_is_integer : Fn := fnOf false 1 B_is_integer

/-- is_tuple_of(thing, least, most): slots 0=thing 1=least 2=most -/
def B_is_tuple_of : SR := (sRet (eKeep true (eAndF (ePure1 (pIsi "tuple") (eVar 0)) (eChain pLe pLe (eVar 1) (ePure pLen (aCons (eVar 0) aNil)) (eVar 2)))))
def fn_is_tuple_of : Fn := fnOf false 3 B_is_tuple_of

/-- upside(row): slots 0=row 1=number -/
def B_upside : SR := (sRet (ePure1 pTup (eLc (iSeqE (eKeep false (eVar 0))) (setE 1) tYesF (ePure2 pSub (ePure2 pSub (ePure pLen (aCons (eVar 0) aNil)) (eC (.int 1))) (eVar 1)) [1])))
def fn_upside : Fn := fnOf false 2 B_upside

/-- _law_feed(script, k): slots 0=script 1=k 2=cell -/
def B__law_feed : SR := (sSeq (sAsg (ePure2 pAdd (ePure2 pMul (eC (.int 977)) (eVar 1)) (ePure pSum (aCons (slE (eVar 0) .no (.e (eC (.int 1)))) aNil))) (setE 2))
 (sSeq (sIf (tOfE (ePure2 pLt (eVar 1) (ePure pLen (aCons (eVar 0) aNil))))
  (sAsg (ePure2 pIx (eVar 0) (eVar 1)) (setE 2))
  sNext)
 (sRet (eLst (aCons (ePure pMax2 (aCons (eC (.int 0)) (aCons (ePure2 pSub (eVar 2) (ePure2 pPow (eC (.int 10)) (eC (.int 18)))) aNil))) (aCons (ePure2 pMod (ePure pInt (aCons (ePure2 pAdd (ePure2 pMul (eVar 2) (eC (.int 19))) (ePure2 pMul (eC (.int 7)) (eVar 1))) aNil)) (ePure2 pAdd (ePure2 pPow (eC (.int 10)) (eC (.int 39))) (eC (.int 23)))) (aCons (eC (.int 0)) aNil)))))))
def fn__law_feed : Fn := fnOf false 3 B__law_feed

/-- _law_draw(feed, many): slots 0=feed 1=many 2=stir 3=rest 4=got -/
def S__law_draw_1 : SR := (sIf (tOfE (ePure2 pGt (ePure2 pIx (eVar 0) (eC (.int 0))) (eC (.int 0))))
  (sSeq (sAsg (ePure2 pFdiv (ePure2 pIx (eVar 0) (eC (.int 0))) (eVar 1)) (setE 3))
 (sSeq (sAsg (ePure2 pSub (ePure2 pIx (eVar 0) (eC (.int 0))) (ePure2 pMul (eVar 3) (eVar 1))) (setE 4))
 (sSeq (sAsg (eKeep true (eVar 3)) (gSetI 0 (eC (.int 0))))
 (sRet (eKeep true (eVar 4))))))
  sNext)
def S__law_draw_2 : SR := (sAsg (ePure2 pAdd (ePure2 pIx (eVar 0) (eC (.int 2))) (eC (.int 1))) (gSetI 0 (eC (.int 2))))
def S__law_draw_3 : SR := (sAsg (ePure2 pAdd (ePure2 pIx (eVar 0) (eC (.int 1))) (ePure2 pMul (eC (.int 6700417)) (ePure2 pIx (eVar 0) (eC (.int 2))))) (setE 2))
def S__law_draw_4 : SR := (sAsg (ePure2 pMod (ePure pInt (aCons (ePure2 pAdd (ePure2 pMul (ePure2 pMul (eVar 2) (eVar 2)) (eVar 2)) (ePure2 pMul (eC (.int 15485863)) (ePure2 pIx (eVar 0) (eC (.int 2))))) aNil)) (ePure2 pAdd (ePure2 pPow (eC (.int 10)) (eC (.int 43))) (eC (.int 57)))) (setE 2))
def S__law_draw_5 : SR := (sAsg (ePure2 pMod (ePure pInt (aCons (ePure2 pAdd (ePure2 pMul (eVar 2) (eVar 2)) (eC (.int 32452843))) aNil)) (ePure2 pAdd (ePure2 pPow (eC (.int 10)) (eC (.int 38))) (eC (.int 133)))) (setE 2))
def S__law_draw_6 : SR := (sRet (ePure2 pMod (ePure pInt (aCons (ePure2 pFdiv (eVar 2) (ePure2 pPow (eC (.int 10)) (eC (.int 9)))) aNil)) (eVar 1)))
def B__law_draw : SR := (sSeq S__law_draw_1 (sSeq S__law_draw_2 (sSeq S__law_draw_3 (sSeq S__law_draw_4 (sSeq S__law_draw_5 S__law_draw_6)))))
def fn__law_draw : Fn := fnOf true 5 B__law_draw

/-- _law_so(actual, due): slots 0=actual 1=due -/
def B__law_so : SR := (sRet (eKeep true (eAndF (ePure1 (pIsi "bool") (eVar 0)) (ePure2 pEq (eVar 0) (eVar 1)))))
def fn__law_so : Fn := fnOf false 2 B__law_so

/-- _law_back(row): slots 0=row 1=found 2=place 3=number -/
def L__law_back_1 : SR := (sAsg (eKeep true (eVar 2)) (gSetI 1 (eVar 3)))
def B__law_back : SR := (sSeq (sAsg (ePure2 pMul (eLst (aCons (eC (.int 0)) aNil)) (ePure pLen (aCons (eVar 0) aNil))) (setE 1))
 (sSeq (sFor (iEnumE (eKeep true (eVar 0))) (gUnF 2 (gsCons (setE 2) (gsCons (setE 3) gsNil)))
  L__law_back_1)
 (sRet (ePure1 pTup (eVar 1)))))
def fn__law_back : Fn := fnOf false 4 B__law_back

/-- _law_rows(many): slots 0=many 1=found 2=turn 3=longer 4=some 5=number -/
def L__law_rows_1 : SR := (sDrop (eExtend 3 (eLc (iRng1E (aCons (eVar 0) aNil)) (setE 5) (tOfE (ePure2 pNotIn (eVar 5) (eVar 4))) (ePure2 pAdd (eVar 4) (eTup (aCons (eKeep false (eVar 5)) aNil))) [5])))
def L__law_rows_2 : SR := (sSeq (sAsg (eLst aNil) (setE 3))
 (sSeq (sFor (iSeqE (eKeep true (eVar 1))) (setE 4)
  L__law_rows_1)
 (sAsg (eKeep true (eVar 3)) (setE 1))))
def B__law_rows : SR := (sSeq (sAsg (eLst (aCons (eTup aNil) aNil)) (setE 1))
 (sSeq (sFor (iRng1E (aCons (eVar 0) aNil)) (setE 2)
  L__law_rows_2)
 (sRet (eKeep true (eVar 1)))))
def fn__law_rows : Fn := fnOf false 6 B__law_rows

/-- places_of(row): slots 0=row 1=found 2=place 3=number -/
def L_places_of_1 : SR := (sW [2, 3] (sWn [2, 3] (sAsg (eKeep true (eVar 2)) (gSetI 1 (eVar 3)))))
def B_places_of : SR := (sSeq (sAsg (ePure2 pMul (eLst (aCons (eC (.int 0)) aNil)) (ePure pLen (aCons (eVar 0) aNil))) (setE 1))
 (sSeq (sWn [0, 2, 3] (sFor (iEnumE (eKeep true (eVar 0))) (gUnF 2 (gsCons (setE 2) (gsCons (setE 3) gsNil)))
  L_places_of_1))
 (sRet (ePure1 pTup (eVar 1)))))
def fn_places_of : Fn := fnOf false 4 B_places_of

/-- code_of(row): slots 0=row 1=place 2=number 3=one -/
def E_code_of_1 : ER := (eKeep false (eVar 3))
def T_code_of_1 : TR := (tOfE (ePure2 pLt (eVar 3) (eVar 2)))
def E_code_of_2 : ER := (ePure pLen (aCons (eLc (iSeqE (slE (eVar 0) (.e (ePure2 pAdd (eVar 1) (eC (.int 1)))) .no)) (setE 3) T_code_of_1 E_code_of_1 [3]) aNil))
def B_code_of : SR := (sRet (ePure1 pTup (eLc (iEnumE (eKeep false (eVar 0))) (gUnF 2 (gsCons (setE 1) (gsCons (setE 2) gsNil))) tYesF E_code_of_2 [1, 2])))
def fn_code_of : Fn := fnOf false 4 B_code_of

/-- _law_turned_pairs(row): slots 0=row 1=found 2=place 3=number 4=less -/
def E__law_turned_pairs_1 : ER := (eTup (aCons (eKeep false (eVar 4)) (aCons (eKeep false (eVar 3)) aNil)))
def T__law_turned_pairs_1 : TR := (tOfE (ePure2 pLt (eVar 4) (eVar 3)))
def L__law_turned_pairs_3 : SR := (sW [2, 3] (sWn [2, 3] (sDrop (eExtend 1 (eLc (iSeqE (slE (eVar 0) (.e (ePure2 pAdd (eVar 2) (eC (.int 1)))) .no)) (setE 4) T__law_turned_pairs_1 E__law_turned_pairs_1 [4])))))
def B__law_turned_pairs : SR := (sSeq (sAsg (eLst aNil) (setE 1))
 (sSeq (sWn [0, 2, 3, 4] (sFor (iEnumE (eKeep false (eVar 0))) (gUnF 2 (gsCons (setE 2) (gsCons (setE 3) gsNil)))
  L__law_turned_pairs_3))
 (sRet (ePure pSorted (aCons (eVar 1) aNil)))))
def fn__law_turned_pairs : Fn := fnOf false 5 B__law_turned_pairs

/-- composed(row, other): slots 0=row 1=other 2=number -/
def E_composed_1 : ER := (ePure2 pIx (eVar 0) (eVar 2))
def B_composed : SR := (sRet (ePure1 pTup (eLc (iSeqE (eKeep true (eVar 1))) (setE 2) tYesF E_composed_1 [2])))
def fn_composed : Fn := fnOf false 3 B_composed

/-- rising_row(many): slots 0=many -/
def B_rising_row : SR := (sRet (ePure1 pTup (rgE1 (eVar 0) .list)))
def fn_rising_row : Fn := fnOf false 1 B_rising_row

/-- falls_of(row): slots 0=row 1=place -/
def E_falls_of_1 : ER := (eKeep false (eVar 1))
def T_falls_of_1 : TR := (tOfE (ePure2 pLt (ePure2 pIx (eVar 0) (ePure2 pAdd (eVar 1) (eC (.int 1)))) (ePure2 pIx (eVar 0) (eVar 1))))
def B_falls_of : SR := (sRet (ePure1 pTup (eLc (iRng1E (aCons (ePure2 pSub (ePure pLen (aCons (eVar 0) aNil)) (eC (.int 1))) aNil)) (setE 1) T_falls_of_1 E_falls_of_1 [1])))
def fn_falls_of : Fn := fnOf false 2 B_falls_of

/-- from_behind(row): slots 0=row -/
def B_from_behind : SR := (sRet (ePure1 pRev (eVar 0)))
def fn_from_behind : Fn := fnOf false 1 B_from_behind

/-- is_within(thing, least, most): slots 0=thing 1=least 2=most -/
def B_is_within : SR := (sRet (eKeep true (eAndF (eCall false 1 fn_is_integer (aCons (eVar 0) aNil)) (eChain pLe pLe (eVar 1) (eVar 0) (eVar 2)))))
def fn_is_within : Fn := fnOf false 3 B_is_within

/-- _law_one(feed, things): slots 0=feed 1=things -/
def B__law_one : SR := (sRet (ePure2 pIx (eVar 1) (eCall true 2 fn__law_draw (aCons (eVar 0) (aCons (ePure pLen (aCons (eVar 1) aNil)) aNil)))))
def fn__law_one : Fn := fnOf true 2 B__law_one

/-- _law_mixed(feed, things): slots 0=feed 1=things 2=turn 3=pool 4=got -/
def L__law_mixed_1 : SR := (sDrop (eAppend 4 (ePopAt 3 (eCall true 2 fn__law_draw (aCons (eVar 0) (aCons (ePure pLen (aCons (eVar 3) aNil)) aNil))))))
def B__law_mixed : SR := (sSeq (sPar 3 4 (aCons (ePure pList (aCons (eVar 1) aNil)) (aCons (eLst aNil) aNil)))
 (sSeq (sFor (iRng1E (aCons (ePure pLen (aCons (eVar 1) aNil)) aNil)) (setE 2)
  L__law_mixed_1)
 (sRet (eKeep true (eVar 4)))))
def fn__law_mixed : Fn := fnOf true 5 B__law_mixed

/-- _law_heaped(feed, many): slots 0=feed 1=many 2=heaps 3=one 4=other 5=turn 6=number -/
def L__law_heaped_1 : SR := (sSeq (sAsg (ePopAt 2 (eCall true 2 fn__law_draw (aCons (eVar 0) (aCons (ePure pLen (aCons (eVar 2) aNil)) aNil)))) (setE 3))
 (sSeq (sAsg (ePopAt 2 (eCall true 2 fn__law_draw (aCons (eVar 0) (aCons (ePure pLen (aCons (eVar 2) aNil)) aNil)))) (setE 4))
 (sIf (tOfE (ePure2 pEq (eCall true 2 fn__law_draw (aCons (eVar 0) (aCons (eC (.int 2)) aNil))) (eC (.int 0))))
  (sDrop (eAppend 2 (ePure2 pAdd (eVar 3) (eLc (iSeqE (eKeep true (eVar 4))) (setE 6) tYesF (ePure2 pAdd (eVar 6) (ePure pLen (aCons (eVar 3) aNil))) [6]))))
  (sDrop (eAppend 2 (ePure2 pAdd (eLc (iSeqE (eKeep true (eVar 3))) (setE 6) tYesF (ePure2 pAdd (eVar 6) (ePure pLen (aCons (eVar 4) aNil))) [6]) (eVar 4)))))))
def B__law_heaped : SR := (sSeq (sAsg (eLc (iRng1E (aCons (eVar 1) aNil)) (setE 5) tYesF (eLst (aCons (eC (.int 0)) aNil)) [5]) (setE 2))
 (sSeq (sFor (iRng1E (aCons (ePure2 pSub (eVar 1) (eC (.int 1))) aNil)) (setE 5)
  L__law_heaped_1)
 (sRet (eKeep true (eIf (tOfE (ePure2 pGt (eVar 1) (eC (.int 0)))) (eIxM 2 (eC (.int 0))) (eLst aNil))))))
def fn__law_heaped : Fn := fnOf true 7 B__law_heaped

/-- has_word(thing, word, many): slots 0=thing 1=word 2=many -/
def B_has_word : SR := (sRet (eKeep true (eAndF (eCall false 3 fn_is_tuple_of (aCons (eVar 0) (aCons (eVar 2) (aCons (eVar 2) aNil)))) (eAndF (ePure1 (pIsi "str") (ePure2 pIx (eVar 0) (eC (.int 0)))) (ePure2 pEq (ePure2 pIx (eVar 0) (eC (.int 0))) (eVar 1))))))
def fn_has_word : Fn := fnOf false 3 B_has_word

/-- length_of(row): slots 0=row -/
def B_length_of : SR := (sRet (ePure pSumQ (aCons (eCall false 1 fn_code_of (aCons (eVar 0) aNil)) aNil)))
def fn_length_of : Fn := fnOf false 1 B_length_of

/-- need_number(number, least, most): slots 0=number 1=least 2=most -/
def B_need_number : SR := (sIf (tNotF (tOfE (eCall false 3 fn_is_within (aCons (eVar 0) (aCons (eVar 1) (aCons (eVar 2) aNil))))))
  (sRaise "BadNumber")
  sNext)
def fn_need_number : Fn := fnOf false 3 B_need_number

/-- is_row_form(thing): slots 0=thing 1=one -/
def B_is_row_form : SR := (sSeq (sIf (tOrF (tNotF (tOfE (eCall false 3 fn_is_tuple_of (aCons (eVar 0) (aCons (eC (.int 0)) (aCons (eC (.int 9)) aNil)))))) (tNotF (tOfE (ePure pAll (aCons (eLc (iSeqE (eKeep false (eVar 0))) (setE 1) tYesF (eCall false 3 fn_is_within (aCons (eVar 1) (aCons (eC (.int 0)) (aCons (ePure2 pSub (ePure pLen (aCons (eVar 0) aNil)) (eC (.int 1))) aNil)))) [1]) aNil)))))
  (sRet (eC (.bool false)))
  sNext)
 (sRet (ePure2 pEq (ePure1 pLenSet (eVar 0)) (ePure pLen (aCons (eVar 0) aNil)))))
def fn_is_row_form : Fn := fnOf false 2 B_is_row_form

/-- _law_row(feed, many): slots 0=feed 1=many 2=turn 3=row 4=way 5=place 6=one 7=other 8=low 9=cut 10=number -/
def S__law_row_1 : SR := (sPar 4 3 (aCons (eCall true 2 fn__law_draw (aCons (eVar 0) (aCons (eC (.int 8)) aNil))) (aCons (rgE1 (eVar 1) .list) aNil)))
def S__law_row_2 : SR := (sIf (tOfE (ePure2 pLt (eVar 4) (eC (.int 2))))
  (sAsg (eCall true 2 fn__law_mixed (aCons (eVar 0) (aCons (eVar 3) aNil))) (setE 3))
  (sIf (tOfE (ePure2 pEq (eVar 4) (eC (.int 2))))
  (sAsg (eCall true 2 fn__law_heaped (aCons (eVar 0) (aCons (eVar 1) aNil))) (setE 3))
  (sIf (tOfE (ePure2 pEq (eVar 4) (eC (.int 3))))
  (sSeq (sAsg (eLc (iSeqE (eKeep false (eVar 3))) (setE 10) (tOfE (ePure2 pEq (eCall true 2 fn__law_draw (aCons (eVar 0) (aCons (eC (.int 2)) aNil))) (eC (.int 0)))) (eKeep false (eVar 10)) [10]) (setE 8))
 (sAsg (ePure2 pAdd (eVar 8) (eLc (iSeqE (eKeep false (eVar 3))) (setE 10) (tOfE (ePure2 pNotIn (eVar 10) (eVar 8))) (eKeep false (eVar 10)) [10])) (setE 3)))
  (sIf (tOfE (ePure2 pEq (eVar 4) (eC (.int 4))))
  (sSeq (sAsg (eCall true 2 fn__law_draw (aCons (eVar 0) (aCons (ePure2 pAdd (eVar 1) (eC (.int 1))) aNil))) (setE 9))
 (sAsg (ePure2 pAdd (slE (eVar 3) (.e (eVar 9)) .no) (slE (eVar 3) .no (.e (eVar 9)))) (setE 3)))
  (sIf (tOfE (ePure2 pEq (eVar 4) (eC (.int 5))))
  (sSeq (sAsg (eCall true 2 fn__law_draw (aCons (eVar 0) (aCons (ePure2 pAdd (eVar 1) (eC (.int 1))) aNil))) (setE 9))
 (sAsg (ePure2 pAdd (ePure1 pRev (slE (eVar 3) .no (.e (eVar 9)))) (slE (eVar 3) (.e (eVar 9)) .no)) (setE 3)))
  sNext)))))
def L__law_row_3 : SR := (sSeq (sAsg (eCall true 2 fn__law_draw (aCons (eVar 0) (aCons (ePure2 pSub (eVar 1) (eC (.int 1))) aNil))) (setE 5))
 (sAsg (eTup (aCons (ePure2 pIx (eVar 3) (ePure2 pAdd (eVar 5) (eC (.int 1)))) (aCons (ePure2 pIx (eVar 3) (eVar 5)) aNil))) (gUnF 2 (gsCons (gSetI 3 (eVar 5)) (gsCons (gSetI 3 (ePure2 pAdd (eVar 5) (eC (.int 1)))) gsNil)))))
def S__law_row_3 : SR := (sFor (iRng1E (aCons (eIf (tAndF (tOfE (ePure2 pGt (eVar 4) (eC (.int 5)))) (tOfE (ePure2 pGt (eVar 1) (eC (.int 1))))) (eCall true 2 fn__law_one (aCons (eVar 0) (aCons (eLst (aCons (eC (.int 0)) (aCons (eC (.int 1)) (aCons (eC (.int 2)) (aCons (eC (.int 3)) (aCons (eC (.int 6)) aNil)))))) aNil))) (eC (.int 0))) aNil)) (setE 2)
  L__law_row_3)
def L__law_row_5 : SR := (sSeq (sAsg (slE (eCall true 2 fn__law_mixed (aCons (eVar 0) (aCons (rgE1 (eVar 1) .list) aNil))) .no (.e (eC (.int 2)))) (gUnF 2 (gsCons (setE 6) (gsCons (setE 7) gsNil))))
 (sAsg (eTup (aCons (ePure2 pIx (eVar 3) (eVar 7)) (aCons (ePure2 pIx (eVar 3) (eVar 6)) aNil))) (gUnF 2 (gsCons (gSetI 3 (eVar 6)) (gsCons (gSetI 3 (eVar 7)) gsNil)))))
def S__law_row_4 : SR := (sFor (iRng1E (aCons (eIf (tOfE (ePure2 pGt (eVar 1) (eC (.int 1)))) (eCall true 2 fn__law_one (aCons (eVar 0) (aCons (eLst (aCons (eC (.int 0)) (aCons (eC (.int 0)) (aCons (eC (.int 1)) (aCons (eC (.int 2)) aNil))))) aNil))) (eC (.int 0))) aNil)) (setE 2)
  L__law_row_5)
def S__law_row_5 : SR := (sAsg (eKeep false (eIf (tOfE (ePure2 pEq (eCall true 2 fn__law_draw (aCons (eVar 0) (aCons (eC (.int 4)) aNil))) (eC (.int 0)))) (ePure1 pRev (eVar 3)) (eVar 3))) (setE 3))
def S__law_row_6 : SR := (sRet (eKeep true (eIf (tOfE (ePure2 pEq (eCall true 2 fn__law_draw (aCons (eVar 0) (aCons (eC (.int 3)) aNil))) (eC (.int 0)))) (eCall false 1 fn__law_back (aCons (eVar 3) aNil)) (ePure1 pTup (eVar 3)))))
def B__law_row : SR := (sSeq S__law_row_1 (sSeq S__law_row_2 (sSeq S__law_row_3 (sSeq S__law_row_4 (sSeq S__law_row_5 S__law_row_6)))))
def fn__law_row : Fn := fnOf true 11 B__law_row

/-- need_row(row): slots 0=row -/
def B_need_row : SR := (sIf (tNotF (tOfE (eCall false 1 fn_is_row_form (aCons (eVar 0) aNil))))
  (sRaise "BadRow")
  sNext)
def fn_need_row : Fn := fnOf false 1 B_need_row

/-- flipped(row): slots 0=row -/
def B_flipped : SR := (sSeq (sDrop (eCallX 1 fn_need_row (aCons (eVar 0) aNil)))
 (sRet (eCall false 1 fn_upside (aCons (eVar 0) aNil))))
def fn_flipped : Fn := fnOf false 1 B_flipped
end VL
end
section
set_option Elab.async false
set_option linter.all false
set_option maxRecDepth 100000
set_option autoImplicit false
namespace VL
open PySem PySem.Spec PyProof.Rows L2
/-- does_break(row, place, sign): slots 0=row 1=place 2=sign -/
def B_does_break : SR := (sRet (ePure2 pEq (ePure2 pGt (ePure2 pIx (eVar 0) (eVar 1)) (ePure2 pIx (eVar 0) (ePure2 pAdd (eVar 1) (eC (.int 1))))) (ePure2 pEq (eVar 2) (eC (.str "u")))))
def fn_does_break : Fn := fnOf false 3 B_does_break

/-- _law_breaks(row, sign, place): slots 0=row 1=sign 2=place -/
def B__law_breaks : SR := (sRet (ePure2 pEq (ePure2 pGt (ePure2 pIx (eVar 0) (eVar 2)) (ePure2 pIx (eVar 0) (ePure2 pAdd (eVar 2) (eC (.int 1))))) (ePure2 pEq (eVar 1) (eC (.str "u")))))
def fn__law_breaks : Fn := fnOf false 3 B__law_breaks

/-- strip_ends(row, word): slots 0=row 1=word 2=sign 3=start 4=ends 5=breaks 6=end -/
def L_strip_ends_1 : SR := (sAug 6 pIAdd (eC (.int 1)))
def L_strip_ends_2 : SR := (sW [2, 6] (sSeq (sWn [3] (sAsg (ePure pMinL (aCons (eLst (aCons (ePure pLen (aCons (eVar 0) aNil)) (aCons (ePure2 pAdd (eVar 3) (eC (.int 1))) aNil))) aNil)) (setE 6)))
 (sSeq (sWn [2] (sWhile (tAndF (tOfE (ePure2 pLt (eVar 6) (ePure pLen (aCons (eVar 0) aNil)))) (tNotF (tOfE (eCall false 3 fn_does_break (aCons (eVar 0) (aCons (ePure2 pSub (eVar 6) (eC (.int 1))) (aCons (eVar 2) aNil)))))))
  L_strip_ends_1))
 (sSeq (sDrop (eAppend 4 (eKeep false (eVar 6))))
 (sSeq (sDrop (eAppend 5 (ePure2 pSub (eVar 6) (eC (.int 1)))))
 (sWn [6] (sAsg (eKeep true (eVar 6)) (setE 3))))))))
def B_strip_ends : SR := (sSeq (sPar3 3 4 5 (aCons (eC (.int 0)) (aCons (eLst aNil) (aCons (eLst aNil) aNil))))
 (sSeq (sWn [0, 1, 2, 3, 6] (sFor (iSeqE (eKeep true (eVar 1))) (setE 2)
  L_strip_ends_2))
 (sRet (eTup (aCons (ePure1 pTup (eVar 4)) (aCons (ePure1 pTup (eVar 5)) aNil))))))
def fn_strip_ends : Fn := fnOf false 7 B_strip_ends

/-- _law_late(row, word): slots 0=row 1=word 2=sign 3=found 4=here 5=end 6=turn -/
def L__law_late_1 : SR := (sW [6] (sIf (tAndF (tOfE (ePure2 pLt (eVar 5) (ePure pLen (aCons (eVar 0) aNil)))) (tOrF (tOfE (ePure2 pEq (eVar 5) (eVar 4))) (tNotF (tOfE (eCall false 3 fn__law_breaks (aCons (eVar 0) (aCons (eVar 2) (aCons (ePure2 pSub (eVar 5) (eC (.int 1))) aNil))))))))
  (sAsg (ePure2 pAdd (eVar 5) (eC (.int 1))) (setE 5))
  sNext))
def L__law_late_2 : SR := (sW [2, 5, 6] (sSeq (sAsg (eKeep false (eVar 4)) (setE 5))
 (sSeq (sWn [2, 4, 6] (sFor (iRng1E (aCons (ePure pLen (aCons (eVar 0) aNil)) aNil)) (setE 6)
  L__law_late_1))
 (sSeq (sDrop (eAppend 3 (eKeep false (eVar 5))))
 (sWn [5] (sAsg (eKeep true (eVar 5)) (setE 4)))))))
def B__law_late : SR := (sSeq (sPar 3 4 (aCons (eLst aNil) (aCons (eC (.int 0)) aNil)))
 (sSeq (sWn [0, 1, 2, 4, 5, 6] (sFor (iSeqE (eKeep true (eVar 1))) (setE 2)
  L__law_late_2))
 (sRet (ePure1 pTup (eVar 3)))))
def fn__law_late : Fn := fnOf false 7 B__law_late

/-- _law_shows(row, word, thing): slots 0=row 1=word 2=thing 3=some 4=many 5=begin 6=end 7=sign 8=one 9=place -/
def S__law_shows_1 : SR := (sIf (tOrF (tNotF (tOfE (ePure1 (pIsi "tuple") (eVar 2)))) (tOrF (tOfE (ePure2 pNe (ePure pLen (aCons (eVar 2) aNil)) (eC (.int 2)))) (tOrF (tNotF (tOfE (ePure1 (pIsi "str") (ePure2 pIx (eVar 2) (eC (.int 0)))))) (tOrF (tNotF (tOfE (ePure1 (pIsi "tuple") (ePure2 pIx (eVar 2) (eC (.int 1)))))) (tOfE (ePure2 pNe (ePure pLen (aCons (ePure2 pIx (eVar 2) (eC (.int 1))) aNil)) (ePure pLen (aCons (eVar 1) aNil))))))))
  (sRet (eC (.bool false)))
  sNext)
def S__law_shows_2 : SR := (sAsg (eTup (aCons (ePure2 pIx (eVar 2) (eC (.int 1))) (aCons (ePure pLen (aCons (eVar 0) aNil)) aNil))) (gUnF 2 (gsCons (setE 3) (gsCons (setE 4) gsNil))))
def E__law_shows_1 : ER := (eKeep false (eVar 8))
def T__law_shows_1 : TR := (tOrF (tOfE (ePure1 (pIsi "bool") (eVar 8))) (tOrF (tNotF (tOfE (ePure1 (pIsi "int") (eVar 8)))) (tNotF (tOfE (eChain pLe pLe (eC (.int 0)) (eVar 8) (eVar 4))))))
def S__law_shows_3 : SR := (sWn [8] (sIf (tOfE (ePure2 pNe (eLc (iSeqE (eKeep false (eVar 3))) (setE 8) T__law_shows_1 E__law_shows_1 [8]) (eLst aNil)))
  (sRet (eC (.bool false)))
  sNext))
def E__law_shows_2 : ER := (eKeep false (eVar 9))
def T__law_shows_2 : TR := (tOfE (eCall false 3 fn__law_breaks (aCons (eVar 0) (aCons (eVar 7) (aCons (eVar 9) aNil)))))
def L__law_shows_8 : SR := (sW [5, 6, 7] (sWn [5, 6, 7] (sIf (tOfE (ePure2 pNe (eLc (iRng2E (aCons (eVar 5) (aCons (ePure2 pSub (eVar 6) (eC (.int 1))) aNil))) (setE 9) T__law_shows_2 E__law_shows_2 [9]) (eLst aNil)))
  (sRet (eC (.bool false)))
  sNext)))
def S__law_shows_4 : SR := (sWn [5, 6] (sIf (tOfE (ePure2 pEq (ePure2 pIx (eVar 2) (eC (.int 0))) (eC (.str "ends"))))
  (sSeq (sWn [4] (sIf (tOrF (tOfE (ePure2 pNe (ePure2 pIx (eVar 3) (ePure1 pNeg (eC (.int 1)))) (eVar 4))) (tOfE (ePure2 pNe (ePure pList (aCons (eVar 3) aNil)) (ePure pSorted (aCons (eVar 3) aNil)))))
  (sRet (eC (.bool false)))
  sNext))
 (sSeq (sWn [0, 1, 3, 5, 6, 7, 9] (sFor (iZipE3 (aCons (eKeep true (eVar 1)) (aCons (ePure2 pAdd (eTup (aCons (eC (.int 0)) aNil)) (slE (eVar 3) .no (.e (ePure1 pNeg (eC (.int 1)))))) (aCons (eKeep false (eVar 3)) aNil)))) (gUnF 3 (gsCons (setE 7) (gsCons (setE 5) (gsCons (setE 6) gsNil))))
  L__law_shows_8))
 (sRet (eC (.bool true)))))
  sNext))
def S__law_shows_5 : SR := (sWn [2, 4] (sIf (tOrF (tOfE (ePure2 pNe (ePure2 pIx (eVar 2) (eC (.int 0))) (eC (.str "breaks")))) (tOrF (tOfE (ePure2 pNe (ePure pList (aCons (eVar 3) aNil)) (ePure1 pSortSet (eVar 3)))) (tOfE (ePure2 pGt (ePure2 pIx (eVar 3) (ePure1 pNeg (eC (.int 1)))) (ePure2 pSub (eVar 4) (eC (.int 2)))))))
  (sRet (eC (.bool false)))
  sNext))
def E__law_shows_3 : ER := (eC (.int 1))
def T__law_shows_3 : TR := (tNotF (tOfE (eCall false 3 fn__law_breaks (aCons (eVar 0) (aCons (eVar 7) (aCons (eVar 9) aNil))))))
def S__law_shows_6 : SR := (sRet (ePure2 pEq (eLc (iZipE (aCons (eKeep true (eVar 1)) (aCons (eKeep true (eVar 3)) aNil))) (gUnF 2 (gsCons (setE 7) (gsCons (setE 9) gsNil))) T__law_shows_3 E__law_shows_3 [7, 9]) (eLst aNil)))
def B__law_shows : SR := (sSeq S__law_shows_1 (sSeq S__law_shows_2 (sSeq S__law_shows_3 (sSeq S__law_shows_4 (sSeq S__law_shows_5 S__law_shows_6)))))
def fn__law_shows : Fn := fnOf false 10 B__law_shows

/-- are_ends(row, word, thing): slots 0=row 1=word 2=thing 3=start 4=sign 5=end 6=place 7=one 8=other -/
def E_are_ends_1 : ER := (eCall false 3 fn_is_within (aCons (eVar 5) (aCons (eC (.int 0)) (aCons (ePure pLen (aCons (eVar 0) aNil)) aNil))))
def S_are_ends_1 : SR := (sWn [5] (sIf (tOrF (tNotF (tOfE (eCall false 3 fn_is_tuple_of (aCons (eVar 2) (aCons (ePure pLen (aCons (eVar 1) aNil)) (aCons (ePure pLen (aCons (eVar 1) aNil)) aNil)))))) (tNotF (tOfE (ePure pAll (aCons (eLc (iSeqE (eKeep false (eVar 2))) (setE 5) tYesF E_are_ends_1 [5]) aNil)))))
  (sRet (eC (.bool false)))
  sNext))
def E_are_ends_2 : ER := (ePure2 pGt (eVar 7) (eVar 8))
def S_are_ends_2 : SR := (sWn [7, 8] (sIf (tOrF (tOfE (ePure2 pNe (ePure2 pIx (eVar 2) (ePure1 pNeg (eC (.int 1)))) (ePure pLen (aCons (eVar 0) aNil)))) (tOfE (ePure pAny (aCons (eLc (iZipE (aCons (eKeep false (eVar 2)) (aCons (slE (eVar 2) (.e (eC (.int 1))) .no) aNil))) (gUnF 2 (gsCons (setE 7) (gsCons (setE 8) gsNil))) tYesF E_are_ends_2 [7, 8]) aNil))))
  (sRet (eC (.bool false)))
  sNext))
def S_are_ends_3 : SR := (sAsg (eC (.int 0)) (setE 3))
def E_are_ends_3 : ER := (eCall false 3 fn_does_break (aCons (eVar 0) (aCons (eVar 6) (aCons (eVar 4) aNil))))
def L_are_ends_7 : SR := (sW [4, 5] (sSeq (sWn [3, 4] (sIf (tOfE (ePure pAny (aCons (eLc (iRng2E (aCons (eVar 3) (aCons (ePure2 pSub (eVar 5) (eC (.int 1))) aNil))) (setE 6) tYesF E_are_ends_3 [6]) aNil)))
  (sRet (eC (.bool false)))
  sNext))
 (sWn [5] (sAsg (eKeep true (eVar 5)) (setE 3)))))
def S_are_ends_4 : SR := (sWn [0, 1, 2, 3, 4, 5, 6] (sFor (iZipE (aCons (eKeep true (eVar 2)) (aCons (eKeep true (eVar 1)) aNil))) (gUnF 2 (gsCons (setE 5) (gsCons (setE 4) gsNil)))
  L_are_ends_7))
def S_are_ends_5 : SR := (sRet (eC (.bool true)))
def B_are_ends : SR := (sSeq S_are_ends_1 (sSeq S_are_ends_2 (sSeq S_are_ends_3 (sSeq S_are_ends_4 S_are_ends_5))))
def fn_are_ends : Fn := fnOf false 9 B_are_ends

/-- _law_word(feed, row): slots 0=feed 1=row 2=signs 3=word 4=one 5=other 6=place 7=sign 8=turn -/
def E__law_word_1 : ER := (eCall true 2 fn__law_one (aCons (eVar 0) (aCons (eLst (aCons (eC (.str "u")) (aCons (eC (.str "d")) aNil))) aNil)))
def S__law_word_1 : SR := (sWn [8] (sIf (tOrF (tOfE (ePure2 pEq (eCall true 2 fn__law_draw (aCons (eVar 0) (aCons (eC (.int 2)) aNil))) (eC (.int 0)))) (tOfE (ePure2 pLt (ePure pLen (aCons (eVar 1) aNil)) (eC (.int 2)))))
  (sRet (ePure1 (pJoin "") (eLc (iRng1E (aCons (ePure2 pAdd (eC (.int 1)) (eCall true 2 fn__law_draw (aCons (eVar 0) (aCons (eC (.int 5)) aNil)))) aNil)) (setE 8) tYesF E__law_word_1 [8])))
  sNext))
def E__law_word_2 : ER := (eKeep true (eIf (tOfE (ePure2 pLt (eVar 4) (eVar 5))) (eC (.str "u")) (eC (.str "d"))))
def S__law_word_2 : SR := (sWn [1, 4, 5] (sAsg (eLc (iZipE (aCons (eKeep false (eVar 1)) (aCons (slE (eVar 1) (.e (eC (.int 1))) .no) aNil))) (gUnF 2 (gsCons (setE 4) (gsCons (setE 5) gsNil))) tYesF E__law_word_2 [4, 5]) (setE 2)))
def E__law_word_3 : ER := (eKeep false (eVar 7))
def T__law_word_3 : TR := (tOrF (tOfE (ePure2 pEq (eVar 6) (eC (.int 0)))) (tOfE (ePure2 pNe (ePure2 pIx (eVar 2) (ePure2 pSub (eVar 6) (eC (.int 1)))) (eVar 7))))
def S__law_word_3 : SR := (sWn [2, 6, 7] (sAsg (eLc (iEnumE (eKeep false (eVar 2))) (gUnF 2 (gsCons (setE 6) (gsCons (setE 7) gsNil))) T__law_word_3 E__law_word_3 [6, 7]) (setE 3)))
def S__law_word_4 : SR := (sIf (tAndF (tOfE (ePure2 pEq (eCall true 2 fn__law_draw (aCons (eVar 0) (aCons (eC (.int 2)) aNil))) (eC (.int 0)))) (tOfE (ePure2 pGt (ePure pLen (aCons (eVar 3) aNil)) (eC (.int 1)))))
  (sDrop (ePopAt 3 (eCall true 2 fn__law_draw (aCons (eVar 0) (aCons (ePure pLen (aCons (eVar 3) aNil)) aNil)))))
  sNext)
def S__law_word_5 : SR := (sRet (ePure1 (pJoin "") (eVar 3)))
def B__law_word : SR := (sSeq S__law_word_1 (sSeq S__law_word_2 (sSeq S__law_word_3 (sSeq S__law_word_4 S__law_word_5))))
def fn__law_word : Fn := fnOf true 9 B__law_word

/-- _law_near(feed, row, thing): slots 0=feed 1=row 2=thing 3=rows 4=bent 5=word 6=some 7=at 8=far 9=one -/
def S__law_near_1 : SR := (sWn [2] (sAsg (eKeep true (eVar 2)) (gUnF 2 (gsCons (setE 5) (gsCons (setE 6) gsNil)))))
def S__law_near_2 : SR := (sWn [1] (sPar 7 8 (aCons (eCall true 2 fn__law_draw (aCons (eVar 0) (aCons (ePure pLen (aCons (eVar 6) aNil)) aNil))) (aCons (eCall true 2 fn__law_draw (aCons (eVar 0) (aCons (ePure2 pAdd (ePure pLen (aCons (eVar 1) aNil)) (eC (.int 2))) aNil))) aNil))))
def S__law_near_3 : SR := (sAsg (eLst (aCons (ePure2 pAdd (ePure2 pAdd (slE (eVar 6) .no (.e (eVar 7))) (eTup (aCons (eKeep false (eVar 8)) aNil))) (slE (eVar 6) (.e (ePure2 pAdd (eVar 7) (eC (.int 1)))) .no)) (aCons (ePure2 pAdd (ePure2 pAdd (slE (eVar 6) .no (.e (eVar 7))) (eTup (aCons (eKeep false (eVar 8)) aNil))) (slE (eVar 6) (.e (ePure2 pAdd (eVar 7) (eC (.int 1)))) .no)) (aCons (ePure2 pAdd (slE (eVar 6) .no (.e (eVar 7))) (slE (eVar 6) (.e (ePure2 pAdd (eVar 7) (eC (.int 1)))) .no)) (aCons (ePure2 pAdd (eVar 6) (eTup (aCons (eKeep false (eVar 8)) aNil))) (aCons (ePure1 pRev (eVar 6)) (aCons (ePure pList (aCons (eVar 6) aNil)) (aCons (eC .none) (aCons (ePure2 pAdd (ePure2 pAdd (slE (eVar 6) .no (.e (eVar 7))) (eTup (aCons (eC .none) aNil))) (slE (eVar 6) (.e (ePure2 pAdd (eVar 7) (eC (.int 1)))) .no)) aNil))))))))) (setE 3))
def E__law_near_1 : ER := (ePure2 pSub (eVar 9) (eC (.int 1)))
def E__law_near_2 : ER := (ePure2 pAdd (eVar 9) (eC (.int 1)))
def S__law_near_4 : SR := (sWn [7, 8, 9] (sAsg (ePure2 pAdd (eVar 3) (eLst (aCons (ePure2 pAdd (ePure2 pAdd (slE (eVar 6) .no (.e (eVar 7))) (eTup (aCons (eC (.bool true)) aNil))) (slE (eVar 6) (.e (ePure2 pAdd (eVar 7) (eC (.int 1)))) .no)) (aCons (ePure1 pTup (ePure pSorted (aCons (ePure2 pAdd (ePure2 pAdd (slE (eVar 6) .no (.e (eVar 7))) (eTup (aCons (eKeep true (eVar 8)) aNil))) (slE (eVar 6) (.e (ePure2 pAdd (eVar 7) (eC (.int 1)))) .no)) aNil))) (aCons (ePure1 pTup (eLc (iSeqE (eKeep false (eVar 6))) (setE 9) tYesF E__law_near_2 [9])) (aCons (ePure1 pTup (eLc (iSeqE (eKeep false (eVar 6))) (setE 9) tYesF E__law_near_1 [9])) (aCons (eTup aNil) aNil))))))) (setE 3)))
def S__law_near_5 : SR := (sWn [3] (sAsg (eTup (aCons (eKeep false (eVar 5)) (aCons (eCall true 2 fn__law_one (aCons (eVar 0) (aCons (eVar 3) aNil))) aNil))) (setE 4)))
def S__law_near_6 : SR := (sRet (eCall true 2 fn__law_one (aCons (eVar 0) (aCons (eLst (aCons (eKeep false (eVar 4)) (aCons (eKeep false (eVar 4)) (aCons (eKeep false (eVar 4)) (aCons (eKeep false (eVar 4)) (aCons (eTup (aCons (eKeep false (eIf (tOfE (ePure2 pEq (eVar 5) (eC (.str "breaks")))) (eC (.str "ends")) (eC (.str "breaks")))) (aCons (eKeep false (eVar 6)) aNil))) (aCons (eLst (aCons (eKeep false (eVar 5)) (aCons (eKeep false (eVar 6)) aNil))) (aCons (eTup (aCons (eKeep false (eVar 5)) (aCons (eKeep false (eVar 6)) (aCons (eTup aNil) aNil)))) (aCons (eTup (aCons (eKeep false (eVar 6)) (aCons (eKeep false (eVar 5)) aNil))) aNil))))))))) aNil))))
def B__law_near : SR := (sSeq S__law_near_1 (sSeq S__law_near_2 (sSeq S__law_near_3 (sSeq S__law_near_4 (sSeq S__law_near_5 S__law_near_6)))))
def fn__law_near : Fn := fnOf true 10 B__law_near

/-- need_strips(row, word): slots 0=row 1=word 2=sign -/
def E_need_strips_1 : ER := (ePure2 pIn (eVar 2) (eTup (aCons (eKeep false (eC (.str "u"))) (aCons (eKeep false (eC (.str "d"))) aNil))))
def B_need_strips : SR := (sSeq (sWn [0] (sDrop (eCallX 1 fn_need_row (aCons (eVar 0) aNil))))
 (sWn [1, 2] (sIf (tOrF (tNotF (tOfE (ePure1 (pIsi "str") (eVar 1)))) (tOrF (tNotF (tOfE (eChain pLe pLe (eC (.int 1)) (ePure pLen (aCons (eVar 1) aNil)) (eC (.int 9))))) (tNotF (tOfE (ePure pAll (aCons (eLc (iSeqE (eKeep false (eVar 1))) (setE 2) tYesF E_need_strips_1 [2]) aNil))))))
  (sRaise "BadWord")
  sNext)))
def fn_need_strips : Fn := fnOf false 3 B_need_strips

/-- strips(row, word): slots 0=row 1=word 2=ends 3=breaks -/
def B_strips : SR := (sSeq (sDrop (eCallX 2 fn_need_strips (aCons (eVar 0) (aCons (eVar 1) aNil))))
 (sSeq (sWn [1] (sAsg (eCall false 2 fn_strip_ends (aCons (eVar 0) (aCons (eVar 1) aNil))) (gUnF 2 (gsCons (setE 2) (gsCons (setE 3) gsNil)))))
 (sRet (eKeep true (eIf (tOfE (ePure2 pEq (ePure2 pIx (eVar 2) (ePure1 pNeg (eC (.int 1)))) (ePure pLen (aCons (eVar 0) aNil)))) (eTup (aCons (eC (.str "ends")) (aCons (eKeep false (eVar 2)) aNil))) (eTup (aCons (eC (.str "breaks")) (aCons (eKeep true (eVar 3)) aNil))))))))
def fn_strips : Fn := fnOf false 4 B_strips

/-- strips_hold(row, word, thing): slots 0=row 1=word 2=thing 3=many 4=place 5=one 6=other 7=sign -/
def S_strips_hold_1 : SR := (sDrop (eCallX 2 fn_need_strips (aCons (eVar 0) (aCons (eVar 1) aNil))))
def S_strips_hold_2 : SR := (sAsg (ePure pLen (aCons (eVar 1) aNil)) (setE 3))
def S_strips_hold_3 : SR := (sIf (tOfE (eCall false 3 fn_has_word (aCons (eVar 2) (aCons (eC (.str "ends")) (aCons (eC (.int 2)) aNil)))))
  (sRet (eCall false 3 fn_are_ends (aCons (eVar 0) (aCons (eVar 1) (aCons (ePure2 pIx (eVar 2) (eC (.int 1))) aNil)))))
  sNext)
def S_strips_hold_4 : SR := (sWn [3] (sIf (tOrF (tNotF (tOfE (eCall false 3 fn_has_word (aCons (eVar 2) (aCons (eC (.str "breaks")) (aCons (eC (.int 2)) aNil)))))) (tNotF (tOfE (eCall false 3 fn_is_tuple_of (aCons (ePure2 pIx (eVar 2) (eC (.int 1))) (aCons (eVar 3) (aCons (eVar 3) aNil)))))))
  (sRet (eC (.bool false)))
  sNext))
def E_strips_hold_1 : ER := (eCall false 3 fn_is_within (aCons (eVar 4) (aCons (eC (.int 0)) (aCons (ePure2 pSub (ePure pLen (aCons (eVar 0) aNil)) (eC (.int 2))) aNil))))
def S_strips_hold_5 : SR := (sIf (tNotF (tOfE (ePure pAll (aCons (eLc (iSeqE (ePure2 pIx (eVar 2) (eC (.int 1)))) (setE 4) tYesF E_strips_hold_1 [4]) aNil))))
  (sRet (eC (.bool false)))
  sNext)
def E_strips_hold_2 : ER := (ePure2 pGe (eVar 5) (eVar 6))
def S_strips_hold_6 : SR := (sWn [5, 6] (sIf (tOfE (ePure pAny (aCons (eLc (iZipE (aCons (ePure2 pIx (eVar 2) (eC (.int 1))) (aCons (slE (ePure2 pIx (eVar 2) (eC (.int 1))) (.e (eC (.int 1))) .no) aNil))) (gUnF 2 (gsCons (setE 5) (gsCons (setE 6) gsNil))) tYesF E_strips_hold_2 [5, 6]) aNil)))
  (sRet (eC (.bool false)))
  sNext))
def E_strips_hold_3 : ER := (eCall false 3 fn_does_break (aCons (eVar 0) (aCons (eVar 4) (aCons (eVar 7) aNil))))
def S_strips_hold_7 : SR := (sRet (ePure pAll (aCons (eLc (iZipE (aCons (ePure2 pIx (eVar 2) (eC (.int 1))) (aCons (eKeep true (eVar 1)) aNil))) (gUnF 2 (gsCons (setE 4) (gsCons (setE 7) gsNil))) tYesF E_strips_hold_3 [4, 7]) aNil)))
def B_strips_hold : SR := (sSeq S_strips_hold_1 (sSeq S_strips_hold_2 (sSeq S_strips_hold_3 (sSeq S_strips_hold_4 (sSeq S_strips_hold_5 (sSeq S_strips_hold_6 S_strips_hold_7))))))
def fn_strips_hold : Fn := fnOf false 8 B_strips_hold

/-- _law_right(feed): slots 0=feed 1=row 2=word 3=some 4=thing 5=late 6=told 7=due 8=kept 9=turn 10=end 11=sign -/
def S__law_right_1 : SR := (sAsg (eCall true 2 fn__law_row (aCons (eVar 0) (aCons (eCall true 2 fn__law_one (aCons (eVar 0) (aCons (eLst (aCons (eC (.int 0)) (aCons (eC (.int 1)) (aCons (eC (.int 2)) (aCons (eC (.int 3)) (aCons (eC (.int 4)) (aCons (eC (.int 5)) (aCons (eC (.int 6)) (aCons (eC (.int 7)) (aCons (eC (.int 8)) (aCons (eC (.int 9)) aNil))))))))))) aNil))) aNil))) (setE 1))
def S__law_right_2 : SR := (sAsg (eCall true 2 fn__law_word (aCons (eVar 0) (aCons (eVar 1) aNil))) (setE 2))
def S__law_right_3 : SR := (sPar 5 6 (aCons (eCall false 2 fn__law_late (aCons (eVar 1) (aCons (eVar 2) aNil))) (aCons (eCallX 2 fn_strips (aCons (eVar 1) (aCons (eVar 2) aNil))) aNil)))
def S__law_right_4 : SR := (sIf (tOrF (tNotF (tOfE (eCall false 3 fn__law_shows (aCons (eVar 1) (aCons (eVar 2) (aCons (eVar 6) aNil)))))) (tOrF (tOfE (ePure2 pNe (ePure2 pEq (ePure2 pIx (eVar 6) (eC (.int 0))) (eC (.str "ends"))) (ePure2 pEq (ePure2 pIx (eVar 5) (ePure1 pNeg (eC (.int 1)))) (ePure pLen (aCons (eVar 1) aNil))))) (tOfE (ePure2 pNe (ePure pReprQ (aCons (eCallX 2 fn_strips (aPk [1, 0] (aCons (eVar 2) (aCons (eVar 1) aNil)))) aNil)) (ePure pReprQ (aCons (eVar 6) aNil))))))
  (sRet (eC (.bool false)))
  sNext)
def S__law_right_5 : SR := (sIf (tAndF (tOfE (ePure2 pEq (ePure2 pIx (eVar 6) (eC (.int 0))) (eC (.str "ends")))) (tAndF (tOfE (ePure2 pLt (ePure pLen (aCons (eVar 2) aNil)) (eC (.int 9)))) (tOrF (tOfE (ePure2 pNe (ePure2 pIx (eCallX 2 fn_strips (aCons (eVar 1) (aCons (ePure2 pAdd (eVar 2) (eC (.str "u"))) aNil))) (eC (.int 0))) (eC (.str "ends")))) (tOfE (ePure2 pNe (ePure2 pIx (eCallX 2 fn_strips (aCons (eVar 1) (aCons (ePure2 pAdd (eC (.str "d")) (eVar 2)) aNil))) (eC (.int 0))) (eC (.str "ends")))))))
  (sRet (eC (.bool false)))
  sNext)
def E__law_right_1 : ER := (ePure pMax2 (aCons (eC (.int 0)) (aCons (ePure2 pSub (eVar 10) (eC (.int 1))) aNil)))
def S__law_right_6 : SR := (sWn [5, 10] (sAsg (eLst (aCons (eKeep false (eVar 6)) (aCons (eTup (aCons (eC (.str "ends")) (aCons (eKeep false (eVar 5)) aNil))) (aCons (eTup (aCons (eC (.str "ends")) (aCons (ePure2 pAdd (slE (eVar 5) .no (.e (ePure1 pNeg (eC (.int 1))))) (eTup (aCons (ePure pLen (aCons (eVar 1) aNil)) aNil))) aNil))) (aCons (eTup (aCons (eC (.str "breaks")) (aCons (ePure1 pTup (eLc (iSeqE (eKeep false (eVar 5))) (setE 10) tYesF E__law_right_1 [10])) aNil))) aNil))))) (setE 3)))
def E__law_right_2 : ER := (eCall true 2 fn__law_draw (aCons (eVar 0) (aCons (ePure2 pAdd (ePure pLen (aCons (eVar 1) aNil)) (eC (.int 1))) aNil)))
def E__law_right_3 : ER := (eTup (aCons (eCall true 2 fn__law_one (aCons (eVar 0) (aCons (eLst (aCons (eC (.str "ends")) (aCons (eC (.str "breaks")) aNil))) aNil))) (aCons (ePure1 pTup (ePure pSorted (aCons (eLc (iSeqE (eKeep false (eVar 2))) (setE 11) tYesF E__law_right_2 [11]) aNil))) aNil)))
def S__law_right_7 : SR := (sWn [9, 11] (sAsg (ePure2 pAdd (eVar 3) (eLc (iRng1E (aCons (eC (.int 3)) aNil)) (setE 9) tYesF E__law_right_3 [9])) (setE 3)))
def E__law_right_4 : ER := (eCall true 3 fn__law_near (aCons (eVar 0) (aCons (eVar 1) (aCons (eCall true 2 fn__law_one (aCons (eVar 0) (aCons (eVar 3) aNil))) aNil))))
def L__law_right_12 : SR := (sW [4, 7, 8] (sSeq (sPar 7 8 (aCons (eCall false 3 fn__law_shows (aCons (eVar 1) (aCons (eVar 2) (aCons (eVar 4) aNil)))) (aCons (ePure pReprQ (aCons (eVar 4) aNil)) aNil)))
 (sSeq (sWn [8] (sIf (tOrF (tNotF (tOfE (eCall false 2 fn__law_so (aCons (eCallX 3 fn_strips_hold (aCons (eVar 1) (aCons (eVar 2) (aCons (eVar 4) aNil)))) (aCons (eVar 7) aNil))))) (tOrF (tNotF (tOfE (eCall false 2 fn__law_so (aCons (eCallX 3 fn_strips_hold (aPk [2, 1, 0] (aCons (eVar 4) (aCons (eVar 2) (aCons (eVar 1) aNil))))) (aCons (eVar 7) aNil))))) (tOfE (ePure2 pNe (ePure pReprQ (aCons (eVar 4) aNil)) (eVar 8)))))
  (sRet (eC (.bool false)))
  sNext))
 (sWn [4, 7] (sIf (tAndF (tOfE (eVar 7)) (tOfE (ePure2 pNe (ePure2 pIx (eVar 4) (eC (.int 0))) (ePure2 pIx (eVar 6) (eC (.int 0))))))
  (sRet (eC (.bool false)))
  sNext)))))
def S__law_right_8 : SR := (sWn [1, 2, 3, 4, 6, 7, 8, 9] (sFor (iSeqE (ePure2 pAdd (ePure2 pAdd (eVar 3) (eLc (iRng1E (aCons (eC (.int 12)) aNil)) (setE 9) tYesF E__law_right_4 [9])) (eLst (aCons (eC .none) (aCons (eTup aNil) (aCons (eC (.str "ends")) (aCons (eTup (aCons (eC (.str "ends")) aNil)) (aCons (eTup (aCons (eC (.str "ends")) (aCons (eTup aNil) aNil))) (aCons (eTup (aCons (eC (.str "breaks")) (aCons (eTup aNil) aNil))) (aCons (eC (.int 7)) aNil)))))))))) (setE 4)
  L__law_right_12))
def S__law_right_9 : SR := (sRet (eC (.bool true)))
def B__law_right : SR := (sSeq S__law_right_1 (sSeq S__law_right_2 (sSeq S__law_right_3 (sSeq S__law_right_4 (sSeq S__law_right_5 (sSeq S__law_right_6 (sSeq S__law_right_7 (sSeq S__law_right_8 S__law_right_9))))))))
def fn__law_right : Fn := fnOf true 12 B__law_right

/-- law(script): slots 0=script 1=k 2=feed -/
def L_law_1 : SR := (sW [1, 2] (sSeq (sWn [1] (sAsg (eCall false 2 fn__law_feed (aCons (eVar 0) (aCons (eVar 1) aNil))) (setE 2)))
 (sWn [2] (sIf (tOrF (tNotF (tOfE (eCall true 1 fn__law_right (aCons (eVar 2) aNil)))) (tNotF (tOfE (eCall true 1 fn__law_right (aCons (eVar 2) aNil)))))
  (sRet (eC (.bool false)))
  sNext))))
def B_law : SR := (sSeq (sWn [0, 1, 2] (sFor (iRng1E (aCons (ePure pMax2 (aCons (eC (.int 2)) (aCons (ePure pMin2 (aCons (ePure pLen (aCons (eVar 0) aNil)) (aCons (eC (.int 4)) aNil))) aNil))) aNil)) (setE 1)
  L_law_1))
 (sRet (eC (.bool true))))
def fn_law : Fn := fnOf false 3 B_law
end VL
end
section
set_option Elab.async false
set_option linter.all false
set_option maxRecDepth 100000
set_option autoImplicit false
namespace VL
open PySem PySem.Spec PyProof.Rows L2
def topS (i : Nat) : Stmt := PySem.Challenge.pw_rowbars_k88_whole_strips_or_breaks.main.body.getD i (.Pass ⟨0, 0, 0, 0⟩)
abbrev s_is_integer : Stmt := topS 5
abbrev s_is_within : Stmt := topS 6
abbrev s_is_tuple_of : Stmt := topS 7
abbrev s_is_row_form : Stmt := topS 10
abbrev s_need_row : Stmt := topS 11
abbrev s_has_word : Stmt := topS 13
abbrev s_need_strips : Stmt := topS 18
abbrev s_does_break : Stmt := topS 19
abbrev s_strip_ends : Stmt := topS 20
abbrev s_strips : Stmt := topS 21
abbrev s_strips_hold : Stmt := topS 22
abbrev s_are_ends : Stmt := topS 23
abbrev s__law_feed : Stmt := topS 25
abbrev s__law_draw : Stmt := topS 26
abbrev s__law_one : Stmt := topS 27
abbrev s__law_mixed : Stmt := topS 28
abbrev s__law_so : Stmt := topS 29
abbrev s__law_back : Stmt := topS 30
abbrev s__law_heaped : Stmt := topS 31
abbrev s__law_row : Stmt := topS 32
abbrev s__law_breaks : Stmt := topS 33
abbrev s__law_late : Stmt := topS 34
abbrev s__law_shows : Stmt := topS 35
abbrev s__law_word : Stmt := topS 36
abbrev s__law_near : Stmt := topS 37
abbrev s__law_right : Stmt := topS 38
abbrev s_law : Stmt := topS 39
structure Txt (K : PySem.W.Frag) (mg : Str → Option Value) : Prop where
  f_is_integer : Has K mg "is_integer" s_is_integer
  f_is_within : Has K mg "is_within" s_is_within
  f_is_tuple_of : Has K mg "is_tuple_of" s_is_tuple_of
  f_is_row_form : Has K mg "is_row_form" s_is_row_form
  f_need_row : Has K mg "need_row" s_need_row
  f_has_word : Has K mg "has_word" s_has_word
  f_need_strips : Has K mg "need_strips" s_need_strips
  f_does_break : Has K mg "does_break" s_does_break
  f_strip_ends : Has K mg "strip_ends" s_strip_ends
  f_strips : Has K mg "strips" s_strips
  f_strips_hold : Has K mg "strips_hold" s_strips_hold
  f_are_ends : Has K mg "are_ends" s_are_ends
  f__law_feed : Has K mg "_law_feed" s__law_feed
  f__law_draw : Has K mg "_law_draw" s__law_draw
  f__law_one : Has K mg "_law_one" s__law_one
  f__law_mixed : Has K mg "_law_mixed" s__law_mixed
  f__law_so : Has K mg "_law_so" s__law_so
  f__law_back : Has K mg "_law_back" s__law_back
  f__law_heaped : Has K mg "_law_heaped" s__law_heaped
  f__law_row : Has K mg "_law_row" s__law_row
  f__law_breaks : Has K mg "_law_breaks" s__law_breaks
  f__law_late : Has K mg "_law_late" s__law_late
  f__law_shows : Has K mg "_law_shows" s__law_shows
  f__law_word : Has K mg "_law_word" s__law_word
  f__law_near : Has K mg "_law_near" s__law_near
  f__law_right : Has K mg "_law_right" s__law_right
  f_law : Has K mg "law" s_law
  b_all : mg "all" = none
  b_any : mg "any" = none
  b_bool : mg "bool" = none
  b_enumerate : mg "enumerate" = none
  b_int : mg "int" = none
  b_isinstance : mg "isinstance" = none
  b_len : mg "len" = none
  b_list : mg "list" = none
  b_max : mg "max" = none
  b_min : mg "min" = none
  b_range : mg "range" = none
  b_repr : mg "repr" = none
  b_set : mg "set" = none
  b_sorted : mg "sorted" = none
  b_str : mg "str" = none
  b_sum : mg "sum" = none
  b_tuple : mg "tuple" = none
  b_zip : mg "zip" = none
  c_DOWN : Cn mg "DOWN" (.str "d")
  c_MOST_NUMBERS : Cn mg "MOST_NUMBERS" (.int 9)
  c_MOST_STRIPS : Cn mg "MOST_STRIPS" (.int 9)
  c_UP : Cn mg "UP" (.str "u")
theorem sc_is_integer : FnScope ["thing"] ["thing"] (defScope s_is_integer) := ⟨rfl, rfl, rfl, by decide +kernel, rfl, by decide +kernel, by decide +kernel⟩
theorem ok_is_integer {P : Program} {w : World} {K : PySem.W.Frag} {mg : Str → Option Value} {base : Heap} (T : Txt K mg) : OkD P w K mg base 1 "is_integer" ["thing"] (spV K false 1 fn_is_integer) := by
  refine okD_mk T.f_is_integer sc_is_integer spV_len (fun _ _ _ _ _ _ us hl => match us, hl with | [_], _ => rfl) (fun _ _ _ _ _ _ us hl => match us, hl with | [_], _ => rfl) fun cdv f A outer s H vs Q E hr h => ?_
  have hu := hr.room.units
  have hgd := hr.gd
  have sc := sc_is_integer
  refine ⟨_, (pss_one (ps_ret (pe_and (pe_callB (k_isi K rfl) (by rfl) T.b_isinstance (by rfl) (pa_cons (pv 0) (pa_cons (pe_bltn (v := .ty "int") (by rfl) T.b_int (by rfl) rfl) pa_nil))) (pe_one (pe_not (pe_callB (k_isi K rfl) (by rfl) T.b_isinstance (by rfl) (pa_cons (pv 0) (pa_cons (pe_bltn (v := .ty "bool") (by rfl) T.b_bool (by rfl) rfl) pa_nil)))))))), ?_⟩
  exact body_spV (B := B_is_integer) rfl (by decide) (spec_sRet (spec_keep true (spec_and (spec_isi "int" (spec_var 0)) (spec_not (spec_isi "bool" (spec_var 0)))))) h

theorem sc_is_tuple_of : FnScope ["thing", "least", "most"] ["thing", "least", "most"] (defScope s_is_tuple_of) := ⟨rfl, rfl, rfl, by decide +kernel, rfl, by decide +kernel, by decide +kernel⟩
theorem ok_is_tuple_of {P : Program} {w : World} {K : PySem.W.Frag} {mg : Str → Option Value} {base : Heap} (T : Txt K mg) : OkD P w K mg base 1 "is_tuple_of" ["thing", "least", "most"] (spV K false 3 fn_is_tuple_of) := by
  refine okD_mk T.f_is_tuple_of sc_is_tuple_of spV_len (fun _ _ _ _ _ _ us hl => match us, hl with | [_, _, _], _ => rfl) (fun _ _ _ _ _ _ us hl => match us, hl with | [_, _, _], _ => rfl) fun cdv f A outer s H vs Q E hr h => ?_
  have hu := hr.room.units
  have hgd := hr.gd
  have sc := sc_is_tuple_of
  refine ⟨_, (pss_one (ps_ret (pe_and (pe_callB (k_isi K rfl) (by rfl) T.b_isinstance (by rfl) (pa_cons (pv 0) (pa_cons (pe_bltn (v := .ty "tuple") (by rfl) T.b_tuple (by rfl) rfl) pa_nil))) (pe_one (pe_chain op_le op_le (pv 1) (pe_callB (k_len K rfl) (by rfl) T.b_len (by rfl) (pa_cons (pv 0) pa_nil)) (pv 2)))))), ?_⟩
  exact body_spV (B := B_is_tuple_of) rfl (by decide) (spec_sRet (spec_keep true (spec_and (spec_isi "tuple" (spec_var 0)) (spec_chain pureB_le pure_le (spec_var 1) (spec_cb pure_len (spec_cons (spec_var 0) spec_nil)) (spec_var 2))))) h

theorem sc_does_break : FnScope ["row", "place", "sign"] ["row", "place", "sign"] (defScope s_does_break) := ⟨rfl, rfl, rfl, by decide +kernel, rfl, by decide +kernel, by decide +kernel⟩
theorem ok_does_break {P : Program} {w : World} {K : PySem.W.Frag} {mg : Str → Option Value} {base : Heap} (T : Txt K mg) : OkD P w K mg base 1 "does_break" ["row", "place", "sign"] (spV K false 3 fn_does_break) := by
  refine okD_mk T.f_does_break sc_does_break spV_len (fun _ _ _ _ _ _ us hl => match us, hl with | [_, _, _], _ => rfl) (fun _ _ _ _ _ _ us hl => match us, hl with | [_, _, _], _ => rfl) fun cdv f A outer s H vs Q E hr h => ?_
  have hu := hr.room.units
  have hgd := hr.gd
  have sc := sc_does_break
  refine ⟨_, (pss_one (ps_ret (pe_cmpR (k_eq K rfl hu) (pe_cmpR op_gt (pe_ix (k_ix K rfl) (pv 0) (pv 1) (fun _ _ => rfl)) (pe_ix (k_ix K rfl) (pv 0) (pe_op (k_add K rfl) (pv 1) pe_int) (fun _ _ => rfl)) (nomark _)) (pe_cmpR (k_eq K rfl hu) (pv 2) (pe_cn T.c_UP) (nomark _)) (nomark _)))), ?_⟩
  exact body_spV (B := B_does_break) rfl (by decide) (spec_sRet (spec_op pure_eq (spec_op pure_gt (spec_op pure_ix (spec_var 0) (spec_var 1)) (spec_op pure_ix (spec_var 0) (spec_op pure_add (spec_var 1) (spec_int 1)))) (spec_op pure_eq (spec_var 2) (spec_str "u")))) h

theorem sc__law_feed : FnScope ["script", "k", "cell"] ["script", "k"] (defScope s__law_feed) := ⟨rfl, rfl, rfl, by decide +kernel, rfl, by decide +kernel, by decide +kernel⟩
theorem ok__law_feed {P : Program} {w : World} {K : PySem.W.Frag} {mg : Str → Option Value} {base : Heap} (T : Txt K mg) : OkD P w K mg base 1 "_law_feed" ["script", "k"] (spV K false 2 fn__law_feed) := by
  refine okD_mk T.f__law_feed sc__law_feed spV_len (fun _ _ _ _ _ _ us hl => match us, hl with | [_, _], _ => rfl) (fun _ _ _ _ _ _ us hl => match us, hl with | [_, _], _ => rfl) fun cdv f A outer s H vs Q E hr h => ?_
  have hu := hr.room.units
  have hgd := hr.gd
  have sc := sc__law_feed
  refine ⟨_, (pss_cons (ps_set (i := 2) sc.nd rfl (by first | exact Or.inl rfl | exact Or.inr rfl) (pe_op (k_add K rfl) (pe_op (k_mul K rfl) pe_int (pv 1)) (pe_callB (k_sum K rfl rfl) (by rfl) T.b_sum (by rfl) (pa_cons (pe_slice (k_sl K rfl) (pv 0) po_none (po_some pe_int)) pa_nil))))
 (pss_cons (ps_if (pt_cmpR op_lt (pv 1) (pe_callB (k_len K rfl) (by rfl) T.b_len (by rfl) (pa_cons (pv 0) pa_nil)) (nomark _))
  (pss_one (ps_set (i := 2) sc.nd rfl (by first | exact Or.inl rfl | exact Or.inr rfl) (pe_ix (k_ix K rfl) (pv 0) (pv 1) (fun _ _ => rfl))))
  pss_nil)
 (pss_one (ps_ret (pe_lst (pa_cons (pe_callB (call_max2 rfl) (by rfl) T.b_max (by rfl) (pa_cons pe_int (pa_cons (pe_op op_sub (pv 2) (pe_op op_pow pe_int pe_int)) pa_nil))) (pa_cons (pe_op op_mod (pe_callTy call_int1 (by rfl) T.b_int (by rfl) (pa_cons (pe_op (k_add K rfl) (pe_op (k_mul K rfl) (pv 2) pe_int) (pe_op (k_mul K rfl) pe_int (pv 1))) pa_nil)) (pe_op (k_add K rfl) (pe_op op_pow pe_int pe_int) pe_int)) (pa_cons pe_int pa_nil)))))))), ?_⟩
  exact body_spV (B := B__law_feed) rfl (by decide) (spec_sSeq (spec_sAsg (spec_op pure_add (spec_op pure_mul (spec_int 977) (spec_var 1)) (spec_cb pure_sum (spec_cons (spec_sl (spec_var 0) spec_bNo (spec_bE (spec_int 1))) spec_nil))) (spec_gName 2))
 (spec_sSeq (spec_sIf (spec_test (spec_op pure_lt (spec_var 1) (spec_cb pure_len (spec_cons (spec_var 0) spec_nil))))
  (spec_sAsg (spec_op pure_ix (spec_var 0) (spec_var 1)) (spec_gName 2))
  spec_sNext)
 (spec_sRet (spec_lst (spec_cons (spec_cb pure_max2 (spec_cons (spec_int 0) (spec_cons (spec_op pure_sub (spec_var 2) (spec_op pure_pow (spec_int 10) (spec_int 18))) spec_nil))) (spec_cons (spec_op pure_mod (spec_cb pure_int (spec_cons (spec_op pure_add (spec_op pure_mul (spec_var 2) (spec_int 19)) (spec_op pure_mul (spec_int 7) (spec_var 1))) spec_nil)) (spec_op pure_add (spec_op pure_pow (spec_int 10) (spec_int 39)) (spec_int 23))) (spec_cons (spec_int 0) spec_nil))))))) h

theorem sc__law_draw : FnScope ["feed", "many", "stir", "rest", "got"] ["feed", "many"] (defScope s__law_draw) := ⟨rfl, rfl, rfl, by decide +kernel, rfl, by decide +kernel, by decide +kernel⟩
theorem ok__law_draw {P : Program} {w : World} {K : PySem.W.Frag} {mg : Str → Option Value} {base : Heap} (T : Txt K mg) : OkD P w K mg base 1 "_law_draw" ["feed", "many"] (spV K true 2 fn__law_draw) := by
  refine okD_mk T.f__law_draw sc__law_draw spV_len (fun _ _ _ _ _ _ us hl => match us, hl with | [_, _], _ => rfl) (fun _ _ _ _ _ _ us hl => match us, hl with | [_, _], _ => rfl) fun cdv f A outer s H vs Q E hr h => ?_
  have hu := hr.room.units
  have hgd := hr.gd
  have sc := sc__law_draw
  refine ⟨_, (pss_cons (ps_if (pt_cmpR op_gt (pe_ix (k_ix K rfl) (pv 0) pe_int (fun _ _ => rfl)) pe_int (nomark _))
  (pss_cons (ps_set (i := 3) sc.nd rfl (by first | exact Or.inl rfl | exact Or.inr rfl) (pe_op op_fdivW (pe_ix (k_ix K rfl) (pv 0) pe_int (fun _ _ => rfl)) (pv 1)))
 (pss_cons (ps_set (i := 4) sc.nd rfl (by first | exact Or.inl rfl | exact Or.inr rfl) (pe_op op_sub (pe_ix (k_ix K rfl) (pv 0) pe_int (fun _ _ => rfl)) (pe_op (k_mul K rfl) (pv 3) (pv 1))))
 (pss_cons (ps_asg (pv 3) (pg_sub (pv 0) pe_int set_list))
 (pss_one (ps_ret (pv 4))))))
  pss_nil)
 (pss_cons (ps_asg (pe_op (k_add K rfl) (pe_ix (k_ix K rfl) (pv 0) pe_int (fun _ _ => rfl)) pe_int) (pg_sub (pv 0) pe_int set_list))
 (pss_cons (ps_set (i := 2) sc.nd rfl (by first | exact Or.inl rfl | exact Or.inr rfl) (pe_op (k_add K rfl) (pe_ix (k_ix K rfl) (pv 0) pe_int (fun _ _ => rfl)) (pe_op (k_mul K rfl) pe_int (pe_ix (k_ix K rfl) (pv 0) pe_int (fun _ _ => rfl)))))
 (pss_cons (ps_set (i := 2) sc.nd rfl (by first | exact Or.inl rfl | exact Or.inr rfl) (pe_op op_mod (pe_callTy call_int1 (by rfl) T.b_int (by rfl) (pa_cons (pe_op (k_add K rfl) (pe_op (k_mul K rfl) (pe_op (k_mul K rfl) (pv 2) (pv 2)) (pv 2)) (pe_op (k_mul K rfl) pe_int (pe_ix (k_ix K rfl) (pv 0) pe_int (fun _ _ => rfl)))) pa_nil)) (pe_op (k_add K rfl) (pe_op op_pow pe_int pe_int) pe_int)))
 (pss_cons (ps_set (i := 2) sc.nd rfl (by first | exact Or.inl rfl | exact Or.inr rfl) (pe_op op_mod (pe_callTy call_int1 (by rfl) T.b_int (by rfl) (pa_cons (pe_op (k_add K rfl) (pe_op (k_mul K rfl) (pv 2) (pv 2)) pe_int) pa_nil)) (pe_op (k_add K rfl) (pe_op op_pow pe_int pe_int) pe_int)))
 (pss_one (ps_ret (pe_op op_mod (pe_callTy call_int1 (by rfl) T.b_int (by rfl) (pa_cons (pe_op op_fdivW (pv 2) (pe_op op_pow pe_int pe_int)) pa_nil)) (pv 1))))))))), ?_⟩
  exact body_spV (B := B__law_draw) rfl (by decide) (spec_sSeq (spec_sIf (spec_test (spec_op pure_gt (spec_op pure_ix (spec_var 0) (spec_int 0)) (spec_int 0)))
  (spec_sSeq (spec_sAsg (spec_op pure_fdiv (spec_op pure_ix (spec_var 0) (spec_int 0)) (spec_var 1)) (spec_gName 3))
 (spec_sSeq (spec_sAsg (spec_op pure_sub (spec_op pure_ix (spec_var 0) (spec_int 0)) (spec_op pure_mul (spec_var 3) (spec_var 1))) (spec_gName 4))
 (spec_sSeq (spec_sAsg (spec_keep true (spec_var 3)) (spec_gSetI 0 (spec_int 0)))
 (spec_sRet (spec_keep true (spec_var 4))))))
  spec_sNext)
 (spec_sSeq (spec_sAsg (spec_op pure_add (spec_op pure_ix (spec_var 0) (spec_int 2)) (spec_int 1)) (spec_gSetI 0 (spec_int 2)))
 (spec_sSeq (spec_sAsg (spec_op pure_add (spec_op pure_ix (spec_var 0) (spec_int 1)) (spec_op pure_mul (spec_int 6700417) (spec_op pure_ix (spec_var 0) (spec_int 2)))) (spec_gName 2))
 (spec_sSeq (spec_sAsg (spec_op pure_mod (spec_cb pure_int (spec_cons (spec_op pure_add (spec_op pure_mul (spec_op pure_mul (spec_var 2) (spec_var 2)) (spec_var 2)) (spec_op pure_mul (spec_int 15485863) (spec_op pure_ix (spec_var 0) (spec_int 2)))) spec_nil)) (spec_op pure_add (spec_op pure_pow (spec_int 10) (spec_int 43)) (spec_int 57))) (spec_gName 2))
 (spec_sSeq (spec_sAsg (spec_op pure_mod (spec_cb pure_int (spec_cons (spec_op pure_add (spec_op pure_mul (spec_var 2) (spec_var 2)) (spec_int 32452843)) spec_nil)) (spec_op pure_add (spec_op pure_pow (spec_int 10) (spec_int 38)) (spec_int 133))) (spec_gName 2))
 (spec_sRet (spec_op pure_mod (spec_cb pure_int (spec_cons (spec_op pure_fdiv (spec_var 2) (spec_op pure_pow (spec_int 10) (spec_int 9))) spec_nil)) (spec_var 1)))))))) h

theorem sc__law_so : FnScope ["actual", "due"] ["actual", "due"] (defScope s__law_so) := ⟨rfl, rfl, rfl, by decide +kernel, rfl, by decide +kernel, by decide +kernel⟩
theorem ok__law_so {P : Program} {w : World} {K : PySem.W.Frag} {mg : Str → Option Value} {base : Heap} (T : Txt K mg) : OkD P w K mg base 1 "_law_so" ["actual", "due"] (spV K false 2 fn__law_so) := by
  refine okD_mk T.f__law_so sc__law_so spV_len (fun _ _ _ _ _ _ us hl => match us, hl with | [_, _], _ => rfl) (fun _ _ _ _ _ _ us hl => match us, hl with | [_, _], _ => rfl) fun cdv f A outer s H vs Q E hr h => ?_
  have hu := hr.room.units
  have hgd := hr.gd
  have sc := sc__law_so
  refine ⟨_, (pss_one (ps_ret (pe_and (pe_callB (k_isi K rfl) (by rfl) T.b_isinstance (by rfl) (pa_cons (pv 0) (pa_cons (pe_bltn (v := .ty "bool") (by rfl) T.b_bool (by rfl) rfl) pa_nil))) (pe_one (pe_cmpR (k_eq K rfl hu) (pv 0) (pv 1) (nomark _)))))), ?_⟩
  exact body_spV (B := B__law_so) rfl (by decide) (spec_sRet (spec_keep true (spec_and (spec_isi "bool" (spec_var 0)) (spec_op pure_eq (spec_var 0) (spec_var 1))))) h

theorem sc__law_back : FnScope ["row", "found", "place", "number"] ["row"] (defScope s__law_back) := ⟨rfl, rfl, rfl, by decide +kernel, rfl, by decide +kernel, by decide +kernel⟩
theorem ok__law_back {P : Program} {w : World} {K : PySem.W.Frag} {mg : Str → Option Value} {base : Heap} (T : Txt K mg) : OkD P w K mg base 1 "_law_back" ["row"] (spV K false 1 fn__law_back) := by
  refine okD_mk T.f__law_back sc__law_back spV_len (fun _ _ _ _ _ _ us hl => match us, hl with | [_], _ => rfl) (fun _ _ _ _ _ _ us hl => match us, hl with | [_], _ => rfl) fun cdv f A outer s H vs Q E hr h => ?_
  have hu := hr.room.units
  have hgd := hr.gd
  have sc := sc__law_back
  refine ⟨_, (pss_cons (ps_set (i := 1) sc.nd rfl (by first | exact Or.inl rfl | exact Or.inr rfl) (pe_op (k_mul K rfl) (pe_lst (pa_cons pe_int pa_nil)) (pe_callB (k_len K rfl) (by rfl) T.b_len (by rfl) (pa_cons (pv 0) pa_nil))))
 (pss_cons (ps_for PassesOwn.never rfl (k_enum K rfl (by rfl) T.b_enumerate (pv 0)) (k_un K (n := 2) rfl rfl (pgs_cons (pg_name (i := 2) sc.nd rfl (by first | exact Or.inl rfl | exact Or.inr rfl)) (pgs_cons (pg_name (i := 3) sc.nd rfl (by first | exact Or.inl rfl | exact Or.inr rfl)) pgs_nil)))
  (pss_one (ps_asg (pv 2) (pg_sub (pv 1) (pv 3) set_list))))
 (pss_one (ps_ret (k_tupleOf K rfl (by rfl) T.b_tuple (pv 1)))))), ?_⟩
  exact body_spV (B := B__law_back) rfl (by decide) (spec_sSeq (spec_sAsg (spec_op pure_mul (spec_lst (spec_cons (spec_int 0) spec_nil)) (spec_cb pure_len (spec_cons (spec_var 0) spec_nil))) (spec_gName 1))
 (spec_sSeq (spec_sFor (spec_iEnum (spec_keep true (spec_var 0))) (spec_gUn (spec_gCons (spec_gName 2) (spec_gCons (spec_gName 3) spec_gNil)))
  (spec_sAsg (spec_keep true (spec_var 2)) (spec_gSetI 1 (spec_var 3))))
 (spec_sRet (spec_tupleOf (spec_var 1))))) h

theorem sc__law_breaks : FnScope ["row", "sign", "place"] ["row", "sign", "place"] (defScope s__law_breaks) := ⟨rfl, rfl, rfl, by decide +kernel, rfl, by decide +kernel, by decide +kernel⟩
theorem ok__law_breaks {P : Program} {w : World} {K : PySem.W.Frag} {mg : Str → Option Value} {base : Heap} (T : Txt K mg) : OkD P w K mg base 1 "_law_breaks" ["row", "sign", "place"] (spV K false 3 fn__law_breaks) := by
  refine okD_mk T.f__law_breaks sc__law_breaks spV_len (fun _ _ _ _ _ _ us hl => match us, hl with | [_, _, _], _ => rfl) (fun _ _ _ _ _ _ us hl => match us, hl with | [_, _, _], _ => rfl) fun cdv f A outer s H vs Q E hr h => ?_
  have hu := hr.room.units
  have hgd := hr.gd
  have sc := sc__law_breaks
  refine ⟨_, (pss_one (ps_ret (pe_cmpR (k_eq K rfl hu) (pe_cmpR op_gt (pe_ix (k_ix K rfl) (pv 0) (pv 2) (fun _ _ => rfl)) (pe_ix (k_ix K rfl) (pv 0) (pe_op (k_add K rfl) (pv 2) pe_int) (fun _ _ => rfl)) (nomark _)) (pe_cmpR (k_eq K rfl hu) (pv 1) pe_str (nomark _)) (nomark _)))), ?_⟩
  exact body_spV (B := B__law_breaks) rfl (by decide) (spec_sRet (spec_op pure_eq (spec_op pure_gt (spec_op pure_ix (spec_var 0) (spec_var 2)) (spec_op pure_ix (spec_var 0) (spec_op pure_add (spec_var 2) (spec_int 1)))) (spec_op pure_eq (spec_var 1) (spec_str "u")))) h

theorem sc_is_within : FnScope ["thing", "least", "most"] ["thing", "least", "most"] (defScope s_is_within) := ⟨rfl, rfl, rfl, by decide +kernel, rfl, by decide +kernel, by decide +kernel⟩
theorem ok_is_within {P : Program} {w : World} {K : PySem.W.Frag} {mg : Str → Option Value} {base : Heap} (T : Txt K mg) : OkD P w K mg base 2 "is_within" ["thing", "least", "most"] (spV K false 3 fn_is_within) := by
  refine okD_mk T.f_is_within sc_is_within spV_len (fun _ _ _ _ _ _ us hl => match us, hl with | [_, _, _], _ => rfl) (fun _ _ _ _ _ _ us hl => match us, hl with | [_, _, _], _ => rfl) fun cdv f A outer s H vs Q E hr h => ?_
  have hu := hr.room.units
  have hgd := hr.gd
  have sc := sc_is_within
  refine ⟨_, (pss_one (ps_ret (pe_and (pe_ok (ok_is_integer T) hr (by decide) (pa_cons (pv 0) pa_nil)) (pe_one (pe_chain op_le op_le (pv 1) (pv 0) (pv 2)))))), ?_⟩
  exact body_spV (B := B_is_within) rfl (by decide) (spec_sRet (spec_keep true (spec_and (spec_call (spec_cons (spec_var 0) spec_nil)) (spec_chain pureB_le pure_le (spec_var 1) (spec_var 0) (spec_var 2))))) h

theorem sc_has_word : FnScope ["thing", "word", "many"] ["thing", "word", "many"] (defScope s_has_word) := ⟨rfl, rfl, rfl, by decide +kernel, rfl, by decide +kernel, by decide +kernel⟩
theorem ok_has_word {P : Program} {w : World} {K : PySem.W.Frag} {mg : Str → Option Value} {base : Heap} (T : Txt K mg) : OkD P w K mg base 2 "has_word" ["thing", "word", "many"] (spV K false 3 fn_has_word) := by
  refine okD_mk T.f_has_word sc_has_word spV_len (fun _ _ _ _ _ _ us hl => match us, hl with | [_, _, _], _ => rfl) (fun _ _ _ _ _ _ us hl => match us, hl with | [_, _, _], _ => rfl) fun cdv f A outer s H vs Q E hr h => ?_
  have hu := hr.room.units
  have hgd := hr.gd
  have sc := sc_has_word
  refine ⟨_, (pss_one (ps_ret (pe_and (pe_ok (ok_is_tuple_of T) hr (by decide) (pa_cons (pv 0) (pa_cons (pv 2) (pa_cons (pv 2) pa_nil)))) (pe_and (pe_callB (k_isi K rfl) (by rfl) T.b_isinstance (by rfl) (pa_cons (pe_ix (k_ix K rfl) (pv 0) pe_int (fun _ _ => rfl)) (pa_cons (pe_bltn (v := .ty "str") (by rfl) T.b_str (by rfl) rfl) pa_nil))) (pe_one (pe_cmpR (k_eq K rfl hu) (pe_ix (k_ix K rfl) (pv 0) pe_int (fun _ _ => rfl)) (pv 1) (nomark _))))))), ?_⟩
  exact body_spV (B := B_has_word) rfl (by decide) (spec_sRet (spec_keep true (spec_and (spec_call (spec_cons (spec_var 0) (spec_cons (spec_var 2) (spec_cons (spec_var 2) spec_nil)))) (spec_and (spec_isi "str" (spec_op pure_ix (spec_var 0) (spec_int 0))) (spec_op pure_eq (spec_op pure_ix (spec_var 0) (spec_int 0)) (spec_var 1)))))) h

theorem sc_strip_ends : FnScope ["row", "word", "sign", "start", "ends", "breaks", "end"] ["row", "word"] (defScope s_strip_ends) := ⟨rfl, rfl, rfl, by decide +kernel, rfl, by decide +kernel, by decide +kernel⟩
theorem ok_strip_ends {P : Program} {w : World} {K : PySem.W.Frag} {mg : Str → Option Value} {base : Heap} (T : Txt K mg) : OkD P w K mg base 2 "strip_ends" ["row", "word"] (spV K false 2 fn_strip_ends) := by
  refine okD_mk T.f_strip_ends sc_strip_ends spV_len (fun _ _ _ _ _ _ us hl => match us, hl with | [_, _], _ => rfl) (fun _ _ _ _ _ _ us hl => match us, hl with | [_, _], _ => rfl) fun cdv f A outer s H vs Q E hr h => ?_
  have hu := hr.room.units
  have hgd := hr.gd
  have sc := sc_strip_ends
  refine ⟨_, (pss_cons (ps_par3 (i := 3) (j := 4) (l := 5) rfl sc.nd rfl rfl rfl (by decide) (by decide) (by decide) rfl rfl rfl (pa_cons pe_int (pa_cons (pe_lst pa_nil) (pa_cons (pe_lst pa_nil) pa_nil))) rfl)
 (pss_cons (ps_for PassesOwn.never rfl (k_seq K rfl (pv 1)) (pg_name (i := 2) sc.nd rfl (by first | exact Or.inl rfl | exact Or.inr rfl))
  (pss_cons (ps_set (i := 6) sc.nd rfl (by first | exact Or.inl rfl | exact Or.inr rfl) (pe_callB (k_min K rfl rfl) (by rfl) T.b_min (by rfl) (pa_cons (pe_lst (pa_cons (pe_callB (k_len K rfl) (by rfl) T.b_len (by rfl) (pa_cons (pv 0) pa_nil)) (pa_cons (pe_op (k_add K rfl) (pv 3) pe_int) pa_nil))) pa_nil)))
 (pss_cons (ps_while PassesOwn.never (PW.pt (pw_and (pt_cmpR op_lt (pv 6) (pe_callB (k_len K rfl) (by rfl) T.b_len (by rfl) (pa_cons (pv 0) pa_nil)) (nomark _)) (pw_and1 (pt_not (pt_val (pe_ok (ok_does_break T) hr (by decide) (pa_cons (pv 0) (pa_cons (pe_op op_sub (pv 6) pe_int) (pa_cons (pv 2) pa_nil)))))))))
  (pss_one (ps_aug (i := 6) sc.nd rfl (by first | exact Or.inl rfl | exact Or.inr rfl) pe_int ip_add)))
 (pss_cons (ps_expr (pe_bm PySem.F.plainAttrs_list PySem.F.slot_list_append PySem.F.type_list_append mt_append (pv 4) (pa_cons (pv 6) pa_nil)))
 (pss_cons (ps_expr (pe_bm PySem.F.plainAttrs_list PySem.F.slot_list_append PySem.F.type_list_append mt_append (pv 5) (pa_cons (pe_op op_sub (pv 6) pe_int) pa_nil)))
 (pss_one (ps_set (i := 3) sc.nd rfl (by first | exact Or.inl rfl | exact Or.inr rfl) (pv 6))))))))
 (pss_one (ps_ret (pe_tup (pa_cons (k_tupleOf K rfl (by rfl) T.b_tuple (pv 4)) (pa_cons (k_tupleOf K rfl (by rfl) T.b_tuple (pv 5)) pa_nil))))))), ?_⟩
  exact body_spV (B := B_strip_ends) rfl (by decide) (spec_sSeq (spec_sPar3 (spec_cons (spec_int 0) (spec_cons (spec_lst spec_nil) (spec_cons (spec_lst spec_nil) spec_nil))))
 (spec_sSeq (spec_sWn [0, 1, 2, 3, 6] (spec_sFor (spec_iSeq (spec_keep true (spec_var 1))) (spec_gName 2)
  (spec_sW [2, 6] (spec_sSeq (spec_sWn [3] (spec_sAsg (spec_cb pure_minL (spec_cons (spec_lst (spec_cons (spec_cb pure_len (spec_cons (spec_var 0) spec_nil)) (spec_cons (spec_op pure_add (spec_var 3) (spec_int 1)) spec_nil))) spec_nil)) (spec_gName 6)))
 (spec_sSeq (spec_sWn [2] (spec_sWhile (spec_tAnd (spec_test (spec_op pure_lt (spec_var 6) (spec_cb pure_len (spec_cons (spec_var 0) spec_nil)))) (spec_tNot (spec_tB (spec_call (spec_cons (spec_var 0) (spec_cons (spec_op pure_sub (spec_var 6) (spec_int 1)) (spec_cons (spec_var 2) spec_nil)))))))
  (spec_sAug 6 pure_ipI (spec_int 1))))
 (spec_sSeq (spec_sDrop (spec_append 4 (spec_keep false (spec_var 6))))
 (spec_sSeq (spec_sDrop (spec_append 5 (spec_op pure_sub (spec_var 6) (spec_int 1))))
 (spec_sWn [6] (spec_sAsg (spec_keep true (spec_var 6)) (spec_gName 3))))))))))
 (spec_sRet (spec_tup (spec_cons (spec_tupleOf (spec_var 4)) (spec_cons (spec_tupleOf (spec_var 5)) spec_nil)))))) h

theorem sc__law_one : FnScope ["feed", "things"] ["feed", "things"] (defScope s__law_one) := ⟨rfl, rfl, rfl, by decide +kernel, rfl, by decide +kernel, by decide +kernel⟩
theorem ok__law_one {P : Program} {w : World} {K : PySem.W.Frag} {mg : Str → Option Value} {base : Heap} (T : Txt K mg) : OkD P w K mg base 2 "_law_one" ["feed", "things"] (spV K true 2 fn__law_one) := by
  refine okD_mk T.f__law_one sc__law_one spV_len (fun _ _ _ _ _ _ us hl => match us, hl with | [_, _], _ => rfl) (fun _ _ _ _ _ _ us hl => match us, hl with | [_, _], _ => rfl) fun cdv f A outer s H vs Q E hr h => ?_
  have hu := hr.room.units
  have hgd := hr.gd
  have sc := sc__law_one
  refine ⟨_, (pss_one (ps_ret (pe_ix (k_ix K rfl) (pv 1) (pe_ok (ok__law_draw T) hr (by decide) (pa_cons (pv 0) (pa_cons (pe_callB (k_len K rfl) (by rfl) T.b_len (by rfl) (pa_cons (pv 1) pa_nil)) pa_nil))) (fun _ _ => rfl)))), ?_⟩
  exact body_spV (B := B__law_one) rfl (by decide) (spec_sRet (spec_op pure_ix (spec_var 1) (spec_call (spec_cons (spec_var 0) (spec_cons (spec_cb pure_len (spec_cons (spec_var 1) spec_nil)) spec_nil))))) h

theorem sc__law_mixed : FnScope ["feed", "things", "turn", "pool", "got"] ["feed", "things"] (defScope s__law_mixed) := ⟨rfl, rfl, rfl, by decide +kernel, rfl, by decide +kernel, by decide +kernel⟩
theorem ok__law_mixed {P : Program} {w : World} {K : PySem.W.Frag} {mg : Str → Option Value} {base : Heap} (T : Txt K mg) : OkD P w K mg base 2 "_law_mixed" ["feed", "things"] (spV K true 2 fn__law_mixed) := by
  refine okD_mk T.f__law_mixed sc__law_mixed spV_len (fun _ _ _ _ _ _ us hl => match us, hl with | [_, _], _ => rfl) (fun _ _ _ _ _ _ us hl => match us, hl with | [_, _], _ => rfl) fun cdv f A outer s H vs Q E hr h => ?_
  have hu := hr.room.units
  have hgd := hr.gd
  have sc := sc__law_mixed
  refine ⟨_, (pss_cons (ps_par (i := 3) (j := 4) rfl sc.nd rfl rfl (by decide) rfl rfl (pa_cons (pe_callTy (k_list K rfl) (by rfl) T.b_list (by rfl) (pa_cons (pv 1) pa_nil)) (pa_cons (pe_lst pa_nil) pa_nil)) rfl)
 (pss_cons (ps_for PassesOwn.never rfl (pi_range1 (by rfl) T.b_range (pa_cons (pe_callB (k_len K rfl) (by rfl) T.b_len (by rfl) (pa_cons (pv 1) pa_nil)) pa_nil)) (pg_name (i := 2) sc.nd rfl (by first | exact Or.inl rfl | exact Or.inr rfl))
  (pss_one (ps_expr (pe_bm PySem.F.plainAttrs_list PySem.F.slot_list_append PySem.F.type_list_append mt_append (pv 4) (pa_cons (pe_bm PySem.F.plainAttrs_list PySem.F.slot_list_pop PySem.F.type_list_pop mt_popAt (pv 3) (pa_cons (pe_ok (ok__law_draw T) hr (by decide) (pa_cons (pv 0) (pa_cons (pe_callB (k_len K rfl) (by rfl) T.b_len (by rfl) (pa_cons (pv 3) pa_nil)) pa_nil))) pa_nil)) pa_nil)))))
 (pss_one (ps_ret (pv 4))))), ?_⟩
  exact body_spV (B := B__law_mixed) rfl (by decide) (spec_sSeq (spec_sPar (spec_cons (spec_cb pure_list (spec_cons (spec_var 1) spec_nil)) (spec_cons (spec_lst spec_nil) spec_nil)))
 (spec_sSeq (spec_sFor (spec_iRng1 (spec_cons (spec_cb pure_len (spec_cons (spec_var 1) spec_nil)) spec_nil)) (spec_gName 2)
  (spec_sDrop (spec_append 4 (spec_popAt 3 (spec_call (spec_cons (spec_var 0) (spec_cons (spec_cb pure_len (spec_cons (spec_var 3) spec_nil)) spec_nil)))))))
 (spec_sRet (spec_keep true (spec_var 4))))) h

theorem sc__law_heaped : FnScope ["feed", "many", "heaps", "one", "other", "turn", "number"] ["feed", "many"] (defScope s__law_heaped) := ⟨rfl, rfl, rfl, by decide +kernel, rfl, by decide +kernel, by decide +kernel⟩
theorem ok__law_heaped {P : Program} {w : World} {K : PySem.W.Frag} {mg : Str → Option Value} {base : Heap} (T : Txt K mg) : OkD P w K mg base 2 "_law_heaped" ["feed", "many"] (spV K true 2 fn__law_heaped) := by
  refine okD_mk T.f__law_heaped sc__law_heaped spV_len (fun _ _ _ _ _ _ us hl => match us, hl with | [_, _], _ => rfl) (fun _ _ _ _ _ _ us hl => match us, hl with | [_, _], _ => rfl) fun cdv f A outer s H vs Q E hr h => ?_
  have hu := hr.room.units
  have hgd := hr.gd
  have sc := sc__law_heaped
  refine ⟨_, (pss_cons (ps_setLc (i := 2) (own := [("turn", 5)]) (tt := tYes) rfl sc.nd rfl rfl (sw_true rfl rfl rfl (by decide +kernel)) (pi_range1 (by rfl) T.b_range (pa_cons (pv 1) pa_nil)) (blkOk_by (N := ["feed", "many", "heaps", "one", "other", "turn", "number"]) (sc := defScope s__law_heaped) (by decide +kernel)) (fun _ _ _ _ _ => (pg_name (i := 5) sc.nd rfl (by first | exact Or.inl rfl | exact Or.inr rfl))) (fun _ _ _ _ _ => pts_nil) (fun _ _ _ _ _ => (pe_lst (pa_cons pe_int pa_nil))))
 (pss_cons (ps_for PassesOwn.never rfl (pi_range1 (by rfl) T.b_range (pa_cons (pe_op op_sub (pv 1) pe_int) pa_nil)) (pg_name (i := 5) sc.nd rfl (by first | exact Or.inl rfl | exact Or.inr rfl))
  (pss_cons (ps_set (i := 3) sc.nd rfl (by first | exact Or.inl rfl | exact Or.inr rfl) (pe_bm PySem.F.plainAttrs_list PySem.F.slot_list_pop PySem.F.type_list_pop mt_popAt (pv 2) (pa_cons (pe_ok (ok__law_draw T) hr (by decide) (pa_cons (pv 0) (pa_cons (pe_callB (k_len K rfl) (by rfl) T.b_len (by rfl) (pa_cons (pv 2) pa_nil)) pa_nil))) pa_nil)))
 (pss_cons (ps_set (i := 4) sc.nd rfl (by first | exact Or.inl rfl | exact Or.inr rfl) (pe_bm PySem.F.plainAttrs_list PySem.F.slot_list_pop PySem.F.type_list_pop mt_popAt (pv 2) (pa_cons (pe_ok (ok__law_draw T) hr (by decide) (pa_cons (pv 0) (pa_cons (pe_callB (k_len K rfl) (by rfl) T.b_len (by rfl) (pa_cons (pv 2) pa_nil)) pa_nil))) pa_nil)))
 (pss_one (ps_if (pt_cmpR (k_eq K rfl hu) (pe_ok (ok__law_draw T) hr (by decide) (pa_cons (pv 0) (pa_cons pe_int pa_nil))) pe_int (nomark _))
  (pss_one (ps_expr (pe_bm PySem.F.plainAttrs_list PySem.F.slot_list_append PySem.F.type_list_append mt_append (pv 2) (pa_cons (pe_op (k_add K rfl) (pv 3) (pe_lc (own := [("number", 6)]) (tt := tYes) rfl sc.nd (k_seq K rfl (pv 4)) (blkOk_by (N := ["feed", "many", "heaps", "one", "other", "turn", "number"]) (sc := defScope s__law_heaped) (by decide +kernel)) (fun _ _ _ _ _ => (pg_name (i := 6) sc.nd rfl (by first | exact Or.inl rfl | exact Or.inr rfl))) (fun _ _ _ _ _ => pts_nil) (fun _ _ _ _ _ => (pe_op (k_add K rfl) (pv 6) (pe_callB (k_len K rfl) (by rfl) T.b_len (by rfl) (pa_cons (pv 3) pa_nil)))))) pa_nil))))
  (pss_one (ps_expr (pe_bm PySem.F.plainAttrs_list PySem.F.slot_list_append PySem.F.type_list_append mt_append (pv 2) (pa_cons (pe_op (k_add K rfl) (pe_lc (own := [("number", 6)]) (tt := tYes) rfl sc.nd (k_seq K rfl (pv 3)) (blkOk_by (N := ["feed", "many", "heaps", "one", "other", "turn", "number"]) (sc := defScope s__law_heaped) (by decide +kernel)) (fun _ _ _ _ _ => (pg_name (i := 6) sc.nd rfl (by first | exact Or.inl rfl | exact Or.inr rfl))) (fun _ _ _ _ _ => pts_nil) (fun _ _ _ _ _ => (pe_op (k_add K rfl) (pv 6) (pe_callB (k_len K rfl) (by rfl) T.b_len (by rfl) (pa_cons (pv 4) pa_nil))))) (pv 4)) pa_nil)))))))))
 (pss_one (ps_ret (pe_ifExp (pt_cmpR op_gt (pv 1) pe_int (nomark _)) (pe_ix (k_ix K rfl) (pv 2) pe_int (fun _ _ => rfl)) (pe_lst pa_nil)))))), ?_⟩
  exact body_spV (B := B__law_heaped) rfl (by decide) (spec_sSeq (spec_sAsg (spec_lc (spec_iRng1 (spec_cons (spec_var 1) spec_nil)) (spec_gName 5) (gk_name (by decide)) spec_tYes (spec_lst (spec_cons (spec_int 0) spec_nil))) (spec_gName 2))
 (spec_sSeq (spec_sFor (spec_iRng1 (spec_cons (spec_op pure_sub (spec_var 1) (spec_int 1)) spec_nil)) (spec_gName 5)
  (spec_sSeq (spec_sAsg (spec_popAt 2 (spec_call (spec_cons (spec_var 0) (spec_cons (spec_cb pure_len (spec_cons (spec_var 2) spec_nil)) spec_nil)))) (spec_gName 3))
 (spec_sSeq (spec_sAsg (spec_popAt 2 (spec_call (spec_cons (spec_var 0) (spec_cons (spec_cb pure_len (spec_cons (spec_var 2) spec_nil)) spec_nil)))) (spec_gName 4))
 (spec_sIf (spec_test (spec_op pure_eq (spec_call (spec_cons (spec_var 0) (spec_cons (spec_int 2) spec_nil))) (spec_int 0)))
  (spec_sDrop (spec_append 2 (spec_op pure_add (spec_var 3) (spec_lc (spec_iSeq (spec_keep true (spec_var 4))) (spec_gName 6) (gk_name (by decide)) spec_tYes (spec_op pure_add (spec_var 6) (spec_cb pure_len (spec_cons (spec_var 3) spec_nil)))))))
  (spec_sDrop (spec_append 2 (spec_op pure_add (spec_lc (spec_iSeq (spec_keep true (spec_var 3))) (spec_gName 6) (gk_name (by decide)) spec_tYes (spec_op pure_add (spec_var 6) (spec_cb pure_len (spec_cons (spec_var 4) spec_nil)))) (spec_var 4))))))))
 (spec_sRet (spec_keep true (spec_if (spec_test (spec_op pure_gt (spec_var 1) (spec_int 0))) (spec_ixM 2 (spec_int 0)) (spec_lst spec_nil)))))) h

theorem sc__law_late : FnScope ["row", "word", "sign", "found", "here", "end", "turn"] ["row", "word"] (defScope s__law_late) := ⟨rfl, rfl, rfl, by decide +kernel, rfl, by decide +kernel, by decide +kernel⟩
theorem ok__law_late {P : Program} {w : World} {K : PySem.W.Frag} {mg : Str → Option Value} {base : Heap} (T : Txt K mg) : OkD P w K mg base 2 "_law_late" ["row", "word"] (spV K false 2 fn__law_late) := by
  refine okD_mk T.f__law_late sc__law_late spV_len (fun _ _ _ _ _ _ us hl => match us, hl with | [_, _], _ => rfl) (fun _ _ _ _ _ _ us hl => match us, hl with | [_, _], _ => rfl) fun cdv f A outer s H vs Q E hr h => ?_
  have hu := hr.room.units
  have hgd := hr.gd
  have sc := sc__law_late
  refine ⟨_, (pss_cons (ps_par (i := 3) (j := 4) rfl sc.nd rfl rfl (by decide) rfl rfl (pa_cons (pe_lst pa_nil) (pa_cons pe_int pa_nil)) rfl)
 (pss_cons (ps_for PassesOwn.never rfl (k_seq K rfl (pv 1)) (pg_name (i := 2) sc.nd rfl (by first | exact Or.inl rfl | exact Or.inr rfl))
  (pss_cons (ps_set (i := 5) sc.nd rfl (by first | exact Or.inl rfl | exact Or.inr rfl) (pv 4))
 (pss_cons (ps_for PassesOwn.never rfl (pi_range1 (by rfl) T.b_range (pa_cons (pe_callB (k_len K rfl) (by rfl) T.b_len (by rfl) (pa_cons (pv 0) pa_nil)) pa_nil)) (pg_name (i := 6) sc.nd rfl (by first | exact Or.inl rfl | exact Or.inr rfl))
  (pss_one (ps_if (PW.pt (pw_and (pt_cmpR op_lt (pv 5) (pe_callB (k_len K rfl) (by rfl) T.b_len (by rfl) (pa_cons (pv 0) pa_nil)) (nomark _)) (pw_and1 (PW.pt (pw_or (pt_cmpR (k_eq K rfl hu) (pv 5) (pv 4) (nomark _)) (pw_or1 (pt_not (pt_val (pe_ok (ok__law_breaks T) hr (by decide) (pa_cons (pv 0) (pa_cons (pv 2) (pa_cons (pe_op op_sub (pv 5) pe_int) pa_nil))))))))))))
  (pss_one (ps_set (i := 5) sc.nd rfl (by first | exact Or.inl rfl | exact Or.inr rfl) (pe_op (k_add K rfl) (pv 5) pe_int)))
  pss_nil)))
 (pss_cons (ps_expr (pe_bm PySem.F.plainAttrs_list PySem.F.slot_list_append PySem.F.type_list_append mt_append (pv 3) (pa_cons (pv 5) pa_nil)))
 (pss_one (ps_set (i := 4) sc.nd rfl (by first | exact Or.inl rfl | exact Or.inr rfl) (pv 5)))))))
 (pss_one (ps_ret (k_tupleOf K rfl (by rfl) T.b_tuple (pv 3)))))), ?_⟩
  exact body_spV (B := B__law_late) rfl (by decide) (spec_sSeq (spec_sPar (spec_cons (spec_lst spec_nil) (spec_cons (spec_int 0) spec_nil)))
 (spec_sSeq (spec_sWn [0, 1, 2, 4, 5, 6] (spec_sFor (spec_iSeq (spec_keep true (spec_var 1))) (spec_gName 2)
  (spec_sW [2, 5, 6] (spec_sSeq (spec_sAsg (spec_keep false (spec_var 4)) (spec_gName 5))
 (spec_sSeq (spec_sWn [2, 4, 6] (spec_sFor (spec_iRng1 (spec_cons (spec_cb pure_len (spec_cons (spec_var 0) spec_nil)) spec_nil)) (spec_gName 6)
  (spec_sW [6] (spec_sIf (spec_tAnd (spec_test (spec_op pure_lt (spec_var 5) (spec_cb pure_len (spec_cons (spec_var 0) spec_nil)))) (spec_tOr (spec_test (spec_op pure_eq (spec_var 5) (spec_var 4))) (spec_tNot (spec_tB (spec_call (spec_cons (spec_var 0) (spec_cons (spec_var 2) (spec_cons (spec_op pure_sub (spec_var 5) (spec_int 1)) spec_nil))))))))
  (spec_sAsg (spec_op pure_add (spec_var 5) (spec_int 1)) (spec_gName 5))
  spec_sNext))))
 (spec_sSeq (spec_sDrop (spec_append 3 (spec_keep false (spec_var 5))))
 (spec_sWn [5] (spec_sAsg (spec_keep true (spec_var 5)) (spec_gName 4)))))))))
 (spec_sRet (spec_tupleOf (spec_var 3))))) h

theorem sc__law_shows : FnScope ["row", "word", "thing", "some", "many", "begin", "end", "sign", "one", "place"] ["row", "word", "thing"] (defScope s__law_shows) := ⟨rfl, rfl, rfl, by decide +kernel, rfl, by decide +kernel, by decide +kernel⟩
theorem ok__law_shows {P : Program} {w : World} {K : PySem.W.Frag} {mg : Str → Option Value} {base : Heap} (T : Txt K mg) : OkD P w K mg base 2 "_law_shows" ["row", "word", "thing"] (spV K false 3 fn__law_shows) := by
  refine okD_mk T.f__law_shows sc__law_shows spV_len (fun _ _ _ _ _ _ us hl => match us, hl with | [_, _, _], _ => rfl) (fun _ _ _ _ _ _ us hl => match us, hl with | [_, _, _], _ => rfl) fun cdv f A outer s H vs Q E hr h => ?_
  have hu := hr.room.units
  have hgd := hr.gd
  have sc := sc__law_shows
  refine ⟨_, (pss_cons (ps_if (PW.pt (pw_or (pt_not (pt_val (pe_callB (k_isi K rfl) (by rfl) T.b_isinstance (by rfl) (pa_cons (pv 2) (pa_cons (pe_bltn (v := .ty "tuple") (by rfl) T.b_tuple (by rfl) rfl) pa_nil))))) (pw_or (pt_cmpR (k_ne K rfl hu) (pe_callB (k_len K rfl) (by rfl) T.b_len (by rfl) (pa_cons (pv 2) pa_nil)) pe_int (nomark _)) (pw_or (pt_not (pt_val (pe_callB (k_isi K rfl) (by rfl) T.b_isinstance (by rfl) (pa_cons (pe_ix (k_ix K rfl) (pv 2) pe_int (fun _ _ => rfl)) (pa_cons (pe_bltn (v := .ty "str") (by rfl) T.b_str (by rfl) rfl) pa_nil))))) (pw_or (pt_not (pt_val (pe_callB (k_isi K rfl) (by rfl) T.b_isinstance (by rfl) (pa_cons (pe_ix (k_ix K rfl) (pv 2) pe_int (fun _ _ => rfl)) (pa_cons (pe_bltn (v := .ty "tuple") (by rfl) T.b_tuple (by rfl) rfl) pa_nil))))) (pw_or1 (pt_cmpR (k_ne K rfl hu) (pe_callB (k_len K rfl) (by rfl) T.b_len (by rfl) (pa_cons (pe_ix (k_ix K rfl) (pv 2) pe_int (fun _ _ => rfl)) pa_nil)) (pe_callB (k_len K rfl) (by rfl) T.b_len (by rfl) (pa_cons (pv 1) pa_nil)) (nomark _))))))))
  (pss_one (ps_ret pe_bl))
  pss_nil)
 (pss_cons (ps_asg (pe_tup (pa_cons (pe_ix (k_ix K rfl) (pv 2) pe_int (fun _ _ => rfl)) (pa_cons (pe_callB (k_len K rfl) (by rfl) T.b_len (by rfl) (pa_cons (pv 0) pa_nil)) pa_nil))) (k_un K (n := 2) rfl rfl (pgs_cons (pg_name (i := 3) sc.nd rfl (by first | exact Or.inl rfl | exact Or.inr rfl)) (pgs_cons (pg_name (i := 4) sc.nd rfl (by first | exact Or.inl rfl | exact Or.inr rfl)) pgs_nil))))
 (pss_cons (ps_if (pt_cmpR (k_ne K rfl hu) (pe_lc (own := [("one", 8)]) rfl sc.nd (k_seq K rfl (pv 3)) (blkOk_by (N := ["row", "word", "thing", "some", "many", "begin", "end", "sign", "one", "place"]) (sc := defScope s__law_shows) (by decide +kernel)) (fun _ _ _ _ _ => (pg_name (i := 8) sc.nd rfl (by first | exact Or.inl rfl | exact Or.inr rfl))) (fun _ _ _ _ _ => (pts_one (PW.pt (pw_or (pt_val (pe_callB (k_isi K rfl) (by rfl) T.b_isinstance (by rfl) (pa_cons (pv 8) (pa_cons (pe_bltn (v := .ty "bool") (by rfl) T.b_bool (by rfl) rfl) pa_nil)))) (pw_or (pt_not (pt_val (pe_callB (k_isi K rfl) (by rfl) T.b_isinstance (by rfl) (pa_cons (pv 8) (pa_cons (pe_bltn (v := .ty "int") (by rfl) T.b_int (by rfl) rfl) pa_nil))))) (pw_or1 (pt_not (pt_chain op_le op_le pe_int (pv 8) (pv 4))))))))) (fun _ _ _ _ _ => (pv 8))) (pe_lst pa_nil) (nomark _))
  (pss_one (ps_ret pe_bl))
  pss_nil)
 (pss_cons (ps_if (pt_cmpR (k_eq K rfl hu) (pe_ix (k_ix K rfl) (pv 2) pe_int (fun _ _ => rfl)) pe_str (nomark _))
  (pss_cons (ps_if (PW.pt (pw_or (pt_cmpR (k_ne K rfl hu) (pe_ix (k_ix K rfl) (pv 3) (pe_un un_neg pe_int) (fun _ _ => rfl)) (pv 4) (nomark _)) (pw_or1 (pt_cmpR (k_ne K rfl hu) (pe_callTy (k_list K rfl) (by rfl) T.b_list (by rfl) (pa_cons (pv 3) pa_nil)) (pe_callB (k_sorted rfl hu) (by rfl) T.b_sorted (by rfl) (pa_cons (pv 3) pa_nil)) (nomark _)))))
  (pss_one (ps_ret pe_bl))
  pss_nil)
 (pss_cons (ps_for PassesOwn.never rfl (k_zipS3 K rfl (by rfl) T.b_zip (pa_cons (pv 1) (pa_cons (pe_op (k_add K rfl) (pe_tup (pa_cons pe_int pa_nil)) (pe_slice (k_sl K rfl) (pv 3) po_none (po_some (pe_un un_neg pe_int)))) (pa_cons (pv 3) pa_nil)))) (k_un K (n := 3) rfl rfl (pgs_cons (pg_name (i := 7) sc.nd rfl (by first | exact Or.inl rfl | exact Or.inr rfl)) (pgs_cons (pg_name (i := 5) sc.nd rfl (by first | exact Or.inl rfl | exact Or.inr rfl)) (pgs_cons (pg_name (i := 6) sc.nd rfl (by first | exact Or.inl rfl | exact Or.inr rfl)) pgs_nil))))
  (pss_one (ps_if (pt_cmpR (k_ne K rfl hu) (pe_lc (own := [("place", 9)]) rfl sc.nd (pi_range2 (by rfl) T.b_range (pa_cons (pv 5) (pa_cons (pe_op op_sub (pv 6) pe_int) pa_nil))) (blkOk_by (N := ["row", "word", "thing", "some", "many", "begin", "end", "sign", "one", "place"]) (sc := defScope s__law_shows) (by decide +kernel)) (fun _ _ _ _ _ => (pg_name (i := 9) sc.nd rfl (by first | exact Or.inl rfl | exact Or.inr rfl))) (fun _ _ _ _ _ => (pts_one (pt_val (pe_ok (ok__law_breaks T) hr (by decide) (pa_cons (pv 0) (pa_cons (pv 7) (pa_cons (pv 9) pa_nil))))))) (fun _ _ _ _ _ => (pv 9))) (pe_lst pa_nil) (nomark _))
  (pss_one (ps_ret pe_bl))
  pss_nil)))
 (pss_one (ps_ret pe_bl))))
  pss_nil)
 (pss_cons (ps_if (PW.pt (pw_or (pt_cmpR (k_ne K rfl hu) (pe_ix (k_ix K rfl) (pv 2) pe_int (fun _ _ => rfl)) pe_str (nomark _)) (pw_or (pt_cmpR (k_ne K rfl hu) (pe_callTy (k_list K rfl) (by rfl) T.b_list (by rfl) (pa_cons (pv 3) pa_nil)) (k_sortSet K rfl (by rfl) T.b_sorted (by rfl) T.b_set (pv 3) rfl) (nomark _)) (pw_or1 (pt_cmpR op_gt (pe_ix (k_ix K rfl) (pv 3) (pe_un un_neg pe_int) (fun _ _ => rfl)) (pe_op op_sub (pv 4) pe_int) (nomark _))))))
  (pss_one (ps_ret pe_bl))
  pss_nil)
 (pss_one (ps_ret (pe_cmpR (k_eq K rfl hu) (pe_lc (own := [("sign", 7), ("place", 9)]) rfl sc.nd (k_zipS K rfl (by rfl) T.b_zip (pa_cons (pv 1) (pa_cons (pv 3) pa_nil))) (blkOk_by (N := ["row", "word", "thing", "some", "many", "begin", "end", "sign", "one", "place"]) (sc := defScope s__law_shows) (by decide +kernel)) (fun _ _ _ _ _ => (k_un K (n := 2) rfl rfl (pgs_cons (pg_name (i := 7) sc.nd rfl (by first | exact Or.inl rfl | exact Or.inr rfl)) (pgs_cons (pg_name (i := 9) sc.nd rfl (by first | exact Or.inl rfl | exact Or.inr rfl)) pgs_nil)))) (fun _ _ _ _ _ => (pts_one (pt_not (pt_val (pe_ok (ok__law_breaks T) hr (by decide) (pa_cons (pv 0) (pa_cons (pv 7) (pa_cons (pv 9) pa_nil)))))))) (fun _ _ _ _ _ => pe_int)) (pe_lst pa_nil) (nomark _))))))))), ?_⟩
  exact body_spV (B := B__law_shows) rfl (by decide) (spec_sSeq (spec_sIf (spec_tOr (spec_tNot (spec_tB (spec_isi "tuple" (spec_var 2)))) (spec_tOr (spec_test (spec_op pure_ne (spec_cb pure_len (spec_cons (spec_var 2) spec_nil)) (spec_int 2))) (spec_tOr (spec_tNot (spec_tB (spec_isi "str" (spec_op pure_ix (spec_var 2) (spec_int 0))))) (spec_tOr (spec_tNot (spec_tB (spec_isi "tuple" (spec_op pure_ix (spec_var 2) (spec_int 1))))) (spec_test (spec_op pure_ne (spec_cb pure_len (spec_cons (spec_op pure_ix (spec_var 2) (spec_int 1)) spec_nil)) (spec_cb pure_len (spec_cons (spec_var 1) spec_nil))))))))
  (spec_sRet (spec_bool false))
  spec_sNext)
 (spec_sSeq (spec_sAsg (spec_tup (spec_cons (spec_op pure_ix (spec_var 2) (spec_int 1)) (spec_cons (spec_cb pure_len (spec_cons (spec_var 0) spec_nil)) spec_nil))) (spec_gUn (spec_gCons (spec_gName 3) (spec_gCons (spec_gName 4) spec_gNil))))
 (spec_sSeq (spec_sWn [8] (spec_sIf (spec_test (spec_op pure_ne (spec_lc (spec_iSeq (spec_keep false (spec_var 3))) (spec_gName 8) (gk_name (by decide)) (spec_tOr (spec_tB (spec_isi "bool" (spec_var 8))) (spec_tOr (spec_tNot (spec_tB (spec_isi "int" (spec_var 8)))) (spec_tNot (spec_test (spec_chain pureB_le pure_le (spec_int 0) (spec_var 8) (spec_var 4)))))) (spec_keep false (spec_var 8))) (spec_lst spec_nil)))
  (spec_sRet (spec_bool false))
  spec_sNext))
 (spec_sSeq (spec_sWn [5, 6] (spec_sIf (spec_test (spec_op pure_eq (spec_op pure_ix (spec_var 2) (spec_int 0)) (spec_str "ends")))
  (spec_sSeq (spec_sWn [4] (spec_sIf (spec_tOr (spec_test (spec_op pure_ne (spec_op pure_ix (spec_var 3) (spec_un pure_neg (spec_int 1))) (spec_var 4))) (spec_test (spec_op pure_ne (spec_cb pure_list (spec_cons (spec_var 3) spec_nil)) (spec_cb pure_sorted (spec_cons (spec_var 3) spec_nil)))))
  (spec_sRet (spec_bool false))
  spec_sNext))
 (spec_sSeq (spec_sWn [0, 1, 3, 5, 6, 7, 9] (spec_sFor (spec_iZipS3 (spec_cons (spec_keep true (spec_var 1)) (spec_cons (spec_op pure_add (spec_tup (spec_cons (spec_int 0) spec_nil)) (spec_sl (spec_var 3) spec_bNo (spec_bE (spec_un pure_neg (spec_int 1))))) (spec_cons (spec_keep false (spec_var 3)) spec_nil)))) (spec_gUn (spec_gCons (spec_gName 7) (spec_gCons (spec_gName 5) (spec_gCons (spec_gName 6) spec_gNil))))
  (spec_sW [5, 6, 7] (spec_sWn [5, 6, 7] (spec_sIf (spec_test (spec_op pure_ne (spec_lc (spec_iRng2 (spec_cons (spec_var 5) (spec_cons (spec_op pure_sub (spec_var 6) (spec_int 1)) spec_nil))) (spec_gName 9) (gk_name (by decide)) (spec_tB (spec_call (spec_cons (spec_var 0) (spec_cons (spec_var 7) (spec_cons (spec_var 9) spec_nil))))) (spec_keep false (spec_var 9))) (spec_lst spec_nil)))
  (spec_sRet (spec_bool false))
  spec_sNext)))))
 (spec_sRet (spec_bool true))))
  spec_sNext))
 (spec_sSeq (spec_sWn [2, 4] (spec_sIf (spec_tOr (spec_test (spec_op pure_ne (spec_op pure_ix (spec_var 2) (spec_int 0)) (spec_str "breaks"))) (spec_tOr (spec_test (spec_op pure_ne (spec_cb pure_list (spec_cons (spec_var 3) spec_nil)) (spec_sortSet (spec_var 3)))) (spec_test (spec_op pure_gt (spec_op pure_ix (spec_var 3) (spec_un pure_neg (spec_int 1))) (spec_op pure_sub (spec_var 4) (spec_int 2))))))
  (spec_sRet (spec_bool false))
  spec_sNext))
 (spec_sRet (spec_op pure_eq (spec_lc (spec_iZipS (spec_cons (spec_keep true (spec_var 1)) (spec_cons (spec_keep true (spec_var 3)) spec_nil))) (spec_gUn (spec_gCons (spec_gName 7) (spec_gCons (spec_gName 9) spec_gNil))) (gk_un (gk_cons (gk_name (by decide)) (gk_cons (gk_name (by decide)) gk_nil))) (spec_tNot (spec_tB (spec_call (spec_cons (spec_var 0) (spec_cons (spec_var 7) (spec_cons (spec_var 9) spec_nil)))))) (spec_int 1)) (spec_lst spec_nil)))))))) h

theorem sc_is_row_form : FnScope ["thing", "one"] ["thing"] (defScope s_is_row_form) := ⟨rfl, rfl, rfl, by decide +kernel, rfl, by decide +kernel, by decide +kernel⟩
theorem ok_is_row_form {P : Program} {w : World} {K : PySem.W.Frag} {mg : Str → Option Value} {base : Heap} (T : Txt K mg) : OkD P w K mg base 3 "is_row_form" ["thing"] (spV K false 1 fn_is_row_form) := by
  refine okD_mk T.f_is_row_form sc_is_row_form spV_len (fun _ _ _ _ _ _ us hl => match us, hl with | [_], _ => rfl) (fun _ _ _ _ _ _ us hl => match us, hl with | [_], _ => rfl) fun cdv f A outer s H vs Q E hr h => ?_
  have hu := hr.room.units
  have hgd := hr.gd
  have sc := sc_is_row_form
  refine ⟨_, (pss_cons (ps_if (PW.pt (pw_or (pt_not (pt_val (pe_ok (ok_is_tuple_of T) hr (by decide) (pa_cons (pv 0) (pa_cons pe_int (pa_cons (pe_cn T.c_MOST_NUMBERS) pa_nil)))))) (pw_or1 (pt_not (pt_val (pe_callB (k_all K rfl rfl) (by rfl) T.b_all (by rfl) (pa_cons (pe_lc (own := [("one", 1)]) (tt := tYes) rfl sc.nd (k_seq K rfl (pv 0)) (blkOk_by (N := ["thing", "one"]) (sc := defScope s_is_row_form) (by decide +kernel)) (fun _ _ _ _ _ => (pg_name (i := 1) sc.nd rfl (by first | exact Or.inl rfl | exact Or.inr rfl))) (fun _ _ _ _ _ => pts_nil) (fun _ _ _ _ _ => (pe_ok (ok_is_within T) hr (by decide) (pa_cons (pv 1) (pa_cons pe_int (pa_cons (pe_op op_sub (pe_callB (k_len K rfl) (by rfl) T.b_len (by rfl) (pa_cons (pv 0) pa_nil)) pe_int) pa_nil)))))) pa_nil)))))))
  (pss_one (ps_ret pe_bl))
  pss_nil)
 (pss_one (ps_ret (pe_cmpR (k_eq K rfl hu) (k_lenSet K rfl (by rfl) T.b_len (by rfl) T.b_set (pv 0) rfl) (pe_callB (k_len K rfl) (by rfl) T.b_len (by rfl) (pa_cons (pv 0) pa_nil)) (nomark _))))), ?_⟩
  exact body_spV (B := B_is_row_form) rfl (by decide) (spec_sSeq (spec_sIf (spec_tOr (spec_tNot (spec_tB (spec_call (spec_cons (spec_var 0) (spec_cons (spec_int 0) (spec_cons (spec_int 9) spec_nil)))))) (spec_tNot (spec_tB (spec_cb pure_all (spec_cons (spec_lc (spec_iSeq (spec_keep false (spec_var 0))) (spec_gName 1) (gk_name (by decide)) spec_tYes (spec_call (spec_cons (spec_var 1) (spec_cons (spec_int 0) (spec_cons (spec_op pure_sub (spec_cb pure_len (spec_cons (spec_var 0) spec_nil)) (spec_int 1)) spec_nil))))) spec_nil)))))
  (spec_sRet (spec_bool false))
  spec_sNext)
 (spec_sRet (spec_op pure_eq (spec_lenSet (spec_var 0)) (spec_cb pure_len (spec_cons (spec_var 0) spec_nil))))) h

theorem sc_are_ends : FnScope ["row", "word", "thing", "start", "sign", "end", "place", "one", "other"] ["row", "word", "thing"] (defScope s_are_ends) := ⟨rfl, rfl, rfl, by decide +kernel, rfl, by decide +kernel, by decide +kernel⟩
theorem ok_are_ends {P : Program} {w : World} {K : PySem.W.Frag} {mg : Str → Option Value} {base : Heap} (T : Txt K mg) : OkD P w K mg base 3 "are_ends" ["row", "word", "thing"] (spV K false 3 fn_are_ends) := by
  refine okD_mk T.f_are_ends sc_are_ends spV_len (fun _ _ _ _ _ _ us hl => match us, hl with | [_, _, _], _ => rfl) (fun _ _ _ _ _ _ us hl => match us, hl with | [_, _, _], _ => rfl) fun cdv f A outer s H vs Q E hr h => ?_
  have hu := hr.room.units
  have hgd := hr.gd
  have sc := sc_are_ends
  refine ⟨_, (pss_cons (ps_if (PW.pt (pw_or (pt_not (pt_val (pe_ok (ok_is_tuple_of T) hr (by decide) (pa_cons (pv 2) (pa_cons (pe_callB (k_len K rfl) (by rfl) T.b_len (by rfl) (pa_cons (pv 1) pa_nil)) (pa_cons (pe_callB (k_len K rfl) (by rfl) T.b_len (by rfl) (pa_cons (pv 1) pa_nil)) pa_nil)))))) (pw_or1 (pt_not (pt_val (pe_callB (k_all K rfl rfl) (by rfl) T.b_all (by rfl) (pa_cons (pe_lc (own := [("end", 5)]) (tt := tYes) rfl sc.nd (k_seq K rfl (pv 2)) (blkOk_by (N := ["row", "word", "thing", "start", "sign", "end", "place", "one", "other"]) (sc := defScope s_are_ends) (by decide +kernel)) (fun _ _ _ _ _ => (pg_name (i := 5) sc.nd rfl (by first | exact Or.inl rfl | exact Or.inr rfl))) (fun _ _ _ _ _ => pts_nil) (fun _ _ _ _ _ => (pe_ok (ok_is_within T) hr (by decide) (pa_cons (pv 5) (pa_cons pe_int (pa_cons (pe_callB (k_len K rfl) (by rfl) T.b_len (by rfl) (pa_cons (pv 0) pa_nil)) pa_nil)))))) pa_nil)))))))
  (pss_one (ps_ret pe_bl))
  pss_nil)
 (pss_cons (ps_if (PW.pt (pw_or (pt_cmpR (k_ne K rfl hu) (pe_ix (k_ix K rfl) (pv 2) (pe_un un_neg pe_int) (fun _ _ => rfl)) (pe_callB (k_len K rfl) (by rfl) T.b_len (by rfl) (pa_cons (pv 0) pa_nil)) (nomark _)) (pw_or1 (pt_val (pe_callB (k_any K rfl rfl) (by rfl) T.b_any (by rfl) (pa_cons (pe_lc (own := [("one", 7), ("other", 8)]) (tt := tYes) rfl sc.nd (k_zipS K rfl (by rfl) T.b_zip (pa_cons (pv 2) (pa_cons (pe_slice (k_sl K rfl) (pv 2) (po_some pe_int) po_none) pa_nil))) (blkOk_by (N := ["row", "word", "thing", "start", "sign", "end", "place", "one", "other"]) (sc := defScope s_are_ends) (by decide +kernel)) (fun _ _ _ _ _ => (k_un K (n := 2) rfl rfl (pgs_cons (pg_name (i := 7) sc.nd rfl (by first | exact Or.inl rfl | exact Or.inr rfl)) (pgs_cons (pg_name (i := 8) sc.nd rfl (by first | exact Or.inl rfl | exact Or.inr rfl)) pgs_nil)))) (fun _ _ _ _ _ => pts_nil) (fun _ _ _ _ _ => (pe_cmpR op_gt (pv 7) (pv 8) (nomark _)))) pa_nil))))))
  (pss_one (ps_ret pe_bl))
  pss_nil)
 (pss_cons (ps_set (i := 3) sc.nd rfl (by first | exact Or.inl rfl | exact Or.inr rfl) pe_int)
 (pss_cons (ps_for PassesOwn.never rfl (k_zipS K rfl (by rfl) T.b_zip (pa_cons (pv 2) (pa_cons (pv 1) pa_nil))) (k_un K (n := 2) rfl rfl (pgs_cons (pg_name (i := 5) sc.nd rfl (by first | exact Or.inl rfl | exact Or.inr rfl)) (pgs_cons (pg_name (i := 4) sc.nd rfl (by first | exact Or.inl rfl | exact Or.inr rfl)) pgs_nil)))
  (pss_cons (ps_if (pt_val (pe_callB (k_any K rfl rfl) (by rfl) T.b_any (by rfl) (pa_cons (pe_lc (own := [("place", 6)]) (tt := tYes) rfl sc.nd (pi_range2 (by rfl) T.b_range (pa_cons (pv 3) (pa_cons (pe_op op_sub (pv 5) pe_int) pa_nil))) (blkOk_by (N := ["row", "word", "thing", "start", "sign", "end", "place", "one", "other"]) (sc := defScope s_are_ends) (by decide +kernel)) (fun _ _ _ _ _ => (pg_name (i := 6) sc.nd rfl (by first | exact Or.inl rfl | exact Or.inr rfl))) (fun _ _ _ _ _ => pts_nil) (fun _ _ _ _ _ => (pe_ok (ok_does_break T) hr (by decide) (pa_cons (pv 0) (pa_cons (pv 6) (pa_cons (pv 4) pa_nil)))))) pa_nil)))
  (pss_one (ps_ret pe_bl))
  pss_nil)
 (pss_one (ps_set (i := 3) sc.nd rfl (by first | exact Or.inl rfl | exact Or.inr rfl) (pv 5)))))
 (pss_one (ps_ret pe_bl)))))), ?_⟩
  exact body_spV (B := B_are_ends) rfl (by decide) (spec_sSeq (spec_sWn [5] (spec_sIf (spec_tOr (spec_tNot (spec_tB (spec_call (spec_cons (spec_var 2) (spec_cons (spec_cb pure_len (spec_cons (spec_var 1) spec_nil)) (spec_cons (spec_cb pure_len (spec_cons (spec_var 1) spec_nil)) spec_nil)))))) (spec_tNot (spec_tB (spec_cb pure_all (spec_cons (spec_lc (spec_iSeq (spec_keep false (spec_var 2))) (spec_gName 5) (gk_name (by decide)) spec_tYes (spec_call (spec_cons (spec_var 5) (spec_cons (spec_int 0) (spec_cons (spec_cb pure_len (spec_cons (spec_var 0) spec_nil)) spec_nil))))) spec_nil)))))
  (spec_sRet (spec_bool false))
  spec_sNext))
 (spec_sSeq (spec_sWn [7, 8] (spec_sIf (spec_tOr (spec_test (spec_op pure_ne (spec_op pure_ix (spec_var 2) (spec_un pure_neg (spec_int 1))) (spec_cb pure_len (spec_cons (spec_var 0) spec_nil)))) (spec_tB (spec_cb pure_any (spec_cons (spec_lc (spec_iZipS (spec_cons (spec_keep false (spec_var 2)) (spec_cons (spec_sl (spec_var 2) (spec_bE (spec_int 1)) spec_bNo) spec_nil))) (spec_gUn (spec_gCons (spec_gName 7) (spec_gCons (spec_gName 8) spec_gNil))) (gk_un (gk_cons (gk_name (by decide)) (gk_cons (gk_name (by decide)) gk_nil))) spec_tYes (spec_op pure_gt (spec_var 7) (spec_var 8))) spec_nil))))
  (spec_sRet (spec_bool false))
  spec_sNext))
 (spec_sSeq (spec_sAsg (spec_int 0) (spec_gName 3))
 (spec_sSeq (spec_sWn [0, 1, 2, 3, 4, 5, 6] (spec_sFor (spec_iZipS (spec_cons (spec_keep true (spec_var 2)) (spec_cons (spec_keep true (spec_var 1)) spec_nil))) (spec_gUn (spec_gCons (spec_gName 5) (spec_gCons (spec_gName 4) spec_gNil)))
  (spec_sW [4, 5] (spec_sSeq (spec_sWn [3, 4] (spec_sIf (spec_tB (spec_cb pure_any (spec_cons (spec_lc (spec_iRng2 (spec_cons (spec_var 3) (spec_cons (spec_op pure_sub (spec_var 5) (spec_int 1)) spec_nil))) (spec_gName 6) (gk_name (by decide)) spec_tYes (spec_call (spec_cons (spec_var 0) (spec_cons (spec_var 6) (spec_cons (spec_var 4) spec_nil))))) spec_nil)))
  (spec_sRet (spec_bool false))
  spec_sNext))
 (spec_sWn [5] (spec_sAsg (spec_keep true (spec_var 5)) (spec_gName 3)))))))
 (spec_sRet (spec_bool true)))))) h

theorem sc__law_row : FnScope ["feed", "many", "turn", "row", "way", "place", "one", "other", "low", "cut", "number"] ["feed", "many"] (defScope s__law_row) := ⟨rfl, rfl, rfl, by decide +kernel, rfl, by decide +kernel, by decide +kernel⟩
theorem ok__law_row {P : Program} {w : World} {K : PySem.W.Frag} {mg : Str → Option Value} {base : Heap} (T : Txt K mg) : OkD P w K mg base 3 "_law_row" ["feed", "many"] (spV K true 2 fn__law_row) := by
  refine okD_mk T.f__law_row sc__law_row spV_len (fun _ _ _ _ _ _ us hl => match us, hl with | [_, _], _ => rfl) (fun _ _ _ _ _ _ us hl => match us, hl with | [_, _], _ => rfl) fun cdv f A outer s H vs Q E hr h => ?_
  have hu := hr.room.units
  have hgd := hr.gd
  have sc := sc__law_row
  refine ⟨_, (pss_cons (ps_par (i := 4) (j := 3) rfl sc.nd rfl rfl (by decide) rfl rfl (pa_cons (pe_ok (ok__law_draw T) hr (by decide) (pa_cons (pv 0) (pa_cons pe_int pa_nil))) (pa_cons (pe_listRg rfl (by rfl) T.b_list (prg_1 (by rfl) T.b_range (pv 1))) pa_nil)) rfl)
 (pss_cons (ps_if (pt_cmpR op_lt (pv 4) pe_int (nomark _))
  (pss_one (ps_set (i := 3) sc.nd rfl (by first | exact Or.inl rfl | exact Or.inr rfl) (pe_ok (ok__law_mixed T) hr (by decide) (pa_cons (pv 0) (pa_cons (pv 3) pa_nil)))))
  (pss_one (ps_if (pt_cmpR (k_eq K rfl hu) (pv 4) pe_int (nomark _))
  (pss_one (ps_set (i := 3) sc.nd rfl (by first | exact Or.inl rfl | exact Or.inr rfl) (pe_ok (ok__law_heaped T) hr (by decide) (pa_cons (pv 0) (pa_cons (pv 1) pa_nil)))))
  (pss_one (ps_if (pt_cmpR (k_eq K rfl hu) (pv 4) pe_int (nomark _))
  (pss_cons (ps_set (i := 8) sc.nd rfl (by first | exact Or.inl rfl | exact Or.inr rfl) (pe_lc (own := [("number", 10)]) rfl sc.nd (k_seq K rfl (pv 3)) (blkOk_by (N := ["feed", "many", "turn", "row", "way", "place", "one", "other", "low", "cut", "number"]) (sc := defScope s__law_row) (by decide +kernel)) (fun _ _ _ _ _ => (pg_name (i := 10) sc.nd rfl (by first | exact Or.inl rfl | exact Or.inr rfl))) (fun _ _ _ _ _ => (pts_one (pt_cmpR (k_eq K rfl hu) (pe_ok (ok__law_draw T) hr (by decide) (pa_cons (pv 0) (pa_cons pe_int pa_nil))) pe_int (nomark _)))) (fun _ _ _ _ _ => (pv 10))))
 (pss_one (ps_set (i := 3) sc.nd rfl (by first | exact Or.inl rfl | exact Or.inr rfl) (pe_op (k_add K rfl) (pv 8) (pe_lc (own := [("number", 10)]) rfl sc.nd (k_seq K rfl (pv 3)) (blkOk_by (N := ["feed", "many", "turn", "row", "way", "place", "one", "other", "low", "cut", "number"]) (sc := defScope s__law_row) (by decide +kernel)) (fun _ _ _ _ _ => (pg_name (i := 10) sc.nd rfl (by first | exact Or.inl rfl | exact Or.inr rfl))) (fun _ _ _ _ _ => (pts_one (pt_cmpR (k_notIn K rfl hu) (pv 10) (pv 8) (by rfl)))) (fun _ _ _ _ _ => (pv 10)))))))
  (pss_one (ps_if (pt_cmpR (k_eq K rfl hu) (pv 4) pe_int (nomark _))
  (pss_cons (ps_set (i := 9) sc.nd rfl (by first | exact Or.inl rfl | exact Or.inr rfl) (pe_ok (ok__law_draw T) hr (by decide) (pa_cons (pv 0) (pa_cons (pe_op (k_add K rfl) (pv 1) pe_int) pa_nil))))
 (pss_one (ps_set (i := 3) sc.nd rfl (by first | exact Or.inl rfl | exact Or.inr rfl) (pe_op (k_add K rfl) (pe_slice (k_sl K rfl) (pv 3) (po_some (pv 9)) po_none) (pe_slice (k_sl K rfl) (pv 3) po_none (po_some (pv 9)))))))
  (pss_one (ps_if (pt_cmpR (k_eq K rfl hu) (pv 4) pe_int (nomark _))
  (pss_cons (ps_set (i := 9) sc.nd rfl (by first | exact Or.inl rfl | exact Or.inr rfl) (pe_ok (ok__law_draw T) hr (by decide) (pa_cons (pv 0) (pa_cons (pe_op (k_add K rfl) (pv 1) pe_int) pa_nil))))
 (pss_one (ps_set (i := 3) sc.nd rfl (by first | exact Or.inl rfl | exact Or.inr rfl) (pe_op (k_add K rfl) (k_rev K rfl (pe_slice (k_sl K rfl) (pv 3) po_none (po_some (pv 9)))) (pe_slice (k_sl K rfl) (pv 3) (po_some (pv 9)) po_none)))))
  pss_nil)))))))))
 (pss_cons (ps_for PassesOwn.never rfl (pi_range1 (by rfl) T.b_range (pa_cons (pe_ifExp (PW.pt (pw_and (pt_cmpR op_gt (pv 4) pe_int (nomark _)) (pw_and1 (pt_cmpR op_gt (pv 1) pe_int (nomark _))))) (pe_ok (ok__law_one T) hr (by decide) (pa_cons (pv 0) (pa_cons (pe_lst (pa_cons pe_int (pa_cons pe_int (pa_cons pe_int (pa_cons pe_int (pa_cons pe_int pa_nil)))))) pa_nil))) pe_int) pa_nil)) (pg_name (i := 2) sc.nd rfl (by first | exact Or.inl rfl | exact Or.inr rfl))
  (pss_cons (ps_set (i := 5) sc.nd rfl (by first | exact Or.inl rfl | exact Or.inr rfl) (pe_ok (ok__law_draw T) hr (by decide) (pa_cons (pv 0) (pa_cons (pe_op op_sub (pv 1) pe_int) pa_nil))))
 (pss_one (ps_asg (pe_tup (pa_cons (pe_ix (k_ix K rfl) (pv 3) (pe_op (k_add K rfl) (pv 5) pe_int) (fun _ _ => rfl)) (pa_cons (pe_ix (k_ix K rfl) (pv 3) (pv 5) (fun _ _ => rfl)) pa_nil))) (k_un K (n := 2) rfl rfl (pgs_cons (pg_sub (pv 3) (pv 5) set_list) (pgs_cons (pg_sub (pv 3) (pe_op (k_add K rfl) (pv 5) pe_int) set_list) pgs_nil)))))))
 (pss_cons (ps_for PassesOwn.never rfl (pi_range1 (by rfl) T.b_range (pa_cons (pe_ifExp (pt_cmpR op_gt (pv 1) pe_int (nomark _)) (pe_ok (ok__law_one T) hr (by decide) (pa_cons (pv 0) (pa_cons (pe_lst (pa_cons pe_int (pa_cons pe_int (pa_cons pe_int (pa_cons pe_int pa_nil))))) pa_nil))) pe_int) pa_nil)) (pg_name (i := 2) sc.nd rfl (by first | exact Or.inl rfl | exact Or.inr rfl))
  (pss_cons (ps_asg (pe_slice (k_sl K rfl) (pe_ok (ok__law_mixed T) hr (by decide) (pa_cons (pv 0) (pa_cons (pe_listRg rfl (by rfl) T.b_list (prg_1 (by rfl) T.b_range (pv 1))) pa_nil))) po_none (po_some pe_int)) (k_un K (n := 2) rfl rfl (pgs_cons (pg_name (i := 6) sc.nd rfl (by first | exact Or.inl rfl | exact Or.inr rfl)) (pgs_cons (pg_name (i := 7) sc.nd rfl (by first | exact Or.inl rfl | exact Or.inr rfl)) pgs_nil))))
 (pss_one (ps_asg (pe_tup (pa_cons (pe_ix (k_ix K rfl) (pv 3) (pv 7) (fun _ _ => rfl)) (pa_cons (pe_ix (k_ix K rfl) (pv 3) (pv 6) (fun _ _ => rfl)) pa_nil))) (k_un K (n := 2) rfl rfl (pgs_cons (pg_sub (pv 3) (pv 6) set_list) (pgs_cons (pg_sub (pv 3) (pv 7) set_list) pgs_nil)))))))
 (pss_cons (ps_set (i := 3) sc.nd rfl (by first | exact Or.inl rfl | exact Or.inr rfl) (pe_ifExp (pt_cmpR (k_eq K rfl hu) (pe_ok (ok__law_draw T) hr (by decide) (pa_cons (pv 0) (pa_cons pe_int pa_nil))) pe_int (nomark _)) (k_rev K rfl (pv 3)) (pv 3)))
 (pss_one (ps_ret (pe_ifExp (pt_cmpR (k_eq K rfl hu) (pe_ok (ok__law_draw T) hr (by decide) (pa_cons (pv 0) (pa_cons pe_int pa_nil))) pe_int (nomark _)) (pe_ok (ok__law_back T) hr (by decide) (pa_cons (pv 3) pa_nil)) (k_tupleOf K rfl (by rfl) T.b_tuple (pv 3)))))))))), ?_⟩
  exact body_spV (B := B__law_row) rfl (by decide) (spec_sSeq (spec_sPar (spec_cons (spec_call (spec_cons (spec_var 0) (spec_cons (spec_int 8) spec_nil))) (spec_cons (spec_rg1 (spec_var 1)) spec_nil)))
 (spec_sSeq (spec_sIf (spec_test (spec_op pure_lt (spec_var 4) (spec_int 2)))
  (spec_sAsg (spec_call (spec_cons (spec_var 0) (spec_cons (spec_var 3) spec_nil))) (spec_gName 3))
  (spec_sIf (spec_test (spec_op pure_eq (spec_var 4) (spec_int 2)))
  (spec_sAsg (spec_call (spec_cons (spec_var 0) (spec_cons (spec_var 1) spec_nil))) (spec_gName 3))
  (spec_sIf (spec_test (spec_op pure_eq (spec_var 4) (spec_int 3)))
  (spec_sSeq (spec_sAsg (spec_lc (spec_iSeq (spec_keep false (spec_var 3))) (spec_gName 10) (gk_name (by decide)) (spec_test (spec_op pure_eq (spec_call (spec_cons (spec_var 0) (spec_cons (spec_int 2) spec_nil))) (spec_int 0))) (spec_keep false (spec_var 10))) (spec_gName 8))
 (spec_sAsg (spec_op pure_add (spec_var 8) (spec_lc (spec_iSeq (spec_keep false (spec_var 3))) (spec_gName 10) (gk_name (by decide)) (spec_test (spec_op pure_notIn (spec_var 10) (spec_var 8))) (spec_keep false (spec_var 10)))) (spec_gName 3)))
  (spec_sIf (spec_test (spec_op pure_eq (spec_var 4) (spec_int 4)))
  (spec_sSeq (spec_sAsg (spec_call (spec_cons (spec_var 0) (spec_cons (spec_op pure_add (spec_var 1) (spec_int 1)) spec_nil))) (spec_gName 9))
 (spec_sAsg (spec_op pure_add (spec_sl (spec_var 3) (spec_bE (spec_var 9)) spec_bNo) (spec_sl (spec_var 3) spec_bNo (spec_bE (spec_var 9)))) (spec_gName 3)))
  (spec_sIf (spec_test (spec_op pure_eq (spec_var 4) (spec_int 5)))
  (spec_sSeq (spec_sAsg (spec_call (spec_cons (spec_var 0) (spec_cons (spec_op pure_add (spec_var 1) (spec_int 1)) spec_nil))) (spec_gName 9))
 (spec_sAsg (spec_op pure_add (spec_un pure_rev (spec_sl (spec_var 3) spec_bNo (spec_bE (spec_var 9)))) (spec_sl (spec_var 3) (spec_bE (spec_var 9)) spec_bNo)) (spec_gName 3)))
  spec_sNext)))))
 (spec_sSeq (spec_sFor (spec_iRng1 (spec_cons (spec_if (spec_tAnd (spec_test (spec_op pure_gt (spec_var 4) (spec_int 5))) (spec_test (spec_op pure_gt (spec_var 1) (spec_int 1)))) (spec_call (spec_cons (spec_var 0) (spec_cons (spec_lst (spec_cons (spec_int 0) (spec_cons (spec_int 1) (spec_cons (spec_int 2) (spec_cons (spec_int 3) (spec_cons (spec_int 6) spec_nil)))))) spec_nil))) (spec_int 0)) spec_nil)) (spec_gName 2)
  (spec_sSeq (spec_sAsg (spec_call (spec_cons (spec_var 0) (spec_cons (spec_op pure_sub (spec_var 1) (spec_int 1)) spec_nil))) (spec_gName 5))
 (spec_sAsg (spec_tup (spec_cons (spec_op pure_ix (spec_var 3) (spec_op pure_add (spec_var 5) (spec_int 1))) (spec_cons (spec_op pure_ix (spec_var 3) (spec_var 5)) spec_nil))) (spec_gUn (spec_gCons (spec_gSetI 3 (spec_var 5)) (spec_gCons (spec_gSetI 3 (spec_op pure_add (spec_var 5) (spec_int 1))) spec_gNil))))))
 (spec_sSeq (spec_sFor (spec_iRng1 (spec_cons (spec_if (spec_test (spec_op pure_gt (spec_var 1) (spec_int 1))) (spec_call (spec_cons (spec_var 0) (spec_cons (spec_lst (spec_cons (spec_int 0) (spec_cons (spec_int 0) (spec_cons (spec_int 1) (spec_cons (spec_int 2) spec_nil))))) spec_nil))) (spec_int 0)) spec_nil)) (spec_gName 2)
  (spec_sSeq (spec_sAsg (spec_sl (spec_call (spec_cons (spec_var 0) (spec_cons (spec_rg1 (spec_var 1)) spec_nil))) spec_bNo (spec_bE (spec_int 2))) (spec_gUn (spec_gCons (spec_gName 6) (spec_gCons (spec_gName 7) spec_gNil))))
 (spec_sAsg (spec_tup (spec_cons (spec_op pure_ix (spec_var 3) (spec_var 7)) (spec_cons (spec_op pure_ix (spec_var 3) (spec_var 6)) spec_nil))) (spec_gUn (spec_gCons (spec_gSetI 3 (spec_var 6)) (spec_gCons (spec_gSetI 3 (spec_var 7)) spec_gNil))))))
 (spec_sSeq (spec_sAsg (spec_keep false (spec_if (spec_test (spec_op pure_eq (spec_call (spec_cons (spec_var 0) (spec_cons (spec_int 4) spec_nil))) (spec_int 0))) (spec_un pure_rev (spec_var 3)) (spec_var 3))) (spec_gName 3))
 (spec_sRet (spec_keep true (spec_if (spec_test (spec_op pure_eq (spec_call (spec_cons (spec_var 0) (spec_cons (spec_int 3) spec_nil))) (spec_int 0))) (spec_call (spec_cons (spec_var 3) spec_nil)) (spec_tupleOf (spec_var 3)))))))))) h

theorem sc__law_word : FnScope ["feed", "row", "signs", "word", "one", "other", "place", "sign", "turn"] ["feed", "row"] (defScope s__law_word) := ⟨rfl, rfl, rfl, by decide +kernel, rfl, by decide +kernel, by decide +kernel⟩
theorem ok__law_word {P : Program} {w : World} {K : PySem.W.Frag} {mg : Str → Option Value} {base : Heap} (T : Txt K mg) : OkD P w K mg base 3 "_law_word" ["feed", "row"] (spV K true 2 fn__law_word) := by
  refine okD_mk T.f__law_word sc__law_word spV_len (fun _ _ _ _ _ _ us hl => match us, hl with | [_, _], _ => rfl) (fun _ _ _ _ _ _ us hl => match us, hl with | [_, _], _ => rfl) fun cdv f A outer s H vs Q E hr h => ?_
  have hu := hr.room.units
  have hgd := hr.gd
  have sc := sc__law_word
  refine ⟨_, (pss_cons (ps_if (PW.pt (pw_or (pt_cmpR (k_eq K rfl hu) (pe_ok (ok__law_draw T) hr (by decide) (pa_cons (pv 0) (pa_cons pe_int pa_nil))) pe_int (nomark _)) (pw_or1 (pt_cmpR op_lt (pe_callB (k_len K rfl) (by rfl) T.b_len (by rfl) (pa_cons (pv 1) pa_nil)) pe_int (nomark _)))))
  (pss_one (ps_ret (k_join K rfl pe_str (pe_lc (own := [("turn", 8)]) (tt := tYes) rfl sc.nd (pi_range1 (by rfl) T.b_range (pa_cons (pe_op (k_add K rfl) pe_int (pe_ok (ok__law_draw T) hr (by decide) (pa_cons (pv 0) (pa_cons pe_int pa_nil)))) pa_nil)) (blkOk_by (N := ["feed", "row", "signs", "word", "one", "other", "place", "sign", "turn"]) (sc := defScope s__law_word) (by decide +kernel)) (fun _ _ _ _ _ => (pg_name (i := 8) sc.nd rfl (by first | exact Or.inl rfl | exact Or.inr rfl))) (fun _ _ _ _ _ => pts_nil) (fun _ _ _ _ _ => (pe_ok (ok__law_one T) hr (by decide) (pa_cons (pv 0) (pa_cons (pe_lst (pa_cons pe_str (pa_cons pe_str pa_nil))) pa_nil))))))))
  pss_nil)
 (pss_cons (ps_set (i := 2) sc.nd rfl (by first | exact Or.inl rfl | exact Or.inr rfl) (pe_lc (own := [("one", 4), ("other", 5)]) (tt := tYes) rfl sc.nd (k_zipS K rfl (by rfl) T.b_zip (pa_cons (pv 1) (pa_cons (pe_slice (k_sl K rfl) (pv 1) (po_some pe_int) po_none) pa_nil))) (blkOk_by (N := ["feed", "row", "signs", "word", "one", "other", "place", "sign", "turn"]) (sc := defScope s__law_word) (by decide +kernel)) (fun _ _ _ _ _ => (k_un K (n := 2) rfl rfl (pgs_cons (pg_name (i := 4) sc.nd rfl (by first | exact Or.inl rfl | exact Or.inr rfl)) (pgs_cons (pg_name (i := 5) sc.nd rfl (by first | exact Or.inl rfl | exact Or.inr rfl)) pgs_nil)))) (fun _ _ _ _ _ => pts_nil) (fun _ _ _ _ _ => (pe_ifExp (pt_cmpR op_lt (pv 4) (pv 5) (nomark _)) pe_str pe_str))))
 (pss_cons (ps_setLc (i := 3) (own := [("place", 6), ("sign", 7)]) rfl sc.nd rfl rfl (sw_true rfl rfl rfl (by decide +kernel)) (k_enum K rfl (by rfl) T.b_enumerate (pv 2)) (blkOk_by (N := ["feed", "row", "signs", "word", "one", "other", "place", "sign", "turn"]) (sc := defScope s__law_word) (by decide +kernel)) (fun _ _ _ _ _ => (k_un K (n := 2) rfl rfl (pgs_cons (pg_name (i := 6) sc.nd rfl (by first | exact Or.inl rfl | exact Or.inr rfl)) (pgs_cons (pg_name (i := 7) sc.nd rfl (by first | exact Or.inl rfl | exact Or.inr rfl)) pgs_nil)))) (fun _ _ _ _ _ => (pts_one (PW.pt (pw_or (pt_cmpR (k_eq K rfl hu) (pv 6) pe_int (nomark _)) (pw_or1 (pt_cmpR (k_ne K rfl hu) (pe_ix (k_ix K rfl) (pv 2) (pe_op op_sub (pv 6) pe_int) (fun _ _ => rfl)) (pv 7) (nomark _))))))) (fun _ _ _ _ _ => (pv 7)))
 (pss_cons (ps_if (PW.pt (pw_and (pt_cmpR (k_eq K rfl hu) (pe_ok (ok__law_draw T) hr (by decide) (pa_cons (pv 0) (pa_cons pe_int pa_nil))) pe_int (nomark _)) (pw_and1 (pt_cmpR op_gt (pe_callB (k_len K rfl) (by rfl) T.b_len (by rfl) (pa_cons (pv 3) pa_nil)) pe_int (nomark _)))))
  (pss_one (ps_expr (pe_bm PySem.F.plainAttrs_list PySem.F.slot_list_pop PySem.F.type_list_pop mt_popAt (pv 3) (pa_cons (pe_ok (ok__law_draw T) hr (by decide) (pa_cons (pv 0) (pa_cons (pe_callB (k_len K rfl) (by rfl) T.b_len (by rfl) (pa_cons (pv 3) pa_nil)) pa_nil))) pa_nil))))
  pss_nil)
 (pss_one (ps_ret (k_join K rfl pe_str (pv 3)))))))), ?_⟩
  exact body_spV (B := B__law_word) rfl (by decide) (spec_sSeq (spec_sWn [8] (spec_sIf (spec_tOr (spec_test (spec_op pure_eq (spec_call (spec_cons (spec_var 0) (spec_cons (spec_int 2) spec_nil))) (spec_int 0))) (spec_test (spec_op pure_lt (spec_cb pure_len (spec_cons (spec_var 1) spec_nil)) (spec_int 2))))
  (spec_sRet (spec_join "" (spec_lc (spec_iRng1 (spec_cons (spec_op pure_add (spec_int 1) (spec_call (spec_cons (spec_var 0) (spec_cons (spec_int 5) spec_nil)))) spec_nil)) (spec_gName 8) (gk_name (by decide)) spec_tYes (spec_call (spec_cons (spec_var 0) (spec_cons (spec_lst (spec_cons (spec_str "u") (spec_cons (spec_str "d") spec_nil))) spec_nil))))))
  spec_sNext))
 (spec_sSeq (spec_sWn [1, 4, 5] (spec_sAsg (spec_lc (spec_iZipS (spec_cons (spec_keep false (spec_var 1)) (spec_cons (spec_sl (spec_var 1) (spec_bE (spec_int 1)) spec_bNo) spec_nil))) (spec_gUn (spec_gCons (spec_gName 4) (spec_gCons (spec_gName 5) spec_gNil))) (gk_un (gk_cons (gk_name (by decide)) (gk_cons (gk_name (by decide)) gk_nil))) spec_tYes (spec_keep true (spec_if (spec_test (spec_op pure_lt (spec_var 4) (spec_var 5))) (spec_str "u") (spec_str "d")))) (spec_gName 2)))
 (spec_sSeq (spec_sWn [2, 6, 7] (spec_sAsg (spec_lc (spec_iEnum (spec_keep false (spec_var 2))) (spec_gUn (spec_gCons (spec_gName 6) (spec_gCons (spec_gName 7) spec_gNil))) (gk_un (gk_cons (gk_name (by decide)) (gk_cons (gk_name (by decide)) gk_nil))) (spec_tOr (spec_test (spec_op pure_eq (spec_var 6) (spec_int 0))) (spec_test (spec_op pure_ne (spec_op pure_ix (spec_var 2) (spec_op pure_sub (spec_var 6) (spec_int 1))) (spec_var 7)))) (spec_keep false (spec_var 7))) (spec_gName 3)))
 (spec_sSeq (spec_sIf (spec_tAnd (spec_test (spec_op pure_eq (spec_call (spec_cons (spec_var 0) (spec_cons (spec_int 2) spec_nil))) (spec_int 0))) (spec_test (spec_op pure_gt (spec_cb pure_len (spec_cons (spec_var 3) spec_nil)) (spec_int 1))))
  (spec_sDrop (spec_popAt 3 (spec_call (spec_cons (spec_var 0) (spec_cons (spec_cb pure_len (spec_cons (spec_var 3) spec_nil)) spec_nil)))))
  spec_sNext)
 (spec_sRet (spec_join "" (spec_var 3))))))) h

theorem sc__law_near : FnScope ["feed", "row", "thing", "rows", "bent", "word", "some", "at", "far", "one"] ["feed", "row", "thing"] (defScope s__law_near) := ⟨rfl, rfl, rfl, by decide +kernel, rfl, by decide +kernel, by decide +kernel⟩
theorem ok__law_near {P : Program} {w : World} {K : PySem.W.Frag} {mg : Str → Option Value} {base : Heap} (T : Txt K mg) : OkD P w K mg base 3 "_law_near" ["feed", "row", "thing"] (spV K true 3 fn__law_near) := by
  refine okD_mk T.f__law_near sc__law_near spV_len (fun _ _ _ _ _ _ us hl => match us, hl with | [_, _, _], _ => rfl) (fun _ _ _ _ _ _ us hl => match us, hl with | [_, _, _], _ => rfl) fun cdv f A outer s H vs Q E hr h => ?_
  have hu := hr.room.units
  have hgd := hr.gd
  have sc := sc__law_near
  refine ⟨_, (pss_cons (ps_asg (pv 2) (k_un K (n := 2) rfl rfl (pgs_cons (pg_name (i := 5) sc.nd rfl (by first | exact Or.inl rfl | exact Or.inr rfl)) (pgs_cons (pg_name (i := 6) sc.nd rfl (by first | exact Or.inl rfl | exact Or.inr rfl)) pgs_nil))))
 (pss_cons (ps_par (i := 7) (j := 8) rfl sc.nd rfl rfl (by decide) rfl rfl (pa_cons (pe_ok (ok__law_draw T) hr (by decide) (pa_cons (pv 0) (pa_cons (pe_callB (k_len K rfl) (by rfl) T.b_len (by rfl) (pa_cons (pv 6) pa_nil)) pa_nil))) (pa_cons (pe_ok (ok__law_draw T) hr (by decide) (pa_cons (pv 0) (pa_cons (pe_op (k_add K rfl) (pe_callB (k_len K rfl) (by rfl) T.b_len (by rfl) (pa_cons (pv 1) pa_nil)) pe_int) pa_nil))) pa_nil)) rfl)
 (pss_cons (ps_set (i := 3) sc.nd rfl (by first | exact Or.inl rfl | exact Or.inr rfl) (pe_lst (pa_cons (pe_op (k_add K rfl) (pe_op (k_add K rfl) (pe_slice (k_sl K rfl) (pv 6) po_none (po_some (pv 7))) (pe_tup (pa_cons (pv 8) pa_nil))) (pe_slice (k_sl K rfl) (pv 6) (po_some (pe_op (k_add K rfl) (pv 7) pe_int)) po_none)) (pa_cons (pe_op (k_add K rfl) (pe_op (k_add K rfl) (pe_slice (k_sl K rfl) (pv 6) po_none (po_some (pv 7))) (pe_tup (pa_cons (pv 8) pa_nil))) (pe_slice (k_sl K rfl) (pv 6) (po_some (pe_op (k_add K rfl) (pv 7) pe_int)) po_none)) (pa_cons (pe_op (k_add K rfl) (pe_slice (k_sl K rfl) (pv 6) po_none (po_some (pv 7))) (pe_slice (k_sl K rfl) (pv 6) (po_some (pe_op (k_add K rfl) (pv 7) pe_int)) po_none)) (pa_cons (pe_op (k_add K rfl) (pv 6) (pe_tup (pa_cons (pv 8) pa_nil))) (pa_cons (k_rev K rfl (pv 6)) (pa_cons (pe_callTy (k_list K rfl) (by rfl) T.b_list (by rfl) (pa_cons (pv 6) pa_nil)) (pa_cons pe_non (pa_cons (pe_op (k_add K rfl) (pe_op (k_add K rfl) (pe_slice (k_sl K rfl) (pv 6) po_none (po_some (pv 7))) (pe_tup (pa_cons pe_non pa_nil))) (pe_slice (k_sl K rfl) (pv 6) (po_some (pe_op (k_add K rfl) (pv 7) pe_int)) po_none)) pa_nil))))))))))
 (pss_cons (ps_set (i := 3) sc.nd rfl (by first | exact Or.inl rfl | exact Or.inr rfl) (pe_op (k_add K rfl) (pv 3) (pe_lst (pa_cons (pe_op (k_add K rfl) (pe_op (k_add K rfl) (pe_slice (k_sl K rfl) (pv 6) po_none (po_some (pv 7))) (pe_tup (pa_cons pe_bl pa_nil))) (pe_slice (k_sl K rfl) (pv 6) (po_some (pe_op (k_add K rfl) (pv 7) pe_int)) po_none)) (pa_cons (k_tupleOf K rfl (by rfl) T.b_tuple (pe_callB (k_sorted rfl hu) (by rfl) T.b_sorted (by rfl) (pa_cons (pe_op (k_add K rfl) (pe_op (k_add K rfl) (pe_slice (k_sl K rfl) (pv 6) po_none (po_some (pv 7))) (pe_tup (pa_cons (pv 8) pa_nil))) (pe_slice (k_sl K rfl) (pv 6) (po_some (pe_op (k_add K rfl) (pv 7) pe_int)) po_none)) pa_nil))) (pa_cons (k_tupleOf K rfl (by rfl) T.b_tuple (pe_lc (own := [("one", 9)]) (tt := tYes) rfl sc.nd (k_seq K rfl (pv 6)) (blkOk_by (N := ["feed", "row", "thing", "rows", "bent", "word", "some", "at", "far", "one"]) (sc := defScope s__law_near) (by decide +kernel)) (fun _ _ _ _ _ => (pg_name (i := 9) sc.nd rfl (by first | exact Or.inl rfl | exact Or.inr rfl))) (fun _ _ _ _ _ => pts_nil) (fun _ _ _ _ _ => (pe_op (k_add K rfl) (pv 9) pe_int)))) (pa_cons (k_tupleOf K rfl (by rfl) T.b_tuple (pe_lc (own := [("one", 9)]) (tt := tYes) rfl sc.nd (k_seq K rfl (pv 6)) (blkOk_by (N := ["feed", "row", "thing", "rows", "bent", "word", "some", "at", "far", "one"]) (sc := defScope s__law_near) (by decide +kernel)) (fun _ _ _ _ _ => (pg_name (i := 9) sc.nd rfl (by first | exact Or.inl rfl | exact Or.inr rfl))) (fun _ _ _ _ _ => pts_nil) (fun _ _ _ _ _ => (pe_op op_sub (pv 9) pe_int)))) (pa_cons (pe_tup pa_nil) pa_nil))))))))
 (pss_cons (ps_set (i := 4) sc.nd rfl (by first | exact Or.inl rfl | exact Or.inr rfl) (pe_tup (pa_cons (pv 5) (pa_cons (pe_ok (ok__law_one T) hr (by decide) (pa_cons (pv 0) (pa_cons (pv 3) pa_nil))) pa_nil))))
 (pss_one (ps_ret (pe_ok (ok__law_one T) hr (by decide) (pa_cons (pv 0) (pa_cons (pe_lst (pa_cons (pv 4) (pa_cons (pv 4) (pa_cons (pv 4) (pa_cons (pv 4) (pa_cons (pe_tup (pa_cons (pe_ifExp (pt_cmpR (k_eq K rfl hu) (pv 5) pe_str (nomark _)) pe_str pe_str) (pa_cons (pv 6) pa_nil))) (pa_cons (pe_lst (pa_cons (pv 5) (pa_cons (pv 6) pa_nil))) (pa_cons (pe_tup (pa_cons (pv 5) (pa_cons (pv 6) (pa_cons (pe_tup pa_nil) pa_nil)))) (pa_cons (pe_tup (pa_cons (pv 6) (pa_cons (pv 5) pa_nil))) pa_nil))))))))) pa_nil)))))))))), ?_⟩
  exact body_spV (B := B__law_near) rfl (by decide) (spec_sSeq (spec_sWn [2] (spec_sAsg (spec_keep true (spec_var 2)) (spec_gUn (spec_gCons (spec_gName 5) (spec_gCons (spec_gName 6) spec_gNil)))))
 (spec_sSeq (spec_sWn [1] (spec_sPar (spec_cons (spec_call (spec_cons (spec_var 0) (spec_cons (spec_cb pure_len (spec_cons (spec_var 6) spec_nil)) spec_nil))) (spec_cons (spec_call (spec_cons (spec_var 0) (spec_cons (spec_op pure_add (spec_cb pure_len (spec_cons (spec_var 1) spec_nil)) (spec_int 2)) spec_nil))) spec_nil))))
 (spec_sSeq (spec_sAsg (spec_lst (spec_cons (spec_op pure_add (spec_op pure_add (spec_sl (spec_var 6) spec_bNo (spec_bE (spec_var 7))) (spec_tup (spec_cons (spec_keep false (spec_var 8)) spec_nil))) (spec_sl (spec_var 6) (spec_bE (spec_op pure_add (spec_var 7) (spec_int 1))) spec_bNo)) (spec_cons (spec_op pure_add (spec_op pure_add (spec_sl (spec_var 6) spec_bNo (spec_bE (spec_var 7))) (spec_tup (spec_cons (spec_keep false (spec_var 8)) spec_nil))) (spec_sl (spec_var 6) (spec_bE (spec_op pure_add (spec_var 7) (spec_int 1))) spec_bNo)) (spec_cons (spec_op pure_add (spec_sl (spec_var 6) spec_bNo (spec_bE (spec_var 7))) (spec_sl (spec_var 6) (spec_bE (spec_op pure_add (spec_var 7) (spec_int 1))) spec_bNo)) (spec_cons (spec_op pure_add (spec_var 6) (spec_tup (spec_cons (spec_keep false (spec_var 8)) spec_nil))) (spec_cons (spec_un pure_rev (spec_var 6)) (spec_cons (spec_cb pure_list (spec_cons (spec_var 6) spec_nil)) (spec_cons spec_none (spec_cons (spec_op pure_add (spec_op pure_add (spec_sl (spec_var 6) spec_bNo (spec_bE (spec_var 7))) (spec_tup (spec_cons spec_none spec_nil))) (spec_sl (spec_var 6) (spec_bE (spec_op pure_add (spec_var 7) (spec_int 1))) spec_bNo)) spec_nil))))))))) (spec_gName 3))
 (spec_sSeq (spec_sWn [7, 8, 9] (spec_sAsg (spec_op pure_add (spec_var 3) (spec_lst (spec_cons (spec_op pure_add (spec_op pure_add (spec_sl (spec_var 6) spec_bNo (spec_bE (spec_var 7))) (spec_tup (spec_cons (spec_bool true) spec_nil))) (spec_sl (spec_var 6) (spec_bE (spec_op pure_add (spec_var 7) (spec_int 1))) spec_bNo)) (spec_cons (spec_tupleOf (spec_cb pure_sorted (spec_cons (spec_op pure_add (spec_op pure_add (spec_sl (spec_var 6) spec_bNo (spec_bE (spec_var 7))) (spec_tup (spec_cons (spec_keep true (spec_var 8)) spec_nil))) (spec_sl (spec_var 6) (spec_bE (spec_op pure_add (spec_var 7) (spec_int 1))) spec_bNo)) spec_nil))) (spec_cons (spec_tupleOf (spec_lc (spec_iSeq (spec_keep false (spec_var 6))) (spec_gName 9) (gk_name (by decide)) spec_tYes (spec_op pure_add (spec_var 9) (spec_int 1)))) (spec_cons (spec_tupleOf (spec_lc (spec_iSeq (spec_keep false (spec_var 6))) (spec_gName 9) (gk_name (by decide)) spec_tYes (spec_op pure_sub (spec_var 9) (spec_int 1)))) (spec_cons (spec_tup spec_nil) spec_nil))))))) (spec_gName 3)))
 (spec_sSeq (spec_sWn [3] (spec_sAsg (spec_tup (spec_cons (spec_keep false (spec_var 5)) (spec_cons (spec_call (spec_cons (spec_var 0) (spec_cons (spec_var 3) spec_nil))) spec_nil))) (spec_gName 4)))
 (spec_sRet (spec_call (spec_cons (spec_var 0) (spec_cons (spec_lst (spec_cons (spec_keep false (spec_var 4)) (spec_cons (spec_keep false (spec_var 4)) (spec_cons (spec_keep false (spec_var 4)) (spec_cons (spec_keep false (spec_var 4)) (spec_cons (spec_tup (spec_cons (spec_keep false (spec_if (spec_test (spec_op pure_eq (spec_var 5) (spec_str "breaks"))) (spec_str "ends") (spec_str "breaks"))) (spec_cons (spec_keep false (spec_var 6)) spec_nil))) (spec_cons (spec_lst (spec_cons (spec_keep false (spec_var 5)) (spec_cons (spec_keep false (spec_var 6)) spec_nil))) (spec_cons (spec_tup (spec_cons (spec_keep false (spec_var 5)) (spec_cons (spec_keep false (spec_var 6)) (spec_cons (spec_tup spec_nil) spec_nil)))) (spec_cons (spec_tup (spec_cons (spec_keep false (spec_var 6)) (spec_cons (spec_keep false (spec_var 5)) spec_nil))) spec_nil))))))))) spec_nil))))))))) h

theorem sc_need_row : FnScope ["row"] ["row"] (defScope s_need_row) := ⟨rfl, rfl, rfl, by decide +kernel, rfl, by decide +kernel, by decide +kernel⟩
theorem ok_need_row {P : Program} {w : World} {K : PySem.W.Frag} {mg : Str → Option Value} {base : Heap} (T : Txt K mg) : OkD P w K mg base 4 "need_row" ["row"] (spV K false 1 fn_need_row) := by
  refine okD_mk T.f_need_row sc_need_row spV_len (fun _ _ _ _ _ _ us hl => match us, hl with | [_], _ => rfl) (fun _ _ _ _ _ _ us hl => match us, hl with | [_], _ => rfl) fun cdv f A outer s H vs Q E hr h => ?_
  have hu := hr.room.units
  have hgd := hr.gd
  have sc := sc_need_row
  refine ⟨_, (pss_one (ps_if (pt_not (pt_val (pe_ok (ok_is_row_form T) hr (by decide) (pa_cons (pv 0) pa_nil))))
  (pss_one ps_never)
  pss_nil)), ?_⟩
  exact body_spV (B := B_need_row) rfl (by decide) (spec_sIf (spec_tNot (spec_tB (spec_call (spec_cons (spec_var 0) spec_nil))))
  (spec_raiseN "BadRow")
  spec_sNext) h

theorem sc_need_strips : FnScope ["row", "word", "sign"] ["row", "word"] (defScope s_need_strips) := ⟨rfl, rfl, rfl, by decide +kernel, rfl, by decide +kernel, by decide +kernel⟩
theorem ok_need_strips {P : Program} {w : World} {K : PySem.W.Frag} {mg : Str → Option Value} {base : Heap} (T : Txt K mg) : OkD P w K mg base 5 "need_strips" ["row", "word"] (spV K false 2 fn_need_strips) := by
  refine okD_mk T.f_need_strips sc_need_strips spV_len (fun _ _ _ _ _ _ us hl => match us, hl with | [_, _], _ => rfl) (fun _ _ _ _ _ _ us hl => match us, hl with | [_, _], _ => rfl) fun cdv f A outer s H vs Q E hr h => ?_
  have hu := hr.room.units
  have hgd := hr.gd
  have sc := sc_need_strips
  refine ⟨_, (pss_cons (ps_expr (pe_ok (ok_need_row T) hr (by decide) (pa_cons (pv 0) pa_nil)))
 (pss_one (ps_if (PW.pt (pw_or (pt_not (pt_val (pe_callB (k_isi K rfl) (by rfl) T.b_isinstance (by rfl) (pa_cons (pv 1) (pa_cons (pe_bltn (v := .ty "str") (by rfl) T.b_str (by rfl) rfl) pa_nil))))) (pw_or (pt_not (pt_chain op_le op_le pe_int (pe_callB (k_len K rfl) (by rfl) T.b_len (by rfl) (pa_cons (pv 1) pa_nil)) (pe_cn T.c_MOST_STRIPS))) (pw_or1 (pt_not (pt_val (pe_callB (k_all K rfl rfl) (by rfl) T.b_all (by rfl) (pa_cons (pe_lc (own := [("sign", 2)]) (tt := tYes) rfl sc.nd (k_seq K rfl (pv 1)) (blkOk_by (N := ["row", "word", "sign"]) (sc := defScope s_need_strips) (by decide +kernel)) (fun _ _ _ _ _ => (pg_name (i := 2) sc.nd rfl (by first | exact Or.inl rfl | exact Or.inr rfl))) (fun _ _ _ _ _ => pts_nil) (fun _ _ _ _ _ => (pe_cmpR (k_in K rfl hu) (pv 2) (pe_tup (pa_cons (pe_cn T.c_UP) (pa_cons (pe_cn T.c_DOWN) pa_nil))) (by rfl)))) pa_nil))))))))
  (pss_one ps_never)
  pss_nil))), ?_⟩
  exact body_spV (B := B_need_strips) rfl (by decide) (spec_sSeq (spec_sWn [0] (spec_sDrop (spec_callN (spec_cons (spec_var 0) spec_nil))))
 (spec_sWn [1, 2] (spec_sIf (spec_tOr (spec_tNot (spec_tB (spec_isi "str" (spec_var 1)))) (spec_tOr (spec_tNot (spec_test (spec_chain pureB_le pure_le (spec_int 1) (spec_cb pure_len (spec_cons (spec_var 1) spec_nil)) (spec_int 9)))) (spec_tNot (spec_tB (spec_cb pure_all (spec_cons (spec_lc (spec_iSeq (spec_keep false (spec_var 1))) (spec_gName 2) (gk_name (by decide)) spec_tYes (spec_op pure_in (spec_var 2) (spec_tup (spec_cons (spec_keep false (spec_str "u")) (spec_cons (spec_keep false (spec_str "d")) spec_nil))))) spec_nil))))))
  (spec_raiseN "BadWord")
  spec_sNext))) h

theorem sc_strips : FnScope ["row", "word", "ends", "breaks"] ["row", "word"] (defScope s_strips) := ⟨rfl, rfl, rfl, by decide +kernel, rfl, by decide +kernel, by decide +kernel⟩
theorem ok_strips {P : Program} {w : World} {K : PySem.W.Frag} {mg : Str → Option Value} {base : Heap} (T : Txt K mg) : OkD P w K mg base 6 "strips" ["row", "word"] (spV K false 2 fn_strips) := by
  refine okD_mk T.f_strips sc_strips spV_len (fun _ _ _ _ _ _ us hl => match us, hl with | [_, _], _ => rfl) (fun _ _ _ _ _ _ us hl => match us, hl with | [_, _], _ => rfl) fun cdv f A outer s H vs Q E hr h => ?_
  have hu := hr.room.units
  have hgd := hr.gd
  have sc := sc_strips
  refine ⟨_, (pss_cons (ps_expr (pe_ok (ok_need_strips T) hr (by decide) (pa_cons (pv 0) (pa_cons (pv 1) pa_nil))))
 (pss_cons (ps_asg (pe_ok (ok_strip_ends T) hr (by decide) (pa_cons (pv 0) (pa_cons (pv 1) pa_nil))) (k_un K (n := 2) rfl rfl (pgs_cons (pg_name (i := 2) sc.nd rfl (by first | exact Or.inl rfl | exact Or.inr rfl)) (pgs_cons (pg_name (i := 3) sc.nd rfl (by first | exact Or.inl rfl | exact Or.inr rfl)) pgs_nil))))
 (pss_one (ps_ret (pe_ifExp (pt_cmpR (k_eq K rfl hu) (pe_ix (k_ix K rfl) (pv 2) (pe_un un_neg pe_int) (fun _ _ => rfl)) (pe_callB (k_len K rfl) (by rfl) T.b_len (by rfl) (pa_cons (pv 0) pa_nil)) (nomark _)) (pe_tup (pa_cons pe_str (pa_cons (pv 2) pa_nil))) (pe_tup (pa_cons pe_str (pa_cons (pv 3) pa_nil)))))))), ?_⟩
  exact body_spV (B := B_strips) rfl (by decide) (spec_sSeq (spec_sDrop (spec_callN (spec_cons (spec_var 0) (spec_cons (spec_var 1) spec_nil))))
 (spec_sSeq (spec_sWn [1] (spec_sAsg (spec_call (spec_cons (spec_var 0) (spec_cons (spec_var 1) spec_nil))) (spec_gUn (spec_gCons (spec_gName 2) (spec_gCons (spec_gName 3) spec_gNil)))))
 (spec_sRet (spec_keep true (spec_if (spec_test (spec_op pure_eq (spec_op pure_ix (spec_var 2) (spec_un pure_neg (spec_int 1))) (spec_cb pure_len (spec_cons (spec_var 0) spec_nil)))) (spec_tup (spec_cons (spec_str "ends") (spec_cons (spec_keep false (spec_var 2)) spec_nil))) (spec_tup (spec_cons (spec_str "breaks") (spec_cons (spec_keep true (spec_var 3)) spec_nil)))))))) h

theorem sc_strips_hold : FnScope ["row", "word", "thing", "many", "place", "one", "other", "sign"] ["row", "word", "thing"] (defScope s_strips_hold) := ⟨rfl, rfl, rfl, by decide +kernel, rfl, by decide +kernel, by decide +kernel⟩
theorem ok_strips_hold {P : Program} {w : World} {K : PySem.W.Frag} {mg : Str → Option Value} {base : Heap} (T : Txt K mg) : OkD P w K mg base 6 "strips_hold" ["row", "word", "thing"] (spV K false 3 fn_strips_hold) := by
  refine okD_mk T.f_strips_hold sc_strips_hold spV_len (fun _ _ _ _ _ _ us hl => match us, hl with | [_, _, _], _ => rfl) (fun _ _ _ _ _ _ us hl => match us, hl with | [_, _, _], _ => rfl) fun cdv f A outer s H vs Q E hr h => ?_
  have hu := hr.room.units
  have hgd := hr.gd
  have sc := sc_strips_hold
  refine ⟨_, (pss_cons (ps_expr (pe_ok (ok_need_strips T) hr (by decide) (pa_cons (pv 0) (pa_cons (pv 1) pa_nil))))
 (pss_cons (ps_set (i := 3) sc.nd rfl (by first | exact Or.inl rfl | exact Or.inr rfl) (pe_callB (k_len K rfl) (by rfl) T.b_len (by rfl) (pa_cons (pv 1) pa_nil)))
 (pss_cons (ps_if (pt_val (pe_ok (ok_has_word T) hr (by decide) (pa_cons (pv 2) (pa_cons pe_str (pa_cons pe_int pa_nil)))))
  (pss_one (ps_ret (pe_ok (ok_are_ends T) hr (by decide) (pa_cons (pv 0) (pa_cons (pv 1) (pa_cons (pe_ix (k_ix K rfl) (pv 2) pe_int (fun _ _ => rfl)) pa_nil))))))
  pss_nil)
 (pss_cons (ps_if (PW.pt (pw_or (pt_not (pt_val (pe_ok (ok_has_word T) hr (by decide) (pa_cons (pv 2) (pa_cons pe_str (pa_cons pe_int pa_nil)))))) (pw_or1 (pt_not (pt_val (pe_ok (ok_is_tuple_of T) hr (by decide) (pa_cons (pe_ix (k_ix K rfl) (pv 2) pe_int (fun _ _ => rfl)) (pa_cons (pv 3) (pa_cons (pv 3) pa_nil)))))))))
  (pss_one (ps_ret pe_bl))
  pss_nil)
 (pss_cons (ps_if (pt_not (pt_val (pe_callB (k_all K rfl rfl) (by rfl) T.b_all (by rfl) (pa_cons (pe_lc (own := [("place", 4)]) (tt := tYes) rfl sc.nd (k_seq K rfl (pe_ix (k_ix K rfl) (pv 2) pe_int (fun _ _ => rfl))) (blkOk_by (N := ["row", "word", "thing", "many", "place", "one", "other", "sign"]) (sc := defScope s_strips_hold) (by decide +kernel)) (fun _ _ _ _ _ => (pg_name (i := 4) sc.nd rfl (by first | exact Or.inl rfl | exact Or.inr rfl))) (fun _ _ _ _ _ => pts_nil) (fun _ _ _ _ _ => (pe_ok (ok_is_within T) hr (by decide) (pa_cons (pv 4) (pa_cons pe_int (pa_cons (pe_op op_sub (pe_callB (k_len K rfl) (by rfl) T.b_len (by rfl) (pa_cons (pv 0) pa_nil)) pe_int) pa_nil)))))) pa_nil))))
  (pss_one (ps_ret pe_bl))
  pss_nil)
 (pss_cons (ps_if (pt_val (pe_callB (k_any K rfl rfl) (by rfl) T.b_any (by rfl) (pa_cons (pe_lc (own := [("one", 5), ("other", 6)]) (tt := tYes) rfl sc.nd (k_zipS K rfl (by rfl) T.b_zip (pa_cons (pe_ix (k_ix K rfl) (pv 2) pe_int (fun _ _ => rfl)) (pa_cons (pe_slice (k_sl K rfl) (pe_ix (k_ix K rfl) (pv 2) pe_int (fun _ _ => rfl)) (po_some pe_int) po_none) pa_nil))) (blkOk_by (N := ["row", "word", "thing", "many", "place", "one", "other", "sign"]) (sc := defScope s_strips_hold) (by decide +kernel)) (fun _ _ _ _ _ => (k_un K (n := 2) rfl rfl (pgs_cons (pg_name (i := 5) sc.nd rfl (by first | exact Or.inl rfl | exact Or.inr rfl)) (pgs_cons (pg_name (i := 6) sc.nd rfl (by first | exact Or.inl rfl | exact Or.inr rfl)) pgs_nil)))) (fun _ _ _ _ _ => pts_nil) (fun _ _ _ _ _ => (pe_cmpR op_ge (pv 5) (pv 6) (nomark _)))) pa_nil)))
  (pss_one (ps_ret pe_bl))
  pss_nil)
 (pss_one (ps_ret (pe_callB (k_all K rfl rfl) (by rfl) T.b_all (by rfl) (pa_cons (pe_lc (own := [("place", 4), ("sign", 7)]) (tt := tYes) rfl sc.nd (k_zipS K rfl (by rfl) T.b_zip (pa_cons (pe_ix (k_ix K rfl) (pv 2) pe_int (fun _ _ => rfl)) (pa_cons (pv 1) pa_nil))) (blkOk_by (N := ["row", "word", "thing", "many", "place", "one", "other", "sign"]) (sc := defScope s_strips_hold) (by decide +kernel)) (fun _ _ _ _ _ => (k_un K (n := 2) rfl rfl (pgs_cons (pg_name (i := 4) sc.nd rfl (by first | exact Or.inl rfl | exact Or.inr rfl)) (pgs_cons (pg_name (i := 7) sc.nd rfl (by first | exact Or.inl rfl | exact Or.inr rfl)) pgs_nil)))) (fun _ _ _ _ _ => pts_nil) (fun _ _ _ _ _ => (pe_ok (ok_does_break T) hr (by decide) (pa_cons (pv 0) (pa_cons (pv 4) (pa_cons (pv 7) pa_nil)))))) pa_nil)))))))))), ?_⟩
  exact body_spV (B := B_strips_hold) rfl (by decide) (spec_sSeq (spec_sDrop (spec_callN (spec_cons (spec_var 0) (spec_cons (spec_var 1) spec_nil))))
 (spec_sSeq (spec_sAsg (spec_cb pure_len (spec_cons (spec_var 1) spec_nil)) (spec_gName 3))
 (spec_sSeq (spec_sIf (spec_tB (spec_call (spec_cons (spec_var 2) (spec_cons (spec_str "ends") (spec_cons (spec_int 2) spec_nil)))))
  (spec_sRet (spec_call (spec_cons (spec_var 0) (spec_cons (spec_var 1) (spec_cons (spec_op pure_ix (spec_var 2) (spec_int 1)) spec_nil)))))
  spec_sNext)
 (spec_sSeq (spec_sWn [3] (spec_sIf (spec_tOr (spec_tNot (spec_tB (spec_call (spec_cons (spec_var 2) (spec_cons (spec_str "breaks") (spec_cons (spec_int 2) spec_nil)))))) (spec_tNot (spec_tB (spec_call (spec_cons (spec_op pure_ix (spec_var 2) (spec_int 1)) (spec_cons (spec_var 3) (spec_cons (spec_var 3) spec_nil)))))))
  (spec_sRet (spec_bool false))
  spec_sNext))
 (spec_sSeq (spec_sIf (spec_tNot (spec_tB (spec_cb pure_all (spec_cons (spec_lc (spec_iSeq (spec_op pure_ix (spec_var 2) (spec_int 1))) (spec_gName 4) (gk_name (by decide)) spec_tYes (spec_call (spec_cons (spec_var 4) (spec_cons (spec_int 0) (spec_cons (spec_op pure_sub (spec_cb pure_len (spec_cons (spec_var 0) spec_nil)) (spec_int 2)) spec_nil))))) spec_nil))))
  (spec_sRet (spec_bool false))
  spec_sNext)
 (spec_sSeq (spec_sWn [5, 6] (spec_sIf (spec_tB (spec_cb pure_any (spec_cons (spec_lc (spec_iZipS (spec_cons (spec_op pure_ix (spec_var 2) (spec_int 1)) (spec_cons (spec_sl (spec_op pure_ix (spec_var 2) (spec_int 1)) (spec_bE (spec_int 1)) spec_bNo) spec_nil))) (spec_gUn (spec_gCons (spec_gName 5) (spec_gCons (spec_gName 6) spec_gNil))) (gk_un (gk_cons (gk_name (by decide)) (gk_cons (gk_name (by decide)) gk_nil))) spec_tYes (spec_op pure_ge (spec_var 5) (spec_var 6))) spec_nil)))
  (spec_sRet (spec_bool false))
  spec_sNext))
 (spec_sRet (spec_cb pure_all (spec_cons (spec_lc (spec_iZipS (spec_cons (spec_op pure_ix (spec_var 2) (spec_int 1)) (spec_cons (spec_keep true (spec_var 1)) spec_nil))) (spec_gUn (spec_gCons (spec_gName 4) (spec_gCons (spec_gName 7) spec_gNil))) (gk_un (gk_cons (gk_name (by decide)) (gk_cons (gk_name (by decide)) gk_nil))) spec_tYes (spec_call (spec_cons (spec_var 0) (spec_cons (spec_var 4) (spec_cons (spec_var 7) spec_nil))))) spec_nil))))))))) h

theorem sc__law_right : FnScope ["feed", "row", "word", "some", "thing", "late", "told", "due", "kept", "turn", "end", "sign"] ["feed"] (defScope s__law_right) := ⟨rfl, rfl, rfl, by decide +kernel, rfl, by decide +kernel, by decide +kernel⟩
theorem ok__law_right {P : Program} {w : World} {K : PySem.W.Frag} {mg : Str → Option Value} {base : Heap} (T : Txt K mg) : OkD P w K mg base 7 "_law_right" ["feed"] (spV K true 1 fn__law_right) := by
  refine okD_mk T.f__law_right sc__law_right spV_len (fun _ _ _ _ _ _ us hl => match us, hl with | [_], _ => rfl) (fun _ _ _ _ _ _ us hl => match us, hl with | [_], _ => rfl) fun cdv f A outer s H vs Q E hr h => ?_
  have hu := hr.room.units
  have hgd := hr.gd
  have sc := sc__law_right
  refine ⟨_, (pss_cons (ps_set (i := 1) sc.nd rfl (by first | exact Or.inl rfl | exact Or.inr rfl) (pe_ok (ok__law_row T) hr (by decide) (pa_cons (pv 0) (pa_cons (pe_ok (ok__law_one T) hr (by decide) (pa_cons (pv 0) (pa_cons (pe_lst (pa_cons pe_int (pa_cons pe_int (pa_cons pe_int (pa_cons pe_int (pa_cons pe_int (pa_cons pe_int (pa_cons pe_int (pa_cons pe_int (pa_cons pe_int (pa_cons pe_int pa_nil))))))))))) pa_nil))) pa_nil))))
 (pss_cons (ps_set (i := 2) sc.nd rfl (by first | exact Or.inl rfl | exact Or.inr rfl) (pe_ok (ok__law_word T) hr (by decide) (pa_cons (pv 0) (pa_cons (pv 1) pa_nil))))
 (pss_cons (ps_par (i := 5) (j := 6) rfl sc.nd rfl rfl (by decide) rfl rfl (pa_cons (pe_ok (ok__law_late T) hr (by decide) (pa_cons (pv 1) (pa_cons (pv 2) pa_nil))) (pa_cons (pe_ok (ok_strips T) hr (by decide) (pa_cons (pv 1) (pa_cons (pv 2) pa_nil))) pa_nil)) rfl)
 (pss_cons (ps_if (PW.pt (pw_or (pt_not (pt_val (pe_ok (ok__law_shows T) hr (by decide) (pa_cons (pv 1) (pa_cons (pv 2) (pa_cons (pv 6) pa_nil)))))) (pw_or (pt_cmpR (k_ne K rfl hu) (pe_cmpR (k_eq K rfl hu) (pe_ix (k_ix K rfl) (pv 6) pe_int (fun _ _ => rfl)) pe_str (nomark _)) (pe_cmpR (k_eq K rfl hu) (pe_ix (k_ix K rfl) (pv 5) (pe_un un_neg pe_int) (fun _ _ => rfl)) (pe_callB (k_len K rfl) (by rfl) T.b_len (by rfl) (pa_cons (pv 1) pa_nil)) (nomark _)) (nomark _)) (pw_or1 (pt_cmpR (k_ne K rfl hu) (pe_callB (k_reprQ K rfl hu hgd) (by rfl) T.b_repr (by rfl) (pa_cons (pe_okKP (ks := ["word", "row"]) (ps := ["row", "word"]) [1, 0] T.f_strips (fun _ _ _ _ _ _ ws hl => match ws, hl with | [], h => by simp [pk] at h | [_], h => by simp [pk] at h | _ :: _ ::  _, _ => rfl) (ok_strips T) hr (by decide) (pk_cons (pv 2) (pk_cons (pv 1) pk_nil))) pa_nil)) (pe_callB (k_reprQ K rfl hu hgd) (by rfl) T.b_repr (by rfl) (pa_cons (pv 6) pa_nil)) (nomark _))))))
  (pss_one (ps_ret pe_bl))
  pss_nil)
 (pss_cons (ps_if (PW.pt (pw_and (pt_cmpR (k_eq K rfl hu) (pe_ix (k_ix K rfl) (pv 6) pe_int (fun _ _ => rfl)) pe_str (nomark _)) (pw_and (pt_cmpR op_lt (pe_callB (k_len K rfl) (by rfl) T.b_len (by rfl) (pa_cons (pv 2) pa_nil)) pe_int (nomark _)) (pw_and1 (PW.pt (pw_or (pt_cmpR (k_ne K rfl hu) (pe_ix (k_ix K rfl) (pe_ok (ok_strips T) hr (by decide) (pa_cons (pv 1) (pa_cons (pe_op (k_add K rfl) (pv 2) pe_str) pa_nil))) pe_int (fun _ _ => rfl)) pe_str (nomark _)) (pw_or1 (pt_cmpR (k_ne K rfl hu) (pe_ix (k_ix K rfl) (pe_ok (ok_strips T) hr (by decide) (pa_cons (pv 1) (pa_cons (pe_op (k_add K rfl) pe_str (pv 2)) pa_nil))) pe_int (fun _ _ => rfl)) pe_str (nomark _)))))))))
  (pss_one (ps_ret pe_bl))
  pss_nil)
 (pss_cons (ps_set (i := 3) sc.nd rfl (by first | exact Or.inl rfl | exact Or.inr rfl) (pe_lst (pa_cons (pv 6) (pa_cons (pe_tup (pa_cons pe_str (pa_cons (pv 5) pa_nil))) (pa_cons (pe_tup (pa_cons pe_str (pa_cons (pe_op (k_add K rfl) (pe_slice (k_sl K rfl) (pv 5) po_none (po_some (pe_un un_neg pe_int))) (pe_tup (pa_cons (pe_callB (k_len K rfl) (by rfl) T.b_len (by rfl) (pa_cons (pv 1) pa_nil)) pa_nil))) pa_nil))) (pa_cons (pe_tup (pa_cons pe_str (pa_cons (k_tupleOf K rfl (by rfl) T.b_tuple (pe_lc (own := [("end", 10)]) (tt := tYes) rfl sc.nd (k_seq K rfl (pv 5)) (blkOk_by (N := ["feed", "row", "word", "some", "thing", "late", "told", "due", "kept", "turn", "end", "sign"]) (sc := defScope s__law_right) (by decide +kernel)) (fun _ _ _ _ _ => (pg_name (i := 10) sc.nd rfl (by first | exact Or.inl rfl | exact Or.inr rfl))) (fun _ _ _ _ _ => pts_nil) (fun _ _ _ _ _ => (pe_callB (call_max2 rfl) (by rfl) T.b_max (by rfl) (pa_cons pe_int (pa_cons (pe_op op_sub (pv 10) pe_int) pa_nil)))))) pa_nil))) pa_nil))))))
 (pss_cons (ps_set (i := 3) sc.nd rfl (by first | exact Or.inl rfl | exact Or.inr rfl) (pe_op (k_add K rfl) (pv 3) (pe_lc (own := [("turn", 9)]) (tt := tYes) rfl sc.nd (pi_range1 (by rfl) T.b_range (pa_cons pe_int pa_nil)) (blkOk_by (N := ["feed", "row", "word", "some", "thing", "late", "told", "due", "kept", "turn", "end", "sign"]) (sc := defScope s__law_right) (by decide +kernel)) (fun _ _ _ _ _ => (pg_name (i := 9) sc.nd rfl (by first | exact Or.inl rfl | exact Or.inr rfl))) (fun _ _ _ _ _ => pts_nil) (fun _ _ _ _ _ => (pe_tup (pa_cons (pe_ok (ok__law_one T) hr (by decide) (pa_cons (pv 0) (pa_cons (pe_lst (pa_cons pe_str (pa_cons pe_str pa_nil))) pa_nil))) (pa_cons (k_tupleOf K rfl (by rfl) T.b_tuple (pe_callB (k_sorted rfl hu) (by rfl) T.b_sorted (by rfl) (pa_cons (pe_lc (own := [("sign", 11)]) (tt := tYes) rfl sc.nd (k_seq K rfl (pv 2)) (blkOk_by (N := ["feed", "row", "word", "some", "thing", "late", "told", "due", "kept", "turn", "end", "sign"]) (sc := ({ kind := PySem.ScopeKind.function, names := [(PySem.Str.ofString ".0", PySem.NameKind.local), (PySem.Str.ofString "turn", PySem.NameKind.local), (PySem.Str.ofString "_law_one", PySem.NameKind.globalImplicit), (PySem.Str.ofString "tuple", PySem.NameKind.globalImplicit), (PySem.Str.ofString "sorted", PySem.NameKind.globalImplicit), (PySem.Str.ofString "feed", PySem.NameKind.cell), (PySem.Str.ofString "row", PySem.NameKind.cell), (PySem.Str.ofString "word", PySem.NameKind.cell)], isGenerator := false, isCoroutine := false, more := [] } : PySem.Scope)) (by decide +kernel)) (fun _ _ _ _ _ => (pg_name (i := 11) sc.nd rfl (by first | exact Or.inl rfl | exact Or.inr rfl))) (fun _ _ _ _ _ => pts_nil) (fun _ _ _ _ _ => (pe_ok (ok__law_draw T) hr (by decide) (pa_cons (pv 0) (pa_cons (pe_op (k_add K rfl) (pe_callB (k_len K rfl) (by rfl) T.b_len (by rfl) (pa_cons (pv 1) pa_nil)) pe_int) pa_nil))))) pa_nil))) pa_nil)))))))
 (pss_cons (ps_for PassesOwn.never rfl (k_seq K rfl (pe_op (k_add K rfl) (pe_op (k_add K rfl) (pv 3) (pe_lc (own := [("turn", 9)]) (tt := tYes) rfl sc.nd (pi_range1 (by rfl) T.b_range (pa_cons pe_int pa_nil)) (blkOk_by (N := ["feed", "row", "word", "some", "thing", "late", "told", "due", "kept", "turn", "end", "sign"]) (sc := defScope s__law_right) (by decide +kernel)) (fun _ _ _ _ _ => (pg_name (i := 9) sc.nd rfl (by first | exact Or.inl rfl | exact Or.inr rfl))) (fun _ _ _ _ _ => pts_nil) (fun _ _ _ _ _ => (pe_ok (ok__law_near T) hr (by decide) (pa_cons (pv 0) (pa_cons (pv 1) (pa_cons (pe_ok (ok__law_one T) hr (by decide) (pa_cons (pv 0) (pa_cons (pv 3) pa_nil))) pa_nil))))))) (pe_lst (pa_cons pe_non (pa_cons (pe_tup pa_nil) (pa_cons pe_str (pa_cons (pe_tup (pa_cons pe_str pa_nil)) (pa_cons (pe_tup (pa_cons pe_str (pa_cons (pe_tup pa_nil) pa_nil))) (pa_cons (pe_tup (pa_cons pe_str (pa_cons (pe_tup pa_nil) pa_nil))) (pa_cons pe_int pa_nil)))))))))) (pg_name (i := 4) sc.nd rfl (by first | exact Or.inl rfl | exact Or.inr rfl))
  (pss_cons (ps_par (i := 7) (j := 8) rfl sc.nd rfl rfl (by decide) rfl rfl (pa_cons (pe_ok (ok__law_shows T) hr (by decide) (pa_cons (pv 1) (pa_cons (pv 2) (pa_cons (pv 4) pa_nil)))) (pa_cons (pe_callB (k_reprQ K rfl hu hgd) (by rfl) T.b_repr (by rfl) (pa_cons (pv 4) pa_nil)) pa_nil)) rfl)
 (pss_cons (ps_if (PW.pt (pw_or (pt_not (pt_val (pe_ok (ok__law_so T) hr (by decide) (pa_cons (pe_ok (ok_strips_hold T) hr (by decide) (pa_cons (pv 1) (pa_cons (pv 2) (pa_cons (pv 4) pa_nil)))) (pa_cons (pv 7) pa_nil))))) (pw_or (pt_not (pt_val (pe_ok (ok__law_so T) hr (by decide) (pa_cons (pe_okKP (ks := ["thing", "word", "row"]) (ps := ["row", "word", "thing"]) [2, 1, 0] T.f_strips_hold (fun _ _ _ _ _ _ ws hl => match ws, hl with | [], h => by simp [pk] at h | [_], h => by simp [pk] at h | [_, _], h => by simp [pk] at h | _ :: _ :: _ ::  _, _ => rfl) (ok_strips_hold T) hr (by decide) (pk_cons (pv 4) (pk_cons (pv 2) (pk_cons (pv 1) pk_nil)))) (pa_cons (pv 7) pa_nil))))) (pw_or1 (pt_cmpR (k_ne K rfl hu) (pe_callB (k_reprQ K rfl hu hgd) (by rfl) T.b_repr (by rfl) (pa_cons (pv 4) pa_nil)) (pv 8) (nomark _))))))
  (pss_one (ps_ret pe_bl))
  pss_nil)
 (pss_one (ps_if (PW.pt (pw_and (pt_val (pv 7)) (pw_and1 (pt_cmpR (k_ne K rfl hu) (pe_ix (k_ix K rfl) (pv 4) pe_int (fun _ _ => rfl)) (pe_ix (k_ix K rfl) (pv 6) pe_int (fun _ _ => rfl)) (nomark _)))))
  (pss_one (ps_ret pe_bl))
  pss_nil)))))
 (pss_one (ps_ret pe_bl)))))))))), ?_⟩
  exact body_spV (B := B__law_right) rfl (by decide) (spec_sSeq (spec_sAsg (spec_call (spec_cons (spec_var 0) (spec_cons (spec_call (spec_cons (spec_var 0) (spec_cons (spec_lst (spec_cons (spec_int 0) (spec_cons (spec_int 1) (spec_cons (spec_int 2) (spec_cons (spec_int 3) (spec_cons (spec_int 4) (spec_cons (spec_int 5) (spec_cons (spec_int 6) (spec_cons (spec_int 7) (spec_cons (spec_int 8) (spec_cons (spec_int 9) spec_nil))))))))))) spec_nil))) spec_nil))) (spec_gName 1))
 (spec_sSeq (spec_sAsg (spec_call (spec_cons (spec_var 0) (spec_cons (spec_var 1) spec_nil))) (spec_gName 2))
 (spec_sSeq (spec_sPar (spec_cons (spec_call (spec_cons (spec_var 1) (spec_cons (spec_var 2) spec_nil))) (spec_cons (spec_callN (spec_cons (spec_var 1) (spec_cons (spec_var 2) spec_nil))) spec_nil)))
 (spec_sSeq (spec_sIf (spec_tOr (spec_tNot (spec_tB (spec_call (spec_cons (spec_var 1) (spec_cons (spec_var 2) (spec_cons (spec_var 6) spec_nil)))))) (spec_tOr (spec_test (spec_op pure_ne (spec_op pure_eq (spec_op pure_ix (spec_var 6) (spec_int 0)) (spec_str "ends")) (spec_op pure_eq (spec_op pure_ix (spec_var 5) (spec_un pure_neg (spec_int 1))) (spec_cb pure_len (spec_cons (spec_var 1) spec_nil))))) (spec_test (spec_op pure_ne (spec_cb pure_reprQ (spec_cons (spec_callNKP [1, 0] (spec_cons (spec_var 2) (spec_cons (spec_var 1) spec_nil))) spec_nil)) (spec_cb pure_reprQ (spec_cons (spec_var 6) spec_nil))))))
  (spec_sRet (spec_bool false))
  spec_sNext)
 (spec_sSeq (spec_sIf (spec_tAnd (spec_test (spec_op pure_eq (spec_op pure_ix (spec_var 6) (spec_int 0)) (spec_str "ends"))) (spec_tAnd (spec_test (spec_op pure_lt (spec_cb pure_len (spec_cons (spec_var 2) spec_nil)) (spec_int 9))) (spec_tOr (spec_test (spec_op pure_ne (spec_op pure_ix (spec_callN (spec_cons (spec_var 1) (spec_cons (spec_op pure_add (spec_var 2) (spec_str "u")) spec_nil))) (spec_int 0)) (spec_str "ends"))) (spec_test (spec_op pure_ne (spec_op pure_ix (spec_callN (spec_cons (spec_var 1) (spec_cons (spec_op pure_add (spec_str "d") (spec_var 2)) spec_nil))) (spec_int 0)) (spec_str "ends"))))))
  (spec_sRet (spec_bool false))
  spec_sNext)
 (spec_sSeq (spec_sWn [5, 10] (spec_sAsg (spec_lst (spec_cons (spec_keep false (spec_var 6)) (spec_cons (spec_tup (spec_cons (spec_str "ends") (spec_cons (spec_keep false (spec_var 5)) spec_nil))) (spec_cons (spec_tup (spec_cons (spec_str "ends") (spec_cons (spec_op pure_add (spec_sl (spec_var 5) spec_bNo (spec_bE (spec_un pure_neg (spec_int 1)))) (spec_tup (spec_cons (spec_cb pure_len (spec_cons (spec_var 1) spec_nil)) spec_nil))) spec_nil))) (spec_cons (spec_tup (spec_cons (spec_str "breaks") (spec_cons (spec_tupleOf (spec_lc (spec_iSeq (spec_keep false (spec_var 5))) (spec_gName 10) (gk_name (by decide)) spec_tYes (spec_cb pure_max2 (spec_cons (spec_int 0) (spec_cons (spec_op pure_sub (spec_var 10) (spec_int 1)) spec_nil))))) spec_nil))) spec_nil))))) (spec_gName 3)))
 (spec_sSeq (spec_sWn [9, 11] (spec_sAsg (spec_op pure_add (spec_var 3) (spec_lc (spec_iRng1 (spec_cons (spec_int 3) spec_nil)) (spec_gName 9) (gk_name (by decide)) spec_tYes (spec_tup (spec_cons (spec_call (spec_cons (spec_var 0) (spec_cons (spec_lst (spec_cons (spec_str "ends") (spec_cons (spec_str "breaks") spec_nil))) spec_nil))) (spec_cons (spec_tupleOf (spec_cb pure_sorted (spec_cons (spec_lc (spec_iSeq (spec_keep false (spec_var 2))) (spec_gName 11) (gk_name (by decide)) spec_tYes (spec_call (spec_cons (spec_var 0) (spec_cons (spec_op pure_add (spec_cb pure_len (spec_cons (spec_var 1) spec_nil)) (spec_int 1)) spec_nil)))) spec_nil))) spec_nil))))) (spec_gName 3)))
 (spec_sSeq (spec_sWn [1, 2, 3, 4, 6, 7, 8, 9] (spec_sFor (spec_iSeq (spec_op pure_add (spec_op pure_add (spec_var 3) (spec_lc (spec_iRng1 (spec_cons (spec_int 12) spec_nil)) (spec_gName 9) (gk_name (by decide)) spec_tYes (spec_call (spec_cons (spec_var 0) (spec_cons (spec_var 1) (spec_cons (spec_call (spec_cons (spec_var 0) (spec_cons (spec_var 3) spec_nil))) spec_nil)))))) (spec_lst (spec_cons spec_none (spec_cons (spec_tup spec_nil) (spec_cons (spec_str "ends") (spec_cons (spec_tup (spec_cons (spec_str "ends") spec_nil)) (spec_cons (spec_tup (spec_cons (spec_str "ends") (spec_cons (spec_tup spec_nil) spec_nil))) (spec_cons (spec_tup (spec_cons (spec_str "breaks") (spec_cons (spec_tup spec_nil) spec_nil))) (spec_cons (spec_int 7) spec_nil)))))))))) (spec_gName 4)
  (spec_sW [4, 7, 8] (spec_sSeq (spec_sPar (spec_cons (spec_call (spec_cons (spec_var 1) (spec_cons (spec_var 2) (spec_cons (spec_var 4) spec_nil)))) (spec_cons (spec_cb pure_reprQ (spec_cons (spec_var 4) spec_nil)) spec_nil)))
 (spec_sSeq (spec_sWn [8] (spec_sIf (spec_tOr (spec_tNot (spec_tB (spec_call (spec_cons (spec_callN (spec_cons (spec_var 1) (spec_cons (spec_var 2) (spec_cons (spec_var 4) spec_nil)))) (spec_cons (spec_var 7) spec_nil))))) (spec_tOr (spec_tNot (spec_tB (spec_call (spec_cons (spec_callNKP [2, 1, 0] (spec_cons (spec_var 4) (spec_cons (spec_var 2) (spec_cons (spec_var 1) spec_nil)))) (spec_cons (spec_var 7) spec_nil))))) (spec_test (spec_op pure_ne (spec_cb pure_reprQ (spec_cons (spec_var 4) spec_nil)) (spec_var 8)))))
  (spec_sRet (spec_bool false))
  spec_sNext))
 (spec_sWn [4, 7] (spec_sIf (spec_tAnd (spec_tB (spec_var 7)) (spec_test (spec_op pure_ne (spec_op pure_ix (spec_var 4) (spec_int 0)) (spec_op pure_ix (spec_var 6) (spec_int 0)))))
  (spec_sRet (spec_bool false))
  spec_sNext)))))))
 (spec_sRet (spec_bool true)))))))))) h

theorem sc_law : FnScope ["script", "k", "feed"] ["script"] (defScope s_law) := ⟨rfl, rfl, rfl, by decide +kernel, rfl, by decide +kernel, by decide +kernel⟩
theorem ok_law {P : Program} {w : World} {K : PySem.W.Frag} {mg : Str → Option Value} {base : Heap} (T : Txt K mg) : OkD P w K mg base 8 "law" ["script"] (spV K false 1 fn_law) := by
  refine okD_mk T.f_law sc_law spV_len (fun _ _ _ _ _ _ us hl => match us, hl with | [_], _ => rfl) (fun _ _ _ _ _ _ us hl => match us, hl with | [_], _ => rfl) fun cdv f A outer s H vs Q E hr h => ?_
  have hu := hr.room.units
  have hgd := hr.gd
  have sc := sc_law
  refine ⟨_, (pss_cons (ps_for PassesOwn.never rfl (pi_range1 (by rfl) T.b_range (pa_cons (pe_callB (call_max2 rfl) (by rfl) T.b_max (by rfl) (pa_cons pe_int (pa_cons (pe_callB (call_min2 rfl) (by rfl) T.b_min (by rfl) (pa_cons (pe_callB (k_len K rfl) (by rfl) T.b_len (by rfl) (pa_cons (pv 0) pa_nil)) (pa_cons pe_int pa_nil))) pa_nil))) pa_nil)) (pg_name (i := 1) sc.nd rfl (by first | exact Or.inl rfl | exact Or.inr rfl))
  (pss_cons (ps_set (i := 2) sc.nd rfl (by first | exact Or.inl rfl | exact Or.inr rfl) (pe_ok (ok__law_feed T) hr (by decide) (pa_cons (pv 0) (pa_cons (pv 1) pa_nil))))
 (pss_one (ps_if (PW.pt (pw_or (pt_not (pt_val (pe_ok (ok__law_right T) hr (by decide) (pa_cons (pv 2) pa_nil)))) (pw_or1 (pt_not (pt_val (pe_ok (ok__law_right T) hr (by decide) (pa_cons (pv 2) pa_nil)))))))
  (pss_one (ps_ret pe_bl))
  pss_nil))))
 (pss_one (ps_ret pe_bl))), ?_⟩
  exact body_spV (B := B_law) rfl (by decide) (spec_sSeq (spec_sWn [0, 1, 2] (spec_sFor (spec_iRng1 (spec_cons (spec_cb pure_max2 (spec_cons (spec_int 2) (spec_cons (spec_cb pure_min2 (spec_cons (spec_cb pure_len (spec_cons (spec_var 0) spec_nil)) (spec_cons (spec_int 4) spec_nil))) spec_nil))) spec_nil)) (spec_gName 1)
  (spec_sW [1, 2] (spec_sSeq (spec_sWn [1] (spec_sAsg (spec_call (spec_cons (spec_var 0) (spec_cons (spec_var 1) spec_nil))) (spec_gName 2)))
 (spec_sWn [2] (spec_sIf (spec_tOr (spec_tNot (spec_tB (spec_call (spec_cons (spec_var 2) spec_nil)))) (spec_tNot (spec_tB (spec_call (spec_cons (spec_var 2) spec_nil)))))
  (spec_sRet (spec_bool false))
  spec_sNext))))))
 (spec_sRet (spec_bool true))) h
end VL
end
section
set_option Elab.async false
set_option linter.all false
set_option maxRecDepth 100000
set_option autoImplicit false
namespace VL
open PySem PySem.Spec PyProof.Rows L2
/-! ### the feed -/
def feedD (a b c : Int) : D := .list [.int a, .int b, .int c]
/-- more than a script's number -/
def hugeN : Nat := 2 ^ 1048640
theorem bits_huge {x : Int} (h : x.natAbs < hugeN) : Builtin.Int.intBits x ≤ 1048640 := intBits_le h
theorem cMul_of {x y : Int} {m n : Nat} (hx : Builtin.Int.intBits x ≤ m) (hy : Builtin.Int.intBits y ≤ n) (h : m + n ≤ 134217728) : cMul x y = true := by
  unfold cMul
  exact Nat.ble_eq_true_of_le (by omega)
theorem bits_of {x : Int} (m : Nat) (h : x.natAbs < 2 ^ m) : Builtin.Int.intBits x ≤ m := intBits_le h
theorem log2_lt {x : Int} (m : Nat) (h : x.natAbs < 2 ^ m) (h0 : 0 < m) : x.natAbs.log2 < m := by
  by_cases q : x.natAbs = 0
  · rw [q]; simpa using h0
  · exact (Nat.log2_lt q).mpr h
theorem cDiv_of {x y : Int} (h0 : 0 < y) (h : y < 1000000000000000000000) : cDiv x y = true := by
  unfold cDiv
  simp only [Bool.and_eq_true, decide_eq_true_eq]
  refine ⟨h0, Nat.lt_of_lt_of_le (log2_lt 70 (by omega) (by omega)) (by omega)⟩
structure FeedOk (n : Nat) (a b c : Int) : Prop where
  a0 : 0 ≤ a
  a1 : a.natAbs < hugeN
  b0 : 0 ≤ b
  b1 : b < 1000000000000000000000000000000000000023
  c0 : 0 ≤ c
  c1 : c ≤ n
theorem FeedOk.mono {m n : Nat} {a b c : Int} (h : FeedOk m a b c) (q : m ≤ n) : FeedOk n a b c := ⟨h.a0, h.a1, h.b0, h.b1, h.c0, by have := h.c1; omega⟩
@[simp] theorem feed_ix0 (a b c : Int) : pIx [feedD a b c, .int 0] = some (.int a, .unq) := nr rfl
@[simp] theorem feed_ix1 (a b c : Int) : pIx [feedD a b c, .int 1] = some (.int b, .unq) := nr rfl
@[simp] theorem feed_ix2 (a b c : Int) : pIx [feedD a b c, .int 2] = some (.int c, .unq) := nr rfl
@[simp] theorem feed_set0 (a b c x : Int) (t : Tag) (env : Env) : storeE 0 0 (.int x, t) (some (feedD a b c, .par) :: env) = .ok (some (feedD x b c, .par) :: env) := nr rfl
@[simp] theorem feed_set2 (a b c x : Int) (t : Tag) (env : Env) : storeE 0 2 (.int x, t) (some (feedD a b c, .par) :: env) = .ok (some (feedD a b x, .par) :: env) := nr rfl
@[simp] theorem pow18 : pPow [.int 10, .int 18] = some (.int 1000000000000000000, .unq) := nr rfl
@[simp] theorem pow39 : pPow [.int 10, .int 39] = some (.int 1000000000000000000000000000000000000000, .unq) := nr rfl
@[simp] theorem pow43 : pPow [.int 10, .int 43] = some (.int 10000000000000000000000000000000000000000000, .unq) := nr rfl
@[simp] theorem pow38 : pPow [.int 10, .int 38] = some (.int 100000000000000000000000000000000000000, .unq) := nr rfl
@[simp] theorem pow9 : pPow [.int 10, .int 9] = some (.int 1000000000, .unq) := nr rfl
theorem draw_spec {n : Nat} {a b c many : Int} (h : FeedOk n a b c) (hn : n ≤ 1000000000) (h0 : 0 < many) (h1 : many ≤ 1000000000) :
    ∃ r a' b' c', fn__law_draw [feedD a b c, .int many] = .ret (.int r) .unq (feedD a' b' c') ∧ 0 ≤ r ∧ r < many ∧ FeedOk (n + 1) a' b' c' := by
  obtain ⟨ha0, ha1, hb0, hb1, hc0, hc1⟩ := h
  have dv : cDiv a many = true := cDiv_of h0 (by omega)
  by_cases q : 0 < a
  · have r0 : 0 ≤ a / many := Int.ediv_nonneg ha0 (by omega)
    have r1 : a / many ≤ a := Int.ediv_le_self _ ha0
    have hm : cMul (a / many) many = true := cMul_of (bits_huge (x := a / many) (by omega)) (bits_of 40 (by omega)) (by omega)
    refine ⟨a - a / many * many, a / many, b, c, ?_, ?_, ?_, r0, by omega, hb0, hb1, hc0, by omega⟩
    · simp [fn__law_draw, fnOf_ap, B__law_draw, S__law_draw_1, S__law_draw_2, S__law_draw_3, S__law_draw_4, S__law_draw_5, S__law_draw_6, pureOf_ap, q, gSetI_ap, pFdiv_int _ _ dv, pMul_int _ _ hm, p0]
    · have e : a - a / many * many = a % many := by rw [Int.emod_def, Int.mul_comm]
      rw [e]; exact Int.emod_nonneg a (by omega)
    · have e : a - a / many * many = a % many := by rw [Int.emod_def, Int.mul_comm]
      rw [e]; exact Int.emod_lt_of_pos a h0
  · have a00 : a = 0 := by omega
    subst a00
    generalize hs : b + 6700417 * (c + 1) = s0
    have s00 : 0 ≤ s0 := by omega
    have s01 : s0 < 10000000000000000000000000000000000000000 := by omega
    have k1 : cMul 6700417 (c + 1) = true := cMul_of (bits_of 40 (by decide)) (bits_of 40 (by omega)) (by omega)
    have b1 : Builtin.Int.intBits s0 ≤ 140 := bits_of 140 (by omega)
    have k2 : cMul s0 s0 = true := cMul_of b1 b1 (by omega)
    have e2 : s0 * s0 < 10000000000000000000000000000000000000000 * 10000000000000000000000000000000000000000 := Int.mul_lt_mul' (by omega) (by omega) s00 (by omega)
    have e20 : 0 ≤ s0 * s0 := Int.mul_nonneg s00 s00
    have k3 : cMul (s0 * s0) s0 = true := cMul_of (bits_of 280 (by omega)) b1 (by omega)
    have k4 : cMul 15485863 (c + 1) = true := cMul_of (bits_of 40 (by decide)) (bits_of 40 (by omega)) (by omega)
    generalize hs1 : (s0 * s0 * s0 + 15485863 * (c + 1)) % 10000000000000000000000000000000000000000057 = s1
    have s10 : 0 ≤ s1 := by rw [← hs1]; exact Int.emod_nonneg _ (by omega)
    have s11 : s1 < 10000000000000000000000000000000000000000057 := by rw [← hs1]; exact Int.emod_lt_of_pos _ (by omega)
    have b3 : Builtin.Int.intBits s1 ≤ 150 := bits_of 150 (by omega)
    have k5 : cMul s1 s1 = true := cMul_of b3 b3 (by omega)
    have e5 : 0 ≤ s1 * s1 := Int.mul_nonneg s10 s10
    generalize hs2 : (s1 * s1 + 32452843) % 100000000000000000000000000000000000133 = s2
    have d9 : cDiv s2 1000000000 = true := cDiv_of (by omega) (by omega)
    refine ⟨s2 / 1000000000 % many, 0, b, c + 1, ?_, Int.emod_nonneg _ (by omega), Int.emod_lt_of_pos _ h0, by omega, ha1, hb0, hb1, by omega, by omega⟩
    simp [fn__law_draw, fnOf_ap, B__law_draw, S__law_draw_1, S__law_draw_2, S__law_draw_3, S__law_draw_4, S__law_draw_5, S__law_draw_6, pureOf_ap, gSetI_ap, p0, pMul_int _ _ k1, hs, pMul_int _ _ k2, pMul_int _ _ k3, pMul_int _ _ k4, pMod_int, hs1, pMul_int _ _ k5, hs2, pFdiv_int _ _ d9, h0]
end VL
end
section
set_option Elab.async false
set_option linter.all false
set_option maxRecDepth 100000
set_option autoImplicit false
namespace VL
open PySem PySem.Spec PyProof.Rows L2
section
variable {env : Env} {i j : Nat} {f g : ER}
@[simp] theorem ePopAt_ap : ePopAt i f env = match env[i]? with
  | some (some (.list _, _)) => (f env).bind fun p => (match p.1.d p.2, p.2[i]? with
    | some (.int j), some (some (.list ds, _)) => if 0 ≤ j ∧ j < ds.length ∧ j < 2 ^ 62 then popE i j.toNat p.2 else .bad
    | _, _ => .bad)
  | _ => .bad := nr rfl
theorem popE_ap (k : Nat) : popE i k env = match env[i]? with
  | some (some (.list ds, ti)) => (match ds[k]? with
    | some d => if ti = .sh then .bad else .ok (.val d (popTag ti d), env.set i (some (.list (ds.eraseIdx k), ti)))
    | none => .bad)
  | _ => .bad := by
  unfold popE atList
  cases env[i]? with
  | none => rfl
  | some o =>
    cases o with
    | none => rfl
    | some q => obtain ⟨d, t⟩ := q; cases d <;> rfl
theorem get_dInts (ns : List Int) (k : Nat) : (dInts ns)[k]? = (ns[k]?).map .int := by simp [dInts]
@[simp] theorem getElem_dInts (ns : List Int) (k : Nat) (h : k < (dInts ns).length) : (dInts ns)[k] = .int (ns[k]'(by simpa using h)) := by simp [dInts]
@[simp] theorem erase_dInts (ns : List Int) (k : Nat) : (dInts ns).eraseIdx k = dInts (ns.eraseIdx k) := by
  simp [dInts, List.eraseIdx_eq_take_drop_succ]
@[simp] theorem set_dInts (ns : List Int) (k : Nat) (x : Int) : (dInts ns).set k (.int x) = dInts (ns.set k x) := by simp [dInts, List.map_set]
@[simp] theorem cut_dInts (ns : List Int) (lo hi : Option Int) : cutD (dInts ns) lo hi = dInts (cutD ns lo hi) := by simp only [cutD, dInts, List.length_map, List.map_take, List.map_drop]
theorem snoc_dInts (ns : List Int) (x : Int) : dInts ns ++ [.int x] = dInts (ns ++ [x]) := by simp [dInts]
@[simp] theorem sl_lst (ns : List Int) (lo hi : Option Int) : pf1 (slD lo hi) [.list (dInts ns)] = some (.list (dInts (cutD ns lo hi)), .unq) := by
  simp [pf1, slD]
@[simp] theorem sl_tup (ns : List Int) (lo hi : Option Int) : pf1 (slD lo hi) [.tuple (dInts ns)] = some (.tuple (dInts (cutD ns lo hi)), .unq) := by
  simp [pf1, slD]
theorem atI_map {α β : Type} (h : α → β) (xs : List α) (i : Int) : atI (xs.map h) i = (atI xs i).map h := by
  unfold atI
  rw [List.length_map]
  cases ixN xs.length i with
  | none => rfl
  | some j => simp
theorem ix_lst {ns : List Int} {i x : Int} (h : atI ns i = some x) : pIx [.list (dInts ns), .int i] = some (.int x, .unq) := by
  simp [pIx, pf2, ixD, dInts, atI_map, h, partTag]
theorem ix_tup {ns : List Int} {i x : Int} (h : atI ns i = some x) : pIx [.tuple (dInts ns), .int i] = some (.int x, .unq) := by
  simp [pIx, pf2, ixD, dInts, atI_map, h, partTag]
theorem atI_nat {α : Type} (xs : List α) (k : Nat) : atI xs (k : Int) = xs[k]? := by
  unfold atI ixN
  rw [if_pos (by omega)]
  by_cases h : k < xs.length
  · rw [if_pos (by omega)]; simp
  · rw [if_neg (by omega)]; simp; omega
theorem atI_of {α : Type} {xs : List α} {i : Int} (h0 : 0 ≤ i) (h1 : i < xs.length) : ∃ x, atI xs i = some x ∧ xs[i.toNat]? = some x := by
  obtain ⟨k, rfl⟩ := Int.eq_ofNat_of_zero_le h0
  rw [atI_nat]
  have : k < xs.length := by omega
  exact ⟨xs[k], by simp [this], by simp [this]⟩
end
@[simp] theorem pList_ints (ns : List Int) : pList [.list (dInts ns)] = some (.list (dInts ns), .unq) := by simp
theorem unqOf_dInts (ns : List Int) : unqOf (dInts ns) = ns.map fun n => (.int n, .unq) := by
  simp [unqOf, dInts, partTag]
theorem unqOf_rng (n : Nat) : unqOf (rngL 0 1 n) = (List.range n).map fun k : Nat => (.int k, .unq) := by
  simp [unqOf, rngL, partTag]
theorem unqOf_rngL (lo : Int) (n : Nat) : unqOf (rngL lo 1 n) = (List.range n).map fun k : Nat => (.int (lo + k), .unq) := by
  simp [unqOf, rngL, partTag]
theorem rng_dInts (lo : Int) (n : Nat) : rngL lo 1 n = dInts ((List.range n).map fun k : Nat => lo + (k : Int)) := by
  simp [rngL, dInts]
theorem inBig_of {j : Int} (h : -4000000000000000000 ≤ j) (h2 : j < 4000000000000000000) : inBig j = true := by
  unfold inBig
  exact Nat.ble_eq_true_of_le (by omega)
@[simp] theorem ensure_noMut_feed (a b c : Int) : noMut (feedD a b c) = false := nr rfl
/-- a def that writes the feed, called -/
theorem call_feed {fn : Fn} {os : List Opd} {ds : List D} {d : D} {a b c a' b' c' : Int} {env : Env} (m : Nat) (h : fn (feedD a b c :: ds) = .ret d .unq (feedD a' b' c')) (h0 : opsD (some (feedD a b c, .par) :: env) (.slot 0 :: os) = some (feedD a b c :: ds)) (h1 : os.length + 1 = m) (h2 : hasSlot os 0 = false) :
    callE true m fn (.slot 0 :: os) (some (feedD a b c, .par) :: env) = .ok (.val d .unq, some (feedD a' b' c', .par) :: env) := by
  rw [callE_ret m h0 (by simpa using h1) (by simp [parOkE, h2, feedD]) h]
  simp [setPar]
theorem setE_free {i : Nat} {env : Env} {o : Option (D × Tag)} (p : D × Tag) (h : env[i]? = some o) (ho : ∀ x, o = some x → x.2 ≠ .par) : setE i p env = .ok (env.set i (some p)) := by
  unfold setE
  rw [h]
  cases o with
  | none => rfl
  | some x =>
    obtain ⟨d, t⟩ := x
    have := ho _ rfl
    cases t <;> first | rfl | exact absurd rfl this
theorem perm_erase {α : Type} {x : α} : ∀ {l : List α} {k : Nat}, l[k]? = some x → (x :: l.eraseIdx k).Perm l
  | [], k, h => by simp at h
  | y :: l, 0, h => by simp at h; subst h; exact List.Perm.refl _
  | y :: l, k + 1, h => by
    have := perm_erase (l := l) (k := k) (by simpa using h)
    exact (List.Perm.swap y x _).trans (this.cons y)
theorem lim_lt {n : Nat} (h : n < 16777216) : n < lim := h
theorem lim_le {n : Nat} (h : n ≤ 16777216) : n ≤ lim := h
theorem mixed_spec {n : Nat} {a b c : Int} {ns : List Int} (h : FeedOk n a b c) (hn : n + ns.length ≤ 1000000000) (hl : ns.length ≤ 1000) :
    ∃ ms a' b' c', fn__law_mixed [feedD a b c, .list (dInts ns)] = .ret (.list (dInts ms)) .unq (feedD a' b' c') ∧ ms.Perm ns ∧ FeedOk (n + ns.length) a' b' c' := by
  have hb : inBig (ns.length : Int) = true := inBig_of (by omega) (by omega)
  have loop := forE_step (g := setE 2) (b := L__law_mixed_1) (e := fun k : Nat => ((.int k, .unq) : D × Tag))
    (fun done env => ∃ a b c ms rest lv, env = [some (feedD a b c, .par), some (.list (dInts ns), .sh), lv, some (.list (dInts rest), .unq), some (.list (dInts ms), .unq)] ∧ (∀ x, lv = some x → x.2 ≠ .par) ∧ FeedOk (n + done.length) a b c ∧ rest.length + done.length = ns.length ∧ (ms ++ rest).Perm ns)
    (l := List.range ns.length) (env := [some (feedD a b c, .par), some (.list (dInts ns), .sh), none, some (.list (dInts ns), .unq), some (.list [], .unq)])
    ⟨a, b, c, [], ns, none, rfl, (fun x hx => by cases hx), by simpa using h, by simp, by simp⟩ ?_
  · obtain ⟨env', h1, a', b', c', ms, rest, lv, rfl, _, h3, h4, h5⟩ := loop
    simp only [List.length_range] at h3 h4
    have : rest = [] := List.length_eq_zero_iff.mp (by omega)
    subst this
    refine ⟨ms, a', b', c', ?_, by simpa using h5, h3⟩
    simp [fn__law_mixed, fnOf_ap, B__law_mixed, pureOf_ap, dispOf_ap, rng1R_int _ hb, unqOf_rng, h1, p0]
  · intro done k tl env hk hI
    obtain ⟨a, b, c, ms, rest, lv, rfl, hlv, h3, h4, h5⟩ := hI
    have hdl : done.length < ns.length := by have := congrArg List.length hk; simp at this; omega
    obtain ⟨r, a', b', c', hd, r0, r1, hF⟩ := draw_spec (many := (rest.length : Int)) h3 (by omega) (by omega) (by omega)
    have r62 : r < 4611686018427387904 := by omega
    have hk2 : r.toNat < rest.length := by omega
    obtain ⟨x, hx0⟩ : ∃ x, rest[r.toNat] = x := ⟨_, rfl⟩
    have hx : rest[r.toNat]? = some x := by rw [List.getElem?_eq_getElem hk2, hx0]
    have hp := perm_erase hx
    have hl2 : ms.length < lim := lim_lt (by have := h5.length_eq; simp at this; omega)
    refine ⟨[some (feedD a' b' c', .par), some (.list (dInts ns), .sh), some (.int k, .unq), some (.list (dInts (rest.eraseIdx r.toNat)), .unq), some (.list (dInts (ms ++ [x])), .unq)], ?_, a', b', c', ms ++ [x], rest.eraseIdx r.toNat, _, rfl, ?_, ?_, ?_, ?_⟩
    · simp only [turnS, L__law_mixed_1]
      rw [setE_free (o := lv) _ rfl hlv]
      simp [pureOf_ap, call_feed (os := [.val (.int rest.length) .unq]) 2 hd, hasSlot, r0, r1, r62, popE_ap, hx0, appendE_ap, popTag, newTag, hl2, snoc_dInts, none1]
    · intro y hy; cases hy; simp
    · have := hF
      simpa [Nat.add_assoc] using this
    · rw [List.length_eraseIdx]
      have : r.toNat < rest.length := by omega
      simp [this]; omega
    · refine List.Perm.trans ?_ h5
      rw [List.append_assoc]
      exact List.Perm.append_left ms hp
end VL
end
section
set_option Elab.async false
set_option linter.all false
set_option maxRecDepth 100000
set_option autoImplicit false
namespace VL
open PySem PySem.Spec PyProof.Rows L2
/-! ### rows -/
def iota (n : Nat) : List Int := (List.range n).map fun k : Nat => (k : Int)
/-- all of 0 .. n - 1, each once -/
structure IsRow (r : List Int) : Prop where
  nd : r.Nodup
  at_ : ∀ x ∈ r, 0 ≤ x ∧ x < r.length
theorem row_iota (n : Nat) : IsRow (iota n) := by
  refine ⟨?_, fun x hx => ?_⟩
  · unfold iota
    rw [List.nodup_iff_pairwise_ne, List.pairwise_map]
    have := List.nodup_range (n := n)
    rw [List.nodup_iff_pairwise_ne] at this
    exact this.imp fun h => by omega
  · unfold iota at *
    simp at hx ⊢
    obtain ⟨a, h, rfl⟩ := hx
    omega
theorem len_iota (n : Nat) : (iota n).length = n := by simp [iota]
theorem IsRow.perm {r s : List Int} (h : IsRow r) (p : s.Perm r) : IsRow s :=
  ⟨p.symm.nodup h.nd, fun x hx => by rw [p.length_eq]; exact h.at_ x (p.mem_iff.mp hx)⟩
theorem rng_iota (n : Nat) : rngL 0 1 n = dInts (iota n) := by
  rw [rng_dInts]; unfold iota; simp
/-! ### the helpers -/
theorem so_spec (x y : Bool) : Gives fn__law_so [.bool x, .bool y] (.bool (x == y)) := by
  simp [Gives, fn__law_so, fnOf_ap, B__law_so, pureOf_ap, okT]
theorem one_spec {n : Nat} {a b c : Int} {ns : List Int} (h : FeedOk n a b c) (hn : n ≤ 1000000000) (h0 : 0 < ns.length) (hl : ns.length ≤ 1000) :
    ∃ x a' b' c', fn__law_one [feedD a b c, .list (dInts ns)] = .ret (.int x) .unq (feedD a' b' c') ∧ x ∈ ns ∧ FeedOk (n + 1) a' b' c' := by
  obtain ⟨r, a', b', c', hd, r0, r1, hF⟩ := draw_spec (many := (ns.length : Int)) h hn (by omega) (by omega)
  obtain ⟨x, hx, hx2⟩ := atI_of (xs := ns) r0 r1
  refine ⟨x, a', b', c', ?_, List.mem_of_getElem? hx2, hF⟩
  simp [fn__law_one, fnOf_ap, B__law_one, pureOf_ap, call_feed (os := [.val (.int ns.length) .unq]) 2 hd, hasSlot, ix_lst hx, p0]
theorem cut_take1 (ns : List Int) : cutD ns none (some 1) = ns.take 1 := by
  unfold cutD
  have h1 : HT.sIx ns.length ns.length (some 1) = min 1 ns.length := HT.sIx_nat ns.length ns.length 1
  rw [h1, HT.sIx_none]
  simp
theorem natAbs_bits {x : Int} {n : Nat} (h : Builtin.Int.intBits x ≤ n) : x.natAbs < 2 ^ n := by
  unfold Builtin.Int.intBits at h
  split at h
  · rename_i q
    have : x = 0 := by simpa using q
    subst this
    simp
    exact Nat.two_pow_pos n
  · rename_i q
    have hx : x.natAbs ≠ 0 := by
      intro z
      have : x = 0 := by omega
      simp [this] at q
    exact Nat.lt_of_lt_of_le ((Nat.log2_lt hx).mp (Nat.lt_succ_self _)) (Nat.pow_le_pow_right (by decide) h)
def scrN : Nat := 2 ^ 1048576
theorem scr_pos : 0 < scrN := Nat.two_pow_pos _
theorem natAbs_scr {x : Int} (h : Builtin.Int.intBits x ≤ 1048576) : x.natAbs < scrN := natAbs_bits h
theorem scr_huge : scrN + 10000000 < hugeN := by
  unfold scrN hugeN
  have : (2 : Nat) ^ 1048640 = 2 ^ 1048576 * 2 ^ 64 := by rw [← Nat.pow_add]
  rw [this]
  generalize hz : (2 : Nat) ^ 1048576 = z
  have : 0 < z := by rw [← hz]; exact Nat.two_pow_pos _
  have e : (2 : Nat) ^ 64 = 18446744073709551616 := by decide
  rw [e]; omega
theorem sum_take1 (ns : List Int) (h : ∀ x ∈ ns, x.natAbs < scrN) : (ns.take 1).sum.natAbs < scrN := by
  cases ns with
  | nil => simpa using scr_pos
  | cons x r =>
    have := h x (List.mem_cons_self ..)
    simpa using this
theorem feed_spec {ns : List Int} {k : Nat} (hb : ∀ x ∈ ns, Builtin.Int.intBits x ≤ 1048576) (hk : k ≤ 1000) :
    ∃ a b c, Gives fn__law_feed [.list (dInts ns), .int k] (feedD a b c) ∧ FeedOk 0 a b c := by
  have hs : ∀ x ∈ ns, x.natAbs < scrN := fun x hx => natAbs_scr (hb x hx)
  have k1 : cMul 977 (k : Int) = true := cMul_of (bits_of 20 (by decide)) (bits_of 20 (by omega)) (by omega)
  have k2 : cMul 7 (k : Int) = true := cMul_of (bits_of 20 (by decide)) (bits_of 20 (by omega)) (by omega)
  -- the cell
  have fin : ∀ cell : Int, cell.natAbs < hugeN → FeedOk 0 (max 0 (cell - 1000000000000000000)) ((cell * 19 + 7 * k) % 1000000000000000000000000000000000000023) 0 := fun cell hc =>
    ⟨by omega, by omega, Int.emod_nonneg _ (by omega), Int.emod_lt_of_pos _ (by omega), by omega, by omega⟩
  have mk : ∀ cell : Int, cell.natAbs < hugeN → cMul cell 19 = true := fun cell hc => cMul_of (bits_huge hc) (bits_of 20 (by decide)) (by omega)
  have hsum := sum_take1 ns hs
  have sh := scr_huge
  generalize hS : scrN = S at *
  by_cases hkl : (k : Int) < ns.length
  · have hkn : k < ns.length := by omega
    have hx : atI ns (k : Int) = some ns[k] := by rw [atI_nat]; simp [hkn]
    have hc : ns[k].natAbs < hugeN := by have := hs ns[k] (List.getElem_mem hkn); omega
    refine ⟨_, _, _, ?_, fin ns[k] hc⟩
    simp [Gives, fn__law_feed, fnOf_ap, B__law_feed, pureOf_ap, dispOf_ap, pMul_int _ _ k1, pMul_int _ _ k2, pMul_int _ _ (mk _ hc), hkl, ix_lst hx, pMod_int, p0, feedD]
  · have hc : (977 * (k : Int) + (ns.take 1).sum).natAbs < hugeN := by omega
    refine ⟨_, _, _, ?_, fin _ hc⟩
    simp [Gives, fn__law_feed, fnOf_ap, B__law_feed, pureOf_ap, dispOf_ap, pMul_int _ _ k1, pMul_int _ _ k2, cut_take1, pMul_int _ _ (mk _ hc), hkl, pMod_int, p0, feedD]
end VL
end
section
set_option Elab.async false
set_option linter.all false
set_option maxRecDepth 100000
set_option autoImplicit false
namespace VL
open PySem PySem.Spec PyProof.Rows L2
theorem perm_of_sub {α : Type} [DecidableEq α] : ∀ {a b : List α}, a.Nodup → (∀ x ∈ a, x ∈ b) → b.length ≤ a.length → a.Perm b
  | [], b, _, _, h => by
    have : b = [] := List.length_eq_zero_iff.mp (by simpa using h)
    rw [this]
  | x :: a, b, hn, hs, hl => by
    rw [List.nodup_cons] at hn
    have hx : x ∈ b := hs x (List.mem_cons_self ..)
    have p1 : b.Perm (x :: b.erase x) := List.perm_cons_erase hx
    have p2 : a.Perm (b.erase x) := perm_of_sub hn.2 (fun y hy => by
      have hyb := hs y (List.mem_cons_of_mem _ hy)
      have hne : y ≠ x := by rintro rfl; exact hn.1 hy
      exact (List.mem_erase_of_ne hne).mpr hyb) (by
      rw [List.length_erase_of_mem hx]
      simp only [List.length_cons] at hl
      omega)
    exact (p2.cons x).trans p1.symm
theorem row_of_perm {r : List Int} (h : r.Perm (iota r.length)) : IsRow r := (row_iota r.length).perm h
theorem row_perm {r : List Int} (h : IsRow r) : r.Perm (iota r.length) := perm_of_sub h.nd (fun x hx => by
  obtain ⟨h1, h2⟩ := h.at_ x hx
  unfold iota
  rw [List.mem_map]
  exact ⟨x.toNat, by simp; omega, by omega⟩) (by rw [len_iota]; exact Nat.le_refl _)
theorem mem_row {r : List Int} (h : IsRow r) {i : Int} (h0 : 0 ≤ i) (h1 : i < r.length) : i ∈ r := by
  refine (row_perm h).mem_iff.mpr ?_
  unfold iota
  rw [List.mem_map]
  exact ⟨i.toNat, by simp; omega, by omega⟩
/-- the row back: at each number its place -/
def IsBack (r s : List Int) : Prop := s.length = r.length ∧ ∀ (i : Nat) (x : Int), r[i]? = some x → s[x.toNat]? = some (i : Int)
theorem back_row {r s : List Int} (h : IsRow r) (b : IsBack r s) : IsRow s := by
  refine row_of_perm (List.Perm.symm ?_)
  refine perm_of_sub (row_iota _).nd (fun x hx => ?_) (by rw [len_iota]; exact Nat.le_refl _)
  unfold iota at hx
  rw [List.mem_map] at hx
  obtain ⟨k, hk, rfl⟩ := hx
  rw [List.mem_range, b.1] at hk
  exact List.mem_of_getElem? (b.2 k r[k] (List.getElem?_eq_getElem hk))
theorem enumL_dInts (r : List Int) : enumL (dInts r) = r.zipIdx.map fun p : Int × Nat => ((.tuple [.int p.2, .int p.1], .unq) : D × Tag) := by
  unfold enumL dInts
  apply List.ext_getElem
  · simp
  · intro i h1 h2
    simp [pairT]
theorem rep_zeros (n : Nat) (h : n ≤ 1000) : pMul [.list [.int 0], .int n] = some (.list (dInts (List.replicate n 0)), .unq) := by
  have e : repN (n : Int) [PyData.int 0] = dInts (List.replicate n 0) := by
    unfold repN dInts
    simp [List.flatten_replicate_singleton]
  have c1 : Nat.ble (n : Int).natAbs 9223372036854775807 = true := Nat.ble_eq_true_of_le (by omega)
  have c2 : Nat.ble ([PyData.int 0].length * (n : Int).toNat) lim = true := Nat.ble_eq_true_of_le (by
    have : (1000 : Nat) ≤ lim := by decide
    simp; omega)
  show (if Nat.ble (n : Int).natAbs 9223372036854775807 && Nat.ble ([PyData.int 0].length * (n : Int).toNat) lim then some (PyData.list (repN n [.int 0]), lTag (repN n [.int 0])) else none) = _
  rw [if_pos (by rw [c1, c2]; rfl), e, lTag_ints]
theorem ixN_of {n : Nat} {x : Int} (h0 : 0 ≤ x) (h1 : x < n) : ixN n x = some x.toNat := by
  unfold ixN
  rw [if_pos h0, if_pos h1]
theorem zip_at {r : List Int} {done tl : List (Int × Nat)} {x : Int} {i : Nat} (h : r.zipIdx = done ++ (x, i) :: tl) : i = done.length ∧ r[i]? = some x := by
  have e : r.zipIdx[done.length]? = some (x, i) := by rw [h]; simp
  rw [List.getElem?_zipIdx] at e
  cases q : r[done.length]? with
  | none => rw [q] at e; cases e
  | some y =>
    rw [q] at e
    simp at e
    obtain ⟨rfl, rfl⟩ := e
    exact ⟨rfl, q⟩
theorem back_spec {r : List Int} (h : IsRow r) (hl : r.length ≤ 1000) : ∃ s, Gives fn__law_back [.list (dInts r)] (.tuple (dInts s)) ∧ IsBack r s := by
  have loop := forE_step (g := gUnF 2 (gsCons (setE 2) (gsCons (setE 3) gsNil))) (b := L__law_back_1) (e := fun p : Int × Nat => ((.tuple [.int p.2, .int p.1], .unq) : D × Tag))
    (fun done env => ∃ acc l2 l3, env = [none, some (.list (dInts acc), .unq), l2, l3] ∧ (∀ x, l2 = some x → x.2 ≠ .par) ∧ (∀ x, l3 = some x → x.2 ≠ .par) ∧ acc.length = r.length ∧ ∀ p ∈ done, acc[p.1.toNat]? = some (p.2 : Int))
    (l := r.zipIdx) (env := [none, some (.list (dInts (List.replicate r.length 0)), .unq), none, none])
    ⟨_, none, none, rfl, (fun x hx => by cases hx), (fun x hx => by cases hx), by simp, fun p hp => by cases hp⟩ ?_
  · obtain ⟨env', h1, acc, l2, l3, rfl, _, _, h4, h5⟩ := loop
    refine ⟨acc, ?_, h4, fun i x hx => h5 (x, i) ?_⟩
    · simp [Gives, fn__law_back, fnOf_ap, B__law_back, pureOf_ap, dispOf_ap, rep_zeros _ hl, enumL_dInts, h1]
    · refine List.mem_of_getElem? (i := i) ?_
      rw [List.getElem?_zipIdx, hx]; simp
  · intro done p tl env hk hI
    obtain ⟨x, i⟩ := p
    obtain ⟨acc, l2, l3, rfl, g2, g3, h4, h5⟩ := hI
    obtain ⟨e1, e2⟩ := zip_at hk
    obtain ⟨x0, x1⟩ := h.at_ x (List.mem_of_getElem? e2)
    refine ⟨[none, some (.list (dInts (acc.set x.toNat i)), .unq), some (.int i, .unq), some (.int x, .unq)], ?_, acc.set x.toNat i, _, _, rfl, ?_, ?_, by simpa using h4, fun q hq => ?_⟩
    · simp only [turnS, L__law_back_1, gUnF_tup, List.length_cons, List.length_nil, if_true]
      simp only [List.map_cons, List.map_nil, gsCons_ap]
      rw [setE_free (o := l2) _ rfl g2]
      simp only [bind_ok, List.set_cons_succ, List.set_cons_zero]
      rw [setE_free (o := l3) _ rfl g3]
      simp [pureOf_ap, gSetI_ap, storeE_ap, ixN_of (n := acc.length) x0 (by omega), setTag, partTag]
    · intro y hy; cases hy; simp
    · intro y hy; cases hy; simp
    · rcases List.mem_append.mp hq with hq | hq
      · rw [List.getElem?_set]
        have hne : x.toNat ≠ q.1.toNat := by
          intro z
          obtain ⟨m, hm⟩ := List.getElem?_of_mem hq
          have hml := (List.getElem?_eq_some_iff.mp hm).1
          have : r.zipIdx[m]? = some q := by rw [hk, List.getElem?_append_left hml]; exact hm
          rw [List.getElem?_zipIdx] at this
          cases w : r[m]? with
          | none => rw [w] at this; cases this
          | some y =>
            rw [w] at this
            simp at this
            subst this
            obtain ⟨y0, y1⟩ := h.at_ y (List.mem_of_getElem? w)
            simp only at z
            have : x = y := by omega
            subst this
            have hnd := h.nd
            obtain ⟨w1, w2⟩ := List.getElem?_eq_some_iff.mp w
            obtain ⟨v1, v2⟩ := List.getElem?_eq_some_iff.mp e2
            rw [List.nodup_iff_pairwise_ne, List.pairwise_iff_getElem] at hnd
            exact hnd m i w1 v1 (by omega) (w2.trans v2.symm)
        rw [if_neg hne]
        exact h5 q hq
      · simp at hq
        subst hq
        have : x.toNat < acc.length := by omega
        simp [this]
end VL
end
section
set_option Elab.async false
set_option linter.all false
set_option maxRecDepth 100000
set_option autoImplicit false
namespace VL
open PySem PySem.Spec PyProof.Rows L2
/-! ### heaps put beside or above one another -/
theorem row_beside {a b : List Int} (ha : IsRow a) (hb : IsRow b) : IsRow (a ++ b.map fun x => x + (a.length : Int)) := by
  refine ⟨?_, fun x hx => ?_⟩
  · rw [List.nodup_append]
    refine ⟨ha.nd, ?_, fun x hx y hy => ?_⟩
    · rw [List.nodup_iff_pairwise_ne, List.pairwise_map]
      have := hb.nd
      rw [List.nodup_iff_pairwise_ne] at this
      exact this.imp fun h => by omega
    · rw [List.mem_map] at hy
      obtain ⟨z, hz, rfl⟩ := hy
      have := ha.at_ x hx
      have := hb.at_ z hz
      omega
  · rw [List.length_append, List.length_map]
    rcases List.mem_append.mp hx with hx | hx
    · have := ha.at_ x hx; omega
    · rw [List.mem_map] at hx
      obtain ⟨z, hz, rfl⟩ := hx
      have := hb.at_ z hz
      omega
theorem row_above {a b : List Int} (ha : IsRow a) (hb : IsRow b) : IsRow ((a.map fun x => x + (b.length : Int)) ++ b) :=
  (row_beside hb ha).perm List.perm_append_comm
def dLL (hs : List (List Int)) : List D := hs.map fun h => .list (dInts h)
@[simp] theorem len_dLL (hs : List (List Int)) : (dLL hs).length = hs.length := by simp [dLL]
@[simp] theorem get_dLL (hs : List (List Int)) (k : Nat) (h : k < (dLL hs).length) : (dLL hs)[k] = .list (dInts (hs[k]'(by simpa using h))) := by simp [dLL]
@[simp] theorem erase_dLL (hs : List (List Int)) (k : Nat) : (dLL hs).eraseIdx k = dLL (hs.eraseIdx k) := by simp [dLL, List.eraseIdx_eq_take_drop_succ]
theorem snoc_dLL (hs : List (List Int)) (x : List Int) : dLL hs ++ [.list (dInts x)] = dLL (hs ++ [x]) := by simp [dLL]
@[simp] theorem pAdd_lsts {a b : List Int} (h : a.length + b.length ≤ 1000000) : pAdd [.list (dInts a), .list (dInts b)] = some (.list (dInts (a ++ b)), .unq) := by
  have : a.length + b.length ≤ lim := Nat.le_trans h (by decide)
  simp [pAdd, pf2, addD, this]
@[simp] theorem pAdd_tups {a b : List Int} (h : a.length + b.length ≤ 1000000) : pAdd [.tuple (dInts a), .tuple (dInts b)] = some (.tuple (dInts (a ++ b)), .unq) := by
  have : a.length + b.length ≤ lim := Nat.le_trans h (by decide)
  simp [pAdd, pf2, addD, this]
theorem ints_back (l : List Int) (f : Int → Int) : (l.map fun x => ((.int (f x), .unq) : D × Tag)).map (·.1) = dInts (l.map f) := by simp [dInts]
theorem acc_unq {α : Type} (l : List α) (f : α → D) : accTag (l.map fun x => (f x, Tag.unq)) = .unq := by
  unfold accTag allUnq
  simp
/-- one popped: the others' sum and count -/
theorem erase_sum {hs : List (List Int)} {k : Nat} (h : k < hs.length) : ((hs.eraseIdx k).map List.length).sum + hs[k].length = (hs.map List.length).sum := by
  induction hs generalizing k with
  | nil => simp at h
  | cons x hs ih =>
    cases k with
    | zero => simp [Nat.add_comm]
    | succ k =>
      have := ih (k := k) (by simpa using h)
      simp only [List.eraseIdx_cons_succ, List.map_cons, List.sum_cons, List.getElem_cons_succ]
      omega
/-- a draw and a pop from the heaps -/
theorem pop_heap {n : Nat} {a b c : Int} {hs : List (List Int)} {t : Option (D × Tag)} {e3 e4 e5 e6 : Option (D × Tag)} {m : Option (D × Tag)} (h : FeedOk n a b c) (hn : n ≤ 1000000000) (h0 : 0 < hs.length) (hl : hs.length ≤ 1000) :
    ∃ k a' b' c', ∃ hk : k < hs.length, FeedOk (n + 1) a' b' c' ∧ ePopAt 2 (eCall true 2 fn__law_draw (aCons (eVar 0) (aCons (ePure pLen (aCons (eVar 2) aNil)) aNil))) [some (feedD a b c, .par), m, some (.list (dLL hs), .unq), e3, e4, e5, e6] =
      .ok (.val (.list (dInts hs[k])) .unq, [some (feedD a' b' c', .par), m, some (.list (dLL (hs.eraseIdx k)), .unq), e3, e4, e5, e6]) := by
  obtain ⟨r, a', b', c', hd, r0, r1, hF⟩ := draw_spec (many := (hs.length : Int)) h hn (by omega) (by omega)
  have r62 : r < 4611686018427387904 := by omega
  have hk : r.toNat < hs.length := by omega
  refine ⟨r.toNat, a', b', c', hk, hF, ?_⟩
  simp [pureOf_ap, call_feed (os := [.val (.int hs.length) .unq]) 2 hd, hasSlot, r0, r1, r62, popE_ap, hk, popTag]
/-- all of a list's numbers, the same put to each -/
theorem shift_lc {env : Env} {i j : Nat} {l o : List Int} {t : Tag} (hj : j < env.length) (hne : i ≠ j) (hi : env[i]? = some (some (.list (dInts o), t))) (hij : i < env.length) :
    lcE (setE j) tYesF (ePure2 pAdd (eVar j) (ePure pLen (aCons (eVar i) aNil))) [j] (l.map fun n => ((.int n, .unq) : D × Tag)) (env.set j none) = .ok (l.map fun n => ((.int (n + o.length), .unq) : D × Tag), env.set j none) := by
  refine lcE_all (e := fun n : Int => ((.int n, .unq) : D × Tag)) (f := fun n : Int => ((.int (n + o.length), .unq) : D × Tag)) fun n hn => ?_
  have e1 : (env.set j (some (.int n, .unq)))[i]? = some (some (.list (dInts o), t)) := by rw [List.getElem?_set_ne (Ne.symm hne)]; exact hi
  have e2 : (env.set j (some (PyData.int n, Tag.unq)))[j]? = some (some (.int n, .unq)) := List.getElem?_set_self hj
  simp [turnE, pureOf_ap, List.getElem?_set_self hj, e1, e2, List.set_set]
theorem fst_map {α : Type} (l : List α) (f : α → D) (t : Tag) : (l.map fun a => ((f a, t) : D × Tag)).map (fun x => x.1) = l.map f := by
  rw [List.map_map]; rfl
theorem ints_map (l : List Int) (f : Int → Int) : l.map (fun x => PyData.int (f x)) = dInts (l.map f) := by simp [dInts]
theorem reps (n : Nat) : (List.range n).map (fun _ : Nat => (PyData.list (dInts [0]) : D)) = dLL (List.replicate n [0]) := by
  simp [dLL, List.map_const']
theorem heaped_spec {n : Nat} {a b c : Int} {many : Nat} (h : FeedOk n a b c) (hn : n ≤ 900000000) (hm : many ≤ 1000) :
    ∃ r a' b' c', fn__law_heaped [feedD a b c, .int many] = .ret (.list (dInts r)) .unq (feedD a' b' c') ∧ IsRow r ∧ r.length = many ∧ FeedOk (n + 3 * many) a' b' c' := by
  have hb : inBig (many : Int) = true := inBig_of (by omega) (by omega)
  have hb1 : inBig ((many : Int) - 1) = true := inBig_of (by omega) (by omega)
  have first : lcE (setE 5) tYesF (eLst (aCons (eC (.int 0)) aNil)) [5] ((List.range many).map fun k : Nat => ((.int k, .unq) : D × Tag)) [some (feedD a b c, .par), some (.int many, .unq), none, none, none, none, none] =
      .ok ((List.range many).map fun _ : Nat => ((.list (dInts [0]), .unq) : D × Tag), [some (feedD a b c, .par), some (.int many, .unq), none, none, none, none, none]) := by
    refine lcE_all (e := fun k : Nat => ((.int k, .unq) : D × Tag)) (f := fun _ : Nat => ((.list (dInts [0]), .unq) : D × Tag)) fun k hk => ?_
    simp [turnE, dispOf_ap, dInts]
  have loop := forE_step (g := setE 5) (b := L__law_heaped_1) (e := fun k : Nat => ((.int k, .unq) : D × Tag))
    (fun done env => ∃ a b c hs l3 l4 l5, env = [some (feedD a b c, .par), some (.int many, .unq), some (.list (dLL hs), .unq), l3, l4, l5, none] ∧ (l3 = none ∨ ∃ d, l3 = some (d, .unq)) ∧ (l4 = none ∨ ∃ d, l4 = some (d, .unq)) ∧ (∀ x, l5 = some x → x.2 ≠ .par) ∧ FeedOk (n + 3 * done.length) a b c ∧
      hs.length + done.length = many ∧ (hs.map List.length).sum = many ∧ ∀ r ∈ hs, IsRow r)
    (l := List.range (many - 1)) (env := [some (feedD a b c, .par), some (.int many, .unq), some (.list (dLL (List.replicate many [0])), .unq), none, none, none, none])
    ⟨a, b, c, _, none, none, none, rfl, .inl rfl, .inl rfl, (fun x hx => by cases hx), by simpa using h, by simp, by simp, fun r hr => by
      rw [List.mem_replicate] at hr
      rw [hr.2]
      exact ⟨by simp, fun x hx => by simp at hx; subst hx; simp⟩⟩ ?_
  · obtain ⟨env', h1, a', b', c', hs, l3, l4, l5, rfl, _, _, _, g4, g5, g6, g7⟩ := loop
    rw [List.length_range] at g4 g5
    have e1 : ((many : Int) - 1 - 0).toNat = many - 1 := by omega
    have e2 : ((many : Int) - 1).toNat = many - 1 := by omega
    by_cases h0 : 0 < many
    · have hl1 : hs.length = 1 := by omega
      match hs, hl1 with
      | [r], _ =>
        refine ⟨r, a', b', c', ?_, g7 r (by simp), by simpa using g6, g4.mono (by omega)⟩
        have hz : (0 : Int) < many := by omega
        have hat : atI (dLL [r]) 0 = some (.list (dInts r)) := rfl
        simp [fn__law_heaped, fnOf_ap, B__law_heaped, pureOf_ap, dispOf_ap, rng1R_int _ hb, unqOf_rng, noPar_ap, h0, lim_le (show many ≤ 16777216 by omega), first, fst_map, acc_unq, reps, -List.map_map, -List.map_const, rng1R_int _ hb1, e2, h1, hz, ixMR_ap, hat, partTag, p0]
    · refine ⟨[], a', b', c', ?_, ⟨by simp, fun x hx => by cases hx⟩, by simp; omega, g4.mono (by omega)⟩
      show _ = FRes.ret (.list []) .unq _
      simp [fn__law_heaped, fnOf_ap, B__law_heaped, pureOf_ap, dispOf_ap, rng1R_int _ hb, unqOf_rng, noPar_ap, h0, lim_le (show many ≤ 16777216 by omega), first, fst_map, acc_unq, reps, -List.map_map, -List.map_const, rng1R_int _ hb1, e2, h1, p0]
  · intro done k tl env hk hI
    obtain ⟨a, b, c, hs, l3, l4, l5, rfl, g1, g2, g3, g4, g5, g6, g7⟩ := hI
    have hdl : done.length < many - 1 := by have := congrArg List.length hk; simp at this; omega
    obtain ⟨k1, a1, b1, c1, hk1, f1, p1⟩ := pop_heap (hs := hs) (m := some (.int many, .unq)) (e3 := l3) (e4 := l4) (e5 := some (.int k, .unq)) (e6 := none) (t := none) g4 (by omega) (by omega) (by omega)
    have hl2 : (hs.eraseIdx k1).length = hs.length - 1 := by rw [List.length_eraseIdx]; simp [hk1]
    obtain ⟨k2, a2, b2, c2, hk2, f2, p2⟩ := pop_heap (hs := hs.eraseIdx k1) (m := some (.int many, .unq)) (e3 := some (.list (dInts hs[k1]), .unq)) (e4 := l4) (e5 := some (.int k, .unq)) (e6 := none) (t := none) f1 (by omega) (by omega) (by omega)
    obtain ⟨r, a3, b3, c3, hd, r0, r1, f3⟩ := draw_spec (many := 2) f2 (by omega) (by omega) (by omega)
    have s1 := erase_sum hk1
    have s2 := erase_sum hk2
    generalize hA : hs[k1] = A at *
    generalize hB : (hs.eraseIdx k1)[k2] = B at *
    have rA : IsRow A := by rw [← hA]; exact g7 _ (List.getElem_mem _)
    have rB : IsRow B := by rw [← hB]; exact g7 _ ((List.eraseIdx_sublist ..).subset (List.getElem_mem _))
    have lA : A.length ≤ many := by omega
    have lB : B.length ≤ many := by omega
    have hlim : ((hs.eraseIdx k1).eraseIdx k2).length < lim := lim_lt (by
      have := List.length_eraseIdx_le (hs.eraseIdx k1) k2
      omega)
    have hl3 : ((hs.eraseIdx k1).eraseIdx k2).length = hs.length - 2 := by
      rw [List.length_eraseIdx, if_pos hk2, hl2]; omega
    have shB := shift_lc (env := [some (feedD a3 b3 c3, .par), some (.int many, .unq), some (.list (dLL ((hs.eraseIdx k1).eraseIdx k2)), .unq), some (.list (dInts A), .unq), none, some (.int k, .unq), none]) (i := 3) (j := 6) (l := B) (o := A) (t := .unq) (by simp) (by omega) rfl (by simp)
    have shA := shift_lc (env := [some (feedD a3 b3 c3, .par), some (.int many, .unq), some (.list (dLL ((hs.eraseIdx k1).eraseIdx k2)), .unq), none, some (.list (dInts B), .unq), some (.int k, .unq), none]) (i := 4) (j := 6) (l := A) (o := B) (t := .unq) (by simp) (by omega) rfl (by simp)
    simp only [List.set_cons_succ, List.set_cons_zero] at shA shB
    have rest_ok : ∀ C : List Int, IsRow C → C.length = A.length + B.length → (((hs.eraseIdx k1).eraseIdx k2) ++ [C]).length + (done ++ [k]).length = many ∧ ((((hs.eraseIdx k1).eraseIdx k2) ++ [C]).map List.length).sum = many ∧ ∀ r ∈ ((hs.eraseIdx k1).eraseIdx k2) ++ [C], IsRow r := fun C hC hl => by
      refine ⟨by simp; omega, by simp; omega, fun r hr => ?_⟩
      rcases List.mem_append.mp hr with hr | hr
      · exact g7 r ((List.eraseIdx_sublist ..).subset ((List.eraseIdx_sublist ..).subset hr))
      · simp at hr; subst hr; exact hC
    have f4 : FeedOk (n + 3 * (done ++ [k]).length) a3 b3 c3 := f3.mono (by simp; omega)
    by_cases hr : r = 0
    · subst hr
      obtain ⟨q1, q2, q3⟩ := rest_ok _ (row_beside rA rB) (by simp)
      refine ⟨[some (feedD a3 b3 c3, .par), some (.int many, .unq), some (.list (dLL (((hs.eraseIdx k1).eraseIdx k2) ++ [A ++ B.map fun x => x + (A.length : Int)])), .unq), some (.list (dInts A), .unq), none, some (.int k, .unq), none], ?_, a3, b3, c3, _, _, _, _, rfl, .inr ⟨_, rfl⟩, .inl rfl, (fun x hx => by cases hx; simp), f4, q1, q2, q3⟩
      simp only [turnS, L__law_heaped_1]
      rw [setE_free (o := l5) _ rfl g3]
      rcases g1 with rfl | ⟨d3, rfl⟩ <;> rcases g2 with rfl | ⟨d4, rfl⟩ <;>
        simp [p1, p2, -ePopAt_ap, pureOf_ap, call_feed (os := [.val (.int 2) .unq]) 2 hd, hasSlot, noPar_ap, unqOf_dInts, lim_le (show B.length ≤ 16777216 by omega), shB, fst_map, acc_unq, -List.map_map, ints_map, pAdd_lsts (show A.length + (B.map fun x => x + (A.length : Int)).length ≤ 1000000 by simp; omega), appendE_ap, newTag, hlim, snoc_dLL, none1]
    · obtain ⟨q1, q2, q3⟩ := rest_ok _ (row_above rA rB) (by simp)
      refine ⟨[some (feedD a3 b3 c3, .par), some (.int many, .unq), some (.list (dLL (((hs.eraseIdx k1).eraseIdx k2) ++ [(A.map fun x => x + (B.length : Int)) ++ B])), .unq), none, some (.list (dInts B), .unq), some (.int k, .unq), none], ?_, a3, b3, c3, _, _, _, _, rfl, .inl rfl, .inr ⟨_, rfl⟩, (fun x hx => by cases hx; simp), f4, q1, q2, q3⟩
      simp only [turnS, L__law_heaped_1]
      rw [setE_free (o := l5) _ rfl g3]
      rcases g1 with rfl | ⟨d3, rfl⟩ <;> rcases g2 with rfl | ⟨d4, rfl⟩ <;>
        simp [p1, p2, -ePopAt_ap, pureOf_ap, call_feed (os := [.val (.int 2) .unq]) 2 hd, hr, hasSlot, noPar_ap, unqOf_dInts, lim_le (show A.length ≤ 16777216 by omega), shA, fst_map, acc_unq, -List.map_map, ints_map, pAdd_lsts (show (A.map fun x => x + (B.length : Int)).length + B.length ≤ 1000000 by simp; omega), appendE_ap, newTag, hlim, snoc_dLL, none1]
end VL
end
section
set_option Elab.async false
set_option linter.all false
set_option maxRecDepth 100000
set_option autoImplicit false
namespace VL
open PySem PySem.Spec PyProof.Rows L2
theorem set_perm {α : Type} {a b : α} : ∀ {r : List α} {p : Nat}, r[p]? = some a → (a :: r.set p b).Perm (b :: r)
  | [], p, h => by simp at h
  | x :: r, 0, h => by simp at h; subst h; exact List.Perm.swap ..
  | x :: r, p + 1, h => by
    have ih := set_perm (b := b) (r := r) (p := p) (by simpa using h)
    exact (List.Perm.swap x a _).trans ((ih.cons x).trans (List.Perm.swap b x r))
theorem swap_perm {α : Type} {a b : α} {r : List α} {p q : Nat} (hp : r[p]? = some a) (hq : r[q]? = some b) : ((r.set p b).set q a).Perm r := by
  have h1 := set_perm (b := b) hp
  have hq2 : (r.set p b)[q]? = some b := by
    rw [List.getElem?_set]
    split
    · split
      · rfl
      · rename_i z1 z2
        have := (List.getElem?_eq_some_iff.mp hp).1
        omega
    · exact hq
  have h2 := set_perm (b := a) hq2
  exact List.Perm.cons_inv (h2.trans h1)
/-- the state of _law_row behind its first parts -/
def rowEnv (F : D) (many : Int) (l2 : Option (D × Tag)) (r : List Int) (t : Tag) (w : Int) (l5 l6 l7 l8 l9 : Option (D × Tag)) : Env :=
  [some (F, .par), some (.int many, .unq), l2, some (.list (dInts r), t), some (.int w, .unq), l5, l6, l7, l8, l9, none]
def NoPar (o : Option (D × Tag)) : Prop := ∀ x, o = some x → x.2 ≠ .par
theorem noPar_none : NoPar none := fun x hx => by cases hx
theorem noPar_unq (d : D) : NoPar (some (d, .unq)) := fun x hx => by cases hx; simp
theorem swap_st {F : D} {many : Int} {l2 l5 l6 l7 l8 l9 : Option (D × Tag)} {r : List Int} {w : Int} {p q : Int} {ep eq : ER} (hp0 : 0 ≤ p) (hp1 : p < r.length) (hq0 : 0 ≤ q) (hq1 : q < r.length)
    (hp : ∀ r', ep (rowEnv F many l2 r' .unq w l5 l6 l7 l8 l9) = .ok (.val (.int p) .unq, rowEnv F many l2 r' .unq w l5 l6 l7 l8 l9) ∨ ∃ i, ep (rowEnv F many l2 r' .unq w l5 l6 l7 l8 l9) = .ok (.slot i, rowEnv F many l2 r' .unq w l5 l6 l7 l8 l9) ∧ (rowEnv F many l2 r' .unq w l5 l6 l7 l8 l9)[i]? = some (some (.int p, .unq)))
    (hq : ∀ r', eq (rowEnv F many l2 r' .unq w l5 l6 l7 l8 l9) = .ok (.val (.int q) .unq, rowEnv F many l2 r' .unq w l5 l6 l7 l8 l9) ∨ ∃ i, eq (rowEnv F many l2 r' .unq w l5 l6 l7 l8 l9) = .ok (.slot i, rowEnv F many l2 r' .unq w l5 l6 l7 l8 l9) ∧ (rowEnv F many l2 r' .unq w l5 l6 l7 l8 l9)[i]? = some (some (.int q, .unq))) :
    ∃ r', sAsg (eTup (aCons (ePure2 pIx (eVar 3) eq) (aCons (ePure2 pIx (eVar 3) ep) aNil))) (gUnF 2 (gsCons (gSetI 3 ep) (gsCons (gSetI 3 eq) gsNil))) (rowEnv F many l2 r .unq w l5 l6 l7 l8 l9) = .nx (rowEnv F many l2 r' .unq w l5 l6 l7 l8 l9) ∧ r'.Perm r := by
  obtain ⟨x, hx, hx2⟩ := atI_of hp0 hp1
  obtain ⟨y, hy, hy2⟩ := atI_of hq0 hq1
  have e3 : ∀ r', (rowEnv F many l2 r' .unq w l5 l6 l7 l8 l9)[3]? = some (some (.list (dInts r'), .unq)) := fun r' => rfl
  have st3 : ∀ r' (z : Option (D × Tag)) r'', z = some (.list (dInts r''), .unq) → (rowEnv F many l2 r' .unq w l5 l6 l7 l8 l9).set 3 z = rowEnv F many l2 r'' .unq w l5 l6 l7 l8 l9 := fun r' z r'' e => by rw [e]; rfl
  -- the place of an index expression
  have dp : ∀ r', ∃ o, ep (rowEnv F many l2 r' .unq w l5 l6 l7 l8 l9) = .ok (o, rowEnv F many l2 r' .unq w l5 l6 l7 l8 l9) ∧ o.d (rowEnv F many l2 r' .unq w l5 l6 l7 l8 l9) = some (.int p) := fun r' => by
    rcases hp r' with h | ⟨i, h, h2⟩
    · exact ⟨_, h, rfl⟩
    · exact ⟨_, h, by simp [h2]⟩
  have dq : ∀ r', ∃ o, eq (rowEnv F many l2 r' .unq w l5 l6 l7 l8 l9) = .ok (o, rowEnv F many l2 r' .unq w l5 l6 l7 l8 l9) ∧ o.d (rowEnv F many l2 r' .unq w l5 l6 l7 l8 l9) = some (.int q) := fun r' => by
    rcases hq r' with h | ⟨i, h, h2⟩
    · exact ⟨_, h, rfl⟩
    · exact ⟨_, h, by simp [h2]⟩
  obtain ⟨o1, p1, p2⟩ := dp r
  obtain ⟨o2, q1, q2⟩ := dq r
  obtain ⟨o3, p3, p4⟩ := dp (r.set p.toNat y)
  obtain ⟨o4, q3, q4⟩ := dq (r.set p.toNat y)
  refine ⟨(r.set p.toNat y).set q.toNat x, ?_, swap_perm hx2 hy2⟩
  have ev : eTup (aCons (ePure2 pIx (eVar 3) eq) (aCons (ePure2 pIx (eVar 3) ep) aNil)) (rowEnv F many l2 r .unq w l5 l6 l7 l8 l9) = .ok (.val (.tuple [.int y, .int x]) .unq, rowEnv F many l2 r .unq w l5 l6 l7 l8 l9) := by
    simp [e3, q1, p1, pureOf_ap, p2, q2, ix_lst hx, ix_lst hy, dispOf_ap]
  have s1 : gSetI 3 ep (.int y, .unq) (rowEnv F many l2 r .unq w l5 l6 l7 l8 l9) = .ok (rowEnv F many l2 (r.set p.toNat y) .unq w l5 l6 l7 l8 l9) := by
    simp [gSetI_ap, e3, p1, p2, storeE_ap, ixN_of hp0 hp1, setTag, st3 _ _ (r.set p.toNat y)]
  have s2 : gSetI 3 eq (.int x, .unq) (rowEnv F many l2 (r.set p.toNat y) .unq w l5 l6 l7 l8 l9) = .ok (rowEnv F many l2 ((r.set p.toNat y).set q.toNat x) .unq w l5 l6 l7 l8 l9) := by
    simp [gSetI_ap, e3, q3, q4, storeE_ap, ixN_of hq0 (by simpa using hq1), setTag, st3 _ _ ((r.set p.toNat y).set q.toNat x)]
  simp only [sAsg_ap, ev, out_ok, gUnF_tup, List.length_cons, List.length_nil, if_true, List.map_cons, List.map_nil, gsCons_ap, gsNil_ap]
  have pt : ∀ z : Int, partTag .unq (PyData.int z) = .unq := fun z => rfl
  rw [pt, pt, s1, bind_ok, s2, bind_ok, out_ok]
theorem row3_spec {n : Nat} {a b c : Int} {many : Nat} {l8 l9 : Option (D × Tag)} {r : List Int} {w : Int} (h : FeedOk n a b c) (hn : n ≤ 800000000) (hm : many ≤ 1000) (hr : IsRow r) (hl : r.length = many) :
    ∃ a' b' c' r' l2 l5, S__law_row_3 (rowEnv (feedD a b c) many none r .unq w none none none l8 l9) = .nx (rowEnv (feedD a' b' c') many l2 r' .unq w l5 none none l8 l9) ∧ NoPar l2 ∧ NoPar l5 ∧ FeedOk (n + 7) a' b' c' ∧ IsRow r' ∧ r'.length = many := by
  -- the number of turns
  have cnt : ∃ (k : Nat) (a' b' c' : Int), iRng1E (aCons (eIf (tAndF (tOfE (ePure2 pGt (eVar 4) (eC (.int 5)))) (tOfE (ePure2 pGt (eVar 1) (eC (.int 1))))) (eCall true 2 fn__law_one (aCons (eVar 0) (aCons (eLst (aCons (eC (.int 0)) (aCons (eC (.int 1)) (aCons (eC (.int 2)) (aCons (eC (.int 3)) (aCons (eC (.int 6)) aNil)))))) aNil))) (eC (.int 0))) aNil)
      (rowEnv (feedD a b c) many none r .unq w none none none l8 l9) = .ok ((List.range k).map fun j : Nat => ((.int j, .unq) : D × Tag), rowEnv (feedD a' b' c') many none r .unq w none none none l8 l9) ∧ FeedOk (n + 1) a' b' c' ∧ k ≤ 6 ∧ (0 < k → 1 < many) := by
    by_cases hw : 5 < w ∧ 1 < (many : Int)
    · obtain ⟨x, a', b', c', hd, hx, hF⟩ := one_spec (ns := [0, 1, 2, 3, 6]) h (by omega) (by simp) (by simp)
      have x0 : 0 ≤ x ∧ x ≤ 6 := by
        simp at hx
        omega
      have hb : inBig x = true := inBig_of (by omega) (by omega)
      refine ⟨x.toNat, a', b', c', ?_, hF, by omega, fun _ => by omega⟩
      have hd' : fn__law_one [feedD a b c, .list [.int 0, .int 1, .int 2, .int 3, .int 6]] = .ret (.int x) .unq (feedD a' b' c') := hd
      simp [rowEnv, pureOf_ap, hw.1, hw.2, dispOf_ap, call_feed (os := [.val (.list [.int 0, .int 1, .int 2, .int 3, .int 6]) .unq]) 2 hd', hasSlot, rng1R_int _ hb, unqOf_rng]
    · have hb : inBig 0 = true := by decide
      refine ⟨0, a, b, c, ?_, h.mono (by omega), by omega, fun z => by omega⟩
      by_cases h5 : 5 < w
      · have h6 : ¬ 1 < (many : Int) := fun z => hw ⟨h5, z⟩
        have h6' : ¬ 1 < many := by omega
        simp [rowEnv, pureOf_ap, h5, h6, h6', rng1R_int _ hb, unqOf_rng]
      · simp [rowEnv, pureOf_ap, h5, rng1R_int _ hb, unqOf_rng]
  obtain ⟨k, a1, b1, c1, e1, f1, k6, hk1⟩ := cnt
  have loop := forE_step (g := setE 2) (b := L__law_row_3) (e := fun k : Nat => ((.int k, .unq) : D × Tag))
    (fun done env => ∃ a b c r l2 l5, env = rowEnv (feedD a b c) many l2 r .unq w l5 none none l8 l9 ∧ NoPar l2 ∧ NoPar l5 ∧ FeedOk (n + 1 + done.length) a b c ∧ IsRow r ∧ r.length = many)
    (l := List.range k) (env := rowEnv (feedD a1 b1 c1) many none r .unq w none none none l8 l9) ⟨a1, b1, c1, r, none, none, rfl, noPar_none, noPar_none, by simpa using f1, hr, hl⟩ ?_
  · obtain ⟨env', h1, a', b', c', r', l2, l5, rfl, g1, g2, g3, g4, g5⟩ := loop
    refine ⟨a', b', c', r', l2, l5, ?_, g1, g2, g3.mono (by simp; omega), g4, g5⟩
    simp only [S__law_row_3, sFor_ap, e1, out_ok, h1]
  · intro done j tl env hk hI
    obtain ⟨a, b, c, r, l2, l5, rfl, g1, g2, g3, g4, g5⟩ := hI
    have hdl : done.length < k := by have := congrArg List.length hk; simp at this; omega
    obtain ⟨p, a2, b2, c2, hd, p0, p1, f2⟩ := draw_spec (many := (many : Int) - 1) g3 (by omega) (by omega) (by omega)
    obtain ⟨r', s1, s2⟩ := swap_st (F := feedD a2 b2 c2) (many := many) (l2 := some (.int j, .unq)) (l5 := some (.int p, .unq)) (l6 := none) (l7 := none) (l8 := l8) (l9 := l9) (r := r) (w := w) (p := p) (q := p + 1) (ep := eVar 5) (eq := ePure2 pAdd (eVar 5) (eC (.int 1))) p0 (by omega) (by omega) (by omega)
      (fun r' => .inr ⟨5, by simp [rowEnv], rfl⟩) (fun r' => .inl (by simp [rowEnv, pureOf_ap]))
    refine ⟨_, ?_, a2, b2, c2, r', some (.int j, .unq), some (.int p, .unq), rfl, noPar_unq _, noPar_unq _, f2.mono (by simp; omega), g4.perm s2, by rw [s2.length_eq]; exact g5⟩
    simp only [turnS]
    rw [setE_free (o := l2) _ rfl g1]
    simp only [out_ok, L__law_row_3, sSeq_ap]
    have d1 : sAsg (eCall true 2 fn__law_draw (aCons (eVar 0) (aCons (ePure2 pSub (eVar 1) (eC (.int 1))) aNil))) (setE 5) ((rowEnv (feedD a b c) many l2 r .unq w l5 none none l8 l9).set 2 (some (.int j, .unq))) = .nx (rowEnv (feedD a2 b2 c2) many (some (.int j, .unq)) r .unq w (some (.int p, .unq)) none none l8 l9) := by
      simp only [sAsg_ap, eCall_ap, aCons_ap, aNil_ap, rowEnv, List.set_cons_succ, List.set_cons_zero]
      simp [pureOf_ap, call_feed (os := [.val (.int ((many : Int) - 1)) .unq]) 2 hd, hasSlot, -setE_ap]
      rw [setE_free (o := l5) _ rfl g2]
      rfl
    rw [d1]
    simp only [s1]
end VL
end
section
set_option Elab.async false
set_option linter.all false
set_option maxRecDepth 100000
set_option autoImplicit false
namespace VL
open PySem PySem.Spec PyProof.Rows L2
def rg1R (mk : List D → D) (o : Option D) (env : Env) : Res (Opd × Env) := match o with
  | some (.int n) => if inBig n && decide (n.toNat ≤ lim) then .ok (.val (mk (rngL 0 1 n.toNat)) .unq, env) else .bad
  | _ => .bad
@[simp] theorem rgE1_ap (f : ER) (mk : List D → D) (env : Env) : rgE1 f mk env = (f env).bind fun p => rg1R mk (p.1.d p.2) p.2 := nr rfl
theorem rg1R_int {mk : List D → D} {env : Env} (n : Nat) (h : n ≤ 1000000) : rg1R mk (some (.int (n : Int))) env = .ok (.val (mk (dInts (iota n))) .unq, env) := by
  have h1 : inBig (n : Int) = true := inBig_of (by omega) (by omega)
  have h2 : decide ((n : Int).toNat ≤ lim) = true := decide_eq_true (by
    have : (1000000 : Nat) ≤ lim := by decide
    rw [Int.toNat_natCast]; omega)
  show (if (inBig (n : Int) && decide ((n : Int).toNat ≤ lim)) = true then _ else _) = _
  rw [if_pos (by rw [h1, h2]; rfl), Int.toNat_natCast, rng_iota]
theorem cut_take2 (ns : List Int) : cutD ns none (some 2) = ns.take 2 := by
  unfold cutD
  have h1 : HT.sIx ns.length ns.length (some 2) = min 2 ns.length := HT.sIx_nat ns.length ns.length 2
  rw [h1, HT.sIx_none]
  simp only [List.drop_zero, Nat.sub_zero]
  by_cases h : 2 ≤ ns.length
  · rw [Nat.min_eq_left h]
  · rw [List.take_of_length_le (by omega), List.take_of_length_le (by omega)]
theorem row4_spec {n : Nat} {a b c : Int} {many : Nat} {l2 l5 l8 l9 : Option (D × Tag)} {r : List Int} {w : Int} (k2 : NoPar l2) (h : FeedOk n a b c) (hn : n ≤ 800000000) (hm : many ≤ 1000) (hr : IsRow r) (hl : r.length = many) :
    ∃ a' b' c' r' m2 l6 l7, S__law_row_4 (rowEnv (feedD a b c) many l2 r .unq w l5 none none l8 l9) = .nx (rowEnv (feedD a' b' c') many m2 r' .unq w l5 l6 l7 l8 l9) ∧ FeedOk (n + 2 * many + 7) a' b' c' ∧ IsRow r' ∧ r'.length = many := by
  have cnt : ∃ (k : Nat) (a' b' c' : Int), iRng1E (aCons (eIf (tOfE (ePure2 pGt (eVar 1) (eC (.int 1)))) (eCall true 2 fn__law_one (aCons (eVar 0) (aCons (eLst (aCons (eC (.int 0)) (aCons (eC (.int 0)) (aCons (eC (.int 1)) (aCons (eC (.int 2)) aNil))))) aNil))) (eC (.int 0))) aNil)
      (rowEnv (feedD a b c) many l2 r .unq w l5 none none l8 l9) = .ok ((List.range k).map fun j : Nat => ((.int j, .unq) : D × Tag), rowEnv (feedD a' b' c') many l2 r .unq w l5 none none l8 l9) ∧ FeedOk (n + 1) a' b' c' ∧ k ≤ 2 ∧ (0 < k → 1 < many) := by
    by_cases hw : 1 < many
    · obtain ⟨x, a', b', c', hd, hx, hF⟩ := one_spec (ns := [0, 0, 1, 2]) h (by omega) (by simp) (by simp)
      have x0 : 0 ≤ x ∧ x ≤ 2 := by
        simp at hx
        omega
      have hb : inBig x = true := inBig_of (by omega) (by omega)
      refine ⟨x.toNat, a', b', c', ?_, hF, by omega, fun _ => by omega⟩
      have hd' : fn__law_one [feedD a b c, .list [.int 0, .int 0, .int 1, .int 2]] = .ret (.int x) .unq (feedD a' b' c') := hd
      have hw' : 1 < (many : Int) := by omega
      simp [rowEnv, pureOf_ap, hw, hw', dispOf_ap, call_feed (os := [.val (.list [.int 0, .int 0, .int 1, .int 2]) .unq]) 2 hd', hasSlot, rng1R_int _ hb, unqOf_rng]
    · have hb : inBig 0 = true := by decide
      have hw' : ¬ 1 < (many : Int) := by omega
      refine ⟨0, a, b, c, ?_, h.mono (by omega), by omega, fun z => by omega⟩
      simp [rowEnv, pureOf_ap, hw, hw', rng1R_int _ hb, unqOf_rng]
  obtain ⟨k, a1, b1, c1, e1, f1, k6, hk1⟩ := cnt
  have loop := forE_step (g := setE 2) (b := L__law_row_5) (e := fun k : Nat => ((.int k, .unq) : D × Tag))
    (fun done env => ∃ a b c r l2 l6 l7, env = rowEnv (feedD a b c) many l2 r .unq w l5 l6 l7 l8 l9 ∧ NoPar l2 ∧ NoPar l6 ∧ NoPar l7 ∧ FeedOk (n + 1 + done.length * many) a b c ∧ IsRow r ∧ r.length = many)
    (l := List.range k) (env := rowEnv (feedD a1 b1 c1) many l2 r .unq w l5 none none l8 l9) ⟨a1, b1, c1, r, l2, none, none, rfl, k2, noPar_none, noPar_none, by simpa using f1, hr, hl⟩ ?_
  · obtain ⟨env', h1, a', b', c', r', l2', l6, l7, rfl, g1, g2, g3, g4, g5, g6⟩ := loop
    refine ⟨a', b', c', r', l2', l6, l7, ?_, g4.mono ?_, g5, g6⟩
    · simp only [S__law_row_4, sFor_ap, e1, out_ok, h1]
    · rw [List.length_range]
      have : k * many ≤ 2 * many := Nat.mul_le_mul_right many k6
      omega
  · intro done j tl env hk hI
    obtain ⟨a, b, c, r, l2, l6, l7, rfl, g1, g2, g3, g4, g5, g6⟩ := hI
    have hdl : done.length < k := by have := congrArg List.length hk; simp at this; omega
    have hdm : done.length * many ≤ 2 * many := Nat.mul_le_mul_right many (by omega)
    have hio := len_iota many
    obtain ⟨ms, a2, b2, c2, hd, hp, f2⟩ := mixed_spec (ns := iota many) g4 (by omega) (by omega)
    have hml : ms.length = many := by rw [hp.length_eq, hio]
    have rm : IsRow ms := (row_iota many).perm hp
    obtain ⟨p, q, tl2, hms⟩ : ∃ p q tl2, ms = p :: q :: tl2 := by
      match ms, hml with
      | p :: q :: tl2, _ => exact ⟨p, q, tl2, rfl⟩
      | [], hml => simp at hml; omega
      | [_], hml => simp at hml; omega
    have pb := rm.at_ p (by rw [hms]; simp)
    have qb := rm.at_ q (by rw [hms]; simp)
    rw [hml] at pb qb
    obtain ⟨r', s1, s2⟩ := swap_st (F := feedD a2 b2 c2) (many := many) (l2 := some (.int j, .unq)) (l5 := l5) (l6 := some (.int p, .unq)) (l7 := some (.int q, .unq)) (l8 := l8) (l9 := l9) (r := r) (w := w) (p := p) (q := q) (ep := eVar 6) (eq := eVar 7) pb.1 (by omega) qb.1 (by omega)
      (fun r' => .inr ⟨6, by simp [rowEnv], rfl⟩) (fun r' => .inr ⟨7, by simp [rowEnv], rfl⟩)
    refine ⟨_, ?_, a2, b2, c2, r', some (.int j, .unq), some (.int p, .unq), some (.int q, .unq), rfl, noPar_unq _, noPar_unq _, noPar_unq _, f2.mono (by rw [hio]; simp [Nat.add_mul]; omega), g5.perm s2, by rw [s2.length_eq]; exact g6⟩
    simp only [turnS]
    rw [setE_free (o := l2) _ rfl g1]
    simp only [out_ok, L__law_row_5, sSeq_ap]
    have d1 : sAsg (slE (eCall true 2 fn__law_mixed (aCons (eVar 0) (aCons (rgE1 (eVar 1) .list) aNil))) .no (.e (eC (.int 2)))) (gUnF 2 (gsCons (setE 6) (gsCons (setE 7) gsNil))) ((rowEnv (feedD a b c) many l2 r .unq w l5 l6 l7 l8 l9).set 2 (some (.int j, .unq))) = .nx (rowEnv (feedD a2 b2 c2) many (some (.int j, .unq)) r .unq w l5 (some (.int p, .unq)) (some (.int q, .unq)) l8 l9) := by
      have e2 : cutD ms none (some 2) = [p, q] := by rw [cut_take2, hms]; rfl
      have e3 : dInts [p, q] = [.int p, .int q] := rfl
      simp only [rowEnv, List.set_cons_succ, List.set_cons_zero]
      simp [pureOf_ap, rg1R_int many (by omega), call_feed (os := [.val (.list (dInts (iota many))) .unq]) 2 hd, hasSlot, e2, -setE_ap, e3]
      rw [setE_free (o := l6) _ rfl g2]
      simp only [bind_ok, List.set_cons_succ, List.set_cons_zero]
      rw [setE_free (o := l7) _ rfl g3]
      rfl
    rw [d1]
    simp only [s1]
end VL
end
section
set_option Elab.async false
set_option linter.all false
set_option maxRecDepth 100000
set_option autoImplicit false
namespace VL
open PySem PySem.Spec PyProof.Rows L2
theorem plain_dInts : ∀ ns : List Int, PyData.plainAll (dInts ns) = true
  | [] => rfl
  | n :: ns => by
    have := plain_dInts ns
    simp only [dInts, List.map_cons, PyData.plainAll, PyData.plain, Bool.true_and] at *
    exact this
theorem depth_dInts : ∀ ns : List Int, PyData.depthAll (dInts ns) ≤ 1
  | [] => by simp [dInts, PyData.depthAll]
  | n :: ns => by
    have := depth_dInts ns
    simp only [dInts, List.map_cons, PyData.depthAll, PyData.depth] at *
    omega
@[simp] theorem okD_lints (ns : List Int) : okD (.list (dInts ns)) = true := by
  have := depth_dInts ns
  show (PyData.plainAll (dInts ns) && decide (PyData.depthAll (dInts ns) + 1 ≤ 60)) = true
  rw [plain_dInts, Bool.true_and]
  exact decide_eq_true (by omega)
@[simp] theorem okD_tints (ns : List Int) : okD (.tuple (dInts ns)) = true := by
  have := depth_dInts ns
  show (PyData.plainAll (dInts ns) && decide (PyData.depthAll (dInts ns) + 1 ≤ 60)) = true
  rw [plain_dInts, Bool.true_and]
  exact decide_eq_true (by omega)
theorem has_dInts (ns : List Int) (x : Int) : hasD (dInts ns) (.int x) = ns.contains x := by
  unfold hasD dInts
  rw [List.any_map, List.contains_eq_any_beq]
  congr 1
  funext y
  simp only [Function.comp, PyData.eqv]
  exact Bool.beq_comm
@[simp] theorem pNotIn_lints (ns : List Int) (x : Int) : pNotIn [.int x, .list (dInts ns)] = some (.bool (!ns.contains x), .unq) := by
  simp [pNotIn, ps2, pf2, inD, has_dInts]
@[simp] theorem pIn_lints (ns : List Int) (x : Int) : pIn [.int x, .list (dInts ns)] = some (.bool (ns.contains x), .unq) := by
  simp [pIn, ps2, pf2, inD, has_dInts]
@[simp] theorem pNotIn_tints (ns : List Int) (x : Int) : pNotIn [.int x, .tuple (dInts ns)] = some (.bool (!ns.contains x), .unq) := by
  simp [pNotIn, ps2, pf2, inD, has_dInts]
@[simp] theorem pIn_tints (ns : List Int) (x : Int) : pIn [.int x, .tuple (dInts ns)] = some (.bool (ns.contains x), .unq) := by
  simp [pIn, ps2, pf2, inD, has_dInts]
theorem cut_drop {ns : List Int} {k : Int} (h0 : 0 ≤ k) (h1 : k ≤ ns.length) : cutD ns (some k) none = ns.drop k.toNat := by
  obtain ⟨m, rfl⟩ := Int.eq_ofNat_of_zero_le h0
  unfold cutD
  have e : HT.sIx ns.length 0 (some (m : Int)) = min m ns.length := HT.sIx_nat ns.length 0 m
  rw [e, HT.sIx_none, Nat.min_eq_left (by omega), Int.toNat_natCast, List.take_of_length_le (by simp)]
theorem cut_take {ns : List Int} {k : Int} (h0 : 0 ≤ k) (h1 : k ≤ ns.length) : cutD ns none (some k) = ns.take k.toNat := by
  obtain ⟨m, rfl⟩ := Int.eq_ofNat_of_zero_le h0
  unfold cutD
  have e : HT.sIx ns.length ns.length (some (m : Int)) = min m ns.length := HT.sIx_nat ns.length ns.length m
  rw [e, HT.sIx_none, Nat.min_eq_left (by omega), Int.toNat_natCast, List.drop_zero, Nat.sub_zero]
theorem low_perm {low r : List Int} (hr : r.Nodup) (hl : low.Sublist r) : (low ++ r.filter fun x => !low.contains x).Perm r := by
  refine (List.perm_ext_iff_of_nodup ?_ hr).mpr fun x => ?_
  · rw [List.nodup_append]
    refine ⟨hr.sublist hl, hr.sublist (List.filter_sublist ..), fun a ha b hb => ?_⟩
    rintro rfl
    rw [List.mem_filter] at hb
    have := hb.2
    simp [ha] at this
  · rw [List.mem_append, List.mem_filter]
    constructor
    · rintro (h | h)
      · exact hl.subset h
      · exact h.1
    · intro h
      by_cases q : x ∈ low
      · exact .inl q
      · exact .inr ⟨h, by simpa using q⟩
theorem row2_spec {n : Nat} {a b c : Int} {many : Nat} {w : Int} (h : FeedOk n a b c) (hn : n ≤ 700000000) (hm : many ≤ 1000) (h0 : 0 ≤ w) :
    ∃ a' b' c' r l8 l9, S__law_row_2 (rowEnv (feedD a b c) many none (iota many) .unq w none none none none none) = .nx (rowEnv (feedD a' b' c') many none r .unq w none none none l8 l9) ∧ FeedOk (n + 3 * many + 1) a' b' c' ∧ IsRow r ∧ r.length = many := by
  have hio := len_iota many
  have rio := row_iota many
  by_cases w2 : w < 2
  · obtain ⟨ms, a', b', c', hd, hp, hF⟩ := mixed_spec (ns := iota many) h (by omega) (by omega)
    refine ⟨a', b', c', ms, none, none, ?_, hF.mono (by omega), rio.perm hp, by rw [hp.length_eq, hio]⟩
    simp [S__law_row_2, rowEnv, pureOf_ap, w2, call_feed (os := [.slot 3]) 2 hd, hasSlot]
  by_cases w3 : w = 2
  · obtain ⟨r, a', b', c', hd, hr, hl, hF⟩ := heaped_spec (many := many) h (by omega) hm
    refine ⟨a', b', c', r, none, none, ?_, hF.mono (by omega), hr, hl⟩
    simp [S__law_row_2, rowEnv, pureOf_ap, w3, call_feed (os := [.slot 1]) 2 hd, hasSlot]
  by_cases w4 : w = 3
  · have mk : ∀ l8, NoPar l8 → iSeqE (eKeep false (eVar 3)) (rowEnv (feedD a b c) many none (iota many) .unq w none none none l8 none) = .ok ((iota many).map fun n => ((.int n, .unq) : D × Tag), rowEnv (feedD a b c) many none (iota many) .sh w none none none l8 none) := fun l8 _ => by
      simp [rowEnv, unqOf_dInts]
    have sel := lcE_step (g := setE 10) (tt := tOfE (ePure2 pEq (eCall true 2 fn__law_draw (aCons (eVar 0) (aCons (eC (.int 2)) aNil))) (eC (.int 0)))) (te := eKeep false (eVar 10)) (own := [10]) (e := fun n : Int => ((.int n, .unq) : D × Tag))
      (fun done r env => ∃ a' b' c' low, env = rowEnv (feedD a' b' c') many none (iota many) .sh w none none none none none ∧ r = low.map (fun n : Int => ((.int n, .unq) : D × Tag)) ∧ low.Sublist done ∧ FeedOk (n + done.length) a' b' c')
      (l := iota many) (env := rowEnv (feedD a b c) many none (iota many) .sh w none none none none none) ⟨a, b, c, [], rfl, rfl, List.Sublist.refl _, by simpa using h⟩ ?_
    · obtain ⟨r', env', s1, a', b', c', low, rfl, rfl, s2, s3⟩ := sel
      rw [hio] at s3
      have lowl : low.length ≤ many := by have := s2.length_le; omega
      have pm := low_perm rio.nd s2
      have sec : lcE (setE 10) (tOfE (ePure2 pNotIn (eVar 10) (eVar 8))) (eKeep false (eVar 10)) [10] ((iota many).map fun n : Int => ((.int n, .unq) : D × Tag)) (rowEnv (feedD a' b' c') many none (iota many) .sh w none none none (some (.list (dInts low), .unq)) none) =
          .ok (((iota many).filter fun x => !low.contains x).map fun n : Int => ((.int n, .unq) : D × Tag), rowEnv (feedD a' b' c') many none (iota many) .sh w none none none (some (.list (dInts low), .unq)) none) := by
        refine lcE_some (e := fun n : Int => ((.int n, .unq) : D × Tag)) (c := fun x => !low.contains x) (f := fun n : Int => ((.int n, .unq) : D × Tag)) fun x hx => ?_
        simp only [turnE, rowEnv]
        cases q : low.contains x <;> simp [pureOf_ap, q] <;> simp_all
      refine ⟨a', b', c', _, some (.list (dInts low), .unq), none, ?_, s3.mono (by omega), rio.perm pm, by rw [pm.length_eq, hio]⟩
      have e0 : wipeE (rowEnv (feedD a b c) many none (iota many) .sh w none none none none none) [10] = rowEnv (feedD a b c) many none (iota many) .sh w none none none none none := rfl
      have e1 : wipeE (rowEnv (feedD a' b' c') many none (iota many) .sh w none none none (some (.list (dInts low), .unq)) none) [10] = rowEnv (feedD a' b' c') many none (iota many) .sh w none none none (some (.list (dInts low), .unq)) none := rfl
      have np : ∀ (F : D) l8, NoPar l8 → noPar [10] (rowEnv F many none (iota many) .sh w none none none l8 none) = true := fun F l8 _ => rfl
      have lm : ((iota many).map fun n : Int => ((.int n, .unq) : D × Tag)).length ≤ lim := lim_le (by simp [hio]; omega)
      have first : eLc (iSeqE (eKeep false (eVar 3))) (setE 10) (tOfE (ePure2 pEq (eCall true 2 fn__law_draw (aCons (eVar 0) (aCons (eC (.int 2)) aNil))) (eC (.int 0)))) (eKeep false (eVar 10)) [10] (rowEnv (feedD a b c) many none (iota many) .unq w none none none none none) =
          .ok (.val (.list (dInts low)) .unq, rowEnv (feedD a' b' c') many none (iota many) .sh w none none none none none) := by
        rw [eLc_ap, mk none noPar_none, bind_ok]
        simp only
        rw [if_pos (by rw [np _ _ noPar_none, Bool.and_true]; exact decide_eq_true lm), e0, s1, nox_ok, bind_ok, fst_map, acc_unq]
        rfl
      have second : eLc (iSeqE (eKeep false (eVar 3))) (setE 10) (tOfE (ePure2 pNotIn (eVar 10) (eVar 8))) (eKeep false (eVar 10)) [10] (rowEnv (feedD a' b' c') many none (iota many) .sh w none none none (some (.list (dInts low), .unq)) none) =
          .ok (.val (.list (dInts ((iota many).filter fun x => !low.contains x))) .unq, rowEnv (feedD a' b' c') many none (iota many) .sh w none none none (some (.list (dInts low), .unq)) none) := by
        have mk2 : iSeqE (eKeep false (eVar 3)) (rowEnv (feedD a' b' c') many none (iota many) .sh w none none none (some (.list (dInts low), .unq)) none) = .ok ((iota many).map fun n => ((.int n, .unq) : D × Tag), rowEnv (feedD a' b' c') many none (iota many) .sh w none none none (some (.list (dInts low), .unq)) none) := by
          simp [rowEnv, unqOf_dInts]
        rw [eLc_ap, mk2, bind_ok]
        simp only
        rw [if_pos (by rw [np _ _ (noPar_unq _), Bool.and_true]; exact decide_eq_true lm), e1, sec, nox_ok, bind_ok, fst_map, acc_unq]
        rfl
      have fl : ((iota many).filter fun x => !low.contains x).length ≤ many := Nat.le_trans (List.length_filter_le _ _) (by omega)
      have t2 : tOfE (ePure2 pLt (eVar 4) (eC (.int 2))) (rowEnv (feedD a b c) many none (iota many) .unq w none none none none none) = .ok (false, rowEnv (feedD a b c) many none (iota many) .unq w none none none none none) := by simp [rowEnv, pureOf_ap, w4]
      have t3 : tOfE (ePure2 pEq (eVar 4) (eC (.int 2))) (rowEnv (feedD a b c) many none (iota many) .unq w none none none none none) = .ok (false, rowEnv (feedD a b c) many none (iota many) .unq w none none none none none) := by simp [rowEnv, pureOf_ap, w4]
      have t4 : tOfE (ePure2 pEq (eVar 4) (eC (.int 3))) (rowEnv (feedD a b c) many none (iota many) .unq w none none none none none) = .ok (true, rowEnv (feedD a b c) many none (iota many) .unq w none none none none none) := by simp [rowEnv, pureOf_ap, w4]
      simp only [S__law_row_2, sIf_ap, t2, t3, t4, out_ok, Bool.false_eq_true, if_false, if_true, sSeq_ap, sAsg_ap, first]
      have s8 : setE 8 (.list (dInts low), .unq) (rowEnv (feedD a' b' c') many none (iota many) .sh w none none none none none) = .ok (rowEnv (feedD a' b' c') many none (iota many) .sh w none none none (some (.list (dInts low), .unq)) none) := rfl
      rw [s8]
      simp only [out_ok, ePure2_ap]
      have v8 : eVar 8 (rowEnv (feedD a' b' c') many none (iota many) .sh w none none none (some (.list (dInts low), .unq)) none) = .ok (.slot 8, rowEnv (feedD a' b' c') many none (iota many) .sh w none none none (some (.list (dInts low), .unq)) none) := rfl
      rw [v8, bind_ok, second, bind_ok]
      simp [pureOf_ap, rowEnv, pAdd_lsts (show low.length + ((iota many).filter fun x => !low.contains x).length ≤ 1000000 by omega), -List.contains_eq_mem]
    · intro done x tl r env hk hI
      obtain ⟨a', b', c', low, rfl, rfl, g1, g2⟩ := hI
      have hdl : done.length < many := by have := congrArg List.length hk; simp [hio] at this; omega
      obtain ⟨p, a2, b2, c2, hd, p0, p1, f2⟩ := draw_spec (many := 2) g2 (by omega) (by omega) (by omega)
      by_cases hp : p = 0
      · refine ⟨some (.int x, .unq), rowEnv (feedD a2 b2 c2) many none (iota many) .sh w none none none none none, ?_, a2, b2, c2, low ++ [x], rfl, by simp, g1.append (List.Sublist.refl _), by simpa [Nat.add_assoc] using f2⟩
        simp [turnE, rowEnv, pureOf_ap, call_feed (os := [.val (.int 2) .unq]) 2 hd, hasSlot, hp]
      · refine ⟨none, rowEnv (feedD a2 b2 c2) many none (iota many) .sh w none none none none none, ?_, a2, b2, c2, low, rfl, by simp, g1.trans (List.sublist_append_left _ _), by simpa [Nat.add_assoc] using f2⟩
        simp [turnE, rowEnv, pureOf_ap, call_feed (os := [.val (.int 2) .unq]) 2 hd, hasSlot, hp]
  have cut : ∃ p a' b' c', fn__law_draw [feedD a b c, .int ((many : Int) + 1)] = .ret (.int p) .unq (feedD a' b' c') ∧ 0 ≤ p ∧ p < (many : Int) + 1 ∧ FeedOk (n + 1) a' b' c' := draw_spec h (by omega) (by omega) (by omega)
  obtain ⟨p, a', b', c', hd, p0, p1, hF⟩ := cut
  have hd' : fn__law_draw [feedD a b c, .int ((many : Int) + 1)] = .ret (.int p) .unq (feedD a' b' c') := hd
  have cd := cut_drop (ns := iota many) p0 (by omega)
  have ct := cut_take (ns := iota many) p0 (by omega)
  by_cases w5 : w = 4
  · have pm : ((iota many).drop p.toNat ++ (iota many).take p.toNat).Perm (iota many) := List.perm_append_comm.trans (by rw [List.take_append_drop])
    refine ⟨a', b', c', _, none, some (.int p, .unq), ?_, hF.mono (by omega), rio.perm pm, by rw [pm.length_eq, hio]⟩
    simp [S__law_row_2, rowEnv, pureOf_ap, w5, call_feed (os := [.val (.int ((many : Int) + 1)) .unq]) 2 hd', hasSlot, cd, ct, pAdd_lsts (show ((iota many).drop p.toNat).length + ((iota many).take p.toNat).length ≤ 1000000 by simp; omega)]
  by_cases w6 : w = 5
  · have pm : (((iota many).take p.toNat).reverse ++ (iota many).drop p.toNat).Perm (iota many) := (List.Perm.append_right _ (List.reverse_perm _)).trans (by rw [List.take_append_drop])
    refine ⟨a', b', c', _, none, some (.int p, .unq), ?_, hF.mono (by omega), rio.perm pm, by rw [pm.length_eq, hio]⟩
    simp [S__law_row_2, rowEnv, pureOf_ap, w6, call_feed (os := [.val (.int ((many : Int) + 1)) .unq]) 2 hd', hasSlot, cd, ct, pAdd_lsts (show (((iota many).take p.toNat).reverse).length + ((iota many).drop p.toNat).length ≤ 1000000 by simp; omega)]
  refine ⟨a, b, c, iota many, none, none, ?_, h.mono (by omega), rio, hio⟩
  simp [S__law_row_2, rowEnv, pureOf_ap, w2, w3, w4, w5, w6]
end VL
end
section
set_option Elab.async false
set_option linter.all false
set_option maxRecDepth 100000
set_option autoImplicit false
namespace VL
open PySem PySem.Spec PyProof.Rows L2
theorem row1_spec {n : Nat} {a b c : Int} {many : Nat} (h : FeedOk n a b c) (hn : n ≤ 700000000) (hm : many ≤ 1000) :
    ∃ w a' b' c', S__law_row_1 [some (feedD a b c, .par), some (.int many, .unq), none, none, none, none, none, none, none, none, none] = .nx (rowEnv (feedD a' b' c') many none (iota many) .unq w none none none none none) ∧ 0 ≤ w ∧ FeedOk (n + 1) a' b' c' := by
  obtain ⟨w, a', b', c', hd, w0, w1, hF⟩ := draw_spec (many := 8) h (by omega) (by omega) (by omega)
  refine ⟨w, a', b', c', ?_, w0, hF⟩
  simp [S__law_row_1, rowEnv, pureOf_ap, call_feed (os := [.val (.int 8) .unq]) 2 hd, hasSlot, rg1R_int many (by omega)]
theorem row_rev {r : List Int} (h : IsRow r) : IsRow r.reverse := h.perm (List.reverse_perm r)
theorem row5_spec {n : Nat} {a b c : Int} {many : Nat} {l2 l5 l6 l7 l8 l9 : Option (D × Tag)} {r : List Int} {w : Int} (h : FeedOk n a b c) (hn : n ≤ 800000000) (hr : IsRow r) (hl : r.length = many) :
    ∃ a' b' c' r' t, S__law_row_5 (rowEnv (feedD a b c) many l2 r .unq w l5 l6 l7 l8 l9) = .nx (rowEnv (feedD a' b' c') many l2 r' t w l5 l6 l7 l8 l9) ∧ FeedOk (n + 1) a' b' c' ∧ IsRow r' ∧ r'.length = many ∧ (t = .unq ∨ t = .sh) := by
  obtain ⟨p, a', b', c', hd, p0, p1, hF⟩ := draw_spec (many := 4) h (by omega) (by omega) (by omega)
  by_cases hp : p = 0
  · refine ⟨a', b', c', r.reverse, .unq, ?_, hF, row_rev hr, by simp [hl], .inl rfl⟩
    simp [S__law_row_5, rowEnv, pureOf_ap, call_feed (os := [.val (.int 4) .unq]) 2 hd, hasSlot, hp]
  · refine ⟨a', b', c', r, .sh, ?_, hF, hr, hl, .inr rfl⟩
    simp [S__law_row_5, rowEnv, pureOf_ap, call_feed (os := [.val (.int 4) .unq]) 2 hd, hasSlot, hp]
theorem row6_spec {n : Nat} {a b c : Int} {many : Nat} {l2 l5 l6 l7 l8 l9 : Option (D × Tag)} {r : List Int} {w : Int} {t : Tag} (h : FeedOk n a b c) (hn : n ≤ 800000000) (hr : IsRow r) (hl : r.length = many) (hm : many ≤ 1000) :
    ∃ a' b' c' r' env, S__law_row_6 (rowEnv (feedD a b c) many l2 r t w l5 l6 l7 l8 l9) = .rt (.tuple (dInts r')) .unq (some (feedD a' b' c', .par) :: env) ∧ FeedOk (n + 1) a' b' c' ∧ IsRow r' ∧ r'.length = many := by
  obtain ⟨p, a', b', c', hd, p0, p1, hF⟩ := draw_spec (many := 3) h (by omega) (by omega) (by omega)
  by_cases hp : p = 0
  · obtain ⟨s, hs, hb⟩ := back_spec hr (by omega)
    refine ⟨a', b', c', s, [some (.int many, .unq), l2, some (.list (dInts r), t), some (.int w, .unq), l5, l6, l7, l8, l9, none], ?_, hF, back_row hr hb, by rw [hb.1, hl]⟩
    simp [S__law_row_6, rowEnv, pureOf_ap, call_feed (os := [.val (.int 3) .unq]) 2 hd, hasSlot, hp, call_gives (os := [.slot 3]) 1 hs]
  · refine ⟨a', b', c', r, [some (.int many, .unq), l2, some (.list (dInts r), t), some (.int w, .unq), l5, l6, l7, l8, l9, none], ?_, hF, hr, hl⟩
    simp [S__law_row_6, rowEnv, pureOf_ap, call_feed (os := [.val (.int 3) .unq]) 2 hd, hasSlot, hp]
theorem row_spec {n : Nat} {a b c : Int} {many : Nat} (h : FeedOk n a b c) (hn : n ≤ 600000000) (hm : many ≤ 1000) :
    ∃ r a' b' c', fn__law_row [feedD a b c, .int many] = .ret (.tuple (dInts r)) .unq (feedD a' b' c') ∧ IsRow r ∧ r.length = many ∧ FeedOk (n + 5 * many + 20) a' b' c' := by
  obtain ⟨w, a1, b1, c1, e1, w0, f1⟩ := row1_spec h (by omega) hm
  obtain ⟨a2, b2, c2, r2, l8, l9, e2, f2, i2, j2⟩ := row2_spec f1 (by omega) hm w0
  obtain ⟨a3, b3, c3, r3, l2, l5, e3, n2, _, f3, i3, j3⟩ := row3_spec (l8 := l8) (l9 := l9) (w := w) f2 (by omega) hm i2 j2
  obtain ⟨a4, b4, c4, r4, m2, l6, l7, e4, f4, i4, j4⟩ := row4_spec (l2 := l2) (l5 := l5) (l8 := l8) (l9 := l9) (w := w) n2 f3 (by omega) hm i3 j3
  obtain ⟨a5, b5, c5, r5, t, e5, f5, i5, j5, _⟩ := row5_spec (l2 := m2) (l5 := l5) (l6 := l6) (l7 := l7) (l8 := l8) (l9 := l9) (w := w) f4 (by omega) i4 j4
  obtain ⟨a6, b6, c6, r6, env, e6, f6, i6, j6⟩ := row6_spec (l2 := m2) (l5 := l5) (l6 := l6) (l7 := l7) (l8 := l8) (l9 := l9) (w := w) (t := t) f5 (by omega) i5 j5 hm
  refine ⟨r6, a6, b6, c6, ?_, i6, j6, f6.mono (by omega)⟩
  have e0 : entE true 11 [feedD a b c, .int many] = [some (feedD a b c, .par), some (.int many, .unq), none, none, none, none, none, none, none, none, none] := by simp [inTag]
  simp only [fn__law_row, fnOf_ap, B__law_row, sSeq_ap, e0, e1, e2, e3, e4, e5, e6]
  simp [p0]
/-! ### rows and their ways -/
theorem upside_spec {r : List Int} (hl : r.length ≤ 1000) : Gives fn_upside [.tuple (dInts r)] (.tuple (dInts (r.map fun x => (r.length : Int) - 1 - x))) := by
  have e : lcE (setE 1) tYesF (ePure2 pSub (ePure2 pSub (ePure pLen (aCons (eVar 0) aNil)) (eC (.int 1))) (eVar 1)) [1] (r.map fun n : Int => ((.int n, .unq) : D × Tag)) [some (.tuple (dInts r), .unq), none] = .ok (r.map fun n : Int => ((.int ((r.length : Int) - 1 - n), .unq) : D × Tag), [some (.tuple (dInts r), .unq), none]) := by
    refine lcE_all (e := fun n : Int => ((.int n, .unq) : D × Tag)) (f := fun n : Int => ((.int ((r.length : Int) - 1 - n), .unq) : D × Tag)) fun n hn => ?_
    simp [turnE, pureOf_ap]
  simp [Gives, fn_upside, fnOf_ap, B_upside, pureOf_ap, unqOf_dInts, noPar_ap, lim_le (show r.length ≤ 16777216 by omega), e, fst_map, acc_unq, -List.map_map, ints_map r (fun x => (r.length : Int) - 1 - x)]
theorem integer_spec (m : Int) : Gives fn_is_integer [.int m] (.bool true) := by
  simp [Gives, fn_is_integer, fnOf_ap, B_is_integer, pureOf_ap, okT]
theorem within_spec (m a b : Int) : Gives fn_is_within [.int m, .int a, .int b] (.bool (decide (a ≤ m) && decide (m ≤ b))) := by
  have h := integer_spec m
  simp [Gives, fn_is_within, fnOf_ap, B_is_within, pureOf_ap, call_gives 1 h]
  by_cases q : a ≤ m <;> simp [q]
theorem tuple_spec (r : List Int) (a b : Int) : Gives fn_is_tuple_of [.tuple (dInts r), .int a, .int b] (.bool (decide (a ≤ r.length) && decide ((r.length : Int) ≤ b))) := by
  simp [Gives, fn_is_tuple_of, fnOf_ap, B_is_tuple_of, pureOf_ap, okT]
  by_cases q : a ≤ r.length <;> simp [q]
end VL
end
section
set_option Elab.async false
set_option linter.all false
set_option maxRecDepth 100000
set_option autoImplicit false
namespace VL
open PySem PySem.Spec PyProof.Rows L2
theorem dist_nodup {r : List Int} (h : r.Nodup) : dist r = r.length := (dist_of h fun k => Iff.rfl).symm
theorem bools_map {α : Type} (l : List α) (f : α → Bool) : l.map (fun x => PyData.bool (f x)) = dBools (l.map f) := by simp [dBools]
theorem form_spec {r : List Int} (h : IsRow r) (hl : r.length ≤ 9) : Gives fn_is_row_form [.tuple (dInts r)] (.bool true) := by
  have ht := tuple_spec r 0 9
  have hq : (decide ((0 : Int) ≤ r.length) && decide ((r.length : Int) ≤ 9)) = true := by simp; omega
  rw [hq] at ht
  have hlc : lcE (setE 1) tYesF (eCall false 3 fn_is_within (aCons (eVar 1) (aCons (eC (.int 0)) (aCons (ePure2 pSub (ePure pLen (aCons (eVar 0) aNil)) (eC (.int 1))) aNil)))) [1] (r.map fun n : Int => ((.int n, .unq) : D × Tag)) [some (.tuple (dInts r), .unq), none] = .ok (r.map fun n : Int => ((.bool (decide (0 ≤ n) && decide (n ≤ (r.length : Int) - 1)), .unq) : D × Tag), [some (.tuple (dInts r), .unq), none]) := by
    refine lcE_all (e := fun n : Int => ((.int n, .unq) : D × Tag)) (f := fun n : Int => ((.bool (decide (0 ≤ n) && decide (n ≤ (r.length : Int) - 1)), .unq) : D × Tag)) fun n hn => ?_
    simp [turnE, pureOf_ap, call_gives 3 (within_spec n 0 ((r.length : Int) - 1))]
  have hall : (r.map fun n : Int => (decide (0 ≤ n) && decide (n ≤ (r.length : Int) - 1))).all id = true := by
    simp only [List.all_map, List.all_eq_true]
    intro x hx
    obtain ⟨a, b⟩ := h.at_ x hx
    simp; omega
  simp [Gives, fn_is_row_form, fnOf_ap, B_is_row_form, pureOf_ap, call_gives 3 ht, unqOf_dInts, noPar_ap, lim_le (show r.length ≤ 16777216 by omega), hlc, fst_map, acc_unq, -List.map_map, bools_map r (fun n => (decide (0 ≤ n) && decide (n ≤ (r.length : Int) - 1))), -List.all_map, hall, pLenSet_tup r (by omega), dist_nodup h.nd]
theorem need_spec {r : List Int} (h : IsRow r) (hl : r.length ≤ 9) : Gives fn_need_row [.tuple (dInts r)] .none := by
  simp [Gives, fn_need_row, fnOf_ap, B_need_row, call_gives 1 (form_spec h hl)]
theorem flipped_spec {r : List Int} (h : IsRow r) (hl : r.length ≤ 9) : Gives fn_flipped [.tuple (dInts r)] (.tuple (dInts (r.map fun x => (r.length : Int) - 1 - x))) := by
  simp [Gives, fn_flipped, fnOf_ap, B_flipped, callXx, callF, (need_spec h hl).eq, (upside_spec (r := r) (by omega)).eq]
def at0 (r : List Int) (i : Nat) : Int := r.getD i 0
theorem ix_at {r : List Int} {i : Nat} (h : i < r.length) : pIx [.tuple (dInts r), .int i] = some (.int (at0 r i), .unq) := by
  refine ix_tup ?_
  rw [atI_nat]
  simp [at0, h]
theorem ix_at1 {r : List Int} {i : Nat} (h : i + 1 < r.length) : pIx [.tuple (dInts r), .int ((i : Int) + 1)] = some (.int (at0 r (i + 1)), .unq) := ix_at (r := r) (i := i + 1) h

theorem dInts_nil : dInts [] = [] := rfl
theorem map_int (l : List Int) : l.map PyData.int = dInts l := rfl
/-! ### loops and comprehensions, once more -/
/-- an invariant over a state -/
theorem forE_inv {g : GR} {b : SR} {α σ : Type} {e : α → D × Tag} (E : σ → Env) (I : List α → σ → Prop) {l : List α} {s0 : σ} (h : I [] s0) (k : ∀ done a rest s, l = done ++ a :: rest → I done s → ∃ s', turnS g b (e a) (E s) = .nx (E s') ∧ I (done ++ [a]) s') :
    ∃ s', forE g b (l.map e) (E s0) = .nx (E s') ∧ I l s' := by
  obtain ⟨env', h1, s', rfl, h2⟩ := forE_step (g := g) (b := b) (e := e) (fun done env => ∃ s, env = E s ∧ I done s) (l := l) (env := E s0) ⟨s0, rfl, h⟩ fun done a rest env hl hI => by
    obtain ⟨s, rfl, hI⟩ := hI
    obtain ⟨s', h1, h2⟩ := k done a rest s hl hI
    exact ⟨E s', h1, s', rfl, h2⟩
  exact ⟨s', h1, h2⟩
theorem zip_map {α : Type} (f : α → D) (l : List α) : enumL (l.map f) = l.zipIdx.map fun p : α × Nat => ((.tuple [.int p.2, f p.1], pairT (f p.1)) : D × Tag) := by
  unfold enumL
  apply List.ext_getElem
  · simp
  · intro i h1 h2
    simp
theorem cut_from {α : Type} (l : List α) (k : Nat) : cutD l (some (k : Int)) none = l.drop k := by
  unfold cutD
  have h1 : HT.sIx l.length 0 (some (k : Int)) = min k l.length := HT.sIx_nat l.length 0 k
  rw [h1, HT.sIx_none]
  by_cases h : k ≤ l.length
  · rw [Nat.min_eq_left h, List.take_of_length_le (by simp)]
  · rw [Nat.min_eq_right (by omega)]
    rw [List.drop_eq_nil_of_le (Nat.le_refl _), List.drop_eq_nil_of_le (by omega)]
    simp
theorem cut_from1 {α : Type} (l : List α) (k : Nat) : cutD l (some ((k : Int) + 1)) none = l.drop (k + 1) := cut_from l (k + 1)
theorem cut_to {α : Type} (l : List α) (k : Nat) : cutD l none (some (k : Int)) = l.take k := by
  unfold cutD
  have h1 : HT.sIx l.length l.length (some (k : Int)) = min k l.length := HT.sIx_nat l.length l.length k
  rw [h1, HT.sIx_none, List.drop_zero, Nat.sub_zero]
  by_cases h : k ≤ l.length
  · rw [Nat.min_eq_left h]
  · rw [Nat.min_eq_right (by omega), List.take_of_length_le (Nat.le_refl _), List.take_of_length_le (by omega)]
theorem cut_to1 {α : Type} (l : List α) (k : Nat) : cutD l none (some ((k : Int) + 1)) = l.take (k + 1) := cut_to l (k + 1)
end VL
end
section
set_option Elab.async false
set_option linter.all false
set_option maxRecDepth 100000
set_option autoImplicit false
namespace VL
open PySem PySem.Spec PyProof.Rows L2
/-- small data: repr gives its text -/
structure FineL (w k : Nat) (ds : List D) : Prop where
  c : PyData.canLayAll0 ds = true
  i : PyData.intsShortAll 13 ds = true
  s : PyData.showableAll ds = true
  p : PyData.plainAll ds = true
  w : PyData.weightAll ds ≤ w
  d : PyData.depthAll ds ≤ k
structure Fine (w k : Nat) (d : D) : Prop where
  c : PyData.canLay0 d = true
  i : PyData.intsShort 13 d = true
  s : PyData.showable d = true
  p : PyData.plain d = true
  w : PyData.weight d ≤ w
  d : PyData.depth d ≤ k
theorem Fine.lst {w k : Nat} {ds : List D} (h : FineL w k ds) : Fine w (k + 1) (.list ds) :=
  ⟨h.c, h.i, h.s, h.p, h.w, Nat.succ_le_succ h.d⟩
theorem Fine.tup {w k : Nat} {ds : List D} (h : FineL w k ds) : Fine w (k + 1) (.tuple ds) :=
  ⟨h.c, h.i, h.s, h.p, h.w, Nat.succ_le_succ h.d⟩
theorem FineL.nil {w k : Nat} : FineL w k [] := ⟨rfl, rfl, rfl, rfl, Nat.zero_le _, Nat.zero_le _⟩
theorem FineL.cons {w w2 k : Nat} {d : D} {ds : List D} (h : Fine w k d) (r : FineL w2 k ds) : FineL (w + 1 + w2) k (d :: ds) :=
  ⟨by simp only [PyData.canLayAll0]; rw [h.c, r.c]; rfl, by simp only [PyData.intsShortAll]; rw [h.i, r.i]; rfl, by simp only [PyData.showableAll]; rw [h.s, r.s]; rfl,
    by simp only [PyData.plainAll]; rw [h.p, r.p]; rfl, by simp only [PyData.weightAll]; have := h.w; have := r.w; omega, by simp only [PyData.depthAll]; have := h.d; have := r.d; omega⟩
theorem Fine.mono {w k w2 k2 : Nat} {d : D} (h : Fine w k d) (a : w ≤ w2) (b : k ≤ k2) : Fine w2 k2 d := ⟨h.c, h.i, h.s, h.p, Nat.le_trans h.w a, Nat.le_trans h.d b⟩
theorem Fine.int {n : Int} {k : Nat} (h : n.natAbs < 1000000000000) : Fine 40 k (.int n) := by
  have h1 : n.natAbs.log2 < 40 := log2_lt 40 (Nat.lt_trans h (by decide)) (by decide)
  refine ⟨rfl, decide_eq_true (PyData.shown_int_le h), decide_eq_true (by omega), rfl, ?_, Nat.zero_le _⟩
  show (if n == 0 then 0 else n.natAbs.log2 + 1) ≤ 40
  split <;> omega
theorem FineL.ints {k : Nat} : ∀ {ns : List Int}, (∀ x ∈ ns, x.natAbs < 1000000000000) → FineL (41 * ns.length) k (dInts ns)
  | [], _ => FineL.nil
  | n :: ns, h => by
    have h1 := FineL.cons (Fine.int (k := k) (h n (List.mem_cons_self ..))) (FineL.ints (k := k) (ns := ns) fun x hx => h x (List.mem_cons_of_mem _ hx))
    have e : 40 + 1 + 41 * ns.length = 41 * (n :: ns).length := by rw [List.length_cons]; omega
    rw [e] at h1
    exact h1
theorem fine_repr {w k : Nat} {d : D} (h : Fine w k d) (hs : isSeq d = true) (hw : w ≤ 1048576) (hk : k ≤ 60) : pRepr [d] = some (.str d.shown, .unq) := by
  have hd := h.d
  have hW := h.w
  have e : (2 : Nat) ^ 20 = 1048576 := by decide
  have ho : okD d = true := by unfold okD; rw [h.p, decide_eq_true (Nat.le_trans hd hk)]; rfl
  have hl : PyData.layable0 d = true := by
    show (PyData.canLay0 d && decide (PyData.depth d ≤ 64) && decide (PyData.weight d ≤ 2 ^ 20)) = true
    rw [h.c, decide_eq_true (by omega), decide_eq_true (by omega)]; rfl
  have hn : d.shown.length ≤ lim := by
    have := shown_le13 hl h.i
    have : (15728653 : Nat) ≤ lim := by decide
    omega
  have hr : reprD d = some (.str d.shown) := by
    unfold reprD
    rw [hs, ho, h.s, decide_eq_true hn]; rfl
  show (reprD d).map (fun r => (r, Tag.unq)) = _
  rw [hr]; rfl
@[simp] theorem pNe_self (s : Str) : pNe [.str s, .str s] = some (.bool false, .unq) := by simp
end VL
end
section
set_option Elab.async false
set_option linter.all false
set_option maxRecDepth 100000
set_option autoImplicit false
namespace VL
/-! ### the index of a row, plain -/
/-- how many of l are less -/
def lessN (x : Int) (l : List Int) : Nat := (l.filter fun y => decide (y < x)).length
def codeN : List Int → List Nat
  | [] => []
  | x :: l => lessN x l :: codeN l
def idxN : List Int → Nat
  | [] => 0
  | x :: l => lessN x l * fac l.length + idxN l
theorem lessN_perm {x : Int} {l m : List Int} (h : l.Perm m) : lessN x l = lessN x m := (h.filter _).length_eq
theorem lessN_le (x : Int) (l : List Int) : lessN x l ≤ l.length := List.length_filter_le ..
theorem fac_pos : ∀ n, 0 < fac n
  | 0 => by decide
  | n + 1 => Nat.mul_pos (fac_pos n) (Nat.succ_pos n)
theorem fac_mono {m n : Nat} (h : m ≤ n) : fac m ≤ fac n := by
  induction h with
  | refl => exact Nat.le_refl _
  | step h ih => exact Nat.le_trans ih (Nat.le_mul_of_pos_right _ (Nat.succ_pos _))
theorem idx_lt : ∀ l : List Int, idxN l < fac l.length
  | [] => by decide
  | x :: l => by
    have h1 := idx_lt l
    have h2 := lessN_le x l
    show lessN x l * fac l.length + idxN l < fac l.length * (l.length + 1)
    have h3 : lessN x l * fac l.length ≤ l.length * fac l.length := Nat.mul_le_mul_right _ h2
    have h4 : fac l.length * (l.length + 1) = l.length * fac l.length + fac l.length := by
      rw [Nat.mul_add, Nat.mul_one, Nat.mul_comm]
    omega
/-- rising, each once -/
abbrev Asc (l : List Int) : Prop := l.Pairwise (· < ·)
abbrev Desc (l : List Int) : Prop := l.Pairwise (fun a b => b < a)
theorem less_asc : ∀ {left : List Int} {i : Nat} {x : Int}, Asc left → left[i]? = some x → lessN x (left.eraseIdx i) = i
  | [], i, x, _, h => by simp at h
  | y :: l, 0, x, ha, h => by
    simp at h; subst h
    have ha := List.pairwise_cons.mp ha
    unfold lessN
    rw [List.eraseIdx_zero, List.tail_cons, List.filter_eq_nil_iff.mpr (fun z hz => by have := ha.1 z hz; simp; omega)]
    rfl
  | y :: l, i + 1, x, ha, h => by
    have ha := List.pairwise_cons.mp ha
    have hx : l[i]? = some x := by simpa using h
    have ih := less_asc ha.2 hx
    have hy : y < x := ha.1 x (List.mem_of_getElem? hx)
    unfold lessN at *
    rw [List.eraseIdx_cons_succ, List.filter_cons, if_pos (by simpa using hy), List.length_cons, ih]
theorem asc_erase {left : List Int} (h : Asc left) (i : Nat) : Asc (left.eraseIdx i) := h.sublist (List.eraseIdx_sublist left i)
/-- the row with an index -/
def unr : Nat → List Int → Nat → List Int
  | 0, _, _ => []
  | m + 1, left, num => left.getD (num / fac m) 0 :: unr m (left.eraseIdx (num / fac m)) (num % fac m)
theorem unr_spec : ∀ {m : Nat} {left : List Int} {num : Nat}, Asc left → left.length = m → num < fac m → (unr m left num).Perm left ∧ idxN (unr m left num) = num
  | 0, left, num, _, hl, hn => by
    have : left = [] := List.length_eq_zero_iff.mp hl
    subst this
    have : num = 0 := by
      have : fac 0 = 1 := rfl
      omega
    subst this
    exact ⟨List.Perm.refl _, rfl⟩
  | m + 1, left, num, ha, hl, hn => by
    have hf := fac_pos m
    have hi : num / fac m < m + 1 := Nat.div_lt_of_lt_mul (by rw [show fac (m + 1) = fac m * (m + 1) from rfl] at hn; exact hn)
    have hx : left[num / fac m]? = some (left.getD (num / fac m) 0) := by
      rw [List.getD_eq_getElem?_getD, List.getElem?_eq_getElem (by omega)]; rfl
    have hle : (left.eraseIdx (num / fac m)).length = m := by rw [List.length_eraseIdx]; split <;> omega
    obtain ⟨p, e⟩ := unr_spec (asc_erase ha (num / fac m)) hle (Nat.mod_lt num hf)
    refine ⟨(p.cons _).trans (perm_erase hx), ?_⟩
    show lessN _ (unr m _ _) * fac (unr m _ _).length + idxN (unr m _ _) = num
    rw [e, lessN_perm p, less_asc ha hx, p.length_eq, hle]
    have := Nat.div_add_mod num (fac m)
    rw [Nat.mul_comm] at this
    exact this
theorem asc_perm_eq {l m : List Int} (hl : Asc l) (hm : Asc m) (h : l.Perm m) : l = m := h.eq_of_pairwise (fun a b _ _ h1 h2 => by omega) hl hm
theorem unr_idx : ∀ {m : Nat} {left r : List Int}, Asc left → r.Perm left → left.length = m → unr m left (idxN r) = r
  | 0, left, r, _, hp, hl => by
    have : r = [] := List.length_eq_zero_iff.mp (by rw [hp.length_eq]; exact hl)
    rw [this]; rfl
  | m + 1, left, r, ha, hp, hl => by
    cases r with
    | nil => have := hp.length_eq; simp at this; omega
    | cons x l =>
      have hlen : l.length = m := by have := hp.length_eq; simp at this; omega
      have hf := fac_pos m
      have hb := idx_lt l
      rw [hlen] at hb
      have e1 : idxN (x :: l) / fac m = lessN x l := by
        show (lessN x l * fac l.length + idxN l) / fac m = _
        rw [hlen, Nat.add_comm, Nat.add_mul_div_right _ _ hf, Nat.div_eq_of_lt hb, Nat.zero_add]
      have e2 : idxN (x :: l) % fac m = idxN l := by
        show (lessN x l * fac l.length + idxN l) % fac m = _
        rw [hlen, Nat.add_comm, Nat.add_mul_mod_self_right, Nat.mod_eq_of_lt hb]
      obtain ⟨i, hi⟩ := List.getElem?_of_mem (hp.mem_iff.mp (List.mem_cons_self ..))
      have hpe : l.Perm (left.eraseIdx i) := by
        have := hp.trans (perm_erase hi).symm
        exact this.cons_inv
      have e3 : lessN x l = i := by rw [lessN_perm hpe]; exact less_asc ha hi
      show left.getD (idxN (x :: l) / fac m) 0 :: unr m (left.eraseIdx (idxN (x :: l) / fac m)) (idxN (x :: l) % fac m) = x :: l
      rw [e1, e2, e3, List.getD_eq_getElem?_getD, hi]
      have hle : (left.eraseIdx i).length = m := by
        rw [List.length_eraseIdx]
        have := (List.getElem?_eq_some_iff.mp hi).1
        split <;> omega
      rw [unr_idx (asc_erase ha i) hpe hle]
      rfl
/-! the Horner way -/
def horn (n : Nat) : Nat → List Int → Nat → Nat
  | _, [], found => found
  | at_, x :: l, found => horn n (at_ + 1) l (found * (n - at_) + lessN x l)
theorem horn_eq {n : Nat} : ∀ {l : List Int} {at_ found : Nat}, at_ + l.length = n → horn n at_ l found = found * fac l.length + idxN l
  | [], at_, found, _ => by simp [horn, idxN, fac]
  | x :: l, at_, found, h => by
    simp only [List.length_cons] at h
    rw [horn, horn_eq (l := l) (by omega)]
    show (found * (n - at_) + lessN x l) * fac l.length + idxN l = found * (fac l.length * (l.length + 1)) + (lessN x l * fac l.length + idxN l)
    rw [show n - at_ = l.length + 1 by omega, Nat.add_mul, Nat.mul_assoc, Nat.mul_comm (l.length + 1)]
    omega
theorem iota_asc (n : Nat) : Asc (iota n) := by
  unfold iota Asc
  rw [List.pairwise_map]
  exact List.pairwise_lt_range.imp fun h => by omega
theorem idx_asc : ∀ {l : List Int}, Asc l → idxN l = 0
  | [], _ => rfl
  | x :: l, h => by
    have h := List.pairwise_cons.mp h
    have : lessN x l = 0 := by
      unfold lessN
      rw [List.filter_eq_nil_iff.mpr (fun z hz => by have := h.1 z hz; simp; omega)]; rfl
    show lessN x l * _ + idxN l = 0
    rw [this, idx_asc h.2]; simp
theorem idx_desc : ∀ {l : List Int}, Desc l → idxN l + 1 = fac l.length
  | [], _ => rfl
  | x :: l, h => by
    have h := List.pairwise_cons.mp h
    have : lessN x l = l.length := by
      unfold lessN
      rw [List.filter_eq_self.mpr (fun z hz => by have := h.1 z hz; simpa using this)]
    show lessN x l * fac l.length + idxN l + 1 = fac l.length * (l.length + 1)
    rw [this]
    have := idx_desc h.2
    rw [Nat.mul_add, Nat.mul_one, Nat.mul_comm (fac l.length)]
    omega
theorem less_flip (k : Int) (x : Int) (l : List Int) (h : x ∉ l) : lessN (k - x) (l.map fun y => k - y) + lessN x l = l.length := by
  induction l with
  | nil => rfl
  | cons y l ih =>
    have h1 : x ≠ y := fun z => h (by rw [z]; exact List.mem_cons_self ..)
    have h2 := ih fun z => h (List.mem_cons_of_mem _ z)
    unfold lessN at *
    simp only [List.map_cons, List.filter_cons, List.length_cons]
    by_cases q : y < x
    · rw [if_neg (by simp; omega), if_pos (by simpa using q), List.length_cons]; omega
    · rw [if_pos (by simp; omega), if_neg (by simpa using q), List.length_cons]; omega
theorem idx_flip (k : Int) : ∀ {l : List Int}, l.Nodup → idxN (l.map fun y => k - y) + idxN l + 1 = fac l.length
  | [], _ => rfl
  | x :: l, h => by
    rw [List.nodup_cons] at h
    have h1 := less_flip k x l h.1
    have h2 := idx_flip k h.2
    show lessN (k - x) (l.map fun y => k - y) * fac (l.map fun y => k - y).length + idxN (l.map fun y => k - y) + (lessN x l * fac l.length + idxN l) + 1 = fac l.length * (l.length + 1)
    rw [List.length_map]
    have e : lessN (k - x) (l.map fun y => k - y) * fac l.length + lessN x l * fac l.length = l.length * fac l.length := by rw [← Nat.add_mul, h1]
    rw [Nat.mul_add, Nat.mul_one, Nat.mul_comm (fac l.length)]
    omega
end VL
end
section
set_option Elab.async false
set_option linter.all false
set_option maxRecDepth 100000
set_option autoImplicit false
namespace VL
/-! ### the next row, plain -/
def up (x : Int) (l : List Int) : Option Int := ((isort l).filter fun z => decide (x < z)).head?
def nxt : List Int → Option (List Int)
  | [] => none
  | x :: l => match nxt l with
    | some l' => some (x :: l')
    | none => (match up x l with
      | some y => some (y :: (isort (x :: l)).filter fun z => !decide (z = y))
      | none => none)
theorem isort_asc {l : List Int} (h : l.Nodup) : Asc (isort l) := by
  have h1 := isort_srt l
  have h2 : (isort l).Nodup := (isort_perm l).symm.nodup h
  rw [List.nodup_iff_pairwise_ne] at h2
  exact h1.imp₂ (fun a b h3 h4 => by omega) h2
theorem up_some {x y : Int} {l : List Int} (h : up x l = some y) : y ∈ l ∧ x < y ∧ ∀ z ∈ l, x < z → y ≤ z := by
  unfold up at h
  cases q : (isort l).filter fun z => decide (x < z) with
  | nil => rw [q] at h; cases h
  | cons a r =>
    rw [q] at h
    simp at h; subst h
    have ha : a ∈ (isort l).filter fun z => decide (x < z) := by rw [q]; exact List.mem_cons_self ..
    rw [List.mem_filter] at ha
    refine ⟨(isort_perm l).mem_iff.mp ha.1, by simpa using ha.2, fun z hz hxz => ?_⟩
    have hz' : z ∈ (isort l).filter fun z => decide (x < z) := List.mem_filter.mpr ⟨(isort_perm l).mem_iff.mpr hz, by simpa using hxz⟩
    have hs := (isort_srt l).filter fun z => decide (x < z)
    rw [q] at hs hz'
    rcases List.mem_cons.mp hz' with rfl | hz'
    · exact Int.le_refl _
    · exact (List.pairwise_cons.mp hs).1 z hz'
theorem up_none {x : Int} {l : List Int} (h : up x l = none) : ∀ z ∈ l, z ≤ x := fun z hz => by
  unfold up at h
  rw [List.head?_eq_none_iff, List.filter_eq_nil_iff] at h
  have := h z ((isort_perm l).mem_iff.mpr hz)
  simpa using this
theorem up_none_of {x : Int} {l : List Int} (h : ∀ z ∈ l, z ≤ x) : up x l = none := by
  unfold up
  rw [List.head?_eq_none_iff, List.filter_eq_nil_iff]
  intro z hz
  have := h z ((isort_perm l).mem_iff.mp hz)
  simpa using this
theorem up_of {x y : Int} {l : List Int} (h1 : y ∈ l) (h2 : x < y) (h3 : ∀ z ∈ l, x < z → y ≤ z) : up x l = some y := by
  cases q : up x l with
  | none => have := up_none q y h1; omega
  | some w =>
    obtain ⟨a, b, c⟩ := up_some q
    have := c y h1 h2
    have := h3 w a b
    rw [show w = y by omega]
theorem nxt_none : ∀ {l : List Int}, l.Nodup → (nxt l = none ↔ Desc l)
  | [], _ => ⟨fun _ => List.Pairwise.nil, fun _ => rfl⟩
  | x :: l, h => by
    rw [List.nodup_cons] at h
    have ih := nxt_none h.2
    simp only [nxt]
    constructor
    · intro q
      cases q1 : nxt l with
      | some l' => rw [q1] at q; cases q
      | none =>
        rw [q1] at q
        cases q2 : up x l with
        | some y => rw [q2] at q; cases q
        | none =>
          refine List.pairwise_cons.mpr ⟨fun z hz => ?_, ih.mp q1⟩
          have := up_none q2 z hz
          have : z ≠ x := fun e => h.1 (by rw [← e]; exact hz)
          omega
    · intro q
      have q := List.pairwise_cons.mp q
      rw [ih.mpr q.2, up_none_of fun z hz => by have := q.1 z hz; omega]
theorem cons_filter_perm {y : Int} {l : List Int} (hn : l.Nodup) (hy : y ∈ l) : (y :: l.filter fun z => !decide (z = y)).Perm l := by
  have e : l.filter (fun z => !decide (z = y)) = l.erase y := by
    rw [hn.erase_eq_filter]
    apply List.filter_congr
    intro z _
    by_cases q : z = y <;> simp [q]
  rw [e]
  exact (List.perm_cons_erase hy).symm
theorem nxt_some : ∀ {l l' : List Int}, l.Nodup → nxt l = some l' → l'.Perm l ∧ idxN l' = idxN l + 1
  | [], l', _, h => by cases h
  | x :: l, l', hn, h => by
    have hn0 := hn
    rw [List.nodup_cons] at hn
    simp only [nxt] at h
    cases q1 : nxt l with
    | some m =>
      rw [q1] at h; cases h
      obtain ⟨p, e⟩ := nxt_some hn.2 q1
      refine ⟨p.cons _, ?_⟩
      show lessN x m * fac m.length + idxN m = lessN x l * fac l.length + idxN l + 1
      rw [lessN_perm p, p.length_eq, e]; omega
    | none =>
      rw [q1] at h
      cases q2 : up x l with
      | none => rw [q2] at h; cases h
      | some y =>
        rw [q2] at h; cases h
        obtain ⟨u1, u2, u3⟩ := up_some q2
        have hd := (nxt_none hn.2).mp q1
        have hp0 : (isort (x :: l)).Perm (x :: l) := isort_perm _
        have hy : y ∈ isort (x :: l) := hp0.mem_iff.mpr (List.mem_cons_of_mem _ u1)
        have p1 := (cons_filter_perm (hp0.symm.nodup hn0) hy).trans hp0
        refine ⟨p1, ?_⟩
        obtain ⟨m, hm⟩ : ∃ m, (isort (x :: l)).filter (fun z => !decide (z = y)) = m := ⟨_, rfl⟩
        rw [hm] at p1 ⊢
        have ha : Asc m := by rw [← hm]; exact (isort_asc hn0).filter _
        have hl : m.length = l.length := by have := p1.length_eq; simpa using this
        show lessN y m * fac m.length + idxN m = lessN x l * fac l.length + idxN l + 1
        have hxy : x ≠ y := by omega
        -- m is x and l without y
        have p2 : m.Perm (x :: l.erase y) := by
          have : (y :: m).Perm (y :: (x :: l.erase y)) := p1.trans (((List.perm_cons_erase u1).cons x).trans (List.Perm.swap ..))
          exact this.cons_inv
        have e1 : lessN y m = lessN x l + 1 := by
          rw [lessN_perm p2]
          unfold lessN
          rw [List.filter_cons, if_pos (by simpa using u2), List.length_cons]
          congr 1
          have e2 : (l.erase y).filter (fun z => decide (z < y)) = (l.erase y).filter (fun z => decide (z < x)) := by
            apply List.filter_congr
            intro z hz
            have hz1 := List.mem_of_mem_erase hz
            have hzx : z ≠ x := fun e => hn.1 (by rw [← e]; exact hz1)
            have hzy : z ≠ y := fun e => by
              rw [e] at hz
              exact (hn.2.not_mem_erase) hz
            have := u3 z hz1
            by_cases w : z < x
            · simp [w]; omega
            · have : y ≤ z := this (by omega)
              simp [w]; omega
          rw [e2]
          have := ((List.perm_cons_erase u1).filter fun z => decide (z < x)).length_eq
          rw [this, List.filter_cons, if_neg (by simp; omega)]
        rw [e1, hl, idx_asc ha, Nat.add_mul, Nat.one_mul]
        have := idx_desc hd
        omega
end VL
end
section
set_option Elab.async false
set_option linter.all false
set_option maxRecDepth 100000
set_option autoImplicit false
namespace VL
theorem at0_get {r : List Int} {i : Nat} (h : i < r.length) : r[i]? = some (at0 r i) := by
  unfold at0
  rw [List.getD_eq_getElem?_getD, List.getElem?_eq_getElem h]; rfl
theorem at0_cons (x : Int) (l : List Int) (i : Nat) : at0 (x :: l) (i + 1) = at0 l i := by simp [at0]
def risN (r : List Int) : List Nat := (List.range (r.length - 1)).filter fun i => decide (at0 r i < at0 r (i + 1))
theorem desc_chain : ∀ (l : List Int), (∀ i, i + 1 < l.length → at0 l (i + 1) < at0 l i) → Desc l
  | [], _ => List.Pairwise.nil
  | [x], _ => List.pairwise_singleton ..
  | x :: y :: l, h => by
    have ih := desc_chain (y :: l) fun i hi => by
      have := h (i + 1) (by simpa using hi)
      rwa [at0_cons, at0_cons] at this
    refine List.pairwise_cons.mpr ⟨fun z hz => ?_, ih⟩
    have h0 : y < x := by have := h 0 (by simp); simpa [at0] using this
    rcases List.mem_cons.mp hz with rfl | hz
    · exact h0
    · have := (List.pairwise_cons.mp ih).1 z hz
      omega
theorem nodup_at {r : List Int} (h : r.Nodup) {i j : Nat} (hi : i < r.length) (hj : j < r.length) (hij : i ≠ j) : at0 r i ≠ at0 r j := by
  intro e
  have h1 := at0_get hi
  have h2 := at0_get hj
  rw [e] at h1
  have := (List.getElem?_inj hi h).mp (h1.trans h2.symm)
  exact hij this
theorem ris_nil {r : List Int} (h : r.Nodup) : risN r = [] ↔ Desc r := by
  constructor
  · intro q
    refine desc_chain r fun i hi => ?_
    have := List.filter_eq_nil_iff.mp q i (by rw [List.mem_range]; omega)
    have h2 := nodup_at h (i := i) (j := i + 1) (by omega) hi (by omega)
    simp at this
    omega
  · intro q
    refine List.filter_eq_nil_iff.mpr fun i hi => ?_
    rw [List.mem_range] at hi
    have h1 := at0_get (r := r) (i := i) (by omega)
    have h2 := at0_get (r := r) (i := i + 1) (by omega)
    obtain ⟨a, e1⟩ := List.getElem?_eq_some_iff.mp h1
    obtain ⟨b, e2⟩ := List.getElem?_eq_some_iff.mp h2
    have := (List.pairwise_iff_getElem.mp q) i (i + 1) a b (by omega)
    rw [e1, e2] at this
    simp; omega
theorem split_at {r : List Int} {a : Nat} (h : a < r.length) : r = r.take a ++ at0 r a :: r.drop (a + 1) := by
  have h1 := at0_get h
  obtain ⟨_, e⟩ := List.getElem?_eq_some_iff.mp h1
  rw [← e]
  simp
theorem at0_drop (r : List Int) (a i : Nat) : at0 (r.drop a) i = at0 r (a + i) := by simp [at0]
/-- the last rising place -/
theorem ris_last {r : List Int} {a : Nat} (h : r.Nodup) (hl : (risN r).getLast? = some a) : a + 1 < r.length ∧ at0 r a < at0 r (a + 1) ∧ Desc (r.drop (a + 1)) := by
  have hm : a ∈ risN r := List.mem_of_getLast? hl
  have hm2 := hm
  unfold risN at hm
  rw [List.mem_filter, List.mem_range] at hm
  have h1 : at0 r a < at0 r (a + 1) := by simpa using hm.2
  refine ⟨by omega, h1, desc_chain _ fun i hi => ?_⟩
  rw [List.length_drop] at hi
  rw [at0_drop, at0_drop]
  have hne := nodup_at h (i := a + 1 + i) (j := a + 1 + (i + 1)) (by omega) (by omega) (by omega)
  by_cases q : at0 r (a + 1 + i) < at0 r (a + 1 + (i + 1))
  · exfalso
    have hmem : a + 1 + i ∈ risN r := by
      unfold risN
      rw [List.mem_filter, List.mem_range]
      exact ⟨by omega, by rw [decide_eq_true_eq]; exact q⟩
    have hs : (risN r).Pairwise (· < ·) := List.pairwise_lt_range.filter _
    obtain ⟨ys, hys⟩ := List.getLast?_eq_some_iff.mp hl
    rw [hys] at hs hmem
    rw [List.pairwise_append] at hs
    rcases List.mem_append.mp hmem with hmem | hmem
    · have := hs.2.2 _ hmem a (List.mem_singleton.mpr rfl)
      omega
    · simp at hmem; omega
  · omega
theorem nxt_app {x y : Int} {t : List Int} : ∀ {p : List Int}, (p ++ x :: t).Nodup → Desc t → up x t = some y → nxt (p ++ x :: t) = some (p ++ y :: (isort (x :: t)).filter fun z => !decide (z = y))
  | [], hn, hd, hu => by
    rw [List.nil_append] at hn
    rw [List.nodup_cons] at hn
    show nxt (x :: t) = _
    simp only [nxt]
    rw [(nxt_none hn.2).mpr hd]
    simp only [hu]
    rfl
  | a :: p, hn, hd, hu => by
    rw [List.cons_append, List.nodup_cons] at hn
    have ih := nxt_app hn.2 hd hu
    show nxt (a :: (p ++ x :: t)) = _
    simp only [nxt]
    rw [ih]
    rfl
theorem desc_get {t : List Int} (h : Desc t) {i k : Nat} {u v : Int} (hik : i < k) (hu : t[i]? = some u) (hv : t[k]? = some v) : v < u := by
  obtain ⟨a, e1⟩ := List.getElem?_eq_some_iff.mp hu
  obtain ⟨b, e2⟩ := List.getElem?_eq_some_iff.mp hv
  have := (List.pairwise_iff_getElem.mp h) i k a b hik
  rw [e1, e2] at this
  exact this
theorem prog_next {x y : Int} {t : List Int} {j : Nat} (hn : (x :: t).Nodup) (hd : Desc t) (hj : t[j]? = some y) (hxy : x < y) (hk : ∀ (k : Nat) (z : Int), j < k → t[k]? = some z → z < x) :
    up x t = some y ∧ (t.set j x).reverse = (isort (x :: t)).filter fun z => !decide (z = y) := by
  have hjl := (List.getElem?_eq_some_iff.mp hj).1
  have hym := List.mem_of_getElem? hj
  refine ⟨up_of hym hxy fun z hz hxz => ?_, ?_⟩
  · obtain ⟨k, hkz⟩ := List.getElem?_of_mem hz
    rcases Nat.lt_trichotomy k j with q | q | q
    · have := desc_get hd q hkz hj; omega
    · subst q; rw [hkz] at hj; cases hj; exact Int.le_refl _
    · have := hk k z q hkz; omega
  · refine asc_perm_eq ?_ ((isort_asc hn).filter _) ?_
    · show List.Pairwise (· < ·) (t.set j x).reverse
      rw [List.pairwise_reverse]
      rw [List.pairwise_iff_getElem]
      intro i k hi hk' hik
      rw [List.length_set] at hi hk'
      have g1 : t[i]? = some t[i] := List.getElem?_eq_getElem hi
      have g2 : t[k]? = some t[k] := List.getElem?_eq_getElem hk'
      by_cases hij : j = i
      · subst hij
        rw [List.getElem_set_self, List.getElem_set_ne (by omega)]
        exact hk k t[k] hik g2
      · rw [List.getElem_set_ne hij]
        by_cases hkj : j = k
        · subst hkj
          rw [List.getElem_set_self]
          have := desc_get hd hik g1 hj
          omega
        · rw [List.getElem_set_ne hkj]
          exact desc_get hd hik g1 g2
    · refine (List.reverse_perm _).trans ?_
      have p1 : (y :: t.set j x).Perm (x :: t) := set_perm hj
      have p2 : (y :: (isort (x :: t)).filter fun z => !decide (z = y)).Perm (x :: t) := (cons_filter_perm ((isort_perm _).symm.nodup hn) ((isort_perm _).mem_iff.mpr (List.mem_cons_of_mem _ hym))).trans (isort_perm _)
      exact (p1.trans p2.symm).cons_inv
end VL
end
section
set_option Elab.async false
set_option linter.all false
set_option maxRecDepth 100000
set_option autoImplicit false
namespace VL
open PySem PySem.Spec PyProof.Rows L2
def nI (l : List Nat) : List Int := l.map fun n : Nat => (n : Int)
theorem codeN_zip : ∀ (r : List Int) (k : Nat) (q : List Int), r.length + k = q.length → q.drop k = r → (r.zipIdx k).map (fun p => lessN p.1 (q.drop (p.2 + 1))) = codeN r
  | [], k, q, _, _ => rfl
  | x :: r, k, q, h, e => by
    have e2 : q.drop (k + 1) = r := by rw [← List.drop_drop, e]; rfl
    simp only [List.zipIdx_cons, List.map_cons, codeN, e2]
    rw [codeN_zip r (k + 1) q (by simp at h; omega) e2]
theorem code_spec {r : List Int} (hl : r.length ≤ 1000) : Gives fn_code_of [.tuple (dInts r)] (.tuple (dInts (nI (codeN r)))) := by
  have inner : ∀ (i : Nat) (x : Int) (l : List Int), lcE (setE 3) T_code_of_1 E_code_of_1 [3] (l.map fun n : Int => ((.int n, .unq) : D × Tag)) [some (.tuple (dInts r), .unq), some (.int i, .unq), some (.int x, .unq), none] =
      .ok ((l.filter fun y => decide (y < x)).map fun n : Int => ((.int n, .unq) : D × Tag), [some (.tuple (dInts r), .unq), some (.int i, .unq), some (.int x, .unq), none]) := fun i x l => by
    refine lcE_some (e := fun n : Int => ((.int n, .unq) : D × Tag)) (c := fun y => decide (y < x)) (f := fun n : Int => ((.int n, .unq) : D × Tag)) fun n hn => ?_
    simp [turnE, T_code_of_1, E_code_of_1, pureOf_ap]
    split <;> rfl
  have outer : lcE (gUnF 2 (gsCons (setE 1) (gsCons (setE 2) gsNil))) tYesF E_code_of_2 [1, 2] (r.zipIdx.map fun p : Int × Nat => ((.tuple [.int p.2, .int p.1], .unq) : D × Tag)) [some (.tuple (dInts r), .unq), none, none, none] =
      .ok (r.zipIdx.map fun p : Int × Nat => ((.int (lessN p.1 (r.drop (p.2 + 1)) : Nat), .unq) : D × Tag), [some (.tuple (dInts r), .unq), none, none, none]) := by
    refine lcE_all (e := fun p : Int × Nat => ((.tuple [.int p.2, .int p.1], .unq) : D × Tag)) (f := fun p : Int × Nat => ((.int (lessN p.1 (r.drop (p.2 + 1)) : Nat), .unq) : D × Tag)) fun p hp => ?_
    obtain ⟨x, i⟩ := p
    have hd : (r.drop (i + 1)).length ≤ lim := lim_le (by rw [List.length_drop]; omega)
    have hd2 : r.length - (i + 1) ≤ lim := lim_le (by omega)
    simp [turnE, E_code_of_2, pureOf_ap, partTag, cut_from1, unqOf_dInts, noPar_ap, hd2, inner, fst_map, acc_unq, -List.map_map, -List.map_drop]
    rfl
  have e3 : (r.zipIdx.map fun p : Int × Nat => (PyData.int (lessN p.1 (r.drop (p.2 + 1)) : Nat))) = dInts (nI (codeN r)) := by
    rw [← codeN_zip r 0 r rfl rfl]
    simp [dInts, nI]
  simp [Gives, fn_code_of, fnOf_ap, B_code_of, pureOf_ap, enumL_dInts, noPar_ap, lim_le (show r.length ≤ 16777216 by omega), outer, fst_map, acc_unq, -List.map_map, e3]
end VL
end
section
set_option Elab.async false
set_option linter.all false
set_option maxRecDepth 100000
set_option autoImplicit false
namespace VL
open PySem PySem.Spec PyProof.Rows L2
/-! all rows -/
def stepR (m : Nat) (s : List Int) : List (List Int) := ((List.range m).filter fun x : Nat => !s.contains (x : Int)).map fun x : Nat => s ++ [(x : Int)]
def rowsP (m : Nat) : Nat → List (List Int)
  | 0 => [[]]
  | t + 1 => (rowsP m t).flatMap (stepR m)
def dTT (hs : List (List Int)) : List D := hs.map fun h => .tuple (dInts h)
theorem dTT_app (a b : List (List Int)) : dTT a ++ dTT b = dTT (a ++ b) := by simp [dTT]
theorem len_dTT (a : List (List Int)) : (dTT a).length = a.length := by simp [dTT]
theorem len_stepR (m : Nat) (s : List Int) : (stepR m s).length ≤ m := by
  unfold stepR
  rw [List.length_map]
  have := List.length_filter_le (fun x : Nat => !s.contains (x : Int)) (List.range m)
  simpa using this
theorem len_flat (m : Nat) : ∀ l : List (List Int), (l.flatMap (stepR m)).length ≤ l.length * m
  | [] => by simp
  | s :: l => by
    rw [List.flatMap_cons, List.length_append, List.length_cons, Nat.add_mul]
    have := len_stepR m s
    have := len_flat m l
    omega
theorem len_rowsP (m : Nat) : ∀ t, (rowsP m t).length ≤ m ^ t
  | 0 => by simp [rowsP]
  | t + 1 => by
    have h1 := len_flat m (rowsP m t)
    have h2 := len_rowsP m t
    have h3 := Nat.mul_le_mul_right m h2
    show ((rowsP m t).flatMap (stepR m)).length ≤ m ^ t * m
    omega
structure Part (m t : Nat) (s : List Int) : Prop where
  nd : s.Nodup
  len : s.length = t
  at_ : ∀ x ∈ s, 0 ≤ x ∧ x < m
theorem part_rows (m : Nat) : ∀ t, ∀ s ∈ rowsP m t, Part m t s
  | 0, s, h => by
    simp [rowsP] at h
    subst h
    exact ⟨List.nodup_nil, rfl, fun x hx => by cases hx⟩
  | t + 1, s, h => by
    simp only [rowsP, List.mem_flatMap] at h
    obtain ⟨u, hu, hs⟩ := h
    have ih := part_rows m t u hu
    unfold stepR at hs
    rw [List.mem_map] at hs
    obtain ⟨x, hx, rfl⟩ := hs
    rw [List.mem_filter, List.mem_range] at hx
    obtain ⟨hx1, hx2⟩ := hx
    have hx2 : ¬ (x : Int) ∈ u := by simpa using hx2
    refine ⟨?_, by simp [ih.len], fun y hy => ?_⟩
    · rw [List.nodup_append]
      refine ⟨ih.nd, by simp, fun a ha b hb => ?_⟩
      simp at hb
      subst hb
      rintro rfl
      exact hx2 ha
    · rcases List.mem_append.mp hy with hy | hy
      · exact ih.at_ y hy
      · simp at hy
        subst hy
        omega
theorem row_rows {m : Nat} {s : List Int} (h : s ∈ rowsP m m) : IsRow s ∧ s.length = m := by
  have p := part_rows m m s h
  exact ⟨⟨p.nd, fun x hx => by rw [p.len]; exact p.at_ x hx⟩, p.len⟩
theorem rows_in {m : Nat} {s : List Int} {l1 l2 : Option (D × Tag)} {acc : List (List Int)} {l4 l5 : Option (D × Tag)} (g4 : NoPar l4) (g5 : NoPar l5) (hm : m ≤ 1000) (hs : s.length ≤ 1000) (hl : acc.length + m ≤ 10000000) :
    turnS (setE 4) L__law_rows_1 (.tuple (dInts s), .unq) [some (.int m, .unq), l1, l2, some (.list (dTT acc), .unq), l4, l5] =
      .nx [some (.int m, .unq), l1, l2, some (.list (dTT (acc ++ stepR m s)), .unq), some (.tuple (dInts s), .unq), none] := by
  simp only [turnS]
  rw [setE_free (o := l4) _ rfl g4]
  simp only [out_ok, List.set_cons_succ, List.set_cons_zero]
  let E : Env := [some (.int m, .unq), l1, l2, some (.list (dTT acc), .unq), some (.tuple (dInts s), .unq), none]
  have hlc : lcE (setE 5) (tOfE (ePure2 pNotIn (eVar 5) (eVar 4))) (ePure2 pAdd (eVar 4) (eTup (aCons (eKeep false (eVar 5)) aNil))) [5] ((List.range m).map fun n : Nat => ((.int n, .unq) : D × Tag)) E = .ok (((List.range m).filter fun x : Nat => !s.contains (x : Int)).map fun n : Nat => ((.tuple (dInts (s ++ [(n : Int)])), .unq) : D × Tag), E) := by
    refine lcE_some (e := fun n : Nat => ((.int n, .unq) : D × Tag)) (c := fun x : Nat => !s.contains (x : Int)) (f := fun n : Nat => ((.tuple (dInts (s ++ [(n : Int)])), .unq) : D × Tag)) fun n hn => ?_
    have ad : pAdd [.tuple (dInts s), .tuple [.int n]] = some (.tuple (dInts (s ++ [(n : Int)])), .unq) := pAdd_tups (a := s) (b := [(n : Int)]) (by simp; omega)
    cases q : s.contains (n : Int) <;> simp [turnE, E, pureOf_ap, dispOf_ap, ad, q, -List.contains_eq_mem]
  have hnp : noPar [5] [some (PyData.int (m : Int), Tag.unq), l1, l2, some (PyData.list (dTT acc), Tag.unq), some (PyData.tuple (dInts s), Tag.unq), l5] = true := by
    rw [noPar_ap]
    cases l5 with
    | none => rfl
    | some p =>
      obtain ⟨d, t⟩ := p
      have := g5 _ rfl
      cases t <;> first | rfl | exact absurd rfl this
  have e3 : (((List.range m).filter fun x : Nat => !s.contains (x : Int)).map fun n : Nat => PyData.tuple (dInts (s ++ [(n : Int)]))) = dTT (stepR m s) := by simp [dTT, stepR]
  have hle : (dTT acc).length + (dTT (stepR m s)).length ≤ lim := by
    rw [len_dTT, len_dTT]
    have := len_stepR m s
    exact lim_le (by omega)
  have hml : m ≤ lim := lim_le (by omega)
  have el : eLc (iRng1E (aCons (eVar 0) aNil)) (setE 5) (tOfE (ePure2 pNotIn (eVar 5) (eVar 4))) (ePure2 pAdd (eVar 4) (eTup (aCons (eKeep false (eVar 5)) aNil))) [5] [some (.int m, .unq), l1, l2, some (.list (dTT acc), .unq), some (.tuple (dInts s), .unq), l5] = .ok (.val (.list (dTT (stepR m s))) .unq, E) := by
    simp [rng1R_int _ (inBig_of (j := (m : Int)) (by omega) (by omega)), unqOf_rng, hnp, hml]
    rw [hlc]
    simp only [bind_ok, nox_ok, fst_map, acc_unq, e3]
  have ex : extendE 3 (PyData.list (dTT (stepR m s)), Tag.unq) E = .ok (none1, [some (.int m, .unq), l1, l2, some (.list (dTT (acc ++ stepR m s)), .unq), some (.tuple (dInts s), .unq), none]) := by
    show (if Tag.unq ≠ Tag.sh ∧ Tag.unq ≠ Tag.par ∧ (dTT acc).length + (dTT (stepR m s)).length ≤ lim then _ else _) = _
    rw [if_pos ⟨by decide, by decide, hle⟩, dTT_app]
    rfl
  have ee : eExtend 3 (eLc (iRng1E (aCons (eVar 0) aNil)) (setE 5) (tOfE (ePure2 pNotIn (eVar 5) (eVar 4))) (ePure2 pAdd (eVar 4) (eTup (aCons (eKeep false (eVar 5)) aNil))) [5]) [some (.int m, .unq), l1, l2, some (.list (dTT acc), .unq), some (.tuple (dInts s), .unq), l5] = .ok (none1, [some (.int m, .unq), l1, l2, some (.list (dTT (acc ++ stepR m s)), .unq), some (.tuple (dInts s), .unq), none]) := by
    show ((eLc _ _ _ _ _ [some (.int m, .unq), l1, l2, some (.list (dTT acc), .unq), some (.tuple (dInts s), .unq), l5]).bind fun p => (match p.1 with
      | .val d t => extendE 3 (d, t) p.2
      | .slot _ => .bad)) = _
    rw [el, bind_ok]
    exact ex
  simp only [L__law_rows_1, sDrop_ap, ee, out_ok]
end VL
end
section
set_option Elab.async false
set_option linter.all false
set_option maxRecDepth 100000
set_option autoImplicit false
namespace VL
open PySem PySem.Spec PyProof.Rows L2
theorem unq_dTT (l : List (List Int)) : unqOf (dTT l) = l.map fun s => ((.tuple (dInts s), .unq) : D × Tag) := by
  simp [unqOf, dTT, partTag]
theorem pow_bound {m t : Nat} (hm : m ≤ 7) (ht : t ≤ 7) : m ^ t ≤ 823543 := by
  have h1 : m ^ t ≤ 7 ^ t := Nat.pow_le_pow_left hm t
  have h2 : 7 ^ t ≤ 7 ^ 7 := Nat.pow_le_pow_right (by decide) ht
  have : (7 : Nat) ^ 7 = 823543 := by decide
  omega
theorem rows_turn {m t : Nat} (hm : m ≤ 7) (ht : t < m) {l2 l3 l4 l5 : Option (D × Tag)} (g2 : NoPar l2) (g3 : NoPar l3) (g4 : NoPar l4) (g5 : NoPar l5) :
    ∃ l4' l5', turnS (setE 2) L__law_rows_2 (.int t, .unq) [some (.int m, .unq), some (.list (dTT (rowsP m t)), .unq), l2, l3, l4, l5] =
      .nx [some (.int m, .unq), some (.list (dTT (rowsP m (t + 1))), .unq), some (.int t, .unq), none, l4', l5'] ∧ NoPar l4' ∧ NoPar l5' := by
  have hp := pow_bound hm (show t ≤ 7 by omega)
  have hlr := len_rowsP m t
  have loop := forE_step (g := setE 4) (b := L__law_rows_1) (e := fun s : List Int => ((.tuple (dInts s), .unq) : D × Tag))
    (fun done env => ∃ l4 l5, env = [some (.int m, .unq), none, some (.int t, .unq), some (.list (dTT (done.flatMap (stepR m))), .unq), l4, l5] ∧ NoPar l4 ∧ NoPar l5)
    (l := rowsP m t) (env := [some (.int m, .unq), none, some (.int t, .unq), some (.list (dTT []), .unq), l4, l5]) ⟨l4, l5, rfl, g4, g5⟩ ?_
  · obtain ⟨env', h1, l4', l5', rfl, k4, k5⟩ := loop
    refine ⟨l4', l5', ?_, k4, k5⟩
    simp only [turnS]
    rw [setE_free (o := l2) _ rfl g2]
    simp only [out_ok, L__law_rows_2, List.set_cons_succ, List.set_cons_zero]
    have s1 : sAsg (eLst aNil) (setE 3) [some (.int m, .unq), some (.list (dTT (rowsP m t)), .unq), some (.int t, .unq), l3, l4, l5] = .nx [some (.int m, .unq), some (.list (dTT (rowsP m t)), .unq), some (.int t, .unq), some (.list (dTT []), .unq), l4, l5] := by
      simp [dispOf_ap, -setE_ap]
      rw [setE_free (o := l3) _ rfl g3]
      rfl
    rw [sSeq_ap, s1]
    simp only []
    simp [h1, unq_dTT, rowsP]
  · intro done s tl env hk hI
    obtain ⟨l4, l5, rfl, k4, k5⟩ := hI
    have hs : s ∈ rowsP m t := by rw [hk]; simp
    have p := part_rows m t s hs
    have hd : done.length ≤ 823543 := by
      have := congrArg List.length hk
      simp at this
      omega
    have hf := len_flat m done
    have hf2 : done.length * m ≤ 823543 * 7 := Nat.mul_le_mul hd hm
    refine ⟨_, rows_in k4 k5 (by omega) (by rw [p.len]; omega) (by omega), some (.tuple (dInts s), .unq), none, ?_, noPar_unq _, noPar_none⟩
    rw [List.flatMap_append]
    simp
theorem rows_spec {m : Nat} (hm : m ≤ 7) : Gives fn__law_rows [.int m] (.list (dTT (rowsP m m))) := by
  have loop := forE_step (g := setE 2) (b := L__law_rows_2) (e := fun k : Nat => ((.int k, .unq) : D × Tag))
    (fun done env => ∃ l2 l4 l5, env = [some (.int m, .unq), some (.list (dTT (rowsP m done.length)), .unq), l2, none, l4, l5] ∧ NoPar l2 ∧ NoPar l4 ∧ NoPar l5)
    (l := List.range m) (env := [some (.int m, .unq), some (.list (dTT [[]]), .unq), none, none, none, none]) ⟨none, none, none, rfl, noPar_none, noPar_none, noPar_none⟩ ?_
  · obtain ⟨env', h1, l2, l4, l5, rfl, k2, k4, k5⟩ := loop
    rw [List.length_range] at h1
    have ed : dTT [[]] = [.tuple []] := rfl
    rw [ed] at h1
    simp [Gives, fn__law_rows, fnOf_ap, B__law_rows, dispOf_ap, rng1R_int _ (inBig_of (j := (m : Int)) (by omega) (by omega)), unqOf_rng, h1]
  · intro done k tl env hk hI
    obtain ⟨l2, l4, l5, rfl, k2, k4, k5⟩ := hI
    have hdm : done.length < m := by
      have := congrArg List.length hk
      simp at this
      omega
    have hdk : done.length = k := by
      have : (List.range m)[done.length]? = some k := by rw [hk]; simp
      rw [List.getElem?_range hdm] at this
      exact Option.some.inj this
    obtain ⟨l4', l5', h1, h4, h5⟩ := rows_turn (t := done.length) hm hdm k2 noPar_none k4 k5
    refine ⟨_, (show turnS (setE 2) L__law_rows_2 (.int k, .unq) _ = _ by rw [← hdk]; exact h1), some (.int done.length, .unq), l4', l5', ?_, noPar_unq _, h4, h5⟩
    simp
end VL
end
section
set_option Elab.async false
set_option linter.all false
set_option maxRecDepth 100000
set_option autoImplicit false
namespace VL
open PySem PySem.Spec PyProof.Rows L2
/-! what many laws want -/
theorem len_codeN : ∀ r : List Int, (codeN r).length = r.length
  | [] => rfl
  | x :: r => by simp [codeN, len_codeN r]
theorem len_nI (l : List Nat) : (nI l).length = l.length := by simp [nI]
theorem fac9 {n : Nat} (h : n ≤ 9) : fac n ≤ 362880 := Nat.le_trans (fac_mono h) (by decide)
theorem code_mem {l : List Int} {c : Nat} (h : c ∈ codeN l) : c ≤ l.length := by
  induction l with
  | nil => cases h
  | cons x l ih =>
    rcases List.mem_cons.mp h with rfl | h
    · have := lessN_le x l; simp; omega
    · have := ih h; simp; omega
theorem drop_at {r : List Int} {i : Nat} {x : Int} (h : r[i]? = some x) : r.drop i = x :: r.drop (i + 1) := by
  obtain ⟨h1, h2⟩ := List.getElem?_eq_some_iff.mp h
  rw [List.drop_eq_getElem_cons h1, h2]
theorem unq_nI (l : List Nat) : unqOf (dInts (nI l)) = l.map fun n : Nat => ((.int (n : Int), .unq) : D × Tag) := by
  rw [unqOf_dInts]; simp [nI]
@[simp] theorem pIsi_none (T : String) : pIsi T [.none] = if okT T then some (.bool ("NoneType" == T), .unq) else none := by
  simp [pIsi, ps1, pf1, isiD, isDict, isiB, tyD]
@[simp] theorem pIsi_str (T : String) (s : Str) : pIsi T [.str s] = if okT T then some (.bool ("str" == T), .unq) else none := by
  simp [pIsi, ps1, pf1, isiD, isDict, isiB, tyD]
@[simp] theorem inTag_none : inTag .none = .unq := nr rfl
@[simp] theorem inTag_str (s : Str) : inTag (.str s) = .unq := nr rfl
def noInt : D → Bool
  | .int _ => false
  | .dict _ => false
  | _ => true
theorem integer_no {d : D} (h : noInt d = true) : Gives fn_is_integer [d] (.bool false) := by
  cases d with
  | int i => cases h
  | dict k => cases h
  | none => simp [Gives, fn_is_integer, fnOf_ap, B_is_integer, pureOf_ap, okT]
  | bool b => simp [Gives, fn_is_integer, fnOf_ap, B_is_integer, pureOf_ap, okT]
  | str s => simp [Gives, fn_is_integer, fnOf_ap, B_is_integer, pureOf_ap, okT]
  | list ds => simp [Gives, fn_is_integer, fnOf_ap, B_is_integer, pureOf_ap, okT]
  | tuple ds => simp [Gives, fn_is_integer, fnOf_ap, B_is_integer, pureOf_ap, okT]
theorem within_no {d : D} (h : noInt d = true) (a b : Int) : Gives fn_is_within [d, .int a, .int b] (.bool false) := by
  simp [Gives, fn_is_within, fnOf_ap, B_is_within, pureOf_ap, callF, (integer_no h).eq]
theorem num_ok {x a b : Int} (h1 : a ≤ x) (h2 : x ≤ b) : Gives fn_need_number [.int x, .int a, .int b] .none := by
  have := within_spec x a b
  simp [Gives, fn_need_number, fnOf_ap, B_need_number, pureOf_ap, callF, this.eq, h1, h2]
theorem num_bad {x a b : Int} (h : ¬ (a ≤ x ∧ x ≤ b)) : fn_need_number [.int x, .int a, .int b] = .exc "BadNumber" .none := by
  have := within_spec x a b
  by_cases h1 : a ≤ x
  · have h2 : ¬ x ≤ b := fun z => h ⟨h1, z⟩
    simp [fn_need_number, fnOf_ap, B_need_number, pureOf_ap, callF, this.eq, h1, h2]
  · simp [fn_need_number, fnOf_ap, B_need_number, pureOf_ap, callF, this.eq, h1]
theorem num_no {d : D} (h : noInt d = true) (a b : Int) : fn_need_number [d, .int a, .int b] = .exc "BadNumber" .none := by
  simp [fn_need_number, fnOf_ap, B_need_number, pureOf_ap, callF, (within_no h a b).eq]
theorem fact_n {n : Nat} (h : n ≤ 9) : pFact [.int (n : Int)] = some (.int (fac n : Nat), .unq) := by
  rw [pFact_int (by omega) (by omega)]; rfl
theorem pMaxL_ints {ns : List Int} (h : 0 < ns.length) : pMaxL [.list (dInts ns)] = some (.int (maxL ns), .unq) := by
  simp [pMaxL, ps1, pf1, maxD, listOf, h]
theorem atI_last {ns : List Int} {a : Int} (h : ns.getLast? = some a) : atI (dInts ns) (-1) = some (.int a) := by
  unfold dInts
  rw [atI_map]
  unfold atI ixN
  have hne : ns ≠ [] := by rintro rfl; cases h
  have hl : 0 < ns.length := List.length_pos_iff.mpr hne
  rw [if_neg (by omega), if_pos (by omega)]
  rw [List.getLast?_eq_getElem?] at h
  have e : (-1 + (ns.length : Int)).toNat = ns.length - 1 := by omega
  simp [e, h]
def errT : D := .tuple [.str "error", .bool true]
theorem row_small {r : List Int} (h : IsRow r) (hl : r.length ≤ 9) : ∀ x ∈ r, x.natAbs < 1000000000000 := fun x hx => by
  have := h.at_ x hx
  omega
theorem fine_row {r : List Int} (h : IsRow r) (hl : r.length ≤ 9) : Fine 369 1 (.tuple (dInts r)) := (Fine.tup (FineL.ints (k := 0) (row_small h hl))).mono (by omega) (Nat.le_refl _)
theorem fine_none {k : Nat} : Fine 40 k .none := ⟨rfl, rfl, rfl, rfl, Nat.zero_le _, Nat.zero_le _⟩
theorem eqvAll_ints : ∀ a b : List Int, PyData.eqvAll (dInts a) (dInts b) = (a == b)
  | [], [] => rfl
  | [], _ :: _ => rfl
  | _ :: _, [] => rfl
  | x :: a, y :: b => by
    have ih := eqvAll_ints a b
    unfold dInts at ih ⊢
    simp only [List.map_cons, PyData.eqvAll, ih]
    simp [PyData.eqv, List.cons_beq_cons]
theorem okD_ll (a : List Int) : okD (.list (dInts a)) = true := okD_lints a
theorem pNe_lints (a b : List Int) : pNe [.list (dInts a), .list (dInts b)] = some (.bool (a != b), .unq) := by
  have : PyData.eqv (.list (dInts a)) (.list (dInts b)) = (a == b) := by
    rw [← eqvAll_ints]; simp [PyData.eqv]
  simp [pNe, ps2, pf2, neD, okD_ll, this, bne]
theorem sort_row {r : List Int} (h : IsRow r) : isort r = iota r.length :=
  asc_perm_eq (isort_asc h.nd) (iota_asc _) ((isort_perm r).trans (row_perm h))
theorem errs_eq (t : Tag) : pEq [.list [errT, errT, errT, errT, errT, errT], .list [errT, errT, errT, errT, errT, errT]] = some (.bool true, .unq) := by
  have o : okD (.list [errT, errT, errT, errT, errT, errT]) = true := by decide
  have e : PyData.eqv (.list [errT, errT, errT, errT, errT, errT]) (.list [errT, errT, errT, errT, errT, errT]) = true := by decide
  simp [pEq, ps2, pf2, eqD, o, e]
theorem rep_errs : pMul [.list [errT], .int 6] = some (.list [errT, errT, errT, errT, errT, errT], .unq) := nr rfl
@[simp] theorem pow30 : pPow [.int 10, .int 30] = some (.int 1000000000000000000000000000000, .unq) := nr rfl
theorem eqvAll_refl : ∀ {ds : List D}, (∀ d ∈ ds, PyData.eqv d d = true) → PyData.eqvAll ds ds = true
  | [], _ => rfl
  | d :: ds, h => by
    simp only [PyData.eqvAll, h d (List.mem_cons_self ..), eqvAll_refl fun e he => h e (List.mem_cons_of_mem _ he)]
    rfl
theorem eqv_row (s : List Int) : PyData.eqv (.tuple (dInts s)) (.tuple (dInts s)) = true := by
  have : PyData.eqvAll (dInts s) (dInts s) = true := by rw [eqvAll_ints]; simp
  simpa [PyData.eqv] using this
theorem plainAll_mem : ∀ {ds : List D}, (∀ d ∈ ds, PyData.plain d = true) → PyData.plainAll ds = true
  | [], _ => rfl
  | d :: ds, h => by
    simp only [PyData.plainAll, h d (List.mem_cons_self ..), plainAll_mem fun e he => h e (List.mem_cons_of_mem _ he)]
    rfl
theorem depthAll_mem {k : Nat} : ∀ {ds : List D}, (∀ d ∈ ds, PyData.depth d ≤ k) → PyData.depthAll ds ≤ k
  | [], _ => Nat.zero_le _
  | d :: ds, h => by
    simp only [PyData.depthAll]
    have h1 := h d (List.mem_cons_self ..)
    have h2 := depthAll_mem fun e he => h e (List.mem_cons_of_mem _ he)
    omega
theorem okD_rows {ds : List D} (h : ∀ d ∈ ds, d = .none ∨ ∃ s, d = .tuple (dInts s)) : okD (.list ds) = true := by
  have p : PyData.plainAll ds = true := plainAll_mem fun d hd => by
    rcases h d hd with rfl | ⟨s, rfl⟩
    · rfl
    · exact plainAll_ints s
  have q : PyData.depthAll ds ≤ 1 := depthAll_mem fun d hd => by
    rcases h d hd with rfl | ⟨s, rfl⟩
    · exact Nat.zero_le _
    · show PyData.depthAll (dInts s) + 1 ≤ 1
      rw [depthAll_ints]; omega
  unfold okD
  rw [show (PyData.list ds).plain = PyData.plainAll ds from rfl, p, show (PyData.list ds).depth = PyData.depthAll ds + 1 from rfl]
  simp; omega
theorem pNe_rows {ds : List D} (h : ∀ d ∈ ds, d = .none ∨ ∃ s, d = .tuple (dInts s)) : pNe [.list ds, .list ds] = some (.bool false, .unq) := by
  have o := okD_rows h
  have e : PyData.eqv (.list ds) (.list ds) = true := by
    have : PyData.eqvAll ds ds = true := eqvAll_refl fun d hd => by
      rcases h d hd with rfl | ⟨s, rfl⟩
      · rfl
      · exact eqv_row s
    simpa [PyData.eqv] using this
  simp [pNe, ps2, pf2, neD, o, e]
theorem unqOf_rows (l : List (List Int)) : unqOf (dTT l) = l.map fun s => ((.tuple (dInts s), .unq) : D × Tag) := unq_dTT l
theorem noMut_dTT : ∀ l : List (List Int), noMutL (dTT l) = true
  | [] => rfl
  | s :: l => by
    have := noMut_dTT l
    simp only [dTT, List.map_cons, noMutL_cons, noMut_tup, noMut_dInts, Bool.true_and] at this ⊢
    exact this
theorem sl_dTT (l : List (List Int)) (lo hi : Option Int) : pf1 (slD lo hi) [.list (dTT l)] = some (.list (dTT (cutD l lo hi)), .unq) := by
  have e : cutD (dTT l) lo hi = dTT (cutD l lo hi) := by simp only [cutD, dTT, List.length_map, List.map_take, List.map_drop]
  simp [pf1, slD, e, lTag, noMut_dTT]
theorem noMutL_app : ∀ a b : List D, noMutL (a ++ b) = (noMutL a && noMutL b)
  | [], b => by simp
  | x :: a, b => by simp [noMutL_app a b, Bool.and_assoc]
theorem pAdd_lG {a b : List D} (h : a.length + b.length ≤ 1000000) (h1 : noMutL a = true) (h2 : noMutL b = true) : pAdd [.list a, .list b] = some (.list (a ++ b), .unq) := by
  have : (1000000 : Nat) ≤ lim := by decide
  have h0 : a.length + b.length ≤ lim := by omega
  simp [pAdd, pf2, addD, h0, lTag, noMutL_app, h1, h2]
end VL
end
section
set_option Elab.async false
set_option linter.all false
set_option maxRecDepth 100000
set_option autoImplicit false
namespace VL
/-! ### strips and breaks, plain -/
def brk (r : List Int) (p : Nat) (s : Bool) : Bool := decide (at0 r (p + 1) < at0 r p) == s
def ext (r : List Int) (s : Bool) : Nat → Nat → Nat
  | 0, e => e
  | k + 1, e => if e < r.length ∧ brk r (e - 1) s = false then ext r s k (e + 1) else e
def gEnd (r : List Int) (s : Bool) (st : Nat) : Nat := ext r s r.length (min r.length (st + 1))
def gEnds (r : List Int) : List Bool → Nat → List Nat
  | [], _ => []
  | s :: w, st => gEnd r s st :: gEnds r w (gEnd r s st)
def fin (r : List Int) : List Bool → Nat → Nat
  | [], st => st
  | s :: w, st => fin r w (gEnd r s st)
/-- ends of strips from st on -/
def VE (r : List Int) : List Bool → Nat → List Nat → Prop
  | [], st, [] => st = r.length
  | s :: w, st, e :: es => st ≤ e ∧ e ≤ r.length ∧ (∀ p, st ≤ p → p + 1 < e → brk r p s = false) ∧ VE r w e es
  | _, _, _ => False
/-- rising places from lo on, each breaking its sign -/
def VB (r : List Int) : List Bool → Nat → List Nat → Prop
  | [], _, [] => True
  | s :: w, lo, p :: ps => lo ≤ p ∧ p + 2 ≤ r.length ∧ brk r p s = true ∧ VB r w (p + 1) ps
  | _, _, _ => False
theorem no_both {r : List Int} : ∀ {w : List Bool} {lo st : Nat} {ps es : List Nat}, VB r w lo ps → VE r w st es → st ≤ lo → w ≠ [] → False
  | [], _, _, _, _, _, _, _, h => h rfl
  | s :: w, lo, st, [], es, hb, _, _, _ => hb.elim
  | s :: w, lo, st, p :: ps, [], _, he, _, _ => he.elim
  | s :: w, lo, st, p :: ps, e :: es, hb, he, hl, _ => by
    obtain ⟨b1, b2, b3, b4⟩ := hb
    obtain ⟨e1, e2, e3, e4⟩ := he
    have h1 : e ≤ p + 1 := by
      apply Nat.le_of_not_lt
      intro h
      have := e3 p (by omega) h
      rw [b3] at this
      cases this
    cases w with
    | nil =>
      cases es with
      | nil => have : e = r.length := e4; omega
      | cons a b => exact e4.elim
    | cons a b => exact no_both b4 e4 h1 (by simp)
theorem ext_spec {r : List Int} {s : Bool} : ∀ {k e : Nat}, e ≤ r.length → r.length - e ≤ k → e ≤ ext r s k e ∧ ext r s k e ≤ r.length ∧ (∀ q, e ≤ q → q < ext r s k e → brk r (q - 1) s = false) ∧ (ext r s k e = r.length ∨ brk r (ext r s k e - 1) s = true)
  | 0, e, h1, h2 => by
    have : e = r.length := by omega
    subst this
    exact ⟨Nat.le_refl _, Nat.le_refl _, fun q a b => by simp only [ext] at b; omega, .inl rfl⟩
  | k + 1, e, h1, h2 => by
    simp only [ext]
    by_cases h : e < r.length ∧ brk r (e - 1) s = false
    · rw [if_pos h]
      obtain ⟨a1, a2, a3, a4⟩ := ext_spec (r := r) (s := s) (k := k) (e := e + 1) (by omega) (by omega)
      refine ⟨by omega, a2, fun q q1 q2 => ?_, a4⟩
      by_cases z : q = e
      · subst z; exact h.2
      · exact a3 q (by omega) q2
    · rw [if_neg h]
      refine ⟨Nat.le_refl _, h1, fun q a b => by omega, ?_⟩
      by_cases z : e < r.length
      · right
        cases q : brk r (e - 1) s with
        | true => rfl
        | false => exact absurd ⟨z, q⟩ h
      · left; omega
theorem gEnd_spec {r : List Int} {s : Bool} {st : Nat} (h : st ≤ r.length) : min r.length (st + 1) ≤ gEnd r s st ∧ gEnd r s st ≤ r.length ∧ (∀ p, st ≤ p → p + 1 < gEnd r s st → brk r p s = false) ∧ (gEnd r s st < r.length → st + 1 ≤ gEnd r s st ∧ brk r (gEnd r s st - 1) s = true) := by
  obtain ⟨a1, a2, a3, a4⟩ := ext_spec (r := r) (s := s) (k := r.length) (e := min r.length (st + 1)) (by omega) (by omega)
  refine ⟨a1, a2, fun p p1 p2 => ?_, fun hl => ⟨?_, ?_⟩⟩
  · exact a3 (p + 1) (by omega) p2
  · have : gEnd r s st = ext r s r.length (min r.length (st + 1)) := rfl
    omega
  · rcases a4 with a4 | a4
    · have : gEnd r s st = ext r s r.length (min r.length (st + 1)) := rfl
      omega
    · exact a4
theorem gEnd_ge {r : List Int} {s : Bool} {st : Nat} (h : st ≤ r.length) : st ≤ gEnd r s st := by
  have := (gEnd_spec (s := s) h).1
  omega
theorem fin_le {r : List Int} : ∀ {w : List Bool} {st : Nat}, st ≤ r.length → st ≤ fin r w st ∧ fin r w st ≤ r.length
  | [], st, h => ⟨Nat.le_refl _, h⟩
  | s :: w, st, h => by
    have h1 := gEnd_spec (s := s) h
    have h2 := gEnd_ge (s := s) h
    have h3 := fin_le (w := w) h1.2.1
    exact ⟨Nat.le_trans h2 h3.1, h3.2⟩
theorem gEnds_VE {r : List Int} : ∀ {w : List Bool} {st : Nat}, st ≤ r.length → fin r w st = r.length → VE r w st (gEnds r w st)
  | [], st, _, h => h
  | s :: w, st, h, hf => by
    have h1 := gEnd_spec (s := s) h
    exact ⟨gEnd_ge h, h1.2.1, h1.2.2.1, gEnds_VE h1.2.1 hf⟩
theorem gEnds_VB {r : List Int} : ∀ {w : List Bool} {st : Nat}, st ≤ r.length → fin r w st < r.length → VB r w st ((gEnds r w st).map (· - 1))
  | [], st, _, h => trivial
  | s :: w, st, h, hf => by
    have h1 := gEnd_spec (s := s) h
    have h2 := fin_le (w := w) h1.2.1
    have hf' : fin r w (gEnd r s st) < r.length := hf
    have h3 := h1.2.2.2 (by omega)
    have ih := gEnds_VB (w := w) h1.2.1 hf'
    refine ⟨(show st ≤ gEnd r s st - 1 by omega), (show gEnd r s st - 1 + 2 ≤ r.length by omega), h3.2, ?_⟩
    show VB r w (gEnd r s st - 1 + 1) _
    rw [show gEnd r s st - 1 + 1 = gEnd r s st by omega]
    exact ih
theorem fin_of_VE {r : List Int} {w : List Bool} {es : List Nat} (h : VE r w 0 es) (hw : w ≠ []) : fin r w 0 = r.length := by
  have h1 := fin_le (r := r) (w := w) (st := 0) (by omega)
  by_cases z : fin r w 0 = r.length
  · exact z
  · exact (no_both (gEnds_VB (by omega) (by omega)) h (Nat.le_refl 0) hw).elim
theorem fin_app {r : List Int} (s : Bool) : ∀ {w : List Bool} {st : Nat}, fin r (w ++ [s]) st = gEnd r s (fin r w st)
  | [], st => rfl
  | t :: w, st => fin_app s (w := w) (st := gEnd r t st)
theorem fin_more {r : List Int} {s : Bool} {w : List Bool} (h : fin r w 0 = r.length) : fin r (w ++ [s]) 0 = r.length := by
  rw [fin_app, h]
  have := gEnd_spec (r := r) (s := s) (st := r.length) (Nat.le_refl _)
  omega
theorem fin_ahead {r : List Int} {s : Bool} {w : List Bool} (h : fin r w 0 = r.length) : fin r (s :: w) 0 = r.length :=
  fin_of_VE (es := 0 :: gEnds r w 0) ⟨Nat.le_refl _, Nat.zero_le _, fun p _ h => by omega, gEnds_VE (Nat.zero_le _) h⟩ (by simp)
theorem len_gEnds (r : List Int) : ∀ (w : List Bool) (st : Nat), (gEnds r w st).length = w.length
  | [], _ => rfl
  | s :: w, st => by simp [gEnds, len_gEnds r w]
theorem gEnds_last (r : List Int) : ∀ (w : List Bool) (st : Nat), w ≠ [] → (gEnds r w st).getLast? = some (fin r w st)
  | [], _, h => absurd rfl h
  | [s], st, _ => rfl
  | s :: t :: w, st, _ => by
    have ih := gEnds_last r (t :: w) (gEnd r s st) (by simp)
    show (gEnd r s st :: gEnds r (t :: w) (gEnd r s st)).getLast? = _
    have hne : gEnds r (t :: w) (gEnd r s st) ≠ [] := by
      intro z
      have := congrArg List.length z
      rw [len_gEnds] at this
      simp at this
    rw [List.getLast?_cons_of_ne_nil hne]
    exact ih
theorem gEnds_le {r : List Int} : ∀ {w : List Bool} {st : Nat}, st ≤ r.length → ∀ e ∈ gEnds r w st, e ≤ r.length
  | [], _, _, e, h => by cases h
  | s :: w, st, hs, e, h => by
    have h1 := (gEnd_spec (s := s) hs).2.1
    rcases List.mem_cons.mp h with rfl | h
    · exact h1
    · exact gEnds_le h1 e h
end VL
end
section
set_option Elab.async false
set_option linter.all false
set_option maxRecDepth 100000
set_option autoImplicit false
namespace VL
open PySem PySem.Spec PyProof.Rows L2
def sg (b : Bool) : Str := if b then "u" else "d"
/-- a word -/
def wS (w : List Bool) : Str := ⟨(w.map fun b => if b then 117 else 100).toArray⟩
theorem chars_wS (w : List Bool) : chars (wS w) = w.map fun b => PyData.str (sg b) := by
  unfold chars wS
  simp
  exact ⟨fun _ => by decide, fun _ => by decide⟩
theorem len_wS (w : List Bool) : (wS w).length = w.length := by simp [wS, Str.length]
@[simp] theorem sg_u (b : Bool) : (sg b == (Str.ofString "u")) = b := by cases b <;> decide
theorem noMut_chars (w : List Bool) : unqOf (chars (wS w)) = w.map fun b => ((.str (sg b), .unq) : D × Tag) := by
  rw [chars_wS]
  simp [unqOf, partTag]
@[simp] theorem items_str (s : Str) : itemsOf (.str s) = some (chars s) := nr rfl
theorem pLen_wS {w : List Bool} (h : w.length ≤ 1000) : pLen [.str (wS w)] = some (.int w.length, .unq) := by
  have : w.length ≤ lim := lim_le (by omega)
  simp [pLen, ps1, pf1, lenD, this, len_wS]
theorem brk_spec {r : List Int} {p : Nat} {s : Bool} (h : p + 1 < r.length) : Gives fn_does_break [.tuple (dInts r), .int p, .str (sg s)] (.bool (brk r p s)) := by
  simp [Gives, fn_does_break, fnOf_ap, B_does_break, pureOf_ap, ix_at (r := r) (i := p) (by omega), ix_at1 (r := r) (i := p) h, brk]
theorem lbrk_spec {r : List Int} {p : Nat} {s : Bool} (h : p + 1 < r.length) : Gives fn__law_breaks [.tuple (dInts r), .str (sg s), .int p] (.bool (brk r p s)) := by
  simp [Gives, fn__law_breaks, fnOf_ap, B__law_breaks, pureOf_ap, ix_at (r := r) (i := p) (by omega), ix_at1 (r := r) (i := p) h, brk]
/-! strip_ends -/
def seE (r : List Int) (w : List Bool) (s : Bool) (st : Nat) (es : List Nat) (e : Nat) : Env :=
  [some (.tuple (dInts r), .unq), some (.str (wS w), .unq), some (.str (sg s), .unq), none, some (.list (dInts (nI es)), .unq), some (.list (dInts (nI es |>.map fun x => x - 1)), .unq), some (.int e, .unq)]
theorem while_ext {r : List Int} {w : List Bool} {s : Bool} {st : Nat} {es : List Nat} : ∀ {k e n : Nat}, (1 ≤ e ∨ r.length ≤ e) → r.length - e ≤ k → k < n →
    whileE (tAndF (tOfE (ePure2 pLt (eVar 6) (ePure pLen (aCons (eVar 0) aNil)))) (tNotF (tOfE (eCall false 3 fn_does_break (aCons (eVar 0) (aCons (ePure2 pSub (eVar 6) (eC (.int 1))) (aCons (eVar 2) aNil)))))))
      L_strip_ends_1 n (seE r w s st es e) = .nx (seE r w s st es (ext r s k e)) := by
  intro k
  induction k with
  | zero =>
    intro e n h1 h2 h3
    obtain ⟨n, rfl⟩ : ∃ m, n = m + 1 := ⟨n - 1, by omega⟩
    have : ¬ (e : Int) < r.length := by omega
    simp [whileE, seE, pureOf_ap, this, ext]
  | succ k ih =>
    intro e n h1 h2 h3
    obtain ⟨n, rfl⟩ : ∃ m, n = m + 1 := ⟨n - 1, by omega⟩
    by_cases hl : e < r.length
    · have hl' : (e : Int) < r.length := by omega
      have b := (brk_spec (r := r) (p := e - 1) (s := s) (by omega)).eq
      rw [show ((e - 1 : Nat) : Int) = (e : Int) - 1 by omega] at b
      cases q : brk r (e - 1) s with
      | true =>
        rw [q] at b
        simp [whileE, seE, pureOf_ap, hl', callF, b, ext, hl, q]
      | false =>
        rw [q] at b
        have ih' := ih (e := e + 1) (n := n) (by omega) (by omega) (by omega)
        simp only [seE] at ih'
        have i1 : ((e + 1 : Nat) : Int) = (e : Int) + 1 := by omega
        rw [i1] at ih'
        have a1 : pIAdd [.int (e : Int), .int 1] = some (.int ((e : Int) + 1), .unq) := nr rfl
        have hb : L_strip_ends_1 (seE r w s st es e) = .nx [some (.tuple (dInts r), .unq), some (.str (wS w), .unq), some (.str (sg s), .unq), none, some (.list (dInts (nI es)), .unq), some (.list (dInts (nI es |>.map fun x => x - 1)), .unq), some (.int ((e : Int) + 1), .unq)] := by
          simp [L_strip_ends_1, seE, pureOf_ap, a1]
        simp only [seE] at hb
        simp [whileE, seE, pureOf_ap, hl', callF, b, ext, hl, q, hb, ih']
    · have hl' : ¬ (e : Int) < r.length := by omega
      simp [whileE, seE, pureOf_ap, hl', ext, hl]
/-- between the turns -/
def seF (r : List Int) (w : List Bool) (p : Nat × List Nat) : Env :=
  [some (.tuple (dInts r), .unq), some (.str (wS w), .unq), none, some (.int p.1, .unq), some (.list (dInts (nI p.2)), .unq), some (.list (dInts (nI p.2 |>.map fun x => x - 1)), .unq), none]
theorem minL_two (a b : Int) : minL [a, b] = min a b := by
  simp [minL]
@[simp] theorem sPar3_ap (i j l : Nat) (a : AR) (env : Env) : sPar3 i j l a env = (a env).out fun p => match valsOf p.1 with
  | some [u, v, w] => ((setE i u p.2).bind fun e => (setE j v e).bind fun e => setE l w e).out fun env => .nx env
  | _ => .bad := nr rfl
theorem sends_spec {r : List Int} {w : List Bool} (hl : r.length ≤ 9) (hw : w.length ≤ 1000) : Gives fn_strip_ends [.tuple (dInts r), .str (wS w)] (.tuple [.tuple (dInts (nI (gEnds r w 0))), .tuple (dInts (nI (gEnds r w 0) |>.map fun x => x - 1))]) := by
  obtain ⟨p, h1, h2⟩ := forE_inv (g := setE 2) (b := L_strip_ends_2) (e := fun s : Bool => ((.str (sg s), .unq) : D × Tag)) (seF r w)
    (fun done p => p.1 ≤ r.length ∧ p.2.length = done.length ∧ ∀ rest, w = done ++ rest → gEnds r w 0 = p.2 ++ gEnds r rest p.1) (l := w) (s0 := (0, [])) ⟨Nat.zero_le _, rfl, fun rest h => by simp at h; subst h; rfl⟩ (fun done s rest p hk hI => by
      obtain ⟨st, es⟩ := p
      obtain ⟨e1, e2, e3⟩ := hI
      simp only at e1 e2
      have hlen := congrArg List.length hk
      simp at hlen
      have gs := gEnd_spec (s := s) e1
      have ge := gEnd_ge (s := s) e1
      refine ⟨(gEnd r s st, es ++ [gEnd r s st]), ?_, gs.2.1, by simp [e2], fun rest' h => ?_⟩
      · have wh := while_ext (r := r) (w := w) (s := s) (st := st) (es := es) (k := r.length) (e := min r.length (st + 1)) (n := fuel) (by omega) (by omega) (by unfold fuel; omega)
        have m1 : pMinL [.list [.int (r.length : Int), .int ((st : Int) + 1)]] = some (.int (min r.length (st + 1) : Nat), .unq) := by
          have : pMinL [.list (dInts [(r.length : Int), (st : Int) + 1])] = some (.int (minL [(r.length : Int), (st : Int) + 1]), .unq) := by
            simp [pMinL, ps1, pf1, minD, listOf]
          rw [show minL [(r.length : Int), (st : Int) + 1] = ((min r.length (st + 1) : Nat) : Int) by rw [minL_two]; omega] at this
          exact this
        have hg : ext r s r.length (min r.length (st + 1)) = gEnd r s st := rfl
        rw [hg] at wh
        simp only [seE] at wh
        have l1 : es.length < lim := lim_lt (by omega)
        have q1 : dInts (nI es) ++ [PyData.int (gEnd r s st : Nat)] = dInts (nI (es ++ [gEnd r s st])) := by simp [nI, dInts]
        have q2 : dInts ((nI es).map fun x => x - 1) ++ [PyData.int ((gEnd r s st : Nat) - 1)] = dInts ((nI (es ++ [gEnd r s st])).map fun x => x - 1) := by simp [nI, dInts]
        simp [turnS, L_strip_ends_2, seF, pureOf_ap, dispOf_ap, m1, sWhile, wh, appendE_ap, newTag, l1, len_nI, q1, q2, none1, sW_ap, sWn_ap, noPar_ap, -List.map_map]
      · have : rest' = rest := by
          have h' : done ++ s :: rest = done ++ [s] ++ rest' := by rw [← hk, h]
          simpa using h'.symm
        subst this
        rw [e3 (s :: rest') hk]
        simp [gEnds])
  obtain ⟨st, es⟩ := p
  have h3 := h2.2.2 [] (by simp)
  simp [gEnds] at h3
  subst h3
  simp only [seF, show ((0 : Nat) : Int) = 0 from rfl, show nI [] = [] from rfl, List.map_nil, dInts_nil] at h1
  simp [Gives, fn_strip_ends, fnOf_ap, B_strip_ends, pureOf_ap, dispOf_ap, noMut_chars, h1, sWn_ap, noPar_ap, partTag]
end VL
end
section
set_option Elab.async false
set_option linter.all false
set_option maxRecDepth 100000
set_option autoImplicit false
namespace VL
open PySem PySem.Spec PyProof.Rows L2
theorem ext_succ {r : List Int} {s : Bool} : ∀ {k e : Nat}, ext r s (k + 1) e = if ext r s k e < r.length ∧ brk r (ext r s k e - 1) s = false then ext r s k e + 1 else ext r s k e
  | 0, e => rfl
  | k + 1, e => by
    by_cases h : e < r.length ∧ brk r (e - 1) s = false
    · have e1 : ext r s (k + 2) e = ext r s (k + 1) (e + 1) := by
        show (if _ then _ else _) = _
        rw [if_pos h]
      have e2 : ext r s (k + 1) e = ext r s k (e + 1) := by
        show (if _ then _ else _) = _
        rw [if_pos h]
      rw [e1, e2]
      exact ext_succ (k := k) (e := e + 1)
    · have e1 : ext r s (k + 2) e = e := by
        show (if _ then _ else _) = _
        rw [if_neg h]
      have e2 : ext r s (k + 1) e = e := by
        show (if _ then _ else _) = _
        rw [if_neg h]
      rw [e1, e2, if_neg h]
theorem ext_sat {r : List Int} {s : Bool} {k e : Nat} (h1 : e ≤ r.length) (h2 : r.length - e ≤ k) : ext r s (k + 1) e = ext r s k e := by
  obtain ⟨a1, a2, a3, a4⟩ := ext_spec (s := s) h1 h2
  rw [ext_succ, if_neg]
  rintro ⟨b1, b2⟩
  rcases a4 with a4 | a4
  · omega
  · rw [a4] at b2; cases b2
/-- what _law_late has behind j turns -/
def lat (r : List Int) (s : Bool) (st : Nat) : Nat → Nat
  | 0 => st
  | j + 1 => if lat r s st j < r.length ∧ (lat r s st j = st ∨ brk r (lat r s st j - 1) s = false) then lat r s st j + 1 else lat r s st j
theorem lat_ge (r : List Int) (s : Bool) (st : Nat) : ∀ j, st ≤ lat r s st j
  | 0 => Nat.le_refl _
  | j + 1 => by
    have := lat_ge r s st j
    simp only [lat]
    split <;> omega
theorem lat_ext {r : List Int} {s : Bool} {st : Nat} (h : st < r.length) : ∀ j, lat r s st (j + 1) = ext r s j (st + 1)
  | 0 => by simp [lat, ext, h]
  | j + 1 => by
    have ih := lat_ext (s := s) h j
    have hg : st + 1 ≤ ext r s j (st + 1) := by
      have : ∀ k e, e ≤ ext r s k e := by
        intro k
        induction k with
        | zero => intro e; exact Nat.le_refl _
        | succ k ih => intro e; simp only [ext]; split
                       · have := ih (e + 1); omega
                       · exact Nat.le_refl _
      exact this _ _
    rw [ext_succ]
    show (if lat r s st (j + 1) < r.length ∧ (lat r s st (j + 1) = st ∨ brk r (lat r s st (j + 1) - 1) s = false) then _ else _) = _
    rw [ih]
    have : ¬ ext r s j (st + 1) = st := by omega
    simp [this]
theorem lat_gEnd {r : List Int} {s : Bool} {st : Nat} (h : st ≤ r.length) : lat r s st r.length = gEnd r s st := by
  by_cases hl : st < r.length
  · obtain ⟨n, hn⟩ : ∃ n, r.length = n + 1 := ⟨r.length - 1, by omega⟩
    have h1 := lat_ext (s := s) hl n
    have h2 := ext_sat (r := r) (s := s) (k := n) (e := st + 1) (by omega) (by omega)
    show lat r s st r.length = ext r s r.length (min r.length (st + 1))
    rw [show min r.length (st + 1) = st + 1 by omega]
    rw [hn] at *
    rw [h1, h2]
  · have e : st = r.length := by omega
    subst e
    have h1 : ∀ j, lat r s r.length j = r.length := by
      intro j
      induction j with
      | zero => rfl
      | succ j ih => simp only [lat]; rw [ih]; simp
    have h2 := gEnd_spec (r := r) (s := s) (st := r.length) (Nat.le_refl _)
    rw [h1]
    omega
def ltE (r : List Int) (w : List Bool) (s : Bool) (es : List Nat) (st e : Nat) : Env :=
  [some (.tuple (dInts r), .unq), some (.str (wS w), .unq), some (.str (sg s), .unq), some (.list (dInts (nI es)), .unq), some (.int st, .unq), some (.int e, .unq), none]
def ltF (r : List Int) (w : List Bool) (p : Nat × List Nat) : Env :=
  [some (.tuple (dInts r), .unq), some (.str (wS w), .unq), none, some (.list (dInts (nI p.2)), .unq), some (.int p.1, .unq), none, none]
theorem late_spec {r : List Int} {w : List Bool} (hl : r.length ≤ 9) (hw : w.length ≤ 1000) : Gives fn__law_late [.tuple (dInts r), .str (wS w)] (.tuple (dInts (nI (gEnds r w 0)))) := by
  obtain ⟨p, h1, h2⟩ := forE_inv (g := setE 2) (b := L__law_late_2) (e := fun s : Bool => ((.str (sg s), .unq) : D × Tag)) (ltF r w)
    (fun done p => p.1 ≤ r.length ∧ p.2.length = done.length ∧ ∀ rest, w = done ++ rest → gEnds r w 0 = p.2 ++ gEnds r rest p.1) (l := w) (s0 := (0, [])) ⟨Nat.zero_le _, rfl, fun rest h => by simp at h; subst h; rfl⟩ (fun done s rest p hk hI => by
      obtain ⟨st, es⟩ := p
      obtain ⟨e1, e2, e3⟩ := hI
      simp only at e1 e2
      have hlen := congrArg List.length hk
      simp at hlen
      have gs := gEnd_spec (s := s) e1
      refine ⟨(gEnd r s st, es ++ [gEnd r s st]), ?_, gs.2.1, by simp [e2], fun rest' h => ?_⟩
      · obtain ⟨e, k1, k2⟩ := forE_inv (g := setE 6) (b := L__law_late_1) (e := fun k : Nat => ((.int k, .unq) : D × Tag)) (ltE r w s es st)
          (fun done e => e = lat r s st done.length) (l := List.range r.length) (s0 := st) rfl (fun done k rest e hk hI => by
            subst hI
            obtain ⟨e, he⟩ : ∃ e, lat r s st done.length = e := ⟨_, rfl⟩
            have hge := lat_ge r s st done.length
            rw [he] at hge
            refine ⟨lat r s st (done.length + 1), ?_, by simp⟩
            simp only [lat]
            rw [he]
            by_cases hl : e < r.length
            · have hl' : (e : Int) < r.length := by omega
              by_cases hs : e = st
              · subst hs
                simp [turnS, L__law_late_1, ltE, pureOf_ap, hl', hl, sW_ap, noPar_ap]
              · have hs' : ¬ (e : Int) = st := by omega
                have b := (lbrk_spec (r := r) (p := e - 1) (s := s) (by omega)).eq
                rw [show ((e - 1 : Nat) : Int) = (e : Int) - 1 by omega] at b
                cases q : brk r (e - 1) s with
                | true =>
                  rw [q] at b
                  simp [turnS, L__law_late_1, ltE, pureOf_ap, hl', hl, hs', hs, callF, b, sW_ap, noPar_ap]
                | false =>
                  rw [q] at b
                  simp [turnS, L__law_late_1, ltE, pureOf_ap, hl', hl, hs', hs, callF, b, sW_ap, noPar_ap]
            · have hl' : ¬ (e : Int) < r.length := by omega
              simp [turnS, L__law_late_1, ltE, pureOf_ap, hl', hl, sW_ap, noPar_ap])
        rw [List.length_range, lat_gEnd e1] at k2
        subst k2
        simp only [ltE] at k1
        have l1 : es.length < lim := lim_lt (by omega)
        have q1 : dInts (nI es) ++ [PyData.int (gEnd r s st : Nat)] = dInts (nI (es ++ [gEnd r s st])) := by simp [nI, dInts]
        simp [turnS, L__law_late_2, ltF, pureOf_ap, dispOf_ap, rng1R_int _ (inBig_of (j := (r.length : Int)) (by omega) (by omega)), unqOf_rng, k1, appendE_ap, newTag, l1, len_nI, q1, none1, sW_ap, sWn_ap, noPar_ap, -List.map_map]
      · have : rest' = rest := by
          have h' : done ++ s :: rest = done ++ [s] ++ rest' := by rw [← hk, h]
          simpa using h'.symm
        subst this
        rw [e3 (s :: rest') hk]
        simp [gEnds])
  obtain ⟨st, es⟩ := p
  have h3 := h2.2.2 [] (by simp)
  simp [gEnds] at h3
  subst h3
  simp only [ltF, show ((0 : Nat) : Int) = 0 from rfl, show nI [] = [] from rfl, dInts_nil] at h1
  simp [Gives, fn__law_late, fnOf_ap, B__law_late, pureOf_ap, dispOf_ap, noMut_chars, h1, sWn_ap, noPar_ap, partTag]
/-! strips -/
theorem in_ud (b : Bool) : pIn [.str (sg b), .tuple [.str "u", .str "d"]] = some (.bool true, .unq) := by cases b <;> exact nr rfl
theorem nst_spec {r : List Int} {w : List Bool} (hr : IsRow r) (hl : r.length ≤ 9) (h0 : 1 ≤ w.length) (hw : w.length ≤ 9) : Gives fn_need_strips [.tuple (dInts r), .str (wS w)] .none := by
  have lc : lcE (setE 2) tYesF E_need_strips_1 [2] (w.map fun b => ((.str (sg b), .unq) : D × Tag)) [none, some (.str (wS w), .unq), none] = .ok (w.map fun b => ((.bool true, .unq) : D × Tag), [none, some (.str (wS w), .unq), none]) := by
    refine lcE_all (e := fun b : Bool => ((.str (sg b), .unq) : D × Tag)) (f := fun b : Bool => ((.bool true, .unq) : D × Tag)) fun b _ => ?_
    have := in_ud b
    simp [turnE, E_need_strips_1, pureOf_ap, dispOf_ap, this]
  have e3 : w.map (fun _ : Bool => PyData.bool true) = dBools (w.map fun _ => true) := by simp [dBools]
  have hall : (w.map fun _ : Bool => true).all id = true := by simp
  have c1 : (1 : Int) ≤ w.length := by omega
  have c2 : (w.length : Int) ≤ 9 := by omega
  simp [Gives, fn_need_strips, fnOf_ap, B_need_strips, pureOf_ap, dispOf_ap, callXx, (need_spec hr hl).eq, okT, pLen_wS (w := w) (by omega), c1, c2, noMut_chars, lim_le (show w.length ≤ 16777216 by omega), lc, fst_map, acc_unq, e3, hall, sWn_ap, noPar_ap, -List.map_const, -List.map_map, -List.all_map]
theorem atI_lastN {α : Type} {ns : List α} {a : α} (h : ns.getLast? = some a) : atI ns (-1) = some a := by
  unfold atI ixN
  have hne : ns ≠ [] := by rintro rfl; cases h
  have hl : 0 < ns.length := List.length_pos_iff.mpr hne
  rw [if_neg (by omega), if_pos (by omega)]
  rw [List.getLast?_eq_getElem?] at h
  have e : (-1 + (ns.length : Int)).toNat = ns.length - 1 := by omega
  simp [e, h]
theorem nI_lastN {l : List Nat} {a : Nat} (h : l.getLast? = some a) : (nI l).getLast? = some (a : Int) := by
  unfold nI
  rw [List.getLast?_map, h]; rfl
def mk2 (s : Str) (ns : List Int) : D := .tuple [.str s, .tuple (dInts ns)]
/-- what strips tells -/
def toldD (r : List Int) (w : List Bool) : D := if fin r w 0 = r.length then mk2 "ends" (nI (gEnds r w 0)) else mk2 "breaks" ((nI (gEnds r w 0)).map fun x => x - 1)
theorem strips_spec {r : List Int} {w : List Bool} (hr : IsRow r) (hl : r.length ≤ 9) (h0 : 1 ≤ w.length) (hw : w.length ≤ 9) : Gives fn_strips [.tuple (dInts r), .str (wS w)] (toldD r w) := by
  have hne : w ≠ [] := by rintro rfl; simp at h0
  have la := atI_lastN (nI_lastN (gEnds_last r w 0 hne))
  have i1 := ix_tup la
  unfold toldD
  by_cases z : fin r w 0 = r.length
  · rw [if_pos z]
    have z' : ((fin r w 0 : Nat) : Int) = r.length := by omega
    simp [Gives, fn_strips, fnOf_ap, B_strips, pureOf_ap, dispOf_ap, callXx, callF, (nst_spec hr hl h0 hw).eq, (sends_spec (r := r) (w := w) hl (by omega)).eq, partTag, i1, z', mk2, sWn_ap, noPar_ap]
  · rw [if_neg z]
    have z' : ¬ ((fin r w 0 : Nat) : Int) = r.length := by omega
    simp [Gives, fn_strips, fnOf_ap, B_strips, pureOf_ap, dispOf_ap, callXx, callF, (nst_spec hr hl h0 hw).eq, (sends_spec (r := r) (w := w) hl (by omega)).eq, partTag, i1, z', mk2, sWn_ap, noPar_ap, -List.map_map]
end VL
end
section
set_option Elab.async false
set_option linter.all false
set_option maxRecDepth 100000
set_option autoImplicit false
namespace VL
open PySem PySem.Spec PyProof.Rows L2
/-! objects -/
def isTupD : D → Bool
  | .tuple _ => true
  | _ => false
def isStrD : D → Bool
  | .str _ => true
  | _ => false
def notDc : D → Bool
  | .dict _ => false
  | _ => true
theorem isi_tup {d : D} (h : isTupD d = false) (h2 : notDc d = true) : pIsi "tuple" [d] = some (.bool false, .unq) := by
  cases d <;> first | (simp [isTupD] at h; done) | (simp [notDc] at h2; done) | (simp [pIsi, ps1, pf1, isiD, isDict, isiB, tyD, okT])
theorem isi_tup1 (ds : List D) : pIsi "tuple" [.tuple ds] = some (.bool true, .unq) := by
  simp [pIsi, ps1, pf1, isiD, isDict, isiB, tyD, okT]
theorem isi_str {d : D} (h : isStrD d = false) (h2 : notDc d = true) : pIsi "str" [d] = some (.bool false, .unq) := by
  cases d <;> first | (simp [isStrD] at h; done) | (simp [notDc] at h2; done) | (simp [pIsi, ps1, pf1, isiD, isDict, isiB, tyD, okT])
theorem isi_str1 (s : Str) : pIsi "str" [.str s] = some (.bool true, .unq) := by
  simp [pIsi, ps1, pf1, isiD, isDict, isiB, tyD, okT]
theorem tup_no {d : D} (h : isTupD d = false) (h2 : notDc d = true) (a b : Int) : Gives fn_is_tuple_of [d, .int a, .int b] (.bool false) := by
  have i := isi_tup h h2
  simp [Gives, fn_is_tuple_of, fnOf_ap, B_is_tuple_of, pureOf_ap, i]
theorem tup_of (ds : List D) (a b : Int) : Gives fn_is_tuple_of [.tuple ds, .int a, .int b] (.bool (decide (a ≤ ds.length) && decide ((ds.length : Int) ≤ b))) := by
  have i := isi_tup1 ds
  by_cases h : a ≤ ds.length <;> simp [Gives, fn_is_tuple_of, fnOf_ap, B_is_tuple_of, pureOf_ap, i, h]
theorem hw_no {d : D} (h : isTupD d = false) (h2 : notDc d = true) (s : Str) : Gives fn_has_word [d, .str s, .int 2] (.bool false) := by
  have i := (tup_no h h2 2 2).eq
  simp [Gives, fn_has_word, fnOf_ap, B_has_word, pureOf_ap, callF, i]
theorem hw_len {ds : List D} (h : ds.length ≠ 2) (s : Str) : Gives fn_has_word [.tuple ds, .str s, .int 2] (.bool false) := by
  have i := (tup_of ds 2 2).eq
  have : (decide ((2 : Int) ≤ ds.length) && decide ((ds.length : Int) ≤ 2)) = false := by
    simp; omega
  rw [this] at i
  simp [Gives, fn_has_word, fnOf_ap, B_has_word, pureOf_ap, callF, i]
theorem hw_ns {a b : D} (h : isStrD a = false) (h2 : notDc a = true) (s : Str) : Gives fn_has_word [.tuple [a, b], .str s, .int 2] (.bool false) := by
  have i := (tup_of [a, b] 2 2).eq
  have j := isi_str h h2
  have k : pIx [.tuple [a, b], .int 0] = some (a, partTag .sh a) := by
    simp [pIx, pf2, ixD, atI, ixN]
  simp at i
  simp [Gives, fn_has_word, fnOf_ap, B_has_word, pureOf_ap, callF, i, j, k]
theorem hw_s (t : Str) (b : D) (s : Str) : Gives fn_has_word [.tuple [.str t, b], .str s, .int 2] (.bool (t == s)) := by
  have i := (tup_of [.str t, b] 2 2).eq
  have j := isi_str1 t
  have k : pIx [.tuple [.str t, b], .int 0] = some (.str t, .unq) := by
    simp [pIx, pf2, ixD, atI, ixN, partTag]
  simp at i
  simp [Gives, fn_has_word, fnOf_ap, B_has_word, pureOf_ap, callF, i, j, k]
theorem demAll_far {c : D} {t : Tag} : ∀ (l : Env) (i : Nat), 3 ≤ i → demAll [.slot 2, .val c t] i l = l
  | [], _, _ => rfl
  | o :: l, i, h => by
    have h1 : hasSlot [.slot 2, .val c t] i = false := by simp [hasSlot]; omega
    simp only [demAll, h1, Bool.false_eq_true, if_false]
    rw [demAll_far l (i + 1) (by omega)]
@[simp] theorem dem2 {s : Str} {b c : D} {t : Tag} (x0 x1 : Option (D × Tag)) (l : Env) : demIf b (partTag .sh b) [.slot 2, .val c t] (x0 :: x1 :: some (.tuple [.str s, b], inTag (.tuple [.str s, b])) :: l) = x0 :: x1 :: some (.tuple [.str s, b], inTag (.tuple [.str s, b])) :: l := by
  by_cases hb : noMut b = true
  · have : partTag .sh b = .unq := by simp [partTag, hb]
    rw [this, demIf_unq]
  · have h1 : partTag .sh b = .sh := by simp [partTag, hb]
    have h2 : inTag (.tuple [.str s, b]) = .sh := by simp [inTag, hb]
    rw [h1, h2]
    have h3 : needDem b .sh = true := by simp [needDem, hb]
    simp only [demIf, h3, if_true, demAll]
    rw [demAll_far l 3 (by omega)]
    simp [hasSlot, dem1]
/-! what shows nothing -/
def Both (r : List Int) (w : List Bool) (d : D) (b : Bool) : Prop := Gives fn_strips_hold [.tuple (dInts r), .str (wS w), d] (.bool b) ∧ Gives fn__law_shows [.tuple (dInts r), .str (wS w), d] (.bool b)
section
variable {r : List Int} {w : List Bool} (hr : IsRow r) (hl : r.length ≤ 9) (h0 : 1 ≤ w.length) (hw : w.length ≤ 9)
include hr hl h0 hw
theorem both_A {d : D} (h : isTupD d = false) (h2 : notDc d = true) : Both r w d false := by
  have n := (nst_spec hr hl h0 hw).eq
  have lw := pLen_wS (w := w) (by omega)
  have w1 := (hw_no h h2 "ends").eq
  have w2 := (hw_no h h2 "breaks").eq
  have i := isi_tup h h2
  constructor
  · simp [Gives, fn_strips_hold, fnOf_ap, B_strips_hold, S_strips_hold_1, S_strips_hold_2, S_strips_hold_3, S_strips_hold_4, callXx, callF, n, lw, w1, w2, pureOf_ap, dispOf_ap, sWn_ap, noPar_ap]
  · simp [Gives, fn__law_shows, fnOf_ap, B__law_shows, S__law_shows_1, pureOf_ap, dispOf_ap, i]
theorem both_B {ds : List D} (h : ds.length ≠ 2) : Both r w (.tuple ds) false := by
  have n := (nst_spec hr hl h0 hw).eq
  have lw := pLen_wS (w := w) (by omega)
  have w1 := (hw_len h "ends").eq
  have w2 := (hw_len h "breaks").eq
  have i := isi_tup1 ds
  have e : ¬ (ds.length : Int) = 2 := by omega
  constructor
  · simp [Gives, fn_strips_hold, fnOf_ap, B_strips_hold, S_strips_hold_1, S_strips_hold_2, S_strips_hold_3, S_strips_hold_4, callXx, callF, n, lw, w1, w2, pureOf_ap, dispOf_ap, sWn_ap, noPar_ap]
  · simp [Gives, fn__law_shows, fnOf_ap, B__law_shows, S__law_shows_1, pureOf_ap, dispOf_ap, i, e]
theorem both_C {a b : D} (h : isStrD a = false) (h2 : notDc a = true) : Both r w (.tuple [a, b]) false := by
  have n := (nst_spec hr hl h0 hw).eq
  have lw := pLen_wS (w := w) (by omega)
  have w1 := (hw_ns (b := b) h h2 "ends").eq
  have w2 := (hw_ns (b := b) h h2 "breaks").eq
  have i := isi_tup1 [a, b]
  have j := isi_str h h2
  have k : pIx [.tuple [a, b], .int 0] = some (a, partTag .sh a) := by
    simp [pIx, pf2, ixD, atI, ixN]
  constructor
  · simp [Gives, fn_strips_hold, fnOf_ap, B_strips_hold, S_strips_hold_1, S_strips_hold_2, S_strips_hold_3, S_strips_hold_4, callXx, callF, n, lw, w1, w2, pureOf_ap, dispOf_ap, sWn_ap, noPar_ap]
  · simp [Gives, fn__law_shows, fnOf_ap, B__law_shows, S__law_shows_1, pureOf_ap, dispOf_ap, i, j, k]
theorem ae_no {d : D} (h : Gives fn_is_tuple_of [d, .int w.length, .int w.length] (.bool false)) : Gives fn_are_ends [.tuple (dInts r), .str (wS w), d] (.bool false) := by
  have lw := pLen_wS (w := w) (by omega)
  simp [Gives, fn_are_ends, fnOf_ap, B_are_ends, S_are_ends_1, pureOf_ap, dispOf_ap, callF, lw, h.eq, sWn_ap, noPar_ap]
theorem both_D {s : Str} {b : D} (h : isTupD b = false) (h2 : notDc b = true) : Both r w (.tuple [.str s, b]) false := by
  have n := (nst_spec hr hl h0 hw).eq
  have lw := pLen_wS (w := w) (by omega)
  have w1 := (hw_s s b "ends").eq
  have w2 := (hw_s s b "breaks").eq
  have t := tup_no h h2 (w.length : Int) (w.length : Int)
  have ae := (ae_no (r := r) (w := w) hr hl h0 hw t).eq
  have i := isi_tup1 [.str s, b]
  have j := isi_str1 s
  have i2 := isi_tup h h2
  have k0 : pIx [.tuple [.str s, b], .int 0] = some (.str s, .unq) := by
    simp [pIx, pf2, ixD, atI, ixN, partTag]
  have k1 : pIx [.tuple [.str s, b], .int 1] = some (b, partTag .sh b) := by
    simp [pIx, pf2, ixD, atI, ixN]
  constructor
  · cases q1 : (s == Str.ofString "ends") <;> cases q2 : (s == Str.ofString "breaks") <;> (rw [q1] at w1; rw [q2] at w2; simp [Gives, fn_strips_hold, fnOf_ap, B_strips_hold, S_strips_hold_1, S_strips_hold_2, S_strips_hold_3, S_strips_hold_4, callXx, callF, n, lw, w1, w2, t.eq, ae, k1, pureOf_ap, dispOf_ap, sWn_ap, noPar_ap])
  · simp [Gives, fn__law_shows, fnOf_ap, B__law_shows, S__law_shows_1, pureOf_ap, dispOf_ap, i, j, k0, k1, i2]
theorem both_E {s : Str} {bs : List D} (h : bs.length ≠ w.length) : Both r w (.tuple [.str s, .tuple bs]) false := by
  have n := (nst_spec hr hl h0 hw).eq
  have lw := pLen_wS (w := w) (by omega)
  have w1 := (hw_s s (.tuple bs) "ends").eq
  have w2 := (hw_s s (.tuple bs) "breaks").eq
  have t := tup_of bs (w.length : Int) (w.length : Int)
  have e : (decide ((w.length : Int) ≤ bs.length) && decide ((bs.length : Int) ≤ w.length)) = false := by
    simp; omega
  rw [e] at t
  have e2 : ¬ (bs.length : Int) = w.length := by omega
  have ae := (ae_no (r := r) (w := w) hr hl h0 hw t).eq
  have i := isi_tup1 [.str s, .tuple bs]
  have j := isi_str1 s
  have i2 := isi_tup1 bs
  have k0 : pIx [.tuple [.str s, .tuple bs], .int 0] = some (.str s, .unq) := by
    simp [pIx, pf2, ixD, atI, ixN, partTag]
  have k1 : pIx [.tuple [.str s, .tuple bs], .int 1] = some (.tuple bs, partTag .sh (.tuple bs)) := by
    simp [pIx, pf2, ixD, atI, ixN]
  constructor
  · cases q1 : (s == Str.ofString "ends") <;> cases q2 : (s == Str.ofString "breaks") <;> (rw [q1] at w1; rw [q2] at w2; simp [Gives, fn_strips_hold, fnOf_ap, B_strips_hold, S_strips_hold_1, S_strips_hold_2, S_strips_hold_3, S_strips_hold_4, callXx, callF, n, lw, w1, w2, t.eq, ae, k1, pureOf_ap, dispOf_ap, sWn_ap, noPar_ap])
  · simp [Gives, fn__law_shows, fnOf_ap, B__law_shows, S__law_shows_1, pureOf_ap, dispOf_ap, i, j, k0, k1, i2, lw, e2]
end
end VL
end
section
set_option Elab.async false
set_option linter.all false
set_option maxRecDepth 100000
set_option autoImplicit false
namespace VL
open PySem PySem.Spec PyProof.Rows L2
def isSimp : D → Bool
  | .none => true
  | .bool _ => true
  | .int _ => true
  | _ => false
def okItem (lo hi : Int) : D → Bool
  | .int i => decide (lo ≤ i) && decide (i ≤ hi)
  | _ => false
theorem simp_noMut {d : D} (h : isSimp d = true) : noMut d = true := by cases d <;> simp [isSimp] at h <;> rfl
theorem within_all {d : D} (h : isSimp d = true) (lo hi : Int) : Gives fn_is_within [d, .int lo, .int hi] (.bool (okItem lo hi d)) := by
  cases d <;> simp [isSimp] at h
  · exact within_no rfl lo hi
  · exact within_no rfl lo hi
  · exact within_spec _ lo hi
theorem simp_plain : ∀ {l : List D}, (∀ d ∈ l, isSimp d = true) → PyData.plainAll l = true ∧ PyData.depthAll l = 0
  | [], _ => ⟨rfl, rfl⟩
  | d :: l, h => by
    obtain ⟨h1, h2⟩ := simp_plain (l := l) fun e he => h e (List.mem_cons_of_mem _ he)
    have hd := h d (List.mem_cons_self ..)
    cases d <;> simp [isSimp] at hd <;> simp [PyData.plainAll, PyData.depthAll, PyData.plain, PyData.depth, h1, h2]
theorem pNe_nil {l : List D} (h : ∀ d ∈ l, isSimp d = true) : pNe [.list l, .list []] = some (.bool (!l.isEmpty), .unq) := by
  obtain ⟨h1, h2⟩ := simp_plain h
  have o : okD (.list l) = true := by
    unfold okD
    rw [show (PyData.list l).plain = PyData.plainAll l from rfl, h1, show (PyData.list l).depth = PyData.depthAll l + 1 from rfl, h2]
    rfl
  have o2 : okD (.list []) = true := by decide
  have e : PyData.eqv (.list l) (.list []) = l.isEmpty := by cases l <;> simp [PyData.eqv, PyData.eqvAll]
  simp [pNe, ps2, pf2, neD, o, o2, e]
theorem unq_simp {l : List D} (h : ∀ d ∈ l, isSimp d = true) : unqOf l = l.map fun d => (d, Tag.unq) := by
  unfold unqOf
  apply List.map_congr_left
  intro d hd
  simp [partTag, simp_noMut (h d hd)]
theorem noMutL_simp {l : List D} (h : ∀ d ∈ l, isSimp d = true) : noMutL l = true := noMutL_mem' h
where noMutL_mem' : ∀ {l : List D}, (∀ d ∈ l, isSimp d = true) → noMutL l = true
  | [], _ => rfl
  | d :: l, h => by
    rw [noMutL_cons, simp_noMut (h d (List.mem_cons_self ..)), noMutL_mem' fun e he => h e (List.mem_cons_of_mem _ he)]
    rfl
theorem bools_D (l : List D) (f : D → Bool) : l.map (fun x => PyData.bool (f x)) = dBools (l.map f) := by simp [dBools]
section
variable {r : List Int} {w : List Bool} (hr : IsRow r) (hl : r.length ≤ 9) (h0 : 1 ≤ w.length) (hw : w.length ≤ 9)
include hr hl h0 hw
def aeE (r : List Int) (w : List Bool) (bs : List D) : Env := [some (.tuple (dInts r), .unq), some (.str (wS w), .unq), some (.tuple bs, .unq), none, none, none, none, none, none]
theorem ae_S1 {bs : List D} (h : ∀ d ∈ bs, isSimp d = true) (hb : bs.length = w.length) : S_are_ends_1 (aeE r w bs) = if bs.all (okItem 0 r.length) then .nx (aeE r w bs) else .rt (.bool false) .unq (aeE r w bs) := by
  have lw := pLen_wS (w := w) (by omega)
  have t := (tup_of bs (w.length : Int) (w.length : Int)).eq
  have e : (decide ((w.length : Int) ≤ bs.length) && decide ((bs.length : Int) ≤ w.length)) = true := by
    simp; omega
  rw [e] at t
  have lc : lcE (setE 5) tYesF E_are_ends_1 [5] (bs.map fun d => ((d, .unq) : D × Tag)) (aeE r w bs) = .ok (bs.map fun d => ((.bool (okItem 0 r.length d), .unq) : D × Tag), aeE r w bs) := by
    refine lcE_all (e := fun d => ((d, .unq) : D × Tag)) (f := fun d => ((.bool (okItem 0 r.length d), .unq) : D × Tag)) fun d hd => ?_
    have := (within_all (h d hd) 0 r.length).eq
    simp [turnE, E_are_ends_1, aeE, pureOf_ap, callF, this]
  have nb := noMutL_simp h
  simp only [aeE] at lc ⊢
  have hle : bs.length ≤ lim := lim_le (by omega)
  cases q : bs.all (okItem 0 r.length) with
  | false =>
    have q2 : ∃ a, a ∈ bs ∧ okItem 0 r.length a = false := by simpa using q
    simp [S_are_ends_1, pureOf_ap, dispOf_ap, callF, lw, t, unq_simp h, noPar_ap, hle, lc, fst_map, acc_unq, bools_D, -List.map_map, -List.all_map, sWn_ap, nb]
    rw [if_pos q2]
  | true =>
    have q2 : ¬ ∃ a, a ∈ bs ∧ okItem 0 r.length a = false := by
      rintro ⟨a, ha, hb⟩
      rw [List.all_eq_true.mp q a ha] at hb
      cases hb
    simp [S_are_ends_1, pureOf_ap, dispOf_ap, callF, lw, t, unq_simp h, noPar_ap, hle, lc, fst_map, acc_unq, bools_D, -List.map_map, -List.all_map, sWn_ap, nb]
    rw [if_neg q2]
    rfl
theorem ae_bad {bs : List D} (h : ∀ d ∈ bs, isSimp d = true) (hb : bs.length = w.length) (hq : bs.all (okItem 0 r.length) = false) : Gives fn_are_ends [.tuple (dInts r), .str (wS w), .tuple bs] (.bool false) := by
  have s1 := ae_S1 (r := r) (w := w) hr hl h0 hw h hb
  rw [hq] at s1
  have nb := noMutL_simp h
  have e : entE false 9 [.tuple (dInts r), .str (wS w), .tuple bs] = aeE r w bs := by simp [entE, aeE, inTag, nb]
  simp [Gives, fn_are_ends, fnOf_ap, B_are_ends, e, s1]
end
end VL
end
section
set_option Elab.async false
set_option linter.all false
set_option maxRecDepth 100000
set_option autoImplicit false
namespace VL
open PySem PySem.Spec PyProof.Rows L2
theorem forE_ret {g : GR} {b : SR} {α : Type} {e : α → D × Tag} {c : α → Bool} {env : Env} : ∀ {l : List α}, (∀ a ∈ l, (c a = true → turnS g b (e a) env = .nx env) ∧ (c a = false → ∃ env', turnS g b (e a) env = .rt (.bool false) .unq env')) →
    (l.all c = true → forE g b (l.map e) env = .nx env) ∧ (l.all c = false → ∃ env', forE g b (l.map e) env = .rt (.bool false) .unq env')
  | [], _ => ⟨fun _ => rfl, fun h => by simp at h⟩
  | a :: l, h => by
    obtain ⟨h1, h2⟩ := h a (List.mem_cons_self ..)
    obtain ⟨i1, i2⟩ := forE_ret (l := l) fun x hx => h x (List.mem_cons_of_mem _ hx)
    cases q : c a with
    | true =>
      refine ⟨fun z => ?_, fun z => ?_⟩
      · rw [List.map_cons, forE_cons, h1 q]
        exact i1 (by simpa [q] using z)
      · rw [List.map_cons, forE_cons, h1 q]
        exact i2 (by simpa [q] using z)
    | false =>
      refine ⟨fun z => by simp [q] at z, fun _ => ?_⟩
      obtain ⟨env', h2⟩ := h2 q
      exact ⟨env', by rw [List.map_cons, forE_cons, h2]⟩
def chk1 (r : List Int) (s : Bool) (st e : Nat) : Bool := (List.range (e - 1 - st)).all fun k => !brk r (st + k) s
def chk (r : List Int) : List Bool → Nat → List Nat → Bool
  | s :: w, st, e :: es => chk1 r s st e && chk r w e es
  | _, _, _ => true
theorem chk1_iff {r : List Int} {s : Bool} {st e : Nat} : chk1 r s st e = true ↔ ∀ p, st ≤ p → p + 1 < e → brk r p s = false := by
  unfold chk1
  rw [List.all_eq_true]
  constructor
  · intro h p h1 h2
    have := h (p - st) (by rw [List.mem_range]; omega)
    rw [show st + (p - st) = p by omega] at this
    simpa using this
  · intro h k hk
    rw [List.mem_range] at hk
    have := h (st + k) (by omega) (by omega)
    simp [this]
theorem chk_VE {r : List Int} : ∀ {w : List Bool} {st : Nat} {es : List Nat}, w.length = es.length → (∀ e ∈ es, e ≤ r.length) → (VE r w st es ↔ ((st :: es).Pairwise (· ≤ ·) ∧ chk r w st es = true ∧ (st :: es).getLast? = some r.length))
  | [], st, [], _, _ => by simp [VE, chk]
  | [], st, e :: es, h, _ => by simp at h
  | s :: w, st, [], h, _ => by simp at h
  | s :: w, st, e :: es, h, hl => by
    have ih := chk_VE (r := r) (w := w) (st := e) (es := es) (by simpa using h) fun x hx => hl x (List.mem_cons_of_mem _ hx)
    simp only [VE, chk]
    rw [ih, Bool.and_eq_true, chk1_iff, List.getLast?_cons_cons]
    have he := hl e (List.mem_cons_self ..)
    constructor
    · rintro ⟨a1, a2, a3, a4, a5, a6⟩
      refine ⟨List.pairwise_cons.mpr ⟨fun y hy => ?_, a4⟩, ⟨a3, a5⟩, a6⟩
      rcases List.mem_cons.mp hy with rfl | hy
      · exact a1
      · have := (List.pairwise_cons.mp a4).1 y hy; omega
    · rintro ⟨a0, ⟨a3, a5⟩, a6⟩
      obtain ⟨a1, a4⟩ := List.pairwise_cons.mp a0
      exact ⟨a1 e (List.mem_cons_self ..), he, a3, a4, a5, a6⟩
def tri : List Bool → Nat → List Nat → List (Bool × Nat × Nat)
  | s :: w, st, e :: es => (s, st, e) :: tri w e es
  | _, _, _ => []
theorem tri_chk {r : List Int} : ∀ {w : List Bool} {st : Nat} {es : List Nat}, (tri w st es).all (fun t => chk1 r t.1 t.2.1 t.2.2) = chk r w st es
  | [], _, _ => rfl
  | s :: w, st, [] => rfl
  | s :: w, st, e :: es => by simp only [tri, chk, List.all_cons]; rw [tri_chk]
theorem tri_mem {n : Nat} : ∀ {w : List Bool} {st : Nat} {es : List Nat}, (∀ e ∈ es, e ≤ n) → st ≤ n → ∀ t ∈ tri w st es, t.2.1 ≤ n ∧ t.2.2 ≤ n
  | [], _, _, _, _, t, h => by cases h
  | s :: w, st, [], _, _, t, h => by cases h
  | s :: w, st, e :: es, hl, hs, t, h => by
    have he := hl e (List.mem_cons_self ..)
    rcases List.mem_cons.mp h with rfl | h
    · exact ⟨hs, he⟩
    · exact tri_mem (fun x hx => hl x (List.mem_cons_of_mem _ hx)) he t h
theorem zip3_tri : ∀ {w : List Bool} {st : Nat} {es : List Nat}, w.length = es.length → zipD3L (w.map fun b => PyData.str (sg b)) (dInts (nI (st :: es.dropLast))) (dInts (nI es)) = (tri w st es).map fun t => ((.tuple [.str (sg t.1), .int t.2.1, .int t.2.2], .unq) : D × Tag)
  | [], st, [], _ => rfl
  | [], st, e :: es, h => by simp at h
  | s :: w, st, [], h => by simp at h
  | [s], st, [e], _ => by simp [zipD3L, tri, nI, dInts, pairT3]
  | [s], st, e :: e2 :: es, h => by simp at h
  | s :: s2 :: w, st, [e], h => by simp at h
  | s :: s2 :: w, st, e :: e2 :: es, h => by
    have ih := zip3_tri (w := s2 :: w) (st := e) (es := e2 :: es) (by simpa using h)
    have e1 : (e :: e2 :: es).dropLast = e :: (e2 :: es).dropLast := rfl
    rw [e1]
    simp only [tri, List.map_cons]
    simp only [tri, List.map_cons] at ih
    rw [← ih]
    simp [zipD3L, nI, dInts, pairT3]
theorem zip2_pair : ∀ {w : List Bool} {es : List Nat}, zipDL (dInts (nI es)) (w.map fun b => PyData.str (sg b)) = (es.zip w).map fun t => ((.tuple [.int t.1, .str (sg t.2)], .unq) : D × Tag)
  | w, [] => by simp [zipDL, nI, dInts]
  | [], e :: es => by simp [zipDL, nI, dInts]
  | s :: w, e :: es => by
    have ih := zip2_pair (w := w) (es := es)
    unfold zipDL at ih ⊢
    simp [nI, dInts, pairT2] at ih ⊢
    exact ih
section
variable {r : List Int} {w : List Bool} (hr : IsRow r) (hl : r.length ≤ 9) (h0 : 1 ≤ w.length) (hw : w.length ≤ 9)
include hr hl h0 hw
/-! are_ends -/
def alE (r : List Int) (w : List Bool) (es : List Nat) (st : Nat) : Env := [none, none, none, some (.int st, .unq), none, none, none, none, none]
theorem any_rng {s : Bool} {st e : Nat} (he : e ≤ r.length) {x1 x2 x5 x7 x8 : Option (D × Tag)} :
    lcE (setE 6) tYesF E_are_ends_3 [6] ((List.range (e - 1 - st)).map fun k : Nat => ((.int ((st : Int) + k), .unq) : D × Tag)) [some (.tuple (dInts r), .unq), x1, x2, some (.int st, .unq), some (.str (sg s), .unq), x5, none, x7, x8] =
      .ok ((List.range (e - 1 - st)).map fun k : Nat => ((.bool (brk r (st + k) s), .unq) : D × Tag), [some (.tuple (dInts r), .unq), x1, x2, some (.int st, .unq), some (.str (sg s), .unq), x5, none, x7, x8]) := by
  refine lcE_all (e := fun k : Nat => ((.int ((st : Int) + k), .unq) : D × Tag)) (f := fun k : Nat => ((.bool (brk r (st + k) s), .unq) : D × Tag)) fun k hk => ?_
  rw [List.mem_range] at hk
  have b := (brk_spec (r := r) (p := st + k) (s := s) (by omega)).eq
  rw [show ((st + k : Nat) : Int) = (st : Int) + k by omega] at b
  simp [turnE, E_are_ends_3, pureOf_ap, callF, b]
theorem ae_loop : ∀ (w' : List Bool) (es : List Nat) (st : Nat), st ≤ r.length → (∀ e ∈ es, e ≤ r.length) → ∀ (B : D) (x1 : Option (D × Tag)), w'.length = es.length →
    (chk r w' st es = true → ∃ st', forE (gUnF 2 (gsCons (setE 5) (gsCons (setE 4) gsNil))) L_are_ends_7 ((es.zip w').map fun t => ((.tuple [.int t.1, .str (sg t.2)], .unq) : D × Tag)) [some (.tuple (dInts r), .unq), some (.str (wS w), .unq), some (B, .unq), some (.int st, .unq), none, none, none, none, none] =
      .nx [some (.tuple (dInts r), .unq), some (.str (wS w), .unq), some (B, .unq), some (.int (st' : Nat), .unq), none, none, none, none, none]) ∧
    (chk r w' st es = false → ∃ env, forE (gUnF 2 (gsCons (setE 5) (gsCons (setE 4) gsNil))) L_are_ends_7 ((es.zip w').map fun t => ((.tuple [.int t.1, .str (sg t.2)], .unq) : D × Tag)) [some (.tuple (dInts r), .unq), some (.str (wS w), .unq), some (B, .unq), some (.int st, .unq), none, none, none, none, none] =
      .rt (.bool false) .unq env) := by
  intro w'
  induction w' with
  | nil =>
    intro es st hs hes B x1 h
    have : es = [] := List.length_eq_zero_iff.mp (by simpa using h.symm)
    subst this
    exact ⟨fun _ => ⟨st, rfl⟩, fun h => by simp [chk] at h⟩
  | cons s w' ih =>
    intro es st hs hes B x1 h
    cases es with
    | nil => simp at h
    | cons e es =>
      have he := hes e (List.mem_cons_self ..)
      have ih' := ih es e he (fun x hx => hes x (List.mem_cons_of_mem _ hx)) B x1 (by simpa using h)
      have lc := any_rng (r := r) (w := w) hr hl h0 hw (s := s) (st := st) (e := e) he (x1 := some (.str (wS w), .unq)) (x2 := some (B, .unq)) (x5 := some (.int (e : Int), .unq)) (x7 := none) (x8 := none)
      have i1 : ((e : Int) - 1 - st).toNat = e - 1 - st := by omega
      have rg := rng2R_int (env := [some (.tuple (dInts r), .unq), some (.str (wS w), .unq), some (B, .unq), some (.int st, .unq), some (.str (sg s), .unq), some (.int (e : Int), .unq), none, none, none]) (st : Int) ((e : Int) - 1) (inBig_of (by omega) (by omega)) (inBig_of (by omega) (by omega))
      have hle : e - 1 - st ≤ lim := lim_le (by omega)
      have bl : (List.range (e - 1 - st)).map (fun k : Nat => PyData.bool (brk r (st + k) s)) = dBools ((List.range (e - 1 - st)).map fun k : Nat => brk r (st + k) s) := by simp [dBools]
      rw [List.zip_cons_cons, List.map_cons, forE_cons]
      cases q : chk1 r s st e with
      | true =>
        have q2 : ((List.range (e - 1 - st)).map fun k : Nat => brk r (st + k) s).any id = false := by
          have := q
          unfold chk1 at this
          rw [List.all_eq_true] at this
          rw [List.any_eq_false]
          intro x hx
          rw [List.mem_map] at hx
          obtain ⟨k, hk, rfl⟩ := hx
          have := this k hk
          simpa using this
        have tu : turnS (gUnF 2 (gsCons (setE 5) (gsCons (setE 4) gsNil))) L_are_ends_7 (.tuple [.int (e : Int), .str (sg s)], .unq) [some (.tuple (dInts r), .unq), some (.str (wS w), .unq), some (B, .unq), some (.int st, .unq), none, none, none, none, none] = .nx [some (.tuple (dInts r), .unq), some (.str (wS w), .unq), some (B, .unq), some (.int e, .unq), none, none, none, none, none] := by
          simp [turnS, L_are_ends_7, partTag, pureOf_ap, dispOf_ap, rg, i1, unqOf_rngL, noPar_ap, hle, lc, fst_map, acc_unq, bl, q2, -List.map_map, -List.any_map, sW_ap, sWn_ap]
        rw [tu]
        simp only [chk, q, Bool.true_and]
        exact ih'
      | false =>
        have q2 : ((List.range (e - 1 - st)).map fun k : Nat => brk r (st + k) s).any id = true := by
          cases z : ((List.range (e - 1 - st)).map fun k : Nat => brk r (st + k) s).any id with
          | true => rfl
          | false =>
            exfalso
            rw [List.any_eq_false] at z
            have : chk1 r s st e = true := by
              unfold chk1
              rw [List.all_eq_true]
              intro k hk
              have := z (brk r (st + k) s) (List.mem_map.mpr ⟨k, hk, rfl⟩)
              simpa using this
            rw [q] at this; cases this
        have tu : ∃ env, turnS (gUnF 2 (gsCons (setE 5) (gsCons (setE 4) gsNil))) L_are_ends_7 (.tuple [.int (e : Int), .str (sg s)], .unq) [some (.tuple (dInts r), .unq), some (.str (wS w), .unq), some (B, .unq), some (.int st, .unq), none, none, none, none, none] = .rt (.bool false) .unq env := by
          refine ⟨[some (.tuple (dInts r), .unq), some (.str (wS w), .unq), some (B, .unq), some (.int st, .unq), some (.str (sg s), .unq), some (.int (e : Int), .unq), none, none, none], ?_⟩
          simp [turnS, L_are_ends_7, partTag, pureOf_ap, dispOf_ap, rg, i1, unqOf_rngL, noPar_ap, hle, lc, fst_map, acc_unq, bl, q2, -List.map_map, -List.any_map, sW_ap, sWn_ap]
        obtain ⟨env, tu⟩ := tu
        rw [tu]
        refine ⟨fun z => by simp [chk, q] at z, fun _ => ⟨env, rfl⟩⟩
end
end VL
end
section
set_option Elab.async false
set_option linter.all false
set_option maxRecDepth 100000
set_option autoImplicit false
namespace VL
open PySem PySem.Spec PyProof.Rows L2
theorem zip_ii : ∀ (a b : List Nat), zipDL (dInts (nI a)) (dInts (nI b)) = (a.zip b).map fun p => ((.tuple [.int p.1, .int p.2], .unq) : D × Tag)
  | [], b => by simp [zipDL, nI, dInts]
  | x :: a, [] => by simp [zipDL, nI, dInts]
  | x :: a, y :: b => by
    have ih := zip_ii a b
    unfold zipDL at ih ⊢
    simp [nI, dInts, pairT2] at ih ⊢
    exact ih
theorem nI_drop (l : List Nat) (k : Nat) : (nI l).drop k = nI (l.drop k) := by simp [nI]
def adjLe (l : List Nat) : Bool := (l.zip (l.drop 1)).all fun p => decide (p.1 ≤ p.2)
def adjLt (l : List Nat) : Bool := (l.zip (l.drop 1)).all fun p => decide (p.1 < p.2)
theorem adjLe_iff : ∀ {l : List Nat}, adjLe l = true ↔ l.Pairwise (· ≤ ·)
  | [] => by simp [adjLe]
  | [x] => by simp [adjLe]
  | x :: y :: l => by
    have ih := adjLe_iff (l := y :: l)
    unfold adjLe at ih ⊢
    simp only [List.drop_succ_cons, List.drop_zero, List.zip_cons_cons, List.all_cons, Bool.and_eq_true, decide_eq_true_eq] at ih ⊢
    rw [show (y :: l).zip l = (y :: l).zip ((y :: l).drop 1) from rfl]
    simp only [List.drop_succ_cons, List.drop_zero]
    rw [ih]
    constructor
    · rintro ⟨h1, h2⟩
      refine List.pairwise_cons.mpr ⟨fun z hz => ?_, h2⟩
      rcases List.mem_cons.mp hz with rfl | hz
      · exact h1
      · have := (List.pairwise_cons.mp h2).1 z hz; omega
    · intro h
      obtain ⟨h1, h2⟩ := List.pairwise_cons.mp h
      exact ⟨h1 y (List.mem_cons_self ..), h2⟩
theorem adjLt_iff : ∀ {l : List Nat}, adjLt l = true ↔ l.Pairwise (· < ·)
  | [] => by simp [adjLt]
  | [x] => by simp [adjLt]
  | x :: y :: l => by
    have ih := adjLt_iff (l := y :: l)
    unfold adjLt at ih ⊢
    simp only [List.drop_succ_cons, List.drop_zero, List.zip_cons_cons, List.all_cons, Bool.and_eq_true, decide_eq_true_eq] at ih ⊢
    rw [ih]
    constructor
    · rintro ⟨h1, h2⟩
      refine List.pairwise_cons.mpr ⟨fun z hz => ?_, h2⟩
      rcases List.mem_cons.mp hz with rfl | hz
      · exact h1
      · have := (List.pairwise_cons.mp h2).1 z hz; omega
    · intro h
      obtain ⟨h1, h2⟩ := List.pairwise_cons.mp h
      exact ⟨h1 y (List.mem_cons_self ..), h2⟩
def vE (r : List Int) (w : List Bool) (es : List Nat) : Bool := (decide (es.getLast? = some r.length) && adjLe es) && chk r w 0 es
theorem vE_iff {r : List Int} {w : List Bool} {es : List Nat} (h0 : 1 ≤ w.length) (h : w.length = es.length) (hl : ∀ e ∈ es, e ≤ r.length) : vE r w es = true ↔ VE r w 0 es := by
  rw [chk_VE h hl]
  unfold vE
  rw [Bool.and_eq_true, Bool.and_eq_true, adjLe_iff, decide_eq_true_eq]
  cases es with
  | nil => have h' : w.length = 0 := h
           omega
  | cons e es =>
    rw [List.getLast?_cons_cons]
    constructor
    · rintro ⟨⟨a, b⟩, c⟩
      exact ⟨List.pairwise_cons.mpr ⟨fun _ _ => Nat.zero_le _, b⟩, c, a⟩
    · rintro ⟨b, c, a⟩
      exact ⟨⟨a, (List.pairwise_cons.mp b).2⟩, c⟩
theorem ok_nI {n : Nat} {es : List Nat} (h : ∀ e ∈ es, e ≤ n) : (dInts (nI es)).all (okItem 0 n) = true := by
  rw [List.all_eq_true]
  intro d hd
  unfold dInts nI at hd
  rw [List.map_map, List.mem_map] at hd
  obtain ⟨e, he, rfl⟩ := hd
  have := h e he
  simp [okItem]; omega
theorem simp_nI (es : List Nat) : ∀ d ∈ dInts (nI es), isSimp d = true := by
  intro d hd
  unfold dInts nI at hd
  rw [List.map_map, List.mem_map] at hd
  obtain ⟨e, he, rfl⟩ := hd
  rfl
theorem len_dnI (es : List Nat) : (dInts (nI es)).length = es.length := by simp [dInts, nI]
section
variable {r : List Int} {w : List Bool} (hr : IsRow r) (hl : r.length ≤ 9) (h0 : 1 ≤ w.length) (hw : w.length ≤ 9)
include hr hl h0 hw
theorem adj_lc {es : List Nat} {x0 x1 x2 x3 x4 x5 x6 : Option (D × Tag)} : lcE (gUnF 2 (gsCons (setE 7) (gsCons (setE 8) gsNil))) tYesF E_are_ends_2 [7, 8] ((es.zip (es.drop 1)).map fun p => ((.tuple [.int p.1, .int p.2], .unq) : D × Tag)) [x0, x1, x2, x3, x4, x5, x6, none, none] =
    .ok ((es.zip (es.drop 1)).map fun p => ((.bool (!decide (p.1 ≤ p.2)), .unq) : D × Tag), [x0, x1, x2, x3, x4, x5, x6, none, none]) := by
  refine lcE_all (e := fun p : Nat × Nat => ((.tuple [.int p.1, .int p.2], .unq) : D × Tag)) (f := fun p : Nat × Nat => ((.bool (!decide (p.1 ≤ p.2)), .unq) : D × Tag)) fun p _ => ?_
  have e : (decide (p.2 < p.1)) = (!decide (p.1 ≤ p.2)) := by
    by_cases h : p.1 ≤ p.2
    · have : ¬ p.2 < p.1 := by omega
      simp [h, this]
    · have : p.2 < p.1 := by omega
      simp [h, this]
  simp [turnE, E_are_ends_2, pureOf_ap, partTag, e]
theorem ae_good {es : List Nat} (h : w.length = es.length) (hes : ∀ e ∈ es, e ≤ r.length) : Gives fn_are_ends [.tuple (dInts r), .str (wS w), .tuple (dInts (nI es))] (.bool (vE r w es)) := by
  have s1 := ae_S1 (r := r) (w := w) hr hl h0 hw (simp_nI es) (by rw [len_dnI, h])
  rw [ok_nI hes] at s1
  simp only [if_true] at s1
  have e0 : entE false 9 [.tuple (dInts r), .str (wS w), .tuple (dInts (nI es))] = aeE r w (dInts (nI es)) := by simp [entE, aeE, inTag]
  have hne : es ≠ [] := by
    rintro rfl
    have h' : w.length = 0 := h
    omega
  obtain ⟨la, hla⟩ : ∃ la, es.getLast? = some la := ⟨es.getLast hne, List.getLast?_eq_some_getLast hne⟩
  have i1 := ix_tup (atI_lastN (nI_lastN hla))
  have c1 := cut_from (nI es) 1
  rw [show ((1 : Nat) : Int) = 1 from rfl, nI_drop] at c1
  have z1 := zip_ii es (es.drop 1)
  have lc := adj_lc (r := r) (w := w) hr hl h0 hw (es := es) (x0 := some (.tuple (dInts r), .unq)) (x1 := some (.str (wS w), .unq)) (x2 := some (.tuple (dInts (nI es)), .unq)) (x3 := none) (x4 := none) (x5 := none) (x6 := none)
  have bl : (es.zip (es.drop 1)).map (fun p => PyData.bool (!decide (p.1 ≤ p.2))) = dBools ((es.zip (es.drop 1)).map fun p => !decide (p.1 ≤ p.2)) := by simp [dBools]
  have hzl : (es.zip (es.drop 1)).length ≤ lim := lim_le (by rw [List.length_zip]; omega)
  have ad : ((es.zip (es.drop 1)).map fun p => !decide (p.1 ≤ p.2)).any id = !adjLe es := by
    unfold adjLe
    rw [List.any_map]
    simp [List.not_all_eq_any_not]
  have s2 : S_are_ends_2 (aeE r w (dInts (nI es))) = if decide (es.getLast? = some r.length) && adjLe es then .nx (aeE r w (dInts (nI es))) else .rt (.bool false) .unq (aeE r w (dInts (nI es))) := by
    rw [hla]
    by_cases q : la = r.length
    · subst q
      cases q2 : adjLe es <;> (rw [q2] at ad; simp [S_are_ends_2, aeE, pureOf_ap, dispOf_ap, i1, c1, z1, noPar_ap, hzl, lc, fst_map, acc_unq, bl, ad, -List.map_map, -List.any_map, -List.drop_one, sWn_ap, -List.length_zip])
    · have q' : ¬ (la : Int) = r.length := by omega
      simp [S_are_ends_2, aeE, pureOf_ap, dispOf_ap, i1, q, q', sWn_ap]
  have s3 : S_are_ends_3 (aeE r w (dInts (nI es))) = .nx [some (.tuple (dInts r), .unq), some (.str (wS w), .unq), some (.tuple (dInts (nI es)), .unq), some (.int (0 : Nat), .unq), none, none, none, none, none] := by
    simp [S_are_ends_3, aeE]
  obtain ⟨l1, l2⟩ := ae_loop (r := r) (w := w) hr hl h0 hw w es 0 (Nat.zero_le _) hes (.tuple (dInts (nI es))) none h
  have z2 := zip2_pair (w := w) (es := es)
  have it : iZipE (aCons (eKeep true (eVar 2)) (aCons (eKeep true (eVar 1)) aNil)) [some (.tuple (dInts r), .unq), some (.str (wS w), .unq), some (.tuple (dInts (nI es)), .unq), some (.int (0 : Nat), .unq), none, none, none, none, none] =
      .ok ((es.zip w).map fun t => ((.tuple [.int t.1, .str (sg t.2)], .unq) : D × Tag), [some (.tuple (dInts r), .unq), some (.str (wS w), .unq), some (.tuple (dInts (nI es)), .unq), some (.int (0 : Nat), .unq), none, none, none, none, none]) := by
    have ch : (wS w).cps.toList.map (fun c => PyData.str ⟨#[c]⟩) = w.map fun b => PyData.str (sg b) := chars_wS w
    simp [ch, z2, -List.map_map]
  unfold vE
  simp only [Gives, fn_are_ends, fnOf_ap, B_are_ends, sSeq_ap, e0, s1, s2]
  cases q : (decide (es.getLast? = some r.length) && adjLe es) with
  | false => simp
  | true =>
    simp only [if_true, s3, Bool.true_and]
    cases q2 : chk r w 0 es with
    | true =>
      obtain ⟨st', l1⟩ := l1 q2
      simp only [S_are_ends_4, sWn_ap, sFor_ap, it, out_ok, l1]
      simp [noPar_ap, S_are_ends_5]
    | false =>
      obtain ⟨env, l2⟩ := l2 q2
      simp only [S_are_ends_4, sWn_ap, sFor_ap, it, out_ok, l2]
      simp
end
end VL
end
section
set_option Elab.async false
set_option linter.all false
set_option maxRecDepth 100000
set_option autoImplicit false
namespace VL
open PySem PySem.Spec PyProof.Rows L2
theorem isort_le (l : List Int) : (isort l).Pairwise (· ≤ ·) := by
  have := List.pairwise_mergeSort (le := fun a b : Int => decide (a ≤ b)) (fun a b c h1 h2 => by simp at *; omega) (fun a b => by simp; omega) l
  exact this.imp fun h => by simpa using h
theorem isort_adj (es : List Nat) : (nI es == isort (nI es)) = adjLe es := by
  have key : (nI es = isort (nI es)) ↔ es.Pairwise (· ≤ ·) := by
    constructor
    · intro h
      have h2 := isort_le (nI es)
      rw [← h] at h2
      unfold nI at h2
      rw [List.pairwise_map] at h2
      exact h2.imp fun h => by omega
    · intro h
      have h1 : (nI es).Pairwise (· ≤ ·) := by
        unfold nI
        rw [List.pairwise_map]
        exact h.imp fun h => by omega
      exact ((isort_perm (nI es)).symm).eq_of_pairwise (fun a b _ _ h1 h2 => by omega) h1 (isort_le (nI es))
  cases q : adjLe es with
  | true => rw [adjLe_iff] at q; have := key.mpr q; simpa using this
  | false =>
    have : ¬ nI es = isort (nI es) := fun h => by
      have := adjLe_iff.mpr (key.mp h)
      rw [q] at this; cases this
    simpa using this
theorem setI_adj (es : List Nat) : (nI es == setI (nI es)) = adjLt es := by
  have key : (nI es = setI (nI es)) ↔ es.Pairwise (· < ·) := by
    constructor
    · intro h
      have h2 := setI_asc (nI es)
      rw [← h] at h2
      unfold nI at h2
      rw [List.pairwise_map] at h2
      exact h2.imp fun h => by omega
    · intro h
      have h1 : (nI es).Pairwise (· < ·) := by
        unfold nI
        rw [List.pairwise_map]
        exact h.imp fun h => by omega
      exact asc_ext h1 (setI_asc _) fun k => setI_mem.symm
  cases q : adjLt es with
  | true => rw [adjLt_iff] at q; have := key.mpr q; simpa using this
  | false =>
    have : ¬ nI es = setI (nI es) := fun h => by
      have := adjLt_iff.mpr (key.mp h)
      rw [q] at this; cases this
    simpa using this
def bV (r : List Int) (w : List Bool) (es : List Nat) : Bool := (es.all (fun p => decide (p + 2 ≤ r.length)) && adjLt es) && ((es.zip w).all fun t => brk r t.1 t.2)
theorem bV_VB {r : List Int} : ∀ {w : List Bool} {lo : Nat} {es : List Nat}, w.length = es.length → (∀ e ∈ es, e + 2 ≤ r.length) → es.Pairwise (· < ·) → (∀ e ∈ es, lo ≤ e) → ((es.zip w).all fun t => brk r t.1 t.2) = true → VB r w lo es
  | [], lo, [], _, _, _, _, _ => trivial
  | [], lo, e :: es, h, _, _, _, _ => by simp at h
  | s :: w, lo, [], h, _, _, _, _ => by simp at h
  | s :: w, lo, e :: es, h, h1, h2, h3, h4 => by
    obtain ⟨p1, p2⟩ := List.pairwise_cons.mp h2
    rw [List.zip_cons_cons, List.all_cons, Bool.and_eq_true] at h4
    exact ⟨h3 e (List.mem_cons_self ..), h1 e (List.mem_cons_self ..), h4.1, bV_VB (by simpa using h) (fun x hx => h1 x (List.mem_cons_of_mem _ hx)) p2 (fun x hx => p1 x hx) h4.2⟩
theorem VB_bV {r : List Int} : ∀ {w : List Bool} {lo : Nat} {es : List Nat}, VB r w lo es → (∀ e ∈ es, e + 2 ≤ r.length) ∧ es.Pairwise (· < ·) ∧ (∀ e ∈ es, lo ≤ e) ∧ ((es.zip w).all fun t => brk r t.1 t.2) = true
  | [], lo, [], _ => ⟨by simp, by simp, by simp, rfl⟩
  | [], lo, e :: es, h => h.elim
  | s :: w, lo, [], h => h.elim
  | s :: w, lo, e :: es, h => by
    obtain ⟨a1, a2, a3, a4⟩ := h
    obtain ⟨b1, b2, b3, b4⟩ := VB_bV a4
    refine ⟨fun x hx => ?_, List.pairwise_cons.mpr ⟨fun x hx => b3 x hx, b2⟩, fun x hx => ?_, ?_⟩
    · rcases List.mem_cons.mp hx with rfl | hx
      · exact a2
      · exact b1 x hx
    · rcases List.mem_cons.mp hx with rfl | hx
      · exact a1
      · have := b3 x hx; omega
    · rw [List.zip_cons_cons, List.all_cons, a3, b4]; rfl
theorem bV_iff {r : List Int} {w : List Bool} {es : List Nat} (h : w.length = es.length) : bV r w es = true ↔ VB r w 0 es := by
  unfold bV
  rw [Bool.and_eq_true, Bool.and_eq_true, adjLt_iff, List.all_eq_true]
  constructor
  · rintro ⟨⟨a, b⟩, c⟩
    exact bV_VB h (fun e he => by simpa using a e he) b (fun _ _ => Nat.zero_le _) c
  · intro v
    obtain ⟨a, b, _, c⟩ := VB_bV v
    exact ⟨⟨fun e he => by simpa using a e he, b⟩, c⟩
section
variable {r : List Int} {w : List Bool} (hr : IsRow r) (hl : r.length ≤ 9) (h0 : 1 ≤ w.length) (hw : w.length ≤ 9)
include hr hl h0 hw
/-! strips_hold, the rest -/
theorem hold_E {s : Str} {bs : List D} (h : ∀ d ∈ bs, isSimp d = true) (hb : bs.length = w.length) (ve : Bool) (hv : Gives fn_are_ends [.tuple (dInts r), .str (wS w), .tuple bs] (.bool ve)) :
    Gives fn_strips_hold [.tuple (dInts r), .str (wS w), .tuple [.str "ends", .tuple bs]] (.bool ve) := by
  have n := (nst_spec hr hl h0 hw).eq
  have lw := pLen_wS (w := w) (by omega)
  have w1 := (hw_s "ends" (.tuple bs) "ends").eq
  simp only [beq_self_eq_true] at w1
  have nb := noMutL_simp h
  have k1 : pIx [.tuple [.str "ends", .tuple bs], .int 1] = some (.tuple bs, .unq) := by
    simp [pIx, pf2, ixD, atI, ixN, partTag, nb]
  simp [Gives, fn_strips_hold, fnOf_ap, B_strips_hold, S_strips_hold_1, S_strips_hold_2, S_strips_hold_3, callXx, callF, n, lw, w1, k1, hv.eq, pureOf_ap, dispOf_ap]
def hbE (r : List Int) (w : List Bool) (T : D) : Env := [some (.tuple (dInts r), .unq), some (.str (wS w), .unq), some (T, .unq), none, none, none, none, none]
theorem hold_pre {bs : List D} (h : ∀ d ∈ bs, isSimp d = true) (hb : bs.length = w.length) : S_strips_hold_1 (hbE r w (.tuple [.str "breaks", .tuple bs])) = .nx (hbE r w (.tuple [.str "breaks", .tuple bs])) ∧
    ∃ E1, S_strips_hold_2 (hbE r w (.tuple [.str "breaks", .tuple bs])) = .nx E1 ∧ S_strips_hold_3 E1 = .nx E1 ∧ S_strips_hold_4 E1 = .nx (hbE r w (.tuple [.str "breaks", .tuple bs])) := by
  have n := (nst_spec hr hl h0 hw).eq
  have lw := pLen_wS (w := w) (by omega)
  have w1 := (hw_s "breaks" (.tuple bs) "ends").eq
  have w2 := (hw_s "breaks" (.tuple bs) "breaks").eq
  have f1 : ((Str.ofString "breaks") == (Str.ofString "ends")) = false := by decide
  simp only [beq_self_eq_true, f1] at w1 w2
  have nb := noMutL_simp h
  have k1 : pIx [.tuple [.str "breaks", .tuple bs], .int 1] = some (.tuple bs, .unq) := by
    simp [pIx, pf2, ixD, atI, ixN, partTag, nb]
  have t := (tup_of bs (w.length : Int) (w.length : Int)).eq
  have e : (decide ((w.length : Int) ≤ bs.length) && decide ((bs.length : Int) ≤ w.length)) = true := by
    simp; omega
  rw [e] at t
  refine ⟨by simp [S_strips_hold_1, hbE, callXx, n], [some (.tuple (dInts r), .unq), some (.str (wS w), .unq), some (.tuple [.str "breaks", .tuple bs], .unq), some (.int w.length, .unq), none, none, none, none], ?_, ?_, ?_⟩
  · simp [S_strips_hold_2, hbE, pureOf_ap, lw]
  · simp [S_strips_hold_3, callF, w1, pureOf_ap, dispOf_ap]
  · simp [S_strips_hold_4, hbE, callF, w2, k1, t, pureOf_ap, dispOf_ap, sWn_ap, noPar_ap]
theorem hold_S5 {bs : List D} (h : ∀ d ∈ bs, isSimp d = true) (hb : bs.length = w.length) : S_strips_hold_5 (hbE r w (.tuple [.str "breaks", .tuple bs])) = if bs.all (okItem 0 ((r.length : Int) - 2)) then .nx (hbE r w (.tuple [.str "breaks", .tuple bs])) else .rt (.bool false) .unq (hbE r w (.tuple [.str "breaks", .tuple bs])) := by
  have nb := noMutL_simp h
  have k1 : pIx [.tuple [.str "breaks", .tuple bs], .int 1] = some (.tuple bs, .unq) := by
    simp [pIx, pf2, ixD, atI, ixN, partTag, nb]
  have lc : lcE (setE 4) tYesF E_strips_hold_1 [4] (bs.map fun d => ((d, .unq) : D × Tag)) (hbE r w (.tuple [.str "breaks", .tuple bs])) = .ok (bs.map fun d => ((.bool (okItem 0 ((r.length : Int) - 2) d), .unq) : D × Tag), hbE r w (.tuple [.str "breaks", .tuple bs])) := by
    refine lcE_all (e := fun d => ((d, .unq) : D × Tag)) (f := fun d => ((.bool (okItem 0 ((r.length : Int) - 2) d), .unq) : D × Tag)) fun d hd => ?_
    have := (within_all (h d hd) 0 ((r.length : Int) - 2)).eq
    simp [turnE, E_strips_hold_1, hbE, pureOf_ap, callF, this]
  simp only [hbE] at lc ⊢
  have hle : bs.length ≤ lim := lim_le (by omega)
  cases q : bs.all (okItem 0 ((r.length : Int) - 2)) with
  | false =>
    have q2 : ∃ a, a ∈ bs ∧ okItem 0 ((r.length : Int) - 2) a = false := by simpa using q
    simp [S_strips_hold_5, pureOf_ap, dispOf_ap, k1, unq_simp h, noPar_ap, hle, lc, fst_map, acc_unq, bools_D, -List.map_map, -List.all_map]
    exact q2
  | true =>
    have q2 : ¬ ∃ a, a ∈ bs ∧ okItem 0 ((r.length : Int) - 2) a = false := by
      rintro ⟨a, ha, hb⟩
      rw [List.all_eq_true.mp q a ha] at hb
      cases hb
    simp [S_strips_hold_5, pureOf_ap, dispOf_ap, k1, unq_simp h, noPar_ap, hle, lc, fst_map, acc_unq, bools_D, -List.map_map, -List.all_map]
    exact fun x hx => List.all_eq_true.mp q x hx
theorem hold_B {bs : List D} (h : ∀ d ∈ bs, isSimp d = true) (hb : bs.length = w.length) (hq : bs.all (okItem 0 ((r.length : Int) - 2)) = false) :
    Gives fn_strips_hold [.tuple (dInts r), .str (wS w), .tuple [.str "breaks", .tuple bs]] (.bool false) := by
  obtain ⟨a1, E1, a2, a3, a4⟩ := hold_pre (r := r) (w := w) hr hl h0 hw h hb
  have a5 := hold_S5 (r := r) (w := w) hr hl h0 hw h hb
  rw [hq] at a5
  have nb := noMutL_simp h
  have e : entE false 8 [.tuple (dInts r), .str (wS w), .tuple [.str "breaks", .tuple bs]] = hbE r w (.tuple [.str "breaks", .tuple bs]) := by simp [entE, hbE, inTag, nb]
  simp only [Gives, fn_strips_hold, fnOf_ap, B_strips_hold, sSeq_ap, e, a1, a2, a3, a4, a5]
  simp
theorem hold_G {es : List Nat} (h : w.length = es.length) (hes : ∀ e ∈ es, e ≤ r.length) : Gives fn_strips_hold [.tuple (dInts r), .str (wS w), .tuple [.str "breaks", .tuple (dInts (nI es))]] (.bool (bV r w es)) := by
  have hs := simp_nI es
  have hb : (dInts (nI es)).length = w.length := by rw [len_dnI, h]
  have q0 : (dInts (nI es)).all (okItem 0 ((r.length : Int) - 2)) = es.all (fun p => decide (p + 2 ≤ r.length)) := by
    unfold dInts nI
    rw [List.map_map, List.all_map]
    congr 1
    funext e
    have : (decide ((e : Int) ≤ (r.length : Int) - 2)) = decide (e + 2 ≤ r.length) := by
      congr 1; apply propext; omega
    simp [okItem, this]
  obtain ⟨a1, E1, a2, a3, a4⟩ := hold_pre (r := r) (w := w) hr hl h0 hw hs hb
  have a5 := hold_S5 (r := r) (w := w) hr hl h0 hw hs hb
  rw [q0] at a5
  have e : entE false 8 [.tuple (dInts r), .str (wS w), .tuple [.str "breaks", .tuple (dInts (nI es))]] = hbE r w (.tuple [.str "breaks", .tuple (dInts (nI es))]) := by simp [entE, hbE, inTag]
  have k1 : pIx [.tuple [.str "breaks", .tuple (dInts (nI es))], .int 1] = some (.tuple (dInts (nI es)), .unq) := by
    simp [pIx, pf2, ixD, atI, ixN, partTag]
  have c1 := cut_from (nI es) 1
  rw [show ((1 : Nat) : Int) = 1 from rfl, nI_drop] at c1
  have z1 := zip_ii es (es.drop 1)
  have hzl : (es.zip (es.drop 1)).length ≤ lim := lim_le (by rw [List.length_zip]; omega)
  have lc : lcE (gUnF 2 (gsCons (setE 5) (gsCons (setE 6) gsNil))) tYesF E_strips_hold_2 [5, 6] ((es.zip (es.drop 1)).map fun p => ((.tuple [.int p.1, .int p.2], .unq) : D × Tag)) (hbE r w (.tuple [.str "breaks", .tuple (dInts (nI es))])) =
      .ok ((es.zip (es.drop 1)).map fun p => ((.bool (!decide (p.1 < p.2)), .unq) : D × Tag), hbE r w (.tuple [.str "breaks", .tuple (dInts (nI es))])) := by
    refine lcE_all (e := fun p : Nat × Nat => ((.tuple [.int p.1, .int p.2], .unq) : D × Tag)) (f := fun p : Nat × Nat => ((.bool (!decide (p.1 < p.2)), .unq) : D × Tag)) fun p _ => ?_
    have e : (decide (p.2 ≤ p.1)) = (!decide (p.1 < p.2)) := by
      by_cases h : p.1 < p.2
      · have : ¬ p.2 ≤ p.1 := by omega
        simp [h, this]
      · have : p.2 ≤ p.1 := by omega
        simp [h, this]
    simp [turnE, E_strips_hold_2, hbE, pureOf_ap, partTag, e]
  have bl : (es.zip (es.drop 1)).map (fun p => PyData.bool (!decide (p.1 < p.2))) = dBools ((es.zip (es.drop 1)).map fun p => !decide (p.1 < p.2)) := by simp [dBools]
  have ad : ((es.zip (es.drop 1)).map fun p => !decide (p.1 < p.2)).any id = !adjLt es := by
    unfold adjLt
    rw [List.any_map]
    simp [List.not_all_eq_any_not]
  have a6 : S_strips_hold_6 (hbE r w (.tuple [.str "breaks", .tuple (dInts (nI es))])) = if adjLt es then .nx (hbE r w (.tuple [.str "breaks", .tuple (dInts (nI es))])) else .rt (.bool false) .unq (hbE r w (.tuple [.str "breaks", .tuple (dInts (nI es))])) := by
    simp only [hbE] at lc ⊢
    cases q2 : adjLt es <;> (rw [q2] at ad; simp [S_strips_hold_6, pureOf_ap, dispOf_ap, k1, c1, z1, noPar_ap, hzl, lc, fst_map, acc_unq, bl, ad, -List.map_map, -List.any_map, -List.drop_one, sWn_ap, -List.length_zip])
  unfold bV
  simp only [Gives, fn_strips_hold, fnOf_ap, B_strips_hold, sSeq_ap, e, a1, a2, a3, a4, a5]
  cases q : es.all (fun p => decide (p + 2 ≤ r.length)) with
  | false => simp
  | true =>
    simp only [if_true, a6]
    cases q2 : adjLt es with
    | false => simp
    | true =>
      have hp : ∀ t ∈ es.zip w, t.1 + 1 < r.length := fun t ht => by
        have h1 := List.of_mem_zip ht
        have := List.all_eq_true.mp q t.1 h1.1
        simp at this; omega
      have lc2 : lcE (gUnF 2 (gsCons (setE 4) (gsCons (setE 7) gsNil))) tYesF E_strips_hold_3 [4, 7] ((es.zip w).map fun t => ((.tuple [.int t.1, .str (sg t.2)], .unq) : D × Tag)) [some (.tuple (dInts r), .unq), some (.str (wS w), .unq), some (.tuple [.str "breaks", .tuple (dInts (nI es))], .unq), none, none, none, none, none] =
          .ok ((es.zip w).map fun t => ((.bool (brk r t.1 t.2), .unq) : D × Tag), [some (.tuple (dInts r), .unq), some (.str (wS w), .unq), some (.tuple [.str "breaks", .tuple (dInts (nI es))], .unq), none, none, none, none, none]) := by
        refine lcE_all (e := fun t : Nat × Bool => ((.tuple [.int t.1, .str (sg t.2)], .unq) : D × Tag)) (f := fun t : Nat × Bool => ((.bool (brk r t.1 t.2), .unq) : D × Tag)) fun t ht => ?_
        have b := (brk_spec (r := r) (p := t.1) (s := t.2) (hp t ht)).eq
        simp [turnE, E_strips_hold_3, pureOf_ap, callF, partTag, b]
      have ch : (wS w).cps.toList.map (fun c => PyData.str ⟨#[c]⟩) = w.map fun b => PyData.str (sg b) := chars_wS w
      have z2 := zip2_pair (w := w) (es := es)
      have hz2 : (es.zip w).length ≤ lim := lim_le (by rw [List.length_zip]; omega)
      have bl2 : (es.zip w).map (fun t => PyData.bool (brk r t.1 t.2)) = dBools ((es.zip w).map fun t => brk r t.1 t.2) := by simp [dBools]
      have al : ((es.zip w).map fun t => brk r t.1 t.2).all id = (es.zip w).all fun t => brk r t.1 t.2 := by simp [List.all_map, Function.comp_def]
      simp [S_strips_hold_7, hbE, pureOf_ap, dispOf_ap, k1, ch, z2, noPar_ap, hz2, lc2, fst_map, acc_unq, bl2, al, -List.map_map, -List.all_map, -List.length_zip, -List.all_eq_true]
end
end VL
end
section
set_option Elab.async false
set_option linter.all false
set_option maxRecDepth 100000
set_option autoImplicit false
namespace VL
open PySem PySem.Spec PyProof.Rows L2
theorem cut_dropLast {α : Type} (l : List α) : cutD l none (some (-1)) = l.dropLast := by
  unfold cutD
  have h1 : HT.sIx l.length l.length (some (-1)) = l.length - 1 := by
    unfold HT.sIx
    simp
    omega
  rw [h1, HT.sIx_none, List.drop_zero, Nat.sub_zero, List.dropLast_eq_take]
theorem lst_simp {l : List D} (h : ∀ d ∈ l, isSimp d = true) : pList [.tuple l] = some (.list l, .unq) := by
  simp [pList, pf1, listD, lTag, noMutL_simp h]
def shE (r : List Int) (w : List Bool) (T : D) (l3 l4 : Option (D × Tag)) : Env := [some (.tuple (dInts r), .unq), some (.str (wS w), .unq), some (T, .unq), l3, l4, none, none, none, none, none]
section
variable {r : List Int} {w : List Bool} (hr : IsRow r) (hl : r.length ≤ 9) (h0 : 1 ≤ w.length) (hw : w.length ≤ 9)
include hr hl h0 hw
theorem sh_pre {s : Str} {bs : List D} (h : ∀ d ∈ bs, isSimp d = true) (hb : bs.length = w.length) :
    S__law_shows_1 (shE r w (.tuple [.str s, .tuple bs]) none none) = .nx (shE r w (.tuple [.str s, .tuple bs]) none none) ∧
    S__law_shows_2 (shE r w (.tuple [.str s, .tuple bs]) none none) = .nx (shE r w (.tuple [.str s, .tuple bs]) (some (.tuple bs, .unq)) (some (.int r.length, .unq))) ∧
    S__law_shows_3 (shE r w (.tuple [.str s, .tuple bs]) (some (.tuple bs, .unq)) (some (.int r.length, .unq))) = if bs.all (okItem 0 r.length) then .nx (shE r w (.tuple [.str s, .tuple bs]) (some (.tuple bs, .unq)) (some (.int r.length, .unq))) else .rt (.bool false) .unq (shE r w (.tuple [.str s, .tuple bs]) (some (.tuple bs, .unq)) (some (.int r.length, .unq))) := by
  have lw := pLen_wS (w := w) (by omega)
  have nb := noMutL_simp h
  have i := isi_tup1 [.str s, .tuple bs]
  have j := isi_str1 s
  have i2 := isi_tup1 bs
  have k0 : pIx [.tuple [.str s, .tuple bs], .int 0] = some (.str s, .unq) := by
    simp [pIx, pf2, ixD, atI, ixN, partTag]
  have k1 : pIx [.tuple [.str s, .tuple bs], .int 1] = some (.tuple bs, .unq) := by
    simp [pIx, pf2, ixD, atI, ixN, partTag, nb]
  have e2 : (bs.length : Int) = w.length := by omega
  have lc : lcE (setE 8) T__law_shows_1 E__law_shows_1 [8] (bs.map fun d => ((d, .unq) : D × Tag)) (shE r w (.tuple [.str s, .tuple bs]) (some (.tuple bs, .unq)) (some (.int r.length, .unq))) =
      .ok ((bs.filter fun d => !okItem 0 r.length d).map fun d => ((d, .unq) : D × Tag), shE r w (.tuple [.str s, .tuple bs]) (some (.tuple bs, .unq)) (some (.int r.length, .unq))) := by
    refine lcE_some (e := fun d => ((d, .unq) : D × Tag)) (c := fun d => !okItem 0 r.length d) (f := fun d => ((d, .unq) : D × Tag)) fun d hd => ?_
    have hs := h d hd
    cases d <;> simp [isSimp] at hs
    · simp [turnE, T__law_shows_1, E__law_shows_1, shE, pureOf_ap, okT, okItem]
    · simp [turnE, T__law_shows_1, E__law_shows_1, shE, pureOf_ap, okT, okItem]
    · rename_i i
      by_cases a1 : 0 ≤ i <;> by_cases a2 : i ≤ (r.length : Int) <;> simp [turnE, T__law_shows_1, E__law_shows_1, shE, pureOf_ap, okT, okItem, a1, a2]
  have hle : bs.length ≤ lim := lim_le (by omega)
  have pn := pNe_nil (l := bs.filter fun d => !okItem 0 r.length d) fun d hd => h d (List.mem_filter.mp hd).1
  refine ⟨?_, ?_, ?_⟩
  · simp [S__law_shows_1, shE, pureOf_ap, dispOf_ap, i, j, i2, k0, k1, lw, e2]
  · simp [S__law_shows_2, shE, pureOf_ap, dispOf_ap, k1, partTag, nb]
  · simp only [shE] at lc ⊢
    have fm : (bs.filter fun d => !okItem 0 r.length d).map (fun d => d) = bs.filter fun d => !okItem 0 r.length d := by simp
    have ac : accTag ((bs.filter fun d => !okItem 0 r.length d).map fun d => ((d, Tag.unq) : D × Tag)) = .unq := acc_unq _ (fun d => d)
    have fs : ((bs.filter fun d => !okItem 0 r.length d).map fun d => ((d, Tag.unq) : D × Tag)).map (fun x => x.1) = bs.filter fun d => !okItem 0 r.length d := by simp [Function.comp_def]
    cases q : bs.all (okItem 0 r.length) with
    | true =>
      have q2 : (bs.filter fun d => !okItem 0 r.length d) = [] := by
        rw [List.filter_eq_nil_iff]
        intro d hd
        have := List.all_eq_true.mp q d hd
        simp [this]
      rw [q2] at lc pn fs
      simp [S__law_shows_3, pureOf_ap, dispOf_ap, unq_simp h, noPar_ap, hle, lc, accTag, pn, sWn_ap, nb]
    | false =>
      have q2 : (bs.filter fun d => !okItem 0 r.length d).isEmpty = false := by
        cases z : (bs.filter fun d => !okItem 0 r.length d).isEmpty with
        | false => rfl
        | true =>
          exfalso
          have z' := List.isEmpty_iff.mp z
          rw [List.filter_eq_nil_iff] at z'
          have : bs.all (okItem 0 r.length) = true := by
            rw [List.all_eq_true]
            intro d hd
            have := z' d hd
            simpa using this
          rw [q] at this; cases this
      rw [q2] at pn
      generalize (bs.filter fun d => !okItem 0 r.length d) = fl at *
      simp [S__law_shows_3, pureOf_ap, dispOf_ap, unq_simp h, noPar_ap, hle, lc, ac, pn, sWn_ap, nb]
      have fs' : List.map ((fun x : D × Tag => x.1) ∘ fun d => (d, Tag.unq)) fl = fl := by simp [Function.comp_def]
      simp [fs', pn]
theorem sh_ent {s : Str} {bs : List D} (h : ∀ d ∈ bs, isSimp d = true) : entE false 10 [.tuple (dInts r), .str (wS w), .tuple [.str s, .tuple bs]] = shE r w (.tuple [.str s, .tuple bs]) none none := by
  have nb := noMutL_simp h
  simp [entE, shE, inTag, nb]
theorem shows_F {s : Str} {bs : List D} (h : ∀ d ∈ bs, isSimp d = true) (hb : bs.length = w.length) (hq : bs.all (okItem 0 r.length) = false) : Gives fn__law_shows [.tuple (dInts r), .str (wS w), .tuple [.str s, .tuple bs]] (.bool false) := by
  obtain ⟨a1, a2, a3⟩ := sh_pre (r := r) (w := w) hr hl h0 hw (s := s) h hb
  rw [hq] at a3
  have e := sh_ent (r := r) (w := w) hr hl h0 hw (s := s) h
  simp only [Gives, fn__law_shows, fnOf_ap, B__law_shows, sSeq_ap, e, a1, a2, a3]
  simp
theorem hold_X {s : Str} {b : D} (f1 : (s == Str.ofString "ends") = false) (f2 : (s == Str.ofString "breaks") = false) : Gives fn_strips_hold [.tuple (dInts r), .str (wS w), .tuple [.str s, b]] (.bool false) := by
  have n := (nst_spec hr hl h0 hw).eq
  have lw := pLen_wS (w := w) (by omega)
  have w1 := (hw_s s b "ends").eq
  have w2 := (hw_s s b "breaks").eq
  rw [f1] at w1
  rw [f2] at w2
  simp [Gives, fn_strips_hold, fnOf_ap, B_strips_hold, S_strips_hold_1, S_strips_hold_2, S_strips_hold_3, S_strips_hold_4, callXx, callF, n, lw, w1, w2, pureOf_ap, dispOf_ap, sWn_ap, noPar_ap]
theorem sh_loop {es : List Nat} {T : D} {l3 : Option (D × Tag)} : ∀ t ∈ tri w 0 es, (∀ e ∈ es, e ≤ r.length) →
    (chk1 r t.1 t.2.1 t.2.2 = true → turnS (gUnF 3 (gsCons (setE 7) (gsCons (setE 5) (gsCons (setE 6) gsNil)))) L__law_shows_8 (.tuple [.str (sg t.1), .int t.2.1, .int t.2.2], .unq) (shE r w T l3 none) = .nx (shE r w T l3 none)) ∧
    (chk1 r t.1 t.2.1 t.2.2 = false → ∃ env, turnS (gUnF 3 (gsCons (setE 7) (gsCons (setE 5) (gsCons (setE 6) gsNil)))) L__law_shows_8 (.tuple [.str (sg t.1), .int t.2.1, .int t.2.2], .unq) (shE r w T l3 none) = .rt (.bool false) .unq env) := by
  intro t ht hes
  obtain ⟨s, st, e⟩ := t
  obtain ⟨hst, he⟩ := tri_mem hes (Nat.zero_le _) _ ht
  simp only at hst he
  let X : Env := [some (.tuple (dInts r), .unq), some (.str (wS w), .unq), some (T, .unq), l3, none, some (.int (st : Int), .unq), some (.int (e : Int), .unq), some (.str (sg s), .unq), none, none]
  have lc : lcE (setE 9) T__law_shows_2 E__law_shows_2 [9] ((List.range (e - 1 - st)).map fun k : Nat => ((.int ((st : Int) + k), .unq) : D × Tag)) X =
      .ok (((List.range (e - 1 - st)).filter fun k => brk r (st + k) s).map fun k : Nat => ((.int ((st : Int) + k), .unq) : D × Tag), X) := by
    refine lcE_some (e := fun k : Nat => ((.int ((st : Int) + k), .unq) : D × Tag)) (c := fun k => brk r (st + k) s) (f := fun k : Nat => ((.int ((st : Int) + k), .unq) : D × Tag)) fun k hk => ?_
    rw [List.mem_range] at hk
    have b := (lbrk_spec (r := r) (p := st + k) (s := s) (by omega)).eq
    rw [show ((st + k : Nat) : Int) = (st : Int) + k by omega] at b
    cases q : brk r (st + k) s <;> (rw [q] at b; simp [turnE, T__law_shows_2, E__law_shows_2, X, pureOf_ap, callF, b])
  have i1 : ((e : Int) - 1 - st).toNat = e - 1 - st := by omega
  have rg := rng2R_int (env := X) (st : Int) ((e : Int) - 1) (inBig_of (by omega) (by omega)) (inBig_of (by omega) (by omega))
  have hle : e - 1 - st ≤ lim := lim_le (by omega)
  obtain ⟨fl, hfl⟩ : ∃ fl, ((List.range (e - 1 - st)).filter fun k => brk r (st + k) s) = fl := ⟨_, rfl⟩
  rw [hfl] at lc
  have pn := pNe_nil (l := fl.map fun k : Nat => PyData.int ((st : Int) + k)) fun d hd => by
    rw [List.mem_map] at hd
    obtain ⟨k, _, rfl⟩ := hd
    rfl
  have ce : (fl.map fun k : Nat => PyData.int ((st : Int) + k)).isEmpty = chk1 r s st e := by
    have : chk1 r s st e = fl.isEmpty := by
      rw [← hfl]
      unfold chk1
      cases z : (List.range (e - 1 - st)).filter fun k => brk r (st + k) s with
      | nil =>
        rw [List.filter_eq_nil_iff] at z
        rw [List.isEmpty_nil, List.all_eq_true]
        intro k hk
        have := z k hk
        simpa using this
      | cons a b =>
        have ha : a ∈ (List.range (e - 1 - st)).filter fun k => brk r (st + k) s := by rw [z]; simp
        rw [List.mem_filter] at ha
        rw [List.isEmpty_cons]
        cases y : (List.range (e - 1 - st)).all fun k => !brk r (st + k) s with
        | false => rfl
        | true =>
          have := List.all_eq_true.mp y a ha.1
          rw [ha.2] at this; cases this
    rw [this]
    cases fl <;> rfl
  rw [ce] at pn
  simp only [X] at lc rg
  constructor
  · intro q
    simp only at q
    rw [q] at pn
    simp [turnS, L__law_shows_8, shE, partTag, pureOf_ap, dispOf_ap, rg, i1, unqOf_rngL, noPar_ap, hle, lc, fst_map, acc_unq, pn, -List.map_map, sW_ap, sWn_ap]
  · intro q
    simp only at q
    rw [q] at pn
    refine ⟨X, ?_⟩
    simp [turnS, L__law_shows_8, shE, X, partTag, pureOf_ap, dispOf_ap, rg, i1, unqOf_rngL, noPar_ap, hle, lc, fst_map, acc_unq, pn, -List.map_map, sW_ap, sWn_ap]
end
end VL
end
section
set_option Elab.async false
set_option linter.all false
set_option maxRecDepth 100000
set_option autoImplicit false
namespace VL
open PySem PySem.Spec PyProof.Rows L2
theorem zip2_wp : ∀ {w : List Bool} {es : List Nat}, zipDL (w.map fun b => PyData.str (sg b)) (dInts (nI es)) = (w.zip es).map fun t => ((.tuple [.str (sg t.1), .int t.2], .unq) : D × Tag)
  | w, [] => by simp [zipDL, nI, dInts]
  | [], e :: es => by simp [zipDL, nI, dInts]
  | s :: w, e :: es => by
    have ih := zip2_wp (w := w) (es := es)
    unfold zipDL at ih ⊢
    simp [nI, dInts, pairT2] at ih ⊢
    exact ih
theorem zip_swap_all {r : List Int} : ∀ (w : List Bool) (es : List Nat), (w.zip es).all (fun t => brk r t.2 t.1) = (es.zip w).all fun t => brk r t.1 t.2
  | [], es => by cases es <;> rfl
  | s :: w, [] => rfl
  | s :: w, e :: es => by simp only [List.zip_cons_cons, List.all_cons, zip_swap_all w es]
def shA : SR := (sWn [4] (sIf (tOrF (tOfE (ePure2 pNe (ePure2 pIx (eVar 3) (ePure1 pNeg (eC (.int 1)))) (eVar 4))) (tOfE (ePure2 pNe (ePure pList (aCons (eVar 3) aNil)) (ePure pSorted (aCons (eVar 3) aNil)))))
  (sRet (eC (.bool false)))
  sNext))
def shB : SR := (sWn [0, 1, 3, 5, 6, 7, 9] (sFor (iZipE3 (aCons (eKeep true (eVar 1)) (aCons (ePure2 pAdd (eTup (aCons (eC (.int 0)) aNil)) (slE (eVar 3) .no (.e (ePure1 pNeg (eC (.int 1)))))) (aCons (eKeep false (eVar 3)) aNil)))) (gUnF 3 (gsCons (setE 7) (gsCons (setE 5) (gsCons (setE 6) gsNil))))
  L__law_shows_8))
theorem S4_eq : S__law_shows_4 = sWn [5, 6] (sIf (tOfE (ePure2 pEq (ePure2 pIx (eVar 2) (eC (.int 0))) (eC (.str "ends")))) (sSeq shA (sSeq shB (sRet (eC (.bool true))))) sNext) := rfl
section
variable {r : List Int} {w : List Bool} (hr : IsRow r) (hl : r.length ≤ 9) (h0 : 1 ≤ w.length) (hw : w.length ≤ 9)
include hr hl h0 hw
theorem sh_ends {es : List Nat} (h : w.length = es.length) (hes : ∀ e ∈ es, e ≤ r.length) : Gives fn__law_shows [.tuple (dInts r), .str (wS w), .tuple [.str "ends", .tuple (dInts (nI es))]] (.bool (vE r w es)) := by
  obtain ⟨a1, a2, a3⟩ := sh_pre (r := r) (w := w) hr hl h0 hw (s := "ends") (simp_nI es) (by rw [len_dnI, h])
  rw [ok_nI hes] at a3
  simp only [if_true] at a3
  have e := sh_ent (r := r) (w := w) hr hl h0 hw (s := "ends") (simp_nI es)
  have hne : es ≠ [] := by
    rintro rfl
    have h' : w.length = 0 := h
    omega
  obtain ⟨la, hla⟩ : ∃ la, es.getLast? = some la := ⟨es.getLast hne, List.getLast?_eq_some_getLast hne⟩
  have i1 := ix_tup (atI_lastN (nI_lastN hla))
  have k0 : pIx [.tuple [.str "ends", .tuple (dInts (nI es))], .int 0] = some (.str "ends", .unq) := by
    simp [pIx, pf2, ixD, atI, ixN, partTag]
  have ls := lst_simp (simp_nI es)
  have pn := pNe_lints (nI es) (isort (nI es))
  have pj : (nI es != isort (nI es)) = !adjLe es := by rw [← isort_adj es]; rfl
  rw [pj] at pn
  have ch : (wS w).cps.toList.map (fun c => PyData.str ⟨#[c]⟩) = w.map fun b => PyData.str (sg b) := chars_wS w
  have z3 := zip3_tri (w := w) (st := 0) (es := es) h
  have cd := cut_dropLast (nI es)
  have dl : (nI es).dropLast = nI es.dropLast := by simp [nI, List.map_dropLast]
  rw [dl] at cd
  have ad : pAdd [.tuple [.int 0], .tuple (dInts (nI es.dropLast))] = some (.tuple (dInts (nI (0 :: es.dropLast))), .unq) := pAdd_tups (a := [0]) (b := nI es.dropLast) (by simp [nI]; omega)
  have it : iZipE3 (aCons (eKeep true (eVar 1)) (aCons (ePure2 pAdd (eTup (aCons (eC (.int 0)) aNil)) (slE (eVar 3) .no (.e (ePure1 pNeg (eC (.int 1)))))) (aCons (eKeep false (eVar 3)) aNil))) (shE r w (.tuple [.str "ends", .tuple (dInts (nI es))]) (some (.tuple (dInts (nI es)), .unq)) none) =
      .ok ((tri w 0 es).map fun t => ((.tuple [.str (sg t.1), .int t.2.1, .int t.2.2], .unq) : D × Tag), shE r w (.tuple [.str "ends", .tuple (dInts (nI es))]) (some (.tuple (dInts (nI es)), .unq)) none) := by
    simp [shE, pureOf_ap, dispOf_ap, cd, ad, ch, z3, -List.map_map]
  obtain ⟨f1, f2⟩ := forE_ret (g := gUnF 3 (gsCons (setE 7) (gsCons (setE 5) (gsCons (setE 6) gsNil)))) (b := L__law_shows_8) (e := fun t : Bool × Nat × Nat => ((.tuple [.str (sg t.1), .int t.2.1, .int t.2.2], .unq) : D × Tag)) (c := fun t => chk1 r t.1 t.2.1 t.2.2) (l := tri w 0 es)
    (env := shE r w (.tuple [.str "ends", .tuple (dInts (nI es))]) (some (.tuple (dInts (nI es)), .unq)) none) fun t ht => sh_loop (r := r) (w := w) hr hl h0 hw t ht hes
  rw [tri_chk] at f1 f2
  have a4 : ∃ env, S__law_shows_4 (shE r w (.tuple [.str "ends", .tuple (dInts (nI es))]) (some (.tuple (dInts (nI es)), .unq)) (some (.int r.length, .unq))) = .rt (.bool (vE r w es)) .unq env := by
    have c0 : (tOfE (ePure2 pEq (ePure2 pIx (eVar 2) (eC (.int 0))) (eC (.str "ends")))) (shE r w (.tuple [.str "ends", .tuple (dInts (nI es))]) (some (.tuple (dInts (nI es)), .unq)) (some (.int r.length, .unq))) = .ok (true, shE r w (.tuple [.str "ends", .tuple (dInts (nI es))]) (some (.tuple (dInts (nI es)), .unq)) (some (.int r.length, .unq))) := by
      simp [shE, pureOf_ap, k0]
    have sA : shA (shE r w (.tuple [.str "ends", .tuple (dInts (nI es))]) (some (.tuple (dInts (nI es)), .unq)) (some (.int r.length, .unq))) = if decide (es.getLast? = some r.length) && adjLe es then .nx (shE r w (.tuple [.str "ends", .tuple (dInts (nI es))]) (some (.tuple (dInts (nI es)), .unq)) none) else .rt (.bool false) .unq (shE r w (.tuple [.str "ends", .tuple (dInts (nI es))]) (some (.tuple (dInts (nI es)), .unq)) (some (.int r.length, .unq))) := by
      rw [hla]
      by_cases q : la = r.length
      · subst q
        cases q2 : adjLe es <;> (rw [q2] at pn; simp only [Bool.not_false, Bool.not_true] at pn; simp [shA, shE, pureOf_ap, dispOf_ap, i1, ls, pn, sWn_ap, noPar_ap])
      · have q' : ¬ (la : Int) = r.length := by omega
        simp [shA, shE, pureOf_ap, dispOf_ap, i1, q, q', sWn_ap]
    unfold vE
    simp only [S4_eq, sWn_ap, sIf_ap, c0, out_ok, if_true, sSeq_ap, sA]
    cases q : (decide (es.getLast? = some r.length) && adjLe es) with
    | false => exact ⟨_, rfl⟩
    | true =>
      simp only [if_true, Bool.true_and]
      cases q2 : chk r w 0 es with
      | true =>
        simp only [shB, sWn_ap, sFor_ap, it, out_ok, f1 q2]
        exact ⟨[none, none, some (.tuple [.str "ends", .tuple (dInts (nI es))], .unq), none, none, none, none, none, none, none], by simp [shE, noPar_ap]⟩
      | false =>
        obtain ⟨env, f2⟩ := f2 q2
        simp only [shB, sWn_ap, sFor_ap, it, out_ok, f2]
        exact ⟨env, rfl⟩
  obtain ⟨env, a4⟩ := a4
  simp only [Gives, fn__law_shows, fnOf_ap, B__law_shows, sSeq_ap, e, a1, a2, a3, a4]
  simp
end
end VL
end
section
set_option Elab.async false
set_option linter.all false
set_option maxRecDepth 100000
set_option autoImplicit false
namespace VL
open PySem PySem.Spec PyProof.Rows L2
theorem pEq_nil {l : List D} (h : ∀ d ∈ l, isSimp d = true) : pEq [.list l, .list []] = some (.bool l.isEmpty, .unq) := by
  obtain ⟨h1, h2⟩ := simp_plain h
  have o : okD (.list l) = true := by
    unfold okD
    rw [show (PyData.list l).plain = PyData.plainAll l from rfl, h1, show (PyData.list l).depth = PyData.depthAll l + 1 from rfl, h2]
    rfl
  have o2 : okD (.list []) = true := by decide
  have e : PyData.eqv (.list l) (.list []) = l.isEmpty := by cases l <;> simp [PyData.eqv, PyData.eqvAll]
  simp [pEq, ps2, pf2, eqD, o, o2, e]
section
variable {r : List Int} {w : List Bool} (hr : IsRow r) (hl : r.length ≤ 9) (h0 : 1 ≤ w.length) (hw : w.length ≤ 9)
include hr hl h0 hw
theorem sh_brk {es : List Nat} (h : w.length = es.length) (hes : ∀ e ∈ es, e ≤ r.length) : Gives fn__law_shows [.tuple (dInts r), .str (wS w), .tuple [.str "breaks", .tuple (dInts (nI es))]] (.bool (bV r w es)) := by
  obtain ⟨a1, a2, a3⟩ := sh_pre (r := r) (w := w) hr hl h0 hw (s := "breaks") (simp_nI es) (by rw [len_dnI, h])
  rw [ok_nI hes] at a3
  simp only [if_true] at a3
  have e := sh_ent (r := r) (w := w) hr hl h0 hw (s := "breaks") (simp_nI es)
  have hne : es ≠ [] := by
    rintro rfl
    have h' : w.length = 0 := h
    omega
  obtain ⟨la, hla⟩ : ∃ la, es.getLast? = some la := ⟨es.getLast hne, List.getLast?_eq_some_getLast hne⟩
  have hmem : la ∈ es := List.mem_of_getLast? hla
  have i1 := ix_tup (atI_lastN (nI_lastN hla))
  have k0 : pIx [.tuple [.str "breaks", .tuple (dInts (nI es))], .int 0] = some (.str "breaks", .unq) := by
    simp [pIx, pf2, ixD, atI, ixN, partTag]
  have ls := lst_simp (simp_nI es)
  have ss := pSortSet_tup (nI es) (by simp [nI]; omega)
  have pn := pNe_lints (nI es) (setI (nI es))
  have pj : (nI es != setI (nI es)) = !adjLt es := by rw [← setI_adj es]; rfl
  rw [pj] at pn
  have f1 : ((Str.ofString "breaks") == (Str.ofString "ends")) = false := by decide
  have a4 : S__law_shows_4 (shE r w (.tuple [.str "breaks", .tuple (dInts (nI es))]) (some (.tuple (dInts (nI es)), .unq)) (some (.int r.length, .unq))) = .nx (shE r w (.tuple [.str "breaks", .tuple (dInts (nI es))]) (some (.tuple (dInts (nI es)), .unq)) (some (.int r.length, .unq))) := by
    simp [S4_eq, shE, pureOf_ap, k0, f1, sWn_ap, noPar_ap]
  let E6 : Env := [some (.tuple (dInts r), .unq), some (.str (wS w), .unq), none, some (.tuple (dInts (nI es)), .unq), none, none, none, none, none, none]
  have a5 : S__law_shows_5 (shE r w (.tuple [.str "breaks", .tuple (dInts (nI es))]) (some (.tuple (dInts (nI es)), .unq)) (some (.int r.length, .unq))) = if adjLt es && decide (la + 2 ≤ r.length) then .nx E6 else .rt (.bool false) .unq (shE r w (.tuple [.str "breaks", .tuple (dInts (nI es))]) (some (.tuple (dInts (nI es)), .unq)) (some (.int r.length, .unq))) := by
    by_cases q : la + 2 ≤ r.length
    · have q' : ¬ ((r.length : Int) - 2 < la) := by omega
      cases q2 : adjLt es <;> (rw [q2] at pn; simp only [Bool.not_false, Bool.not_true] at pn; simp [S__law_shows_5, shE, E6, pureOf_ap, dispOf_ap, k0, i1, ls, ss, pn, q, q', sWn_ap, noPar_ap])
    · have q' : ((r.length : Int) - 2 < la) := by omega
      cases q2 : adjLt es <;> (rw [q2] at pn; simp only [Bool.not_false, Bool.not_true] at pn; simp [S__law_shows_5, shE, E6, pureOf_ap, dispOf_ap, k0, i1, ls, ss, pn, q, q', sWn_ap, noPar_ap])
  have bEq : bV r w es = ((adjLt es && decide (la + 2 ≤ r.length)) && ((es.zip w).all fun t => brk r t.1 t.2)) := by
    unfold bV
    cases q2 : adjLt es with
    | false => simp
    | true =>
      have pw := adjLt_iff.mp q2
      have al : es.all (fun p => decide (p + 2 ≤ r.length)) = decide (la + 2 ≤ r.length) := by
        by_cases q : la + 2 ≤ r.length
        · rw [decide_eq_true q, List.all_eq_true]
          intro p hp
          have : p ≤ la := by
            have hd : es = es.dropLast ++ [la] := by
              have := List.dropLast_concat_getLast hne
              have hg : es.getLast hne = la := by
                have := List.getLast?_eq_some_getLast hne
                rw [hla] at this
                exact (Option.some.inj this).symm
              rw [hg] at this
              exact this.symm
            rw [hd] at hp pw
            rcases List.mem_append.mp hp with hp | hp
            · have := (List.pairwise_append.mp pw).2.2 p hp la (by simp)
              omega
            · simp at hp; omega
          simp; omega
        · rw [decide_eq_false q, List.all_eq_false]
          exact ⟨la, hmem, by simpa using q⟩
      rw [al]; simp
  rw [bEq]
  simp only [Gives, fn__law_shows, fnOf_ap, B__law_shows, sSeq_ap, e, a1, a2, a3, a4, a5]
  cases q : (adjLt es && decide (la + 2 ≤ r.length)) with
  | false => simp
  | true =>
    have bl : es.all (fun p => decide (p + 2 ≤ r.length)) = true := by
      have hb := bEq
      unfold bV at hb
      rw [q] at hb
      rw [Bool.and_eq_true] at q
      have pw := adjLt_iff.mp q.1
      have qq : la + 2 ≤ r.length := by simpa using q.2
      rw [List.all_eq_true]
      intro p hp
      have : p ≤ la := by
        have hd : es = es.dropLast ++ [la] := by
          have := List.dropLast_concat_getLast hne
          have hg : es.getLast hne = la := by
            have := List.getLast?_eq_some_getLast hne
            rw [hla] at this
            exact (Option.some.inj this).symm
          rw [hg] at this
          exact this.symm
        rw [hd] at hp pw
        rcases List.mem_append.mp hp with hp | hp
        · have := (List.pairwise_append.mp pw).2.2 p hp la (by simp)
          omega
        · simp at hp; omega
      simp; omega
    have hp : ∀ t ∈ w.zip es, t.2 + 1 < r.length := fun t ht => by
      have h1 := List.of_mem_zip ht
      have := List.all_eq_true.mp bl t.2 h1.2
      simp at this; omega
    have lc : lcE (gUnF 2 (gsCons (setE 7) (gsCons (setE 9) gsNil))) T__law_shows_3 E__law_shows_3 [7, 9] ((w.zip es).map fun t => ((.tuple [.str (sg t.1), .int t.2], .unq) : D × Tag)) [some (.tuple (dInts r), .unq), some (.str (wS w), .unq), none, some (.tuple (dInts (nI es)), .unq), none, none, none, none, none, none] =
        .ok (((w.zip es).filter fun t => !brk r t.2 t.1).map fun t => ((.int 1, .unq) : D × Tag), [some (.tuple (dInts r), .unq), some (.str (wS w), .unq), none, some (.tuple (dInts (nI es)), .unq), none, none, none, none, none, none]) := by
      refine lcE_some (e := fun t : Bool × Nat => ((.tuple [.str (sg t.1), .int t.2], .unq) : D × Tag)) (c := fun t => !brk r t.2 t.1) (f := fun t : Bool × Nat => ((.int 1, .unq) : D × Tag)) fun t ht => ?_
      have b := (lbrk_spec (r := r) (p := t.2) (s := t.1) (hp t ht)).eq
      cases q : brk r t.2 t.1 <;> (rw [q] at b; simp [turnE, T__law_shows_3, E__law_shows_3, pureOf_ap, callF, partTag, b])
    have ch : (wS w).cps.toList.map (fun c => PyData.str ⟨#[c]⟩) = w.map fun b => PyData.str (sg b) := chars_wS w
    have z2 := zip2_wp (w := w) (es := es)
    have hz2 : (w.zip es).length ≤ lim := lim_le (by rw [List.length_zip]; omega)
    obtain ⟨fl, hfl⟩ : ∃ fl, ((w.zip es).filter fun t => !brk r t.2 t.1) = fl := ⟨_, rfl⟩
    rw [hfl] at lc
    have pe := pEq_nil (l := fl.map fun _ => PyData.int 1) fun d hd => by
      rw [List.mem_map] at hd
      obtain ⟨_, _, rfl⟩ := hd
      rfl
    have ce : (fl.map fun _ => PyData.int 1).isEmpty = (es.zip w).all fun t => brk r t.1 t.2 := by
      rw [← zip_swap_all, ← hfl]
      cases z : (w.zip es).filter fun t => !brk r t.2 t.1 with
      | nil =>
        rw [List.filter_eq_nil_iff] at z
        rw [List.map_nil, List.isEmpty_nil]
        symm
        rw [List.all_eq_true]
        intro k hk
        have := z k hk
        simpa using this
      | cons a b =>
        have ha : a ∈ (w.zip es).filter fun t => !brk r t.2 t.1 := by rw [z]; simp
        rw [List.mem_filter] at ha
        rw [List.map_cons, List.isEmpty_cons]
        symm
        rw [List.all_eq_false]
        exact ⟨a, ha.1, by have := ha.2; simpa using this⟩
    rw [ce] at pe
    simp only [if_true, Bool.true_and]
    simp [S__law_shows_6, E6, pureOf_ap, dispOf_ap, ch, z2, noPar_ap, hz2, lc, fst_map, acc_unq, pe, -List.map_map, -List.length_zip, -List.map_const, -List.map_const', -List.all_eq_true]
theorem shows_X {s : Str} {bs : List D} (h : ∀ d ∈ bs, isSimp d = true) (hb : bs.length = w.length) (f1 : (s == Str.ofString "ends") = false) (f2 : (s == Str.ofString "breaks") = false) : Gives fn__law_shows [.tuple (dInts r), .str (wS w), .tuple [.str s, .tuple bs]] (.bool false) := by
  obtain ⟨a1, a2, a3⟩ := sh_pre (r := r) (w := w) hr hl h0 hw (s := s) h hb
  have e := sh_ent (r := r) (w := w) hr hl h0 hw (s := s) h
  have k0 : pIx [.tuple [.str s, .tuple bs], .int 0] = some (.str s, .unq) := by
    simp [pIx, pf2, ixD, atI, ixN, partTag]
  have f2' : (s != Str.ofString "breaks") = true := by simp [bne, f2]
  have a4 : S__law_shows_4 (shE r w (.tuple [.str s, .tuple bs]) (some (.tuple bs, .unq)) (some (.int r.length, .unq))) = .nx (shE r w (.tuple [.str s, .tuple bs]) (some (.tuple bs, .unq)) (some (.int r.length, .unq))) := by
    simp [S4_eq, shE, pureOf_ap, k0, f1, sWn_ap, noPar_ap]
  have a5 : S__law_shows_5 (shE r w (.tuple [.str s, .tuple bs]) (some (.tuple bs, .unq)) (some (.int r.length, .unq))) = .rt (.bool false) .unq (shE r w (.tuple [.str s, .tuple bs]) (some (.tuple bs, .unq)) (some (.int r.length, .unq))) := by
    simp [S__law_shows_5, shE, pureOf_ap, dispOf_ap, k0, f2', sWn_ap]
  simp only [Gives, fn__law_shows, fnOf_ap, B__law_shows, sSeq_ap, e, a1, a2, a3]
  cases q : bs.all (okItem 0 r.length) with
  | true =>
    simp only [if_true, a4, a5]
    simp
  | false => simp
end
end VL
end
section
set_option Elab.async false
set_option linter.all false
set_option maxRecDepth 100000
set_option autoImplicit false
namespace VL
open PySem PySem.Spec PyProof.Rows L2
/-! any thing of the class is judged alike -/
inductive Thg : D → Prop
  | A {d : D} : isTupD d = false → notDc d = true → Thg d
  | B {ds : List D} : ds.length ≠ 2 → Thg (.tuple ds)
  | C {a b : D} : isStrD a = false → notDc a = true → Thg (.tuple [a, b])
  | D' {s : Str} {b : D} : isTupD b = false → notDc b = true → Thg (.tuple [.str s, b])
  | E {s : Str} {bs : List D} : (∀ d ∈ bs, isSimp d = true) → Thg (.tuple [.str s, .tuple bs])
/-- the word of strips -/
def tw (r : List Int) (w : List Bool) : Str := if fin r w 0 = r.length then "ends" else "breaks"
theorem ints_ok {n : Nat} : ∀ {bs : List D}, bs.all (okItem 0 n) = true → ∃ es : List Nat, bs = dInts (nI es) ∧ ∀ e ∈ es, e ≤ n
  | [], _ => ⟨[], rfl, by simp⟩
  | d :: bs, h => by
    rw [List.all_cons, Bool.and_eq_true] at h
    obtain ⟨es, e1, e2⟩ := ints_ok h.2
    have hd := h.1
    cases d <;> simp [okItem] at hd
    rename_i i
    refine ⟨i.toNat :: es, ?_, fun e he => ?_⟩
    · rw [e1]
      simp [dInts, nI]
      omega
    · rcases List.mem_cons.mp he with rfl | he
      · omega
      · exact e2 e he
theorem ok_less {n : Nat} {bs : List D} (h : bs.all (okItem 0 n) = false) : bs.all (okItem 0 ((n : Int) - 2)) = false := by
  rw [List.all_eq_false] at h ⊢
  obtain ⟨d, hd, hq⟩ := h
  refine ⟨d, hd, fun z => hq ?_⟩
  cases d <;> simp [okItem] at z ⊢
  omega
section
variable {r : List Int} {w : List Bool} (hr : IsRow r) (hl : r.length ≤ 9) (h0 : 1 ≤ w.length) (hw : w.length ≤ 9)
include hr hl h0 hw
theorem judge {d : D} (h : Thg d) : ∃ b, Both r w d b ∧ (b = true → ∃ x, d = .tuple [.str (tw r w), x]) := by
  have hne : w ≠ [] := by rintro rfl; simp at h0
  cases h with
  | A h1 h2 => exact ⟨false, both_A hr hl h0 hw h1 h2, fun z => by cases z⟩
  | B h1 => exact ⟨false, both_B hr hl h0 hw h1, fun z => by cases z⟩
  | C h1 h2 => exact ⟨false, both_C hr hl h0 hw h1 h2, fun z => by cases z⟩
  | D' h1 h2 => exact ⟨false, both_D hr hl h0 hw h1 h2, fun z => by cases z⟩
  | @E s bs hs =>
    by_cases hb : bs.length = w.length
    · by_cases f1 : s = Str.ofString "ends"
      · subst f1
        cases q : bs.all (okItem 0 r.length) with
        | false => exact ⟨false, ⟨hold_E (s := "ends") hr hl h0 hw hs hb false (ae_bad hr hl h0 hw hs hb q), shows_F hr hl h0 hw hs hb q⟩, fun z => by cases z⟩
        | true =>
          obtain ⟨es, rfl, he⟩ := ints_ok q
          rw [len_dnI] at hb
          refine ⟨vE r w es, ⟨hold_E (s := "ends") hr hl h0 hw hs (by rw [len_dnI]; exact hb) _ (ae_good hr hl h0 hw hb.symm he), sh_ends hr hl h0 hw hb.symm he⟩, fun z => ?_⟩
          have v := (vE_iff h0 hb.symm he).mp z
          have := fin_of_VE v hne
          exact ⟨_, by unfold tw; rw [if_pos this]⟩
      · by_cases f2 : s = Str.ofString "breaks"
        · subst f2
          cases q : bs.all (okItem 0 r.length) with
          | false => exact ⟨false, ⟨hold_B hr hl h0 hw hs hb (ok_less q), shows_F hr hl h0 hw hs hb q⟩, fun z => by cases z⟩
          | true =>
            obtain ⟨es, rfl, he⟩ := ints_ok q
            rw [len_dnI] at hb
            refine ⟨bV r w es, ⟨hold_G hr hl h0 hw hb.symm he, sh_brk hr hl h0 hw hb.symm he⟩, fun z => ?_⟩
            have v := (bV_iff hb.symm).mp z
            have : ¬ fin r w 0 = r.length := fun y => no_both v (gEnds_VE (Nat.zero_le _) y) (Nat.le_refl 0) hne
            exact ⟨_, by unfold tw; rw [if_neg this]⟩
        · have g1 : (s == Str.ofString "ends") = false := by simpa using f1
          have g2 : (s == Str.ofString "breaks") = false := by simpa using f2
          exact ⟨false, ⟨hold_X hr hl h0 hw g1 g2, shows_X hr hl h0 hw hs hb g1 g2⟩, fun z => by cases z⟩
    · exact ⟨false, both_E hr hl h0 hw hb, fun z => by cases z⟩
end
end VL
end
section
set_option Elab.async false
set_option linter.all false
set_option maxRecDepth 100000
set_option autoImplicit false
namespace VL
open PySem PySem.Spec PyProof.Rows L2
/-! one of any things -/
theorem partTag_np (t : Tag) (d : D) (h : t ≠ .par) : ¬ partTag t d = .par := by
  unfold partTag
  split <;> simp
theorem one_gen {n : Nat} {a b c : Int} {ds : List D} (h : FeedOk n a b c) (hn : n ≤ 1000000000) (h0 : 0 < ds.length) (hl : ds.length ≤ 1000) :
    ∃ x a' b' c', fn__law_one [feedD a b c, .list ds] = .ret x (partTag .sh x) (feedD a' b' c') ∧ x ∈ ds ∧ FeedOk (n + 1) a' b' c' := by
  obtain ⟨r, a', b', c', hd, r0, r1, hF⟩ := draw_spec (many := (ds.length : Int)) h hn (by omega) (by omega)
  obtain ⟨x, hx, hx2⟩ := atI_of (xs := ds) r0 r1
  refine ⟨x, a', b', c', ?_, List.mem_of_getElem? hx2, hF⟩
  have k : pIx [.list ds, .int r] = some (x, partTag .sh x) := by
    simp [pIx, pf2, ixD, hx]
  have np := partTag_np .sh x (by decide)
  simp [fn__law_one, fnOf_ap, B__law_one, pureOf_ap, call_feed (os := [.val (.int ds.length) .unq]) 2 hd, hasSlot, k, p0, np]
  unfold demIf
  cases needDem x (partTag .sh x) <;> simp [demAll, hasSlot]
theorem sig_spec {n : Nat} {a b c : Int} (h : FeedOk n a b c) (hn : n ≤ 1000000000) :
    ∃ s a' b' c', fn__law_one [feedD a b c, .list [.str (Str.ofString "u"), .str (Str.ofString "d")]] = .ret (.str (sg s)) .unq (feedD a' b' c') ∧ FeedOk (n + 1) a' b' c' := by
  obtain ⟨x, a', b', c', h1, h2, h3⟩ := one_gen (ds := [.str (Str.ofString "u"), .str (Str.ofString "d")]) h hn (by simp) (by simp)
  have : ∃ s, x = .str (sg s) := by
    simp at h2
    rcases h2 with rfl | rfl
    · exact ⟨true, rfl⟩
    · exact ⟨false, rfl⟩
  obtain ⟨s, rfl⟩ := this
  exact ⟨s, a', b', c', by simpa [partTag] using h1, h3⟩
def dSg (w : List Bool) : List D := w.map fun b => PyData.str (sg b)
theorem strsOf_sg : ∀ w : List Bool, strsOf (dSg w) = some (w.map sg)
  | [] => rfl
  | b :: w => by
    have := strsOf_sg w
    simp only [dSg, List.map_cons, strsOf] at this ⊢
    rw [this]; rfl
theorem sum_sg : ∀ w : List Bool, ((w.map sg).map (·.length)).sum = w.length
  | [] => rfl
  | b :: w => by
    have := sum_sg w
    simp only [List.map_cons, List.sum_cons, List.length_cons] at this ⊢
    rw [this]
    have e : (sg b).length = 1 := by cases b <;> decide
    rw [e]; omega
theorem wS_cons (b : Bool) (w : List Bool) : wS (b :: w) = sg b ++ wS w := by
  cases b
  · show wS (false :: w) = Str.append (sg false) (wS w)
    have e : sg false = ⟨#[100]⟩ := by decide
    rw [e]
    simp [wS, Str.append]
  · show wS (true :: w) = Str.append (sg true) (wS w)
    have e : sg true = ⟨#[117]⟩ := by decide
    rw [e]
    simp [wS, Str.append]
theorem fold_sg : ∀ (w : List Bool) (acc : Array Nat), (w.map sg).foldl (fun acc p => acc ++ (Str.ofString "").cps ++ p.cps) acc = acc ++ (wS w).cps
  | [], acc => by simp [wS]
  | b :: w, acc => by
    rw [List.map_cons, List.foldl_cons, fold_sg w, wS_cons]
    have e : (Str.ofString "").cps = #[] := by decide
    rw [e]
    show _ = acc ++ (Str.append (sg b) (wS w)).cps
    simp [Str.append]
theorem join_sg : ∀ w : List Bool, Txt.join (Str.ofString "") (w.map sg) = wS w
  | [] => rfl
  | b :: w => by
    show Builtin.Str.glued _ _ = _
    unfold Builtin.Str.glued
    simp only [List.map_cons, List.drop_succ_cons, List.drop_zero, List.headD_cons]
    rw [fold_sg, wS_cons]
    rfl
theorem pJoin_sg {w : List Bool} (h : w.length ≤ 1000) : pJoin (Str.ofString "") [.list (dSg w)] = some (.str (wS w), .unq) := by
  have e : (Str.ofString "").length = 0 := by decide
  simp [pJoin, ps1, pf1, joinD, strsOf_sg, sum_sg, e, join_sg, -List.map_map]
  omega
def wdE (F : D) (r : List Int) (t1 : Tag) (l2 l3 : Option (D × Tag)) : Env := [some (F, .par), some (.tuple (dInts r), .unq), l2, l3, none, none, none, none, none]
theorem wd1 {n : Nat} {a b c : Int} {r : List Int} (h : FeedOk n a b c) (hn : n ≤ 900000000) (hl : r.length ≤ 9) :
    ∃ a' b' c', FeedOk (n + 20) a' b' c' ∧ ((∃ w, 1 ≤ w.length ∧ w.length ≤ 8 ∧ S__law_word_1 (wdE (feedD a b c) r .unq none none) = .rt (.str (wS w)) .unq (wdE (feedD a' b' c') r .unq none none)) ∨
      (2 ≤ r.length ∧ S__law_word_1 (wdE (feedD a b c) r .unq none none) = .nx (wdE (feedD a' b' c') r .unq none none))) := by
  obtain ⟨p, a1, b1, c1, d1, p0', p1, f1⟩ := draw_spec (many := 2) h (by omega) (by omega) (by omega)
  have fst : ∀ (a2 b2 c2 : Int) (m : Nat), FeedOk (m + 1) a2 b2 c2 → m ≤ 950000000 →
      ∃ w a3 b3 c3, 1 ≤ w.length ∧ w.length ≤ 8 ∧ FeedOk (m + 10) a3 b3 c3 ∧ sRet (ePure1 (pJoin (Str.ofString "")) (eLc (iRng1E (aCons (ePure2 pAdd (eC (.int 1)) (eCall true 2 fn__law_draw (aCons (eVar 0) (aCons (eC (.int 5)) aNil)))) aNil)) (setE 8) tYesF E__law_word_1 [8])) (wdE (feedD a2 b2 c2) r .unq none none) =
        .rt (.str (wS w)) .unq (wdE (feedD a3 b3 c3) r .unq none none) := by
    intro a2 b2 c2 m f2 hm
    obtain ⟨q, a3, b3, c3, d3, q0, q1, f3⟩ := draw_spec (many := 5) f2 (by omega) (by omega) (by omega)
    obtain ⟨k, hk⟩ : ∃ k : Nat, 1 + q = k := ⟨(1 + q).toNat, by omega⟩
    have lc := lcE_step (g := setE 8) (tt := tYesF) (te := E__law_word_1) (own := [8]) (e := fun i : Nat => ((.int i, .unq) : D × Tag))
      (fun done rr env => ∃ a' b' c' w, env = wdE (feedD a' b' c') r .unq none none ∧ rr = w.map (fun s => ((.str (sg s), .unq) : D × Tag)) ∧ w.length = done.length ∧ FeedOk (m + 2 + done.length) a' b' c')
      (l := List.range k) (env := wdE (feedD a3 b3 c3) r .unq none none) ⟨a3, b3, c3, [], rfl, rfl, rfl, f3⟩ ?_
    · obtain ⟨r', env', s1, a', b', c', w, rfl, rfl, s2, s3⟩ := lc
      rw [List.length_range] at s2 s3
      refine ⟨w, a', b', c', by omega, by omega, s3.mono (by omega), ?_⟩
      have lm : (List.range k).length ≤ lim := lim_le (by simp; omega)
      have pj := pJoin_sg (w := w) (by omega)
      have hw : w.map (fun s => PyData.str (sg s)) = dSg w := rfl
      simp only [wdE] at s1 ⊢
      have ib : inBig (k : Int) = true := inBig_of (by omega) (by omega)
      simp [pureOf_ap, call_feed (os := [.val (.int 5) .unq]) 2 d3, hasSlot, hk, rng1R_int _ ib, unqOf_rng, noPar_ap, -List.length_map, s1, fst_map, acc_unq, pj, hw, -List.map_map]
      simp at lm
      simp [lm, pj]
    · intro done x tl rr env hk2 hI
      obtain ⟨a', b', c', w, rfl, rfl, g1, g2⟩ := hI
      have hdl : done.length < k := by have := congrArg List.length hk2; simp at this; omega
      obtain ⟨s, a4, b4, c4, d4, f4⟩ := sig_spec g2 (by omega)
      refine ⟨some (.str (sg s), .unq), wdE (feedD a4 b4 c4) r .unq none none, ?_, a4, b4, c4, w ++ [s], rfl, by simp, by simp [g1], by simpa [Nat.add_assoc] using f4⟩
      simp [turnE, wdE, E__law_word_1, dispOf_ap, call_feed (os := [.val (.list [.str (Str.ofString "u"), .str (Str.ofString "d")]) .unq]) 2 d4, hasSlot]
  by_cases hp : p = 0
  · obtain ⟨w, a3, b3, c3, w1, w2, f3, e3⟩ := fst a1 b1 c1 n f1 (by omega)
    refine ⟨a3, b3, c3, f3.mono (by omega), .inl ⟨w, w1, w2, ?_⟩⟩
    have t : tOrF (tOfE (ePure2 pEq (eCall true 2 fn__law_draw (aCons (eVar 0) (aCons (eC (.int 2)) aNil))) (eC (.int 0)))) (tOfE (ePure2 pLt (ePure pLen (aCons (eVar 1) aNil)) (eC (.int 2)))) (wdE (feedD a b c) r .unq none none) = .ok (true, wdE (feedD a1 b1 c1) r .unq none none) := by
      simp [wdE, pureOf_ap, call_feed (os := [.val (.int 2) .unq]) 2 d1, hasSlot, hp]
    simp only [S__law_word_1, sWn_ap, sIf_ap, t, out_ok, if_true, e3]
  by_cases h2 : r.length < 2
  · obtain ⟨w, a3, b3, c3, w1, w2, f3, e3⟩ := fst a1 b1 c1 n f1 (by omega)
    refine ⟨a3, b3, c3, f3.mono (by omega), .inl ⟨w, w1, w2, ?_⟩⟩
    have h2' : (r.length : Int) < 2 := by omega
    have t : tOrF (tOfE (ePure2 pEq (eCall true 2 fn__law_draw (aCons (eVar 0) (aCons (eC (.int 2)) aNil))) (eC (.int 0)))) (tOfE (ePure2 pLt (ePure pLen (aCons (eVar 1) aNil)) (eC (.int 2)))) (wdE (feedD a b c) r .unq none none) = .ok (true, wdE (feedD a1 b1 c1) r .unq none none) := by
      simp [wdE, pureOf_ap, call_feed (os := [.val (.int 2) .unq]) 2 d1, hasSlot, hp, h2']
    simp only [S__law_word_1, sWn_ap, sIf_ap, t, out_ok, if_true, e3]
  · refine ⟨a1, b1, c1, f1.mono (by omega), .inr ⟨by omega, ?_⟩⟩
    have h2' : ¬ (r.length : Int) < 2 := by omega
    simp [S__law_word_1, wdE, pureOf_ap, call_feed (os := [.val (.int 2) .unq]) 2 d1, hasSlot, hp, h2', sWn_ap, noPar_ap]
end VL
end
section
set_option Elab.async false
set_option linter.all false
set_option maxRecDepth 100000
set_option autoImplicit false
namespace VL
open PySem PySem.Spec PyProof.Rows L2
theorem zip_int : ∀ (a b : List Int), zipDL (dInts a) (dInts b) = (a.zip b).map fun p => ((.tuple [.int p.1, .int p.2], .unq) : D × Tag)
  | [], b => by simp [zipDL, dInts]
  | x :: a, [] => by simp [zipDL, dInts]
  | x :: a, y :: b => by
    have ih := zip_int a b
    unfold zipDL at ih ⊢
    simp [dInts, pairT2] at ih ⊢
    exact ih
theorem enum_sg (w : List Bool) : enumL (dSg w) = w.zipIdx.map fun p : Bool × Nat => ((.tuple [.int p.2, .str (sg p.1)], .unq) : D × Tag) := by
  unfold enumL dSg
  apply List.ext_getElem
  · simp
  · intro i h1 h2
    simp [pairT]
theorem len_dSg (w : List Bool) : (dSg w).length = w.length := by simp [dSg]
theorem noMut_dSg : ∀ w : List Bool, noMutL (dSg w) = true
  | [] => rfl
  | b :: w => by
    have := noMut_dSg w
    simp only [dSg, List.map_cons, noMutL_cons, noMut_str, Bool.true_and] at this ⊢
    exact this
/-- the signs of a row -/
def rSg (r : List Int) : List Bool := (r.zip (r.drop 1)).map fun p => decide (p.1 < p.2)
theorem len_rSg (r : List Int) : (rSg r).length = r.length - 1 := by simp [rSg]
theorem wd2 {F : D} {r : List Int} (hl : r.length ≤ 9) : ∃ l1, NoPar l1 ∧ S__law_word_2 (wdE F r .unq none none) = .nx [some (F, .par), l1, some (.list (dSg (rSg r)), .unq), none, none, none, none, none, none] := by
  refine ⟨none, noPar_none, ?_⟩
  have c1 := cut_from r 1
  rw [show ((1 : Nat) : Int) = 1 from rfl] at c1
  have z1 := zip_int r (r.drop 1)
  have hz : (r.zip (r.drop 1)).length ≤ lim := lim_le (by simp; omega)
  have lc : lcE (gUnF 2 (gsCons (setE 4) (gsCons (setE 5) gsNil))) tYesF E__law_word_2 [4, 5] ((r.zip (r.drop 1)).map fun p => ((.tuple [.int p.1, .int p.2], .unq) : D × Tag)) (wdE F r .unq none none) = .ok ((r.zip (r.drop 1)).map fun p => ((.str (sg (decide (p.1 < p.2))), .unq) : D × Tag), wdE F r .unq none none) := by
    refine lcE_all (e := fun p : Int × Int => ((.tuple [.int p.1, .int p.2], .unq) : D × Tag)) (f := fun p : Int × Int => ((.str (sg (decide (p.1 < p.2))), .unq) : D × Tag)) fun p hp => ?_
    by_cases q : p.1 < p.2 <;> simp [turnE, wdE, E__law_word_2, pureOf_ap, partTag, q, sg]
  have e : (r.zip (r.drop 1)).map (fun p => PyData.str (sg (decide (p.1 < p.2)))) = dSg (rSg r) := by
    unfold dSg rSg; rw [List.map_map]; rfl
  simp only [wdE] at lc ⊢
  simp [S__law_word_2, pureOf_ap, c1, z1, noPar_ap, hz, lc, fst_map, acc_unq, e, -List.map_map, -List.drop_one, sWn_ap, -List.length_zip]
theorem wd3 {F : D} {x1 : Option (D × Tag)} {w : List Bool} (hw : w.length ≤ 8) (h1 : 1 ≤ w.length) : ∃ v l2, NoPar l2 ∧ 1 ≤ v.length ∧ v.length ≤ 8 ∧
    S__law_word_3 [some (F, .par), x1, some (.list (dSg w), .unq), none, none, none, none, none, none] = .nx [some (F, .par), x1, l2, some (.list (dSg v), .unq), none, none, none, none, none] := by
  have lc : ∃ v : List Bool, 1 ≤ v.length ∧ v.length ≤ 8 ∧ lcE (gUnF 2 (gsCons (setE 6) (gsCons (setE 7) gsNil))) T__law_word_3 E__law_word_3 [6, 7] (w.zipIdx.map fun p : Bool × Nat => ((.tuple [.int p.2, .str (sg p.1)], .unq) : D × Tag)) [some (F, .par), x1, some (.list (dSg w), .sh), none, none, none, none, none, none] =
      .ok (v.map fun s => ((.str (sg s), .unq) : D × Tag), [some (F, .par), x1, some (.list (dSg w), .sh), none, none, none, none, none, none]) := by
    obtain ⟨r', env', g1, v, rfl, rfl, g2, g3⟩ := lcE_step (g := gUnF 2 (gsCons (setE 6) (gsCons (setE 7) gsNil))) (tt := T__law_word_3) (te := E__law_word_3) (own := [6, 7]) (e := fun p : Bool × Nat => ((.tuple [.int p.2, .str (sg p.1)], .unq) : D × Tag))
      (fun done rr env => ∃ v : List Bool, env = [some (F, .par), x1, some (.list (dSg w), .sh), none, none, none, none, none, none] ∧ rr = v.map (fun s => ((.str (sg s), .unq) : D × Tag)) ∧ v.length ≤ done.length ∧ (1 ≤ done.length → 1 ≤ v.length))
      (l := w.zipIdx) (env := [some (F, .par), x1, some (.list (dSg w), .sh), none, none, none, none, none, none]) ⟨[], rfl, rfl, Nat.le_refl _, fun h => h⟩ (fun done p tl rr env hk hI => by
        obtain ⟨v, rfl, rfl, g1, g2⟩ := hI
        obtain ⟨s, i⟩ := p
        have ei : w.zipIdx[done.length]? = some (s, i) := by rw [hk]; simp
        rw [List.getElem?_zipIdx] at ei
        have hi : i = done.length ∧ w[done.length]? = some s := by
          cases q : w[done.length]? with
          | none => rw [q] at ei; cases ei
          | some y =>
            rw [q] at ei
            simp at ei
            exact ⟨ei.2.symm, by rw [ei.1]⟩
        obtain ⟨rfl, hs⟩ := hi
        by_cases z : done.length = 0
        · refine ⟨some (.str (sg s), .unq), _, ?_, v ++ [s], rfl, by simp, by simp [g1], fun _ => by simp⟩
          have z' : (done.length : Int) = 0 := by omega
          simp [turnE, T__law_word_3, E__law_word_3, pureOf_ap, partTag, z']
        · have hlt : done.length < w.length := (List.getElem?_eq_some_iff.mp hs).1
          have k : pIx [.list (dSg w), .int ((done.length : Int) - 1)] = some (.str (sg w[done.length - 1]), .unq) := by
            have : atI (dSg w) ((done.length - 1 : Nat) : Int) = some (.str (sg w[done.length - 1])) := by
              rw [atI_nat]
              simp [dSg, show done.length - 1 < w.length by omega]
            rw [show ((done.length - 1 : Nat) : Int) = (done.length : Int) - 1 by omega] at this
            simp [pIx, pf2, ixD, this, partTag]
          have z' : ¬ (done.length : Int) = 0 := by omega
          have zd : done ≠ [] := by rintro rfl; simp at z
          cases q : (sg w[done.length - 1] != sg s) with
          | true =>
            refine ⟨some (.str (sg s), .unq), _, ?_, v ++ [s], rfl, by simp, by simp [g1], fun _ => by simp⟩
            simp [turnE, T__law_word_3, E__law_word_3, pureOf_ap, partTag, z', k, q]
          | false =>
            refine ⟨none, _, ?_, v, rfl, by simp, by simp; omega, fun _ => g2 (by omega)⟩
            simp [turnE, T__law_word_3, E__law_word_3, pureOf_ap, partTag, z', k, q, zd])
    rw [List.length_zipIdx] at g2 g3
    exact ⟨v, g3 h1, by omega, g1⟩
  obtain ⟨v, v1, v2, lc⟩ := lc
  refine ⟨v, none, noPar_none, v1, v2, ?_⟩
  have hz : w.zipIdx.length ≤ lim := lim_le (by simp; omega)
  have ev : v.map (fun s => PyData.str (sg s)) = dSg v := rfl
  simp [S__law_word_3, pureOf_ap, enum_sg, noPar_ap, hz, lc, fst_map, acc_unq, ev, -List.map_map, sWn_ap, -List.length_zipIdx]
theorem wd4 {n : Nat} {a b c : Int} {x1 l2 : Option (D × Tag)} {v : List Bool} (h : FeedOk n a b c) (hn : n ≤ 900000000) (h1 : 1 ≤ v.length) (h8 : v.length ≤ 8) : ∃ u a' b' c', 1 ≤ u.length ∧ u.length ≤ 8 ∧ FeedOk (n + 2) a' b' c' ∧
    S__law_word_4 [some (feedD a b c, .par), x1, l2, some (.list (dSg v), .unq), none, none, none, none, none] = .nx [some (feedD a' b' c', .par), x1, l2, some (.list (dSg u), .unq), none, none, none, none, none] := by
  obtain ⟨p, a1, b1, c1, d1, p0', p1, f1⟩ := draw_spec (many := 2) h (by omega) (by omega) (by omega)
  by_cases hp : p = 0
  · by_cases hv : v.length = 1
    · refine ⟨v, a1, b1, c1, h1, h8, f1.mono (by omega), ?_⟩
      have : (dSg v).length = 1 := by rw [len_dSg, hv]
      simp [S__law_word_4, pureOf_ap, call_feed (os := [.val (.int 2) .unq]) 2 d1, hasSlot, hp, this]
    · obtain ⟨q, a2, b2, c2, d2, q0, q1, f2⟩ := draw_spec (many := (v.length : Int)) f1 (by omega) (by omega) (by omega)
      have hk : q.toNat < v.length := by omega
      refine ⟨v.eraseIdx q.toNat, a2, b2, c2, ?_, ?_, f2, ?_⟩
      · rw [List.length_eraseIdx]; split <;> omega
      · rw [List.length_eraseIdx]; split <;> omega
      · have t : (1 : Int) < v.length := by omega
        have q62 : q < 4611686018427387904 := by omega
        have er : (dSg v).eraseIdx q.toNat = dSg (v.eraseIdx q.toNat) := by
          simp [dSg, List.eraseIdx_eq_take_drop_succ]
        have gt : (dSg v)[q.toNat]? = some (.str (sg v[q.toNat])) := by simp [dSg, hk]
        simp [S__law_word_4, pureOf_ap, call_feed (os := [.val (.int 2) .unq]) 2 d1, call_feed (os := [.val (.int v.length) .unq]) 2 d2, hasSlot, hp, len_dSg, t, q0, q1, q62, popE_ap, gt, er, popTag]
  · refine ⟨v, a1, b1, c1, h1, h8, f1.mono (by omega), ?_⟩
    simp [S__law_word_4, pureOf_ap, call_feed (os := [.val (.int 2) .unq]) 2 d1, hasSlot, hp]
theorem word_spec {n : Nat} {a b c : Int} {r : List Int} (h : FeedOk n a b c) (hn : n ≤ 800000000) (hl : r.length ≤ 9) :
    ∃ w a' b' c', fn__law_word [feedD a b c, .tuple (dInts r)] = .ret (.str (wS w)) .unq (feedD a' b' c') ∧ 1 ≤ w.length ∧ w.length ≤ 8 ∧ FeedOk (n + 22) a' b' c' := by
  obtain ⟨a1, b1, c1, f1, h1⟩ := wd1 h (by omega) hl
  have e0 : entE true 9 [feedD a b c, .tuple (dInts r)] = wdE (feedD a b c) r .unq none none := by
    simp [wdE]
  rcases h1 with ⟨w, w1, w2, e1⟩ | ⟨h2, e1⟩
  · refine ⟨w, a1, b1, c1, ?_, w1, w2, f1.mono (by omega)⟩
    simp only [fn__law_word, fnOf_ap, B__law_word, sSeq_ap, e0, e1]
    simp [wdE, p0]
  · obtain ⟨l1, k1, e2⟩ := wd2 (F := feedD a1 b1 c1) hl
    obtain ⟨v, l2, k2, v1, v2, e3⟩ := wd3 (F := feedD a1 b1 c1) (x1 := l1) (w := rSg r) (by rw [len_rSg]; omega) (by rw [len_rSg]; omega)
    obtain ⟨u, a2, b2, c2, u1, u2, f2, e4⟩ := wd4 (x1 := l1) (l2 := l2) f1 (by omega) v1 v2
    refine ⟨u, a2, b2, c2, ?_, u1, u2, f2⟩
    have e5 : S__law_word_5 [some (feedD a2 b2 c2, .par), l1, l2, some (.list (dSg u), .unq), none, none, none, none, none] = .rt (.str (wS u)) .unq [some (feedD a2 b2 c2, .par), l1, l2, some (.list (dSg u), .unq), none, none, none, none, none] := by
      simp [S__law_word_5, pureOf_ap, pJoin_sg (w := u) (by omega)]
    simp only [fn__law_word, fnOf_ap, B__law_word, sSeq_ap, e0, e1, e2, e3, e4, e5]
    simp [p0]
end VL
end
section
set_option Elab.async false
set_option linter.all false
set_option maxRecDepth 100000
set_option autoImplicit false
namespace VL
open PySem PySem.Spec PyProof.Rows L2
/-- its repr is had -/
def Shw (d : D) : Prop := ∃ x, pReprQ [d] = some (.str x, .unq)
theorem Shw.fine {w k : Nat} {d : D} (h : Fine w k d) (hs : isSeq d = true) (hw : w ≤ 1048576) (hk : k ≤ 60) : Shw d := ⟨_, (pReprQ_seq hs).trans (fine_repr h hs hw hk)⟩
theorem Fine.none {k : Nat} : Fine 40 k .none := ⟨rfl, rfl, rfl, rfl, by decide, Nat.zero_le _⟩
theorem Fine.bool {k : Nat} (b : Bool) : Fine 40 k (.bool b) := by
  cases b <;> exact ⟨rfl, rfl, rfl, rfl, by decide, Nat.zero_le _⟩
inductive Wrd : Str → Prop
  | e : Wrd (Str.ofString "ends")
  | b : Wrd (Str.ofString "breaks")
theorem Fine.wrd {k : Nat} {s : Str} (h : Wrd s) : Fine 100 k (.str s) := by
  cases h <;> exact ⟨by decide +kernel, by decide +kernel, by decide +kernel, rfl, by decide +kernel, Nat.zero_le _⟩
/-- plain numbers and the like -/
def okS (d : D) : Prop := isSimp d = true ∧ Fine 40 1 d
theorem okS.int {n : Int} (h : n.natAbs ≤ 100) : okS (.int n) := ⟨rfl, Fine.int (by omega)⟩
theorem okS.none : okS .none := ⟨rfl, Fine.none⟩
theorem okS.bool (b : Bool) : okS (.bool b) := ⟨rfl, Fine.bool b⟩
theorem okS.ints {ns : List Int} (h : ∀ n ∈ ns, n.natAbs ≤ 100) : ∀ d ∈ dInts ns, okS d := fun d hd => by
  unfold dInts at hd
  obtain ⟨n, hn, rfl⟩ := List.mem_map.mp hd
  exact okS.int (h n hn)
theorem okS.fine : ∀ {l : List D}, (∀ d ∈ l, okS d) → FineL (41 * l.length) 1 l
  | [], _ => FineL.nil
  | d :: l, h => by
    have h1 := FineL.cons (h d (List.mem_cons_self ..)).2 (okS.fine (l := l) fun x hx => h x (List.mem_cons_of_mem _ hx))
    have e : 40 + 1 + 41 * l.length = 41 * (d :: l).length := by rw [List.length_cons]; omega
    rw [e] at h1
    exact h1
theorem okS.noMut {l : List D} (h : ∀ d ∈ l, okS d) : noMutL l = true := noMutL_simp fun d hd => (h d hd).1
/-- what may stand second -/
inductive Snd : D → Prop
  | T {l : List D} : (∀ d ∈ l, okS d) → l.length ≤ 20 → Snd (.tuple l)
  | L {ns : List Int} : (∀ n ∈ ns, n.natAbs ≤ 100) → ns.length ≤ 20 → Snd (.list (dInts ns))
  | N : Snd .none
theorem Snd.fine {d : D} (h : Snd d) : Fine 1000 2 d := by
  cases h with
  | T h1 h2 => exact (Fine.tup (okS.fine h1)).mono (by omega) (Nat.le_refl _)
  | @L ns h1 h2 => exact (Fine.lst (okS.fine (okS.ints h1))).mono (by rw [len_dInts]; omega) (Nat.le_refl _)
  | N => exact Fine.none.mono (by omega) (Nat.le_refl _)
/-- the things judged -/
structure Tng (d : D) : Prop where
  g : Thg d
  s : Shw d
theorem Snd.tng {s : Str} {d : D} (hs : Wrd s) (h : Snd d) : Tng (.tuple [.str s, d]) := by
  refine ⟨?_, Shw.fine (Fine.tup (FineL.cons (Fine.wrd hs) (FineL.cons h.fine (FineL.nil (w := 0))))) rfl (by decide) (by decide)⟩
  cases h with
  | T h1 h2 => exact .E fun d hd => (h1 d hd).1
  | L h1 h2 => exact .D' rfl rfl
  | N => exact .D' rfl rfl
theorem tup_app {a b : List D} (ha : ∀ d ∈ a, okS d) (hb : ∀ d ∈ b, okS d) (h : a.length + b.length ≤ 100) : pAdd [.tuple a, .tuple b] = some (.tuple (a ++ b), .unq) ∧ (∀ d ∈ a ++ b, okS d) := by
  have hab : ∀ d ∈ a ++ b, okS d := fun d hd => by
    rcases List.mem_append.mp hd with hd | hd
    · exact ha d hd
    · exact hb d hd
  have : a.length + b.length ≤ lim := Nat.le_trans h (by decide)
  exact ⟨by simp only [pAdd, pf2, addD, this, if_true, tTag, okS.noMut hab], hab⟩
def nrE (F : D) (x1 x3 x4 : Option (D × Tag)) (s : Str) (ns : List Int) (x7 x8 : Option (D × Tag)) : Env := [some (F, .par), x1, none, x3, x4, some (.str s, .unq), some (.tuple (dInts ns), .unq), x7, x8, none]
def nX (ns : List Int) (k : Nat) : List Int := ns.take k
def nY (ns : List Int) (k : Nat) : List Int := ns.drop (k + 1)
def rows1 (ns : List Int) (k : Nat) (far : Int) : List D := [.tuple (dInts (nX ns k ++ [far] ++ nY ns k)), .tuple (dInts (nX ns k ++ [far] ++ nY ns k)), .tuple (dInts (nX ns k ++ nY ns k)), .tuple (dInts (ns ++ [far])), .tuple (dInts ns.reverse), .list (dInts ns), .none, .tuple (dInts (nX ns k) ++ [.none] ++ dInts (nY ns k))]
def rows2 (ns : List Int) (k : Nat) (far : Int) : List D := [.tuple (dInts (nX ns k) ++ [.bool true] ++ dInts (nY ns k)), .tuple (dInts (isort (nX ns k ++ [far] ++ nY ns k))), .tuple (dInts (ns.map fun n => n + 1)), .tuple (dInts (ns.map fun n => n - 1)), .tuple []]
section
variable {ns : List Int} {k : Nat} {far : Int} (hn : ∀ n ∈ ns, n.natAbs ≤ 90) (hl : ns.length ≤ 9) (hf : far.natAbs ≤ 90)
include hn hl hf
theorem small_X : ∀ n ∈ nX ns k, n.natAbs ≤ 100 := fun n h => by have := hn n (List.mem_of_mem_take h); omega
theorem small_Y : ∀ n ∈ nY ns k, n.natAbs ≤ 100 := fun n h => by have := hn n (List.mem_of_mem_drop h); omega
theorem small_XfY : ∀ n ∈ nX ns k ++ [far] ++ nY ns k, n.natAbs ≤ 100 := fun n h => by
  simp only [List.mem_append, List.mem_singleton] at h
  rcases h with (h | h) | h
  · exact small_X hn hl hf n h
  · omega
  · exact small_Y hn hl hf n h
theorem rows_snd : ∀ d ∈ rows1 ns k far ++ rows2 ns k far, Snd d := by
  have h0 : ∀ n ∈ ns, n.natAbs ≤ 100 := fun n h => by have := hn n h; omega
  have hX := small_X hn hl hf (k := k)
  have hY := small_Y hn hl hf (k := k)
  have hXfY := small_XfY hn hl hf (k := k)
  have lX : (nX ns k).length ≤ 9 := by simp [nX]; omega
  have lY : (nY ns k).length ≤ 9 := by simp [nY]; omega
  have T : ∀ ms : List Int, (∀ n ∈ ms, n.natAbs ≤ 100) → ms.length ≤ 20 → Snd (.tuple (dInts ms)) := fun ms a b => .T (okS.ints a) (by rw [len_dInts]; exact b)
  have M : ∀ x, okS x → Snd (.tuple (dInts (nX ns k) ++ [x] ++ dInts (nY ns k))) := fun x hx => by
    refine .T (fun d hd => ?_) (by simp; omega)
    simp only [List.mem_append, List.mem_singleton] at hd
    rcases hd with (hd | rfl) | hd
    · exact okS.ints hX d hd
    · exact hx
    · exact okS.ints hY d hd
  have a1 := T _ hXfY (by simp; omega)
  have a2 := T (nX ns k ++ nY ns k) (fun n h => (List.mem_append.mp h).elim (hX n) (hY n)) (by simp; omega)
  have a3 := T (ns ++ [far]) (fun n h => by
    rcases List.mem_append.mp h with h | h
    · exact h0 n h
    · rw [List.mem_singleton] at h; omega) (by simp; omega)
  have a4 := T ns.reverse (fun n h => h0 n (List.mem_reverse.mp h)) (by simp; omega)
  have a5 : Snd (.list (dInts ns)) := .L h0 (by omega)
  have a6 := M _ okS.none
  have a7 := M _ (okS.bool true)
  have a8 := T (isort (nX ns k ++ [far] ++ nY ns k)) (fun n h => hXfY n ((isort_perm _).mem_iff.mp h)) (by rw [(isort_perm _).length_eq]; simp; omega)
  have a9 := T (ns.map fun n => n + 1) (fun n h => by
    obtain ⟨m, hm, rfl⟩ := List.mem_map.mp h
    have := hn m hm; omega) (by simp; omega)
  have a10 := T (ns.map fun n => n - 1) (fun n h => by
    obtain ⟨m, hm, rfl⟩ := List.mem_map.mp h
    have := hn m hm; omega) (by simp; omega)
  have a11 : Snd (.tuple []) := .T (fun d hd => by cases hd) (by simp)
  intro d hd
  simp only [rows1, rows2, List.cons_append, List.nil_append, List.mem_cons, List.not_mem_nil, or_false] at hd
  rcases hd with rfl | rfl | rfl | rfl | rfl | rfl | rfl | rfl | rfl | rfl | rfl | rfl | rfl <;> first | assumption | exact .N
theorem nr3 (hk : k < ns.length) {F : D} {x1 : Option (D × Tag)} {s : Str} : S__law_near_3 (nrE F x1 none none s ns (some (.int k, .unq)) (some (.int far, .unq))) = .nx (nrE F x1 (some (.list (rows1 ns k far), .unq)) none s ns (some (.int k, .unq)) (some (.int far, .unq))) := by
  have hX := okS.ints (small_X hn hl hf (k := k))
  have hY := okS.ints (small_Y hn hl hf (k := k))
  have lX : (nX ns k).length ≤ 9 := by simp [nX]; omega
  have lY : (nY ns k).length ≤ 9 := by simp [nY]; omega
  have c1 : cutD ns none (some (k : Int)) = nX ns k := cut_to ns k
  have c2 : cutD ns (some ((k : Int) + 1)) none = nY ns k := cut_from1 ns k
  have j1 : pAdd [.tuple (dInts (nX ns k)), .tuple [.int far]] = some (.tuple (dInts (nX ns k ++ [far])), .unq) := pAdd_tups (a := nX ns k) (b := [far]) (by simp; omega)
  have j2 := pAdd_tups (a := nX ns k ++ [far]) (b := nY ns k) (by simp; omega)
  have j3 := pAdd_tups (a := nX ns k) (b := nY ns k) (by omega)
  have j4 : pAdd [.tuple (dInts ns), .tuple [.int far]] = some (.tuple (dInts (ns ++ [far])), .unq) := pAdd_tups (a := ns) (b := [far]) (by simp; omega)
  obtain ⟨j5, g5⟩ := tup_app (b := [.none]) hX (fun d hd => by simp at hd; subst hd; exact okS.none) (by simp; omega)
  obtain ⟨j6, g6⟩ := tup_app g5 hY (by simp; omega)
  simp [S__law_near_3, nrE, pureOf_ap, dispOf_ap, c1, c2, j1, j2, j3, j4, j5, j6, rows1, -List.append_assoc]
end
end VL
end
section
set_option Elab.async false
set_option linter.all false
set_option maxRecDepth 100000
set_option autoImplicit false
namespace VL
open PySem PySem.Spec PyProof.Rows L2
theorem lst_app {a b : List D} (h : a.length + b.length ≤ 1000000) : pAdd [.list a, .list b] = some (.list (a ++ b), lTag (a ++ b)) := by
  have : a.length + b.length ≤ lim := Nat.le_trans h (by decide)
  simp only [pAdd, pf2, addD, this, if_true]
theorem lTag_np (l : List D) : ¬ lTag l = .par := by unfold lTag; split <;> simp
theorem rows_mut (ns : List Int) (k : Nat) (far : Int) : lTag (rows1 ns k far ++ rows2 ns k far) = .own := by
  unfold lTag
  have : noMutL (rows1 ns k far ++ rows2 ns k far) = false := by simp [rows1]
  rw [this]; rfl
section
variable {ns : List Int} {k : Nat} {far : Int} (hn : ∀ n ∈ ns, n.natAbs ≤ 90) (hl : ns.length ≤ 9) (hf : far.natAbs ≤ 90)
include hn hl hf
theorem nr4 (hk : k < ns.length) {F : D} {x1 : Option (D × Tag)} {s : Str} : S__law_near_4 (nrE F x1 (some (.list (rows1 ns k far), .unq)) none s ns (some (.int k, .unq)) (some (.int far, .unq))) = .nx (nrE F x1 (some (.list (rows1 ns k far ++ rows2 ns k far), .own)) none s ns none none) := by
  have hX := okS.ints (small_X hn hl hf (k := k))
  have hY := okS.ints (small_Y hn hl hf (k := k))
  have lX : (nX ns k).length ≤ 9 := by simp [nX]; omega
  have lY : (nY ns k).length ≤ 9 := by simp [nY]; omega
  have c1 : cutD ns none (some (k : Int)) = nX ns k := cut_to ns k
  have c2 : cutD ns (some ((k : Int) + 1)) none = nY ns k := cut_from1 ns k
  have j1 : pAdd [.tuple (dInts (nX ns k)), .tuple [.int far]] = some (.tuple (dInts (nX ns k ++ [far])), .unq) := pAdd_tups (a := nX ns k) (b := [far]) (by simp; omega)
  have j2 := pAdd_tups (a := nX ns k ++ [far]) (b := nY ns k) (by simp; omega)
  obtain ⟨j5, g5⟩ := tup_app (b := [.bool true]) hX (fun d hd => by simp at hd; subst hd; exact okS.bool true) (by simp; omega)
  obtain ⟨j6, g6⟩ := tup_app g5 hY (by simp; omega)
  have j7 : pAdd [.list (rows1 ns k far), .list (rows2 ns k far)] = some (.list (rows1 ns k far ++ rows2 ns k far), .own) := by
    rw [lst_app (by simp [rows1, rows2]), rows_mut]
  have lc1 : lcE (setE 9) tYesF E__law_near_1 [9] (ns.map fun n => ((.int n, .unq) : D × Tag)) (nrE F x1 (some (.list (rows1 ns k far), .unq)) none s ns (some (.int k, .unq)) (some (.int far, .unq))) = .ok (ns.map fun n => ((.int (n - 1), .unq) : D × Tag), nrE F x1 (some (.list (rows1 ns k far), .unq)) none s ns (some (.int k, .unq)) (some (.int far, .unq))) := by
    refine lcE_all (e := fun n : Int => ((.int n, .unq) : D × Tag)) (f := fun n : Int => ((.int (n - 1), .unq) : D × Tag)) fun n _ => ?_
    simp [turnE, nrE, E__law_near_1, pureOf_ap]
  have lc2 : lcE (setE 9) tYesF E__law_near_2 [9] (ns.map fun n => ((.int n, .unq) : D × Tag)) (nrE F x1 (some (.list (rows1 ns k far), .unq)) none s ns (some (.int k, .unq)) (some (.int far, .unq))) = .ok (ns.map fun n => ((.int (n + 1), .unq) : D × Tag), nrE F x1 (some (.list (rows1 ns k far), .unq)) none s ns (some (.int k, .unq)) (some (.int far, .unq))) := by
    refine lcE_all (e := fun n : Int => ((.int n, .unq) : D × Tag)) (f := fun n : Int => ((.int (n + 1), .unq) : D × Tag)) fun n _ => ?_
    simp [turnE, nrE, E__law_near_2, pureOf_ap]
  have hz : ns.length ≤ lim := lim_le (by omega)
  have e1 : ns.map (fun n => PyData.int (n + 1)) = dInts (ns.map fun n => n + 1) := by simp [dInts]
  have e2 : ns.map (fun n => PyData.int (n - 1)) = dInts (ns.map fun n => n - 1) := by simp [dInts]
  have mu : noMutL (rows1 ns k far ++ rows2 ns k far) = false := by simp [rows1]
  have r2 : [PyData.tuple (dInts (nX ns k) ++ [PyData.bool true] ++ dInts (nY ns k)), .tuple (dInts (isort (nX ns k ++ [far] ++ nY ns k))), .tuple (dInts (ns.map fun n => n + 1)), .tuple (dInts (ns.map fun n => n - 1)), .tuple []] = rows2 ns k far := rfl
  have nm6 := okS.noMut g6
  simp only [nrE] at lc1 lc2 ⊢
  simp [S__law_near_4, pureOf_ap, dispOf_ap, c1, c2, j1, j2, j5, j6, unqOf_dInts, noPar_ap, hz, lc1, lc2, fst_map, acc_unq, e1, e2, r2, j7, demIf, needDem, mu, demAll, dem1, hasSlot, sWn_ap, -List.map_map, -List.append_assoc]
end
end VL
end
section
set_option Elab.async false
set_option linter.all false
set_option maxRecDepth 100000
set_option autoImplicit false
namespace VL
open PySem PySem.Spec PyProof.Rows L2
theorem pf_feed (a b c : Int) (t : Tag) : parP (some (some (feedD a b c, t))) = decide (t ≠ .sh) := by simp [feedD]
theorem pt_true {x : D} (h : noMut x = true) : partTag .sh x = .unq := by simp [partTag, h]
theorem pt_false {x : D} (h : noMut x = false) : partTag .sh x = .sh := by simp [partTag, h]
theorem nr5 {n : Nat} {a b c : Int} {L : List D} {tg : Tag} (ht : tg ≠ .par) {s : Str} {ns : List Int} (h : FeedOk n a b c) (hn : n ≤ 900000000) (h0 : 0 < L.length) (hl : L.length ≤ 1000) (hs : ∀ d ∈ L, Snd d) (hm : noMutL L = false) {x1 : Option (D × Tag)} :
    ∃ x a' b' c', Snd x ∧ FeedOk (n + 1) a' b' c' ∧ S__law_near_5 (nrE (feedD a b c) x1 (some (.list L, tg)) none s ns none none) = .nx (nrE (feedD a' b' c') x1 none (some (.tuple [.str s, x], partTag .sh x)) s ns none none) := by
  obtain ⟨x, a', b', c', d1, hx, f1⟩ := one_gen h (by omega) h0 hl
  refine ⟨x, a', b', c', hs x hx, f1, ?_⟩
  cases q : noMut x with
  | true =>
    rw [pt_true q] at d1 ⊢
    cases tg <;> simp [S__law_near_5, nrE, pureOf_ap, dispOf_ap, callT, d1, pf_feed, sWn_ap, noPar_ap] at ht ⊢
  | false =>
    rw [pt_false q] at d1 ⊢
    cases tg <;> simp [S__law_near_5, nrE, pureOf_ap, dispOf_ap, callT, d1, pf_feed, sWn_ap, noPar_ap, finT, needDem, q, noParS, shAll, hasSlot, hm] at ht ⊢
def oth (s : Str) : Str := if s == Str.ofString "breaks" then Str.ofString "ends" else Str.ofString "breaks"
theorem oth_wrd (s : Str) : Wrd (oth s) := by
  unfold oth
  split
  · exact .e
  · exact .b
def nearL (s : Str) (x : D) (ns : List Int) : List D := [.tuple [.str s, x], .tuple [.str s, x], .tuple [.str s, x], .tuple [.str s, x], .tuple [.str (oth s), .tuple (dInts ns)], .list [.str s, .tuple (dInts ns)], .tuple [.str s, .tuple (dInts ns), .tuple []], .tuple [.tuple (dInts ns), .str s]]
theorem near_tng {s : Str} {x : D} {ns : List Int} (hs : Wrd s) (hx : Snd x) (hn : ∀ n ∈ ns, n.natAbs ≤ 90) (hl : ns.length ≤ 9) : ∀ d ∈ nearL s x ns, Tng d := by
  have h0 : ∀ n ∈ ns, n.natAbs ≤ 100 := fun n h => by have := hn n h; omega
  have sn : Snd (.tuple (dInts ns)) := .T (okS.ints h0) (by rw [len_dInts]; omega)
  have se : Snd (.tuple []) := .T (fun d hd => by cases hd) (by simp)
  have b1 := Snd.tng hs hx
  have b2 := Snd.tng (oth_wrd s) sn
  have b3 : Tng (.list [.str s, .tuple (dInts ns)]) := ⟨.A rfl rfl, Shw.fine (Fine.lst (FineL.cons (Fine.wrd hs) (FineL.cons sn.fine (FineL.nil (w := 0))))) rfl (by decide) (by decide)⟩
  have b4 : Tng (.tuple [.str s, .tuple (dInts ns), .tuple []]) := ⟨.B (by simp), Shw.fine (Fine.tup (FineL.cons (Fine.wrd hs) (FineL.cons sn.fine (FineL.cons se.fine (FineL.nil (w := 0)))))) rfl (by decide) (by decide)⟩
  have b5 : Tng (.tuple [.tuple (dInts ns), .str s]) := ⟨.C rfl rfl, Shw.fine (Fine.tup (FineL.cons sn.fine (FineL.cons (Fine.wrd hs) (FineL.nil (w := 0))))) rfl (by decide) (by decide)⟩
  intro d hd
  simp only [nearL, List.mem_cons, List.not_mem_nil, or_false] at hd
  rcases hd with rfl | rfl | rfl | rfl | rfl | rfl | rfl | rfl <;> assumption
theorem nr6 {n : Nat} {a b c : Int} {s : Str} {x : D} {ns : List Int} (h : FeedOk n a b c) (hn : n ≤ 900000000) {x1 : Option (D × Tag)} :
    ∃ y a' b' c' env, y ∈ nearL s x ns ∧ FeedOk (n + 1) a' b' c' ∧ S__law_near_6 (nrE (feedD a b c) x1 none (some (.tuple [.str s, x], partTag .sh x)) s ns none none) = .rt y (partTag .sh y) env ∧ p0 env = feedD a' b' c' := by
  obtain ⟨y, a', b', c', d1, hy, f1⟩ := one_gen (ds := nearL s x ns) h (by omega) (by simp [nearL]) (by simp [nearL])
  have fin : ∀ (t : Tag) (env : Env), env = nrE (feedD a b c) x1 none (some (.tuple [.str s, x], partTag .sh x)) s ns none none → ∃ env', sRet (fun _ => callE true 2 fn__law_one [.slot 0, .val (.list (nearL s x ns)) t] env) env = .rt y (partTag .sh y) env' ∧ p0 env' = feedD a' b' c' := fun t env he => by
    subst he
    cases q : noMut y with
    | true =>
      rw [pt_true q] at d1 ⊢
      exact ⟨nrE (feedD a' b' c') x1 none (some (.tuple [.str s, x], partTag .sh x)) s ns none none, by simp [nrE, callT, d1, pf_feed], by simp [nrE, p0]⟩
    | false =>
      rw [pt_false q] at d1 ⊢
      exact ⟨nrE (feedD a' b' c') x1 none (some (.tuple [.str s, x], partTag .sh x)) s ns none none, by simp [nrE, callT, d1, pf_feed, finT, needDem, q, noParS, shAll, hasSlot], by simp [nrE, p0]⟩
  have e4 : ∀ t, [PyData.tuple [.str s, x], .tuple [.str s, x], .tuple [.str s, x], .tuple [.str s, x], .tuple [.str (oth s), .tuple (dInts ns)], .list [.str s, .tuple (dInts ns)], .tuple [.str s, .tuple (dInts ns), .tuple []], .tuple [.tuple (dInts ns), .str s]] = t → t = nearL s x ns := fun t h => h ▸ rfl
  cases q : noMut x with
  | true =>
    obtain ⟨env', g1, g2⟩ := fin .unq _ rfl
    rw [pt_true q] at g1 ⊢
    refine ⟨y, a', b', c', env', hy, f1, ?_, g2⟩
    rw [← g1]
    cases z : (s == Str.ofString "breaks") <;>
    simp [S__law_near_6, nrE, pureOf_ap, dispOf_ap, q, z, nearL, oth]
  | false =>
    obtain ⟨env', g1, g2⟩ := fin .own _ rfl
    rw [pt_false q] at g1 ⊢
    refine ⟨y, a', b', c', env', hy, f1, ?_, g2⟩
    rw [← g1]
    cases z : (s == Str.ofString "breaks") <;>
    simp [S__law_near_6, nrE, pureOf_ap, dispOf_ap, q, z, nearL, oth]
theorem near_spec8 {n : Nat} {a b c : Int} {r ns : List Int} {s : Str} (h : FeedOk n a b c) (hN : n ≤ 800000000) (hr : r.length ≤ 9) (hs : Wrd s) (hn : ∀ n ∈ ns, n.natAbs ≤ 90) (h1 : 1 ≤ ns.length) (hl : ns.length ≤ 9) :
    ∃ d a' b' c', fn__law_near [feedD a b c, .tuple (dInts r), .tuple [.str s, .tuple (dInts ns)]] = .ret d (partTag .sh d) (feedD a' b' c') ∧ Tng d ∧ FeedOk (n + 4) a' b' c' := by
  obtain ⟨k, a1, b1, c1, d1, k0, k1, f1⟩ := draw_spec (many := (ns.length : Int)) h (by omega) (by omega) (by omega)
  obtain ⟨far, a2, b2, c2, d2, g0, g1, f2⟩ := draw_spec (many := (r.length : Int) + 2) f1 (by omega) (by omega) (by omega)
  obtain ⟨k, rfl⟩ : ∃ m : Nat, k = m := ⟨k.toNat, by omega⟩
  have hk : k < ns.length := by omega
  have hf : far.natAbs ≤ 90 := by omega
  have e0 : entE true 10 [feedD a b c, .tuple (dInts r), .tuple [.str s, .tuple (dInts ns)]] = [some (feedD a b c, .par), some (.tuple (dInts r), .unq), some (.tuple [.str s, .tuple (dInts ns)], .unq), none, none, none, none, none, none, none] := by
    simp [inTag]
  have e1 : S__law_near_1 [some (feedD a b c, .par), some (.tuple (dInts r), .unq), some (.tuple [.str s, .tuple (dInts ns)], .unq), none, none, none, none, none, none, none] = .nx (nrE (feedD a b c) (some (.tuple (dInts r), .unq)) none none s ns none none) := by
    simp [S__law_near_1, nrE, partTag, sWn_ap, noPar_ap]
  have e2 : S__law_near_2 (nrE (feedD a b c) (some (.tuple (dInts r), .unq)) none none s ns none none) = .nx (nrE (feedD a2 b2 c2) none none none s ns (some (.int k, .unq)) (some (.int far, .unq))) := by
    simp [S__law_near_2, nrE, pureOf_ap, call_feed (os := [.val (.int ns.length) .unq]) 2 d1, call_feed (os := [.val (.int ((r.length : Int) + 2)) .unq]) 2 d2, hasSlot, sWn_ap, noPar_ap]
  have e3 := nr3 hn hl hf hk (F := feedD a2 b2 c2) (x1 := none) (s := s)
  have e4 := nr4 hn hl hf hk (F := feedD a2 b2 c2) (x1 := none) (s := s)
  have mu : noMutL (rows1 ns k far ++ rows2 ns k far) = false := by simp [rows1]
  obtain ⟨x, a3, b3, c3, hx, f3, e5⟩ := nr5 (L := rows1 ns k far ++ rows2 ns k far) (tg := .own) (by decide) (s := s) (ns := ns) (x1 := none) f2 (by omega) (by simp [rows1]) (by simp [rows1, rows2]) (rows_snd hn hl hf) mu
  obtain ⟨y, a4, b4, c4, env, hy, f4, e6, e7⟩ := nr6 (s := s) (x := x) (ns := ns) (x1 := none) f3 (by omega)
  refine ⟨y, a4, b4, c4, ?_, near_tng hs hx hn hl y hy, f4⟩
  have np := partTag_np .sh y (by decide)
  simp only [fn__law_near, fnOf_ap, B__law_near, sSeq_ap, e0, e1, e2, e3, e4, e5, e6, np, if_false, pOut_true, e7]
end VL
end
section
set_option Elab.async false
set_option linter.all false
set_option maxRecDepth 100000
set_option autoImplicit false
namespace VL
open PySem PySem.Spec PyProof.Rows L2
/-- one of the words with numbers -/
structure Som (d : D) : Prop where
  m : ∃ s ns, d = mk2 s ns ∧ Wrd s ∧ (∀ n ∈ ns, n.natAbs ≤ 90) ∧ 1 ≤ ns.length ∧ ns.length ≤ 9
theorem Som.tng {d : D} (h : Som d) : Tng d := by
  obtain ⟨s, ns, rfl, h1, h2, h3, h4⟩ := h.m
  exact Snd.tng h1 (.T (okS.ints fun n hn => by have := h2 n hn; omega) (by rw [len_dInts]; omega))
theorem noMut_mk2 (s : Str) (ns : List Int) : noMut (mk2 s ns) = true := by simp [mk2]
theorem Som.noMut {d : D} (h : Som d) : noMut d = true := by
  obtain ⟨s, ns, rfl, _⟩ := h.m
  exact noMut_mk2 s ns
theorem som_noMutL : ∀ {l : List D}, (∀ d ∈ l, Som d) → noMutL l = true
  | [], _ => rfl
  | d :: l, h => by
    rw [noMutL_cons, (h d (List.mem_cons_self ..)).noMut, som_noMutL fun x hx => h x (List.mem_cons_of_mem _ hx)]; rfl
theorem gE_small {r : List Int} {w : List Bool} (hl : r.length ≤ 9) : ∀ n ∈ nI (gEnds r w 0), 0 ≤ n ∧ n ≤ 9 := fun n hn => by
  unfold nI at hn
  obtain ⟨e, he, rfl⟩ := List.mem_map.mp hn
  have := gEnds_le (Nat.zero_le _) e he
  omega
theorem len_nIg (r : List Int) (w : List Bool) : (nI (gEnds r w 0)).length = w.length := by rw [len_nI, len_gEnds]
section
variable {r : List Int} {w : List Bool} (hr : IsRow r) (hl : r.length ≤ 9) (h0 : 1 ≤ w.length) (hw : w.length ≤ 9)
include hr hl h0 hw
theorem told_som : Som (toldD r w) := by
  have g := gE_small (w := w) hl
  have gl := len_nIg r w
  unfold toldD
  split
  · exact ⟨_, _, rfl, .e, fun n hn => by have := g n hn; omega, by omega, by omega⟩
  · refine ⟨_, _, rfl, .b, fun n hn => ?_, by rw [List.length_map]; omega, by rw [List.length_map]; omega⟩
    obtain ⟨m, hm, rfl⟩ := List.mem_map.mp hn
    have := g m hm; omega
theorem told_shows : Gives fn__law_shows [.tuple (dInts r), .str (wS w), toldD r w] (.bool true) := by
  have lg := len_gEnds r w 0
  unfold toldD
  by_cases z : fin r w 0 = r.length
  · rw [if_pos z]
    have v := (vE_iff h0 lg.symm (gEnds_le (Nat.zero_le _))).mpr (gEnds_VE (Nat.zero_le _) z)
    have := sh_ends hr hl h0 hw lg.symm (gEnds_le (Nat.zero_le _))
    rw [v] at this
    exact this
  · rw [if_neg z]
    have zl := fin_le (r := r) (w := w) (st := 0) (Nat.zero_le _)
    have B := gEnds_VB (r := r) (w := w) (Nat.zero_le _) (by omega)
    obtain ⟨b1, _⟩ := VB_bV B
    have v := (bV_iff (r := r) (w := w) (es := (gEnds r w 0).map (· - 1)) (by rw [List.length_map, lg])).mpr B
    have := sh_brk hr hl h0 hw (es := (gEnds r w 0).map (· - 1)) (by rw [List.length_map, lg]) (fun e he => by have := b1 e he; omega)
    rw [v] at this
    have ge1 : ∀ (w : List Bool) (st : Nat), st ≤ r.length → 0 < r.length → ∀ e ∈ gEnds r w st, 1 ≤ e := by
      intro w
      induction w with
      | nil => intro st _ _ e he; cases he
      | cons s w ih =>
        intro st hst hp e he
        have h1 := gEnd_spec (s := s) hst
        rcases List.mem_cons.mp he with rfl | he
        · omega
        · exact ih _ h1.2.1 hp e he
    have eq : (nI (gEnds r w 0)).map (fun x => x - 1) = nI ((gEnds r w 0).map (· - 1)) := by
      unfold nI
      rw [List.map_map, List.map_map]
      refine List.map_congr_left fun e he => ?_
      have := ge1 w 0 (Nat.zero_le _) (by omega) e he
      simp only [Function.comp]
      omega
    rw [eq]
    exact this
theorem told_ix0 : pIx [toldD r w, .int 0] = some (.str (tw r w), .unq) := by
  unfold toldD tw
  split <;> simp [mk2, pIx, pf2, ixD, atI, ixN, partTag]
def rgE (F : D) (r : List Int) (w : List Bool) (x3 : Option (D × Tag)) (T : D) : Env := [some (F, .par), some (.tuple (dInts r), .unq), some (.str (wS w), .unq), x3, none, none, some (T, .unq), none, none, none, none, none]
theorem thing_turn {d : D} {t : Tag} (h : Tng d) (ht : t ≠ .par) {F : D} {x3 : Option (D × Tag)} : turnS (setE 4) L__law_right_12 (d, t) (rgE F r w x3 (toldD r w)) = .nx (rgE F r w x3 (toldD r w)) := by
  obtain ⟨b, ⟨B1, B2⟩, hb⟩ := judge hr hl h0 hw h.g
  obtain ⟨x, hx⟩ := h.s
  have s := (so_spec b b).eq
  rw [beq_self_eq_true] at s
  have t0 := told_ix0 hr hl h0 hw
  generalize toldD r w = T at *
  cases b with
  | false =>
    cases t <;> simp [turnS, L__law_right_12, rgE, pureOf_ap, callF, callXx, B1.eq, B2.eq, hx, s, pk, sW_ap, sWn_ap, noPar_ap] at ht ⊢
  | true =>
    obtain ⟨y, rfl⟩ := hb rfl
    have i0 : pIx [.tuple [.str (tw r w), y], .int 0] = some (.str (tw r w), .unq) := by
      simp [pIx, pf2, ixD, atI, ixN, partTag]
    cases t <;> simp [turnS, L__law_right_12, rgE, pureOf_ap, callF, callXx, B1.eq, B2.eq, hx, s, i0, t0, pk, sW_ap, sWn_ap, noPar_ap] at ht ⊢
end
end VL
end
section
set_option Elab.async false
set_option linter.all false
set_option maxRecDepth 100000
set_option autoImplicit false
namespace VL
open PySem PySem.Spec PyProof.Rows L2
def litL : List D := [.none, .tuple [], .str (Str.ofString "ends"), .tuple [.str (Str.ofString "ends")], .tuple [.str (Str.ofString "ends"), .tuple []], .tuple [.str (Str.ofString "breaks"), .tuple []], .int 7]
theorem lit_tng : ∀ d ∈ litL, Tng d := by
  have se : Snd (.tuple []) := .T (fun d hd => by cases hd) (by simp)
  have a1 : Tng .none := ⟨.A rfl rfl, Str.ofString "None", by simp [pReprQ, ps1, pf1, reprQD]⟩
  have a2 : Tng (.tuple []) := ⟨.B (by simp), Shw.fine se.fine rfl (by decide) (by decide)⟩
  have a3 : Tng (.str (Str.ofString "ends")) := by
    refine ⟨.A rfl rfl, reprText (Str.ofString "ends"), ?_⟩
    have : (reprText (Str.ofString "ends")).length ≤ lim := by decide +kernel
    simp [pReprQ, ps1, pf1, reprQD, this]
  have a4 : Tng (.tuple [.str (Str.ofString "ends")]) := ⟨.B (by simp), Shw.fine (Fine.tup (FineL.cons (Fine.wrd .e) (FineL.nil (w := 0) (k := 1)))) rfl (by decide) (by decide)⟩
  have a5 := Snd.tng .e se
  have a6 := Snd.tng .b se
  have a7 : Tng (.int 7) := by
    refine ⟨.A rfl rfl, toString (7 : Int), ?_⟩
    have : Nat.log2 7 < 1920 := by decide
    simp [pReprQ, ps1, pf1, reprQD, this]
  intro d hd
  simp only [litL, List.mem_cons, List.not_mem_nil, or_false] at hd
  rcases hd with rfl | rfl | rfl | rfl | rfl | rfl | rfl <;> assumption
def qE (F : D) (r : List Int) (w : List Bool) (x3 x5 : Option (D × Tag)) (T : D) (x9 : Option (D × Tag)) : Env := [some (F, .par), some (.tuple (dInts r), .unq), some (.str (wS w), .unq), x3, none, x5, some (T, .unq), none, none, x9, none, none]
theorem draws {n : Nat} {a b c : Int} {r : List Int} {w : List Bool} {T : D} {x3 x9 : Option (D × Tag)} (h : FeedOk n a b c) (hn : n ≤ 700000000) (hr : r.length ≤ 9) (hw : w.length ≤ 9) :
    ∃ (ns : List Int) (a' b' c' : Int), ns.length = w.length ∧ (∀ m ∈ ns, 0 ≤ m ∧ m ≤ 9) ∧ FeedOk (n + w.length) a' b' c' ∧
      lcE (setE 11) tYesF E__law_right_2 [11] (w.map fun b => ((.str (sg b), .unq) : D × Tag)) (qE (feedD a b c) r w x3 none T x9) = .ok (ns.map fun m : Int => ((.int m, .unq) : D × Tag), qE (feedD a' b' c') r w x3 none T x9) := by
  obtain ⟨r', env', g1, a', b', c', ns, rfl, rfl, g2, g3, g4⟩ := lcE_step (g := setE 11) (tt := tYesF) (te := E__law_right_2) (own := [11]) (e := fun b : Bool => ((.str (sg b), .unq) : D × Tag))
    (fun done rr env => ∃ (a' b' c' : Int) (ns : List Int), env = qE (feedD a' b' c') r w x3 none T x9 ∧ rr = ns.map (fun m : Int => ((.int m, .unq) : D × Tag)) ∧ ns.length = done.length ∧ (∀ m ∈ ns, 0 ≤ m ∧ m ≤ 9) ∧ FeedOk (n + done.length) a' b' c')
    (l := w) (env := qE (feedD a b c) r w x3 none T x9) ⟨a, b, c, [], rfl, rfl, rfl, (fun m hm => by cases hm), h⟩ (fun done s tl rr env hk hI => by
      obtain ⟨a', b', c', ns, rfl, rfl, g1, g2, g3⟩ := hI
      have hdl : done.length < w.length := by have := congrArg List.length hk; simp at this; omega
      obtain ⟨m, a4, b4, c4, d4, m0, m1, f4⟩ := draw_spec (many := (r.length : Int) + 1) g3 (by omega) (by omega) (by omega)
      refine ⟨some (.int m, .unq), qE (feedD a4 b4 c4) r w x3 none T x9, ?_, a4, b4, c4, ns ++ [m], rfl, by simp, by simp [g1], fun y hy => ?_, by simpa [Nat.add_assoc] using f4⟩
      · simp [turnE, qE, E__law_right_2, pureOf_ap, call_feed (os := [.val (.int ((r.length : Int) + 1)) .unq]) 2 d4, hasSlot]
      · rcases List.mem_append.mp hy with hy | hy
        · exact g2 y hy
        · rw [List.mem_singleton] at hy; omega)
  exact ⟨ns, a', b', c', g2, g3, g4, g1⟩
theorem wrd_one {n : Nat} {a b c : Int} (h : FeedOk n a b c) (hn : n ≤ 1000000000) :
    ∃ s a' b' c', fn__law_one [feedD a b c, .list [.str (Str.ofString "ends"), .str (Str.ofString "breaks")]] = .ret (.str s) .unq (feedD a' b' c') ∧ Wrd s ∧ FeedOk (n + 1) a' b' c' := by
  obtain ⟨x, a', b', c', h1, h2, h3⟩ := one_gen (ds := [.str (Str.ofString "ends"), .str (Str.ofString "breaks")]) h hn (by simp) (by simp)
  have : ∃ s, x = .str s ∧ Wrd s := by
    simp at h2
    rcases h2 with rfl | rfl
    · exact ⟨_, rfl, .e⟩
    · exact ⟨_, rfl, .b⟩
  obtain ⟨s, rfl, hs⟩ := this
  exact ⟨s, a', b', c', by simpa [partTag] using h1, hs, h3⟩
theorem right7 {n : Nat} {a b c : Int} {r : List Int} {w : List Bool} {T : D} {S : List D} (h : FeedOk n a b c) (hn : n ≤ 600000000) (hr : r.length ≤ 9) (h0 : 1 ≤ w.length) (hw : w.length ≤ 8) (hS : ∀ d ∈ S, Som d) (hSl : S.length = 4) :
    ∃ S' a' b' c', (∀ d ∈ S', Som d) ∧ S'.length = 7 ∧ FeedOk (n + 30) a' b' c' ∧ S__law_right_7 (qE (feedD a b c) r w (some (.list S, .unq)) none T none) = .nx (qE (feedD a' b' c') r w (some (.list S', .unq)) none T none) := by
  obtain ⟨r', env', g1, a', b', c', N, rfl, rfl, g2, g3, g4⟩ := lcE_step (g := setE 9) (tt := tYesF) (te := E__law_right_3) (own := [9]) (e := fun k : Nat => ((.int k, .unq) : D × Tag))
    (fun done rr env => ∃ a' b' c' N, env = qE (feedD a' b' c') r w (some (.list S, .unq)) none T none ∧ rr = N.map (fun d : D => ((d, .unq) : D × Tag)) ∧ N.length = done.length ∧ (∀ d ∈ N, Som d) ∧ FeedOk (n + 10 * done.length) a' b' c')
    (l := List.range 3) (env := qE (feedD a b c) r w (some (.list S, .unq)) none T none) ⟨a, b, c, [], rfl, rfl, rfl, (fun m hm => by cases hm), h⟩ (fun done k tl rr env hk hI => by
      obtain ⟨a', b', c', N, rfl, rfl, g1, g2, g3⟩ := hI
      have hdl : done.length < 3 := by have := congrArg List.length hk; simp at this; omega
      obtain ⟨s, a3, b3, c3, d3, hs, f3⟩ := wrd_one g3 (by omega)
      obtain ⟨ns, a4, b4, c4, l4, m4, f4, e4⟩ := draws (r := r) (w := w) (T := T) (x3 := some (.list S, .unq)) (x9 := some (.int k, .unq)) f3 (by omega) hr (by omega)
      have pm := isort_perm ns
      refine ⟨some (mk2 s (isort ns), .unq), qE (feedD a4 b4 c4) r w (some (.list S, .unq)) none T none, ?_, a4, b4, c4, N ++ [mk2 s (isort ns)], rfl, by simp, by simp [g1], fun y hy => ?_, f4.mono (by simp; omega)⟩
      · have hz : w.length ≤ lim := lim_le (by omega)
        have e5 : ns.map (fun m => PyData.int m) = dInts ns := rfl
        simp only [qE] at e4 ⊢
        simp [turnE, E__law_right_3, pureOf_ap, dispOf_ap, call_feed (os := [.val (.list [.str (Str.ofString "ends"), .str (Str.ofString "breaks")]) .unq]) 2 d3, hasSlot, noMut_chars, hz, noPar_ap, e4, fst_map, acc_unq, e5, mk2, -List.map_map]
      · rcases List.mem_append.mp hy with hy | hy
        · exact g2 y hy
        · rw [List.mem_singleton] at hy
          subst hy
          exact ⟨s, isort ns, rfl, hs, fun m hm => by have := m4 m (pm.mem_iff.mp hm); omega, by rw [pm.length_eq]; omega, by rw [pm.length_eq]; omega⟩)
  simp only [List.length_range] at g2 g4
  have hSN : ∀ d ∈ S ++ N, Som d := fun d hd => (List.mem_append.mp hd).elim (hS d) (g3 d)
  refine ⟨S ++ N, a', b', c', hSN, by rw [List.length_append]; omega, g4, ?_⟩
  have ib : inBig (3 : Int) = true := inBig_of (by omega) (by omega)
  have r3 : unqOf (rngL 0 1 3) = (List.range 3).map fun k : Nat => ((.int k, .unq) : D × Tag) := unqOf_rng 3
  have hz : (List.range 3).length ≤ lim := lim_le (by simp)
  have ap : pAdd [.list S, .list N] = some (.list (S ++ N), .unq) := by
    rw [lst_app (by omega)]
    simp only [lTag, som_noMutL hSN, if_true]
  have fm : (N.map fun d : D => ((d, Tag.unq) : D × Tag)).map (fun x => x.1) = N := by rw [List.map_map]; simp [Function.comp_def]
  have ac : accTag (N.map fun d : D => ((d, Tag.unq) : D × Tag)) = .unq := acc_unq _ (fun d => d)
  have rg := fun env : Env => rng1R_int (env := env) (3 : Int) ib
  simp only [show (3 : Int).toNat = 3 from rfl] at rg
  simp only [qE] at g1 ⊢
  simp only [S__law_right_7, sWn_ap, sAsg_ap, ePure2_ap]
  simp [pureOf_ap, rg, r3, hz, noPar_ap, g1, fm, ac, ap, -List.map_map, -List.length_range]
theorem right8 {n : Nat} {a b c : Int} {r : List Int} {w : List Bool} {S : List D} (h : FeedOk n a b c) (hn : n ≤ 600000000) (hr : IsRow r) (hl : r.length ≤ 9) (h0 : 1 ≤ w.length) (hw : w.length ≤ 9) (hS : ∀ d ∈ S, Som d) (hSl : S.length = 7) :
    ∃ a' b' c' env, FeedOk (n + 60) a' b' c' ∧ S__law_right_8 (qE (feedD a b c) r w (some (.list S, .unq)) none (toldD r w) none) = .nx (some (feedD a' b' c', .par) :: env) := by
  generalize hT : toldD r w = T
  have sm := som_noMutL hS
  obtain ⟨r', env', g1, a', b', c', N, rfl, rfl, g2, g3, g4⟩ := lcE_step (g := setE 9) (tt := tYesF) (te := E__law_right_4) (own := [9]) (e := fun k : Nat => ((.int k, .unq) : D × Tag))
    (fun done rr env => ∃ a' b' c' N, env = qE (feedD a' b' c') r w (some (.list S, .unq)) none T none ∧ rr = N.map (fun d : D => ((d, partTag .sh d) : D × Tag)) ∧ N.length = done.length ∧ (∀ d ∈ N, Tng d) ∧ FeedOk (n + 5 * done.length) a' b' c')
    (l := List.range 12) (env := qE (feedD a b c) r w (some (.list S, .unq)) none T none) ⟨a, b, c, [], rfl, rfl, rfl, (fun m hm => by cases hm), h⟩ (fun done k tl rr env hk hI => by
      obtain ⟨a', b', c', N, rfl, rfl, g1, g2, g3⟩ := hI
      have hdl : done.length < 12 := by have := congrArg List.length hk; simp at this; omega
      obtain ⟨x, a3, b3, c3, d3, hx, f3⟩ := one_gen (ds := S) g3 (by omega) (by omega) (by omega)
      obtain ⟨s, ns, rfl, s1, s2, s3, s4⟩ := (hS x hx).m
      rw [pt_true (noMut_mk2 s ns)] at d3
      obtain ⟨d, a4, b4, c4, d4, hd, f4⟩ := near_spec8 (r := r) f3 (by omega) hl s1 s2 s3 s4
      refine ⟨some (d, partTag .sh d), qE (feedD a4 b4 c4) r w (some (.list S, .unq)) none T none, ?_, a4, b4, c4, N ++ [d], rfl, by simp, by simp [g1], fun y hy => ?_, f4.mono (by simp; omega)⟩
      · cases q : noMut d with
        | true =>
          rw [pt_true q] at d4 ⊢
          simp only [mk2] at d3
          simp [turnE, qE, E__law_right_4, callT, d3, d4, pf_feed]
        | false =>
          rw [pt_false q] at d4 ⊢
          simp only [mk2] at d3
          simp [turnE, qE, E__law_right_4, callT, d3, d4, pf_feed, finT, needDem, q, noParS, shAll, hasSlot]
      · rcases List.mem_append.mp hy with hy | hy
        · exact g2 y hy
        · rw [List.mem_singleton] at hy
          subst hy
          exact hd)
  simp only [List.length_range] at g2 g4
  have fm : (N.map fun d : D => ((d, partTag .sh d) : D × Tag)).map (fun x => x.1) = N := by rw [List.map_map]; simp [Function.comp_def]
  have ib : inBig (12 : Int) = true := inBig_of (by omega) (by omega)
  have r12 : unqOf (rngL 0 1 12) = (List.range 12).map fun k : Nat => ((.int k, .unq) : D × Tag) := unqOf_rng 12
  have hz : (List.range 12).length ≤ lim := lim_le (by simp)
  have rg := fun env : Env => rng1R_int (env := env) (12 : Int) ib
  simp only [show (12 : Int).toNat = 12 from rfl] at rg
  have ap1 := lst_app (a := S) (b := N) (by omega)
  have ap2 := lst_app (a := S ++ N) (b := litL) (by rw [List.length_append]; simp [litL]; omega)
  have all : ∀ d ∈ S ++ N ++ litL, Tng d := fun d hd => by
    rcases List.mem_append.mp hd with hd | hd
    · exact (List.mem_append.mp hd).elim (fun h => (hS d h).tng) (g3 d)
    · exact lit_tng d hd
  have it : ∃ x3 : Tag, x3 ≠ .par ∧ iSeqE (ePure2 pAdd (ePure2 pAdd (eVar 3) (eLc (iRng1E (aCons (eC (.int 12)) aNil)) (setE 9) tYesF E__law_right_4 [9])) (eLst (aCons (eC .none) (aCons (eTup aNil) (aCons (eC (.str "ends")) (aCons (eTup (aCons (eC (.str "ends")) aNil)) (aCons (eTup (aCons (eC (.str "ends")) (aCons (eTup aNil) aNil))) (aCons (eTup (aCons (eC (.str "breaks")) (aCons (eTup aNil) aNil))) (aCons (eC (.int 7)) aNil))))))))) (qE (feedD a b c) r w (some (.list S, .unq)) none T none) =
      .ok ((S ++ N ++ litL).map fun d => (d, partTag .sh d), qE (feedD a' b' c') r w (some (.list S, x3)) none T none) := by
    have lf : [PyData.none, .tuple [], .str (Str.ofString "ends"), .tuple [.str (Str.ofString "ends")], .tuple [.str (Str.ofString "ends"), .tuple []], .tuple [.str (Str.ofString "breaks"), .tuple []], .int 7] = litL := rfl
    have uq : unqOf (S ++ N ++ litL) = (S ++ N ++ litL).map fun d => (d, partTag .sh d) := rfl
    generalize hz1 : accTag (N.map fun d : D => ((d, partTag .sh d) : D × Tag)) = tg
    have m1 : ∀ l : List D, lTag l = if noMutL l then .unq else .own := fun l => rfl
    cases q1 : noMutL (S ++ N) <;> cases q2 : noMutL (S ++ N ++ litL) <;> rw [m1, q1] at ap1 <;> rw [m1, q2] at ap2 <;> simp only [if_true, if_false, Bool.false_eq_true] at ap1 ap2
    · refine ⟨.own, by decide, ?_⟩
      simp only [qE] at g1 ⊢
      simp [pureOf_ap, dispOf_ap, rg, r12, hz, noPar_ap, g1, fm, hz1, lf, ap1, ap2, uq, demIf, needDem, q1, q2, demAll, dem1, hasSlot, -List.map_map, -List.length_range, -List.append_assoc, -List.map_append]
    · refine ⟨.own, by decide, ?_⟩
      simp only [qE] at g1 ⊢
      simp [pureOf_ap, dispOf_ap, rg, r12, hz, noPar_ap, g1, fm, hz1, lf, ap1, ap2, uq, demIf, needDem, q1, q2, demAll, dem1, hasSlot, -List.map_map, -List.length_range, -List.append_assoc, -List.map_append]
    · refine ⟨.unq, by decide, ?_⟩
      simp only [qE] at g1 ⊢
      simp [pureOf_ap, dispOf_ap, rg, r12, hz, noPar_ap, g1, fm, hz1, lf, ap1, ap2, uq, demIf, needDem, q1, q2, demAll, dem1, hasSlot, -List.map_map, -List.length_range, -List.append_assoc, -List.map_append]
    · refine ⟨.unq, by decide, ?_⟩
      simp only [qE] at g1 ⊢
      simp [pureOf_ap, dispOf_ap, rg, r12, hz, noPar_ap, g1, fm, hz1, lf, ap1, ap2, uq, demIf, needDem, q1, q2, demAll, dem1, hasSlot, -List.map_map, -List.length_range, -List.append_assoc, -List.map_append]
  obtain ⟨x3, hx3, it⟩ := it
  obtain ⟨_, lp, _⟩ := forE_inv (g := setE 4) (b := L__law_right_12) (e := fun d : D => (d, partTag .sh d)) (fun _ : Unit => qE (feedD a' b' c') r w (some (.list S, x3)) none T none) (fun _ _ => True) (l := S ++ N ++ litL) (s0 := ()) trivial (fun done d rest s hk _ => by
    refine ⟨(), ?_, trivial⟩
    have := thing_turn hr hl h0 hw (d := d) (t := partTag .sh d) (all d (by rw [hk]; simp)) (partTag_np _ _ (by decide)) (F := feedD a' b' c') (x3 := some (.list S, x3))
    rw [hT] at this
    exact this)
  refine ⟨a', b', c', [none, none, none, none, none, none, none, none, none, none, none], g4, ?_⟩
  simp only [S__law_right_8, sWn_ap, sFor_ap, it, out_ok, lp]
  cases x3 <;> simp [qE, noPar_ap] at hx3 ⊢
end VL
end
section
set_option Elab.async false
set_option linter.all false
set_option maxRecDepth 100000
set_option autoImplicit false
namespace VL
open PySem PySem.Spec PyProof.Rows L2
theorem add_u {w : List Bool} (h : w.length ≤ 1000) : pAdd [.str (wS w), .str (Str.ofString "u")] = some (.str (wS (w ++ [true])), .unq) := by
  have e : Str.ofString "u" = ⟨#[117]⟩ := by decide
  have : (wS w).length + (Str.ofString "u").length ≤ lim := by
    have z : (Str.ofString "u").length = 1 := by decide
    rw [len_wS, z]; exact lim_le (by omega)
  have e2 : wS w ++ Str.ofString "u" = wS (w ++ [true]) := by
    rw [e]
    show Str.append (wS w) ⟨#[117]⟩ = _
    simp [wS, Str.append]
  simp only [pAdd, pf2, addD, this, if_true, e2]
theorem add_d {w : List Bool} (h : w.length ≤ 1000) : pAdd [.str (Str.ofString "d"), .str (wS w)] = some (.str (wS (false :: w)), .unq) := by
  have : (Str.ofString "d").length + (wS w).length ≤ lim := by
    have z : (Str.ofString "d").length = 1 := by decide
    rw [len_wS, z]; exact lim_le (by omega)
  have e2 : Str.ofString "d" ++ wS w = wS (false :: w) := by rw [wS_cons]; rfl
  simp only [pAdd, pf2, addD, this, if_true, e2]
def r0E (F : D) (x1 x2 x3 x5 x6 : Option (D × Tag)) : Env := [some (F, .par), x1, x2, x3, none, x5, x6, none, none, none, none, none]
section
variable {r : List Int} {w : List Bool} (hr : IsRow r) (hl : r.length ≤ 9) (h0 : 1 ≤ w.length) (hw : w.length ≤ 8)
include hr hl h0 hw
theorem right3 {F : D} : S__law_right_3 (r0E F (some (.tuple (dInts r), .unq)) (some (.str (wS w), .unq)) none none none) = .nx (r0E F (some (.tuple (dInts r), .unq)) (some (.str (wS w), .unq)) none (some (.tuple (dInts (nI (gEnds r w 0))), .unq)) (some (toldD r w, .unq))) := by
  have l := (late_spec (r := r) (w := w) hl (by omega)).eq
  have s := (strips_spec (r := r) (w := w) hr hl h0 (by omega)).eq
  simp [S__law_right_3, r0E, callF, callXx, l, s]
theorem right4 {F : D} : S__law_right_4 (r0E F (some (.tuple (dInts r), .unq)) (some (.str (wS w), .unq)) none (some (.tuple (dInts (nI (gEnds r w 0))), .unq)) (some (toldD r w, .unq))) = .nx (r0E F (some (.tuple (dInts r), .unq)) (some (.str (wS w), .unq)) none (some (.tuple (dInts (nI (gEnds r w 0))), .unq)) (some (toldD r w, .unq))) := by
  have hne : w ≠ [] := by rintro rfl; simp at h0
  have s := (strips_spec (r := r) (w := w) hr hl h0 (by omega)).eq
  have sh := (told_shows (r := r) (w := w) hr hl h0 (by omega)).eq
  have t0 := told_ix0 (r := r) (w := w) hr hl h0 (by omega)
  obtain ⟨x, hx⟩ := (told_som (r := r) (w := w) hr hl h0 (by omega)).tng.s
  have la := ix_tup (atI_lastN (nI_lastN (gEnds_last r w 0 hne)))
  have e : ((tw r w == Str.ofString "ends") != decide (((fin r w 0 : Nat) : Int) = r.length)) = false := by
    unfold tw
    by_cases z : fin r w 0 = r.length
    · have z' : ((fin r w 0 : Nat) : Int) = r.length := by omega
      rw [if_pos z, decide_eq_true z']; decide
    · have z' : ¬ ((fin r w 0 : Nat) : Int) = r.length := by omega
      rw [if_neg z, decide_eq_false z']; decide
  generalize toldD r w = T at *
  simp [S__law_right_4, r0E, pureOf_ap, callF, callXx, s, sh, t0, hx, la, pk, -bne_iff_ne]
  simp [e]
theorem right5 {F : D} : S__law_right_5 (r0E F (some (.tuple (dInts r), .unq)) (some (.str (wS w), .unq)) none (some (.tuple (dInts (nI (gEnds r w 0))), .unq)) (some (toldD r w, .unq))) = .nx (r0E F (some (.tuple (dInts r), .unq)) (some (.str (wS w), .unq)) none (some (.tuple (dInts (nI (gEnds r w 0))), .unq)) (some (toldD r w, .unq))) := by
  have t0 := told_ix0 (r := r) (w := w) hr hl h0 (by omega)
  by_cases z : fin r w 0 = r.length
  · have e0 : tw r w = Str.ofString "ends" := by unfold tw; rw [if_pos z]
    have e1 : tw r (w ++ [true]) = Str.ofString "ends" := by unfold tw; rw [if_pos (fin_more z)]
    have e2 : tw r (false :: w) = Str.ofString "ends" := by unfold tw; rw [if_pos (fin_ahead z)]
    have s1 := (strips_spec (r := r) (w := w ++ [true]) hr hl (by simp) (by simp; omega)).eq
    have s2 := (strips_spec (r := r) (w := false :: w) hr hl (by simp) (by simp; omega)).eq
    have t1 := told_ix0 (r := r) (w := w ++ [true]) hr hl (by simp) (by simp; omega)
    have t2 := told_ix0 (r := r) (w := false :: w) hr hl (by simp) (by simp; omega)
    rw [e0] at t0
    rw [e1] at t1
    rw [e2] at t2
    have a1 := add_u (w := w) (by omega)
    have a2 := add_d (w := w) (by omega)
    have lw := pLen_wS (w := w) (by omega)
    have l9 : (w.length : Int) < 9 := by omega
    generalize toldD r w = T at *
    generalize toldD r (w ++ [true]) = T1 at *
    generalize toldD r (false :: w) = T2 at *
    simp [S__law_right_5, r0E, pureOf_ap, callF, callXx, s1, s2, t0, t1, t2, a1, a2, lw, l9]
  · have e0 : tw r w = Str.ofString "breaks" := by unfold tw; rw [if_neg z]
    rw [e0] at t0
    have n : (Str.ofString "breaks" == Str.ofString "ends") = false := by decide
    generalize toldD r w = T at *
    simp [S__law_right_5, r0E, pureOf_ap, t0, n]
theorem right6 {F : D} : ∃ S : List D, (∀ d ∈ S, Som d) ∧ S.length = 4 ∧ S__law_right_6 (r0E F (some (.tuple (dInts r), .unq)) (some (.str (wS w), .unq)) none (some (.tuple (dInts (nI (gEnds r w 0))), .unq)) (some (toldD r w, .unq))) = .nx (r0E F (some (.tuple (dInts r), .unq)) (some (.str (wS w), .unq)) (some (.list S, .unq)) none (some (toldD r w, .unq))) := by
  have g := gE_small (w := w) hl
  have gl := len_nIg r w
  have ts := told_som (r := r) (w := w) hr hl h0 (by omega)
  have tn := ts.noMut
  generalize toldD r w = T at *
  generalize nI (gEnds r w 0) = G at *
  refine ⟨[T, mk2 (Str.ofString "ends") G, mk2 (Str.ofString "ends") (G.dropLast ++ [(r.length : Int)]), mk2 (Str.ofString "breaks") (G.map fun x => max 0 (x - 1))], ?_, rfl, ?_⟩
  · intro d hd
    simp only [List.mem_cons, List.not_mem_nil, or_false] at hd
    rcases hd with rfl | rfl | rfl | rfl
    · exact ts
    · exact ⟨_, _, rfl, .e, fun n hn => by have := g n hn; omega, by omega, by omega⟩
    · refine ⟨_, _, rfl, .e, fun n hn => ?_, by simp, by simp; omega⟩
      rcases List.mem_append.mp hn with hn | hn
      · have := g n (List.dropLast_subset _ hn); omega
      · rw [List.mem_singleton] at hn; omega
    · refine ⟨_, _, rfl, .b, fun n hn => ?_, by rw [List.length_map]; omega, by rw [List.length_map]; omega⟩
      obtain ⟨m, hm, rfl⟩ := List.mem_map.mp hn
      have := g m hm; omega
  · have ad : pAdd [.tuple (dInts G.dropLast), .tuple [.int r.length]] = some (.tuple (dInts (G.dropLast ++ [(r.length : Int)])), .unq) := pAdd_tups (a := G.dropLast) (b := [(r.length : Int)]) (by simp; omega)
    have cd := cut_dropLast G
    have hz : G.length ≤ lim := lim_le (by omega)
    have lc : lcE (setE 10) tYesF E__law_right_1 [10] (G.map fun n => ((.int n, .unq) : D × Tag)) (r0E F (some (.tuple (dInts r), .unq)) (some (.str (wS w), .unq)) none (some (.tuple (dInts G), .unq)) (some (T, .unq))) = .ok (G.map fun n => ((.int (max 0 (n - 1)), .unq) : D × Tag), r0E F (some (.tuple (dInts r), .unq)) (some (.str (wS w), .unq)) none (some (.tuple (dInts G), .unq)) (some (T, .unq))) := by
      refine lcE_all (e := fun n : Int => ((.int n, .unq) : D × Tag)) (f := fun n : Int => ((.int (max 0 (n - 1)), .unq) : D × Tag)) fun n _ => ?_
      simp [turnE, r0E, E__law_right_1, pureOf_ap]
    have e1 : G.map (fun n => PyData.int (max 0 (n - 1))) = dInts (G.map fun n => max 0 (n - 1)) := by simp [dInts]
    simp only [r0E] at lc ⊢
    simp [S__law_right_6, pureOf_ap, dispOf_ap, tn, unqOf_dInts, noPar_ap, hz, lc, fst_map, acc_unq, e1, ad, cd, mk2, sWn_ap, -List.map_map]
end
end VL
end
section
set_option Elab.async false
set_option linter.all false
set_option maxRecDepth 100000
set_option autoImplicit false
namespace VL
open PySem PySem.Spec PyProof.Rows L2
theorem right_spec {N : Nat} {a b c : Int} (h : FeedOk N a b c) (hn : N ≤ 500000000) : ∃ a' b' c', fn__law_right [feedD a b c] = .ret (.bool true) .unq (feedD a' b' c') ∧ FeedOk (N + 300) a' b' c' := by
  obtain ⟨x, a1, b1, c1, d1, hx, f1⟩ := one_spec (ns := [0, 1, 2, 3, 4, 5, 6, 7, 8, 9]) h (by omega) (by simp) (by simp)
  have x0 : 0 ≤ x ∧ x ≤ 9 := by
    simp at hx
    omega
  obtain ⟨n, rfl⟩ : ∃ m : Nat, x = m := ⟨x.toNat, by omega⟩
  have hn9 : n ≤ 9 := by omega
  obtain ⟨r, a2, b2, c2, d2, r1, r2, f2⟩ := row_spec (many := n) f1 (by omega) (by omega)
  have hl : r.length ≤ 9 := by omega
  obtain ⟨w, a3, b3, c3, d3, w1, w2, f3⟩ := word_spec (r := r) f2 (by omega) hl
  have d1' : fn__law_one [feedD a b c, .list [.int 0, .int 1, .int 2, .int 3, .int 4, .int 5, .int 6, .int 7, .int 8, .int 9]] = .ret (.int n) .unq (feedD a1 b1 c1) := d1
  have e0 : entE true 12 [feedD a b c] = r0E (feedD a b c) none none none none none := rfl
  have e1 : S__law_right_1 (r0E (feedD a b c) none none none none none) = .nx (r0E (feedD a2 b2 c2) (some (.tuple (dInts r), .unq)) none none none none) := by
    simp [S__law_right_1, r0E, dispOf_ap, call_feed (os := [.val (.list [.int 0, .int 1, .int 2, .int 3, .int 4, .int 5, .int 6, .int 7, .int 8, .int 9]) .unq]) 2 d1', call_feed (os := [.val (.int n) .unq]) 2 d2, hasSlot]
  have e2 : S__law_right_2 (r0E (feedD a2 b2 c2) (some (.tuple (dInts r), .unq)) none none none none) = .nx (r0E (feedD a3 b3 c3) (some (.tuple (dInts r), .unq)) (some (.str (wS w), .unq)) none none none) := by
    simp [S__law_right_2, r0E, call_feed (os := [.slot 1]) 2 d3, hasSlot]
  have e3 := right3 r1 hl w1 w2 (F := feedD a3 b3 c3)
  have e4 := right4 r1 hl w1 w2 (F := feedD a3 b3 c3)
  have e5 := right5 r1 hl w1 w2 (F := feedD a3 b3 c3)
  obtain ⟨S, s1, s2, e6⟩ := right6 r1 hl w1 w2 (F := feedD a3 b3 c3)
  obtain ⟨S', a4, b4, c4, t1, t2, f4, e7⟩ := right7 (r := r) (w := w) (T := toldD r w) (S := S) f3 (by omega) hl w1 w2 s1 s2
  obtain ⟨a5, b5, c5, env, f5, e8⟩ := right8 (S := S') f4 (by omega) r1 hl w1 (by omega) t1 t2
  refine ⟨a5, b5, c5, ?_, f5.mono (by omega)⟩
  have e7' : S__law_right_7 (r0E (feedD a3 b3 c3) (some (.tuple (dInts r), .unq)) (some (.str (wS w), .unq)) (some (.list S, .unq)) none (some (toldD r w, .unq))) = _ := e7
  simp only [fn__law_right, fnOf_ap, B__law_right, sSeq_ap, e0, e1, e2, e3, e4, e5, e6, e7', e8]
  simp [S__law_right_9, p0]
def lawE (ns : List Int) : Env := [some (.list (dInts ns), .sh), none, none]
theorem law_turn {ns : List Int} {k : Nat} (hb : ∀ x ∈ ns, Builtin.Int.intBits x ≤ 1048576) (hk : k ≤ 1000) : turnS (setE 1) L_law_1 (.int k, .unq) (lawE ns) = .nx (lawE ns) := by
  obtain ⟨a, b, c, d0, f0⟩ := feed_spec hb hk
  obtain ⟨a1, b1, c1, d1, f1⟩ := right_spec f0 (by omega)
  obtain ⟨a2, b2, c2, d2, f2⟩ := right_spec f1 (by omega)
  simp [turnS, L_law_1, lawE, callF, callT, d0.eq, d1, d2, pf_feed, pureOf_ap, dispOf_ap, sW_ap, sWn_ap, noPar_ap]
theorem law_true (ns : List Int) (h1 : ns.length ≤ 63) (hb : ∀ x ∈ ns, Builtin.Int.intBits x ≤ 1048576) : ∃ t p, fn_law [.list (dInts ns)] = .ret (.bool true) t p := by
  obtain ⟨n, hn, hn2⟩ : ∃ n : Nat, max (2 : Int) (min (ns.length : Int) 4) = n ∧ n ≤ 4 := ⟨(max (2 : Int) (min (ns.length : Int) 4)).toNat, by omega, by omega⟩
  obtain ⟨s, h1, _⟩ := forE_inv (g := setE 1) (b := L_law_1) (e := fun k : Nat => ((.int k, .unq) : D × Tag)) (fun _ : Unit => lawE ns) (fun _ _ => True) (l := List.range n) (s0 := ()) trivial fun done k rest s hk _ => by
    have hkn : k < n := by
      have : k ∈ List.range n := by rw [hk]; simp
      rwa [List.mem_range] at this
    exact ⟨(), law_turn hb (by omega), trivial⟩
  refine ⟨.unq, .none, ?_⟩
  simp only [lawE] at h1
  simp [fn_law, fnOf_ap, B_law, pureOf_ap, hn, rng1R_int _ (inBig_of (j := (n : Int)) (by omega) (by omega)), unqOf_rng, h1, sWn_ap, noPar_ap]
end VL
end
section
open PySem PySem.W PyProof.Rows
set_option maxHeartbeats 0 in
theorem PySem.Challenge.cw_rowbars_k88_whole_strips_or_breaks_holds : PySem.Challenge.rw_rowbars_k88_whole_strips_or_breaks.Holds := by
  w_on; o_law; k_head; (case hw => w_witness2)
  k_fill
  refine VL.walkG (l := PySem.Challenge.rw_rowbars_k88_whole_strips_or_breaks) (n := 63) (k := 8) (x := "script") (CX := L2.CX0) (sp := fun K => VL.spV K false 1 VL.fn_law) rfl (by decide) rfl ⟨rfl, by decide, by decide⟩ (fun w => rfl) (fun w h Y => PySem.W.kIn_of Y) ?F ?S (fun _ _ _ _ h => h)
  case S =>
    intro K a vs ns h1 h2
    exact VL.law_sp (VL.law_true ns h1 h2)
  case F =>
    intro w mg fa h KX G hmg
    refine VL.law_fd hmg (VL.Txt.f_law ?T) (fun _ _ _ _ _ _ _ => rfl) (fun base => VL.ok_law ?T)
    refine ⟨?f_is_integer, ?f_is_within, ?f_is_tuple_of, ?f_is_row_form, ?f_need_row, ?f_has_word, ?f_need_strips, ?f_does_break, ?f_strip_ends, ?f_strips, ?f_strips_hold, ?f_are_ends, ?f__law_feed, ?f__law_draw, ?f__law_one, ?f__law_mixed, ?f__law_so, ?f__law_back, ?f__law_heaped, ?f__law_row, ?f__law_breaks, ?f__law_late, ?f__law_shows, ?f__law_word, ?f__law_near, ?f__law_right, ?f_law, ?b_all, ?b_any, ?b_bool, ?b_enumerate, ?b_int, ?b_isinstance, ?b_len, ?b_list, ?b_max, ?b_min, ?b_range, ?b_repr, ?b_set, ?b_sorted, ?b_str, ?b_sum, ?b_tuple, ?b_zip, ?c_DOWN, ?c_MOST_NUMBERS, ?c_MOST_STRIPS, ?c_UP⟩
    case f_is_integer => refine' VL.has_mk KX G ?a ?l ?c ?k; (case a => k_is); (case l => k_is); (case c => k_is); (case k => k_is)
    case f_is_within => refine' VL.has_mk KX G ?a ?l ?c ?k; (case a => k_is); (case l => k_is); (case c => k_is); (case k => k_is)
    case f_is_tuple_of => refine' VL.has_mk KX G ?a ?l ?c ?k; (case a => k_is); (case l => k_is); (case c => k_is); (case k => k_is)
    case f_is_row_form => refine' VL.has_mk KX G ?a ?l ?c ?k; (case a => k_is); (case l => k_is); (case c => k_is); (case k => k_is)
    case f_need_row => refine' VL.has_mk KX G ?a ?l ?c ?k; (case a => k_is); (case l => k_is); (case c => k_is); (case k => k_is)
    case f_has_word => refine' VL.has_mk KX G ?a ?l ?c ?k; (case a => k_is); (case l => k_is); (case c => k_is); (case k => k_is)
    case f_need_strips => refine' VL.has_mk KX G ?a ?l ?c ?k; (case a => k_is); (case l => k_is); (case c => k_is); (case k => k_is)
    case f_does_break => refine' VL.has_mk KX G ?a ?l ?c ?k; (case a => k_is); (case l => k_is); (case c => k_is); (case k => k_is)
    case f_strip_ends => refine' VL.has_mk KX G ?a ?l ?c ?k; (case a => k_is); (case l => k_is); (case c => k_is); (case k => k_is)
    case f_strips => refine' VL.has_mk KX G ?a ?l ?c ?k; (case a => k_is); (case l => k_is); (case c => k_is); (case k => k_is)
    case f_strips_hold => refine' VL.has_mk KX G ?a ?l ?c ?k; (case a => k_is); (case l => k_is); (case c => k_is); (case k => k_is)
    case f_are_ends => refine' VL.has_mk KX G ?a ?l ?c ?k; (case a => k_is); (case l => k_is); (case c => k_is); (case k => k_is)
    case f__law_feed => refine' VL.has_mk KX G ?a ?l ?c ?k; (case a => k_is); (case l => k_is); (case c => k_is); (case k => k_is)
    case f__law_draw => refine' VL.has_mk KX G ?a ?l ?c ?k; (case a => k_is); (case l => k_is); (case c => k_is); (case k => k_is)
    case f__law_one => refine' VL.has_mk KX G ?a ?l ?c ?k; (case a => k_is); (case l => k_is); (case c => k_is); (case k => k_is)
    case f__law_mixed => refine' VL.has_mk KX G ?a ?l ?c ?k; (case a => k_is); (case l => k_is); (case c => k_is); (case k => k_is)
    case f__law_so => refine' VL.has_mk KX G ?a ?l ?c ?k; (case a => k_is); (case l => k_is); (case c => k_is); (case k => k_is)
    case f__law_back => refine' VL.has_mk KX G ?a ?l ?c ?k; (case a => k_is); (case l => k_is); (case c => k_is); (case k => k_is)
    case f__law_heaped => refine' VL.has_mk KX G ?a ?l ?c ?k; (case a => k_is); (case l => k_is); (case c => k_is); (case k => k_is)
    case f__law_row => refine' VL.has_mk KX G ?a ?l ?c ?k; (case a => k_is); (case l => k_is); (case c => k_is); (case k => k_is)
    case f__law_breaks => refine' VL.has_mk KX G ?a ?l ?c ?k; (case a => k_is); (case l => k_is); (case c => k_is); (case k => k_is)
    case f__law_late => refine' VL.has_mk KX G ?a ?l ?c ?k; (case a => k_is); (case l => k_is); (case c => k_is); (case k => k_is)
    case f__law_shows => refine' VL.has_mk KX G ?a ?l ?c ?k; (case a => k_is); (case l => k_is); (case c => k_is); (case k => k_is)
    case f__law_word => refine' VL.has_mk KX G ?a ?l ?c ?k; (case a => k_is); (case l => k_is); (case c => k_is); (case k => k_is)
    case f__law_near => refine' VL.has_mk KX G ?a ?l ?c ?k; (case a => k_is); (case l => k_is); (case c => k_is); (case k => k_is)
    case f__law_right => refine' VL.has_mk KX G ?a ?l ?c ?k; (case a => k_is); (case l => k_is); (case c => k_is); (case k => k_is)
    case f_law => refine' VL.has_mk KX G ?a ?l ?c ?k; (case a => k_is); (case l => k_is); (case c => k_is); (case k => k_is)
    case b_all => refine' VL.no_mk KX G ?a; (case a => k_is)
    case b_any => refine' VL.no_mk KX G ?a; (case a => k_is)
    case b_bool => refine' VL.no_mk KX G ?a; (case a => k_is)
    case b_enumerate => refine' VL.no_mk KX G ?a; (case a => k_is)
    case b_int => refine' VL.no_mk KX G ?a; (case a => k_is)
    case b_isinstance => refine' VL.no_mk KX G ?a; (case a => k_is)
    case b_len => refine' VL.no_mk KX G ?a; (case a => k_is)
    case b_list => refine' VL.no_mk KX G ?a; (case a => k_is)
    case b_max => refine' VL.no_mk KX G ?a; (case a => k_is)
    case b_min => refine' VL.no_mk KX G ?a; (case a => k_is)
    case b_range => refine' VL.no_mk KX G ?a; (case a => k_is)
    case b_repr => refine' VL.no_mk KX G ?a; (case a => k_is)
    case b_set => refine' VL.no_mk KX G ?a; (case a => k_is)
    case b_sorted => refine' VL.no_mk KX G ?a; (case a => k_is)
    case b_str => refine' VL.no_mk KX G ?a; (case a => k_is)
    case b_sum => refine' VL.no_mk KX G ?a; (case a => k_is)
    case b_tuple => refine' VL.no_mk KX G ?a; (case a => k_is)
    case b_zip => refine' VL.no_mk KX G ?a; (case a => k_is)
    case c_DOWN => refine' VL.cn_str KX G ?a; (case a => k_is)
    case c_MOST_NUMBERS => refine' VL.cn_int KX G ?a; (case a => k_is)
    case c_MOST_STRIPS => refine' VL.cn_int KX G ?a; (case a => k_is)
    case c_UP => refine' VL.cn_str KX G ?a; (case a => k_is)
end
