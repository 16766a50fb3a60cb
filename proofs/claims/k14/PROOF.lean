import PyProof.Rows.All
import Wide.All
import OpenK.AllK
import Wide.FinOn
import HandS.ForMost
import HandS.TupAny
import HandS.TupMul
import HandS.Defaults
import HandS.IsInst
import HandS.Zip
import HandS.Wide
import HandS.Walk
import KE.GoesEnum
import KE.GoesZip
import PyProof.MaxThree
import HandS.Style
import HandS.SetFor
import HandS.Strs
import PySem.Challenge.RW_deadbands_k14_whole_one_reporter_for_man
set_option Elab.async false
set_option linter.all false
set_option maxRecDepth 100000
/-! VL: plain data over the hand layer. D: a value as data; Rv: how it stands in the heap; St: a def's slots as data. -/
namespace VL
open PySem L2

inductive D where
  | non | bl (b : Bool) | int (i : Int) | str (x : Str) | tup (ds : List D) | lst (ds : List D) | scr (ns : List Int) | src | ty (n : String) | cls (a : Addr)

mutual
def D.flat : D → Bool
  | .lst _ => false
  | .src => false
  | .tup ds => D.flats ds
  | .non => true
  | .bl _ => true
  | .int _ => true
  | .str _ => true
  | .scr _ => true
  | .ty _ => true
  | .cls _ => true
def D.flats : List D → Bool
  | [] => true
  | d :: ds => d.flat && D.flats ds
end
theorem flats_nil : D.flats [] = true := by simp [D.flats]
theorem flats_cons (d : D) (ds : List D) : D.flats (d :: ds) = (d.flat && D.flats ds) := by simp [D.flats]
theorem flats_all : ∀ ds : List D, D.flats ds = ds.all D.flat
  | [] => by simp [D.flats]
  | d :: ds => by rw [flats_cons, flats_all ds, List.all_cons]
theorem flat_tup (ds : List D) : (D.tup ds).flat = D.flats ds := by simp [D.flat]
theorem flats_append (a b : List D) : D.flats (a ++ b) = (D.flats a && D.flats b) := by simp [flats_all]
theorem flats_of {ds : List D} (h : ∀ d ∈ ds, d.flat = true) : D.flats ds = true := by rw [flats_all]; exact List.all_eq_true.mpr h
theorem flats_mem {ds : List D} (h : D.flats ds = true) {d : D} (hd : d ∈ ds) : d.flat = true := by rw [flats_all] at h; exact List.all_eq_true.mp h d hd
theorem flats_ints (ns : List Int) : D.flats (ns.map D.int) = true := flats_of fun d hd => by
  obtain ⟨i, _, rfl⟩ := List.mem_map.mp hd
  rfl

/-- the script: locked, or of the written part -/
def ScrAt (K : PySem.W.Frag) (H : Hp) (a : Addr) (ns : List Int) : Prop := (∃ o, H a = some (.frz o (.lst (ns.map V.int)))) ∨ SqL K (fun _ => none) a (ns.map V.int)
theorem ScrAt.sq {K : PySem.W.Frag} {H : Hp} {a : Addr} {ns : List Int} (h : ScrAt K H a ns) : SqL K H a (ns.map V.int) := by
  rcases h with ⟨o, h⟩ | h
  · exact .inl (.inr ⟨o, h⟩)
  · rcases h with (h | ⟨o, h⟩) | h
    · cases h
    · cases h
    · exact .inr h
/-! ### how data stands in the heap: a list of it stands where N is not, and is tracked -/
mutual
def Rv (K : PySem.W.Frag) (sa : Option Addr) (N : Addr → Prop) (H : Hp) : D → V → Prop
  | .non, v => v = .non
  | .bl b, v => v = .bl b
  | .int i, v => v = .int i
  | .str x, v => v = .str x
  | .tup ds, v => ∃ a vs, v = .ref a ∧ SqT K H a vs ∧ Rvs K sa N H ds vs
  | .lst ds, v => ∃ a vs, v = .ref a ∧ ¬ N a ∧ H a = some (.lst vs) ∧ Rvs K sa N H ds vs
  | .scr ns, v => ∃ a, v = .ref a ∧ ScrAt K H a ns
  | .src, v => ∃ a, sa = some a ∧ v = .ref a
  | .ty n, v => v = .ty n
  | .cls a, v => v = .ref a
def Rvs (K : PySem.W.Frag) (sa : Option Addr) (N : Addr → Prop) (H : Hp) : List D → List V → Prop
  | [], vs => vs = []
  | d :: ds, vs => ∃ v r, vs = v :: r ∧ Rv K sa N H d v ∧ Rvs K sa N H ds r
end
section
variable {K : PySem.W.Frag} {sa sa' : Option Addr} {N N' : Addr → Prop} {H H' : Hp}
theorem rv_non {v : V} : Rv K sa N H .non v = (v = .non) := by simp [Rv]
theorem rv_bl {b : Bool} {v : V} : Rv K sa N H (.bl b) v = (v = .bl b) := by simp [Rv]
theorem rv_int {i : Int} {v : V} : Rv K sa N H (.int i) v = (v = .int i) := by simp [Rv]
theorem rv_str {x : Str} {v : V} : Rv K sa N H (.str x) v = (v = .str x) := by simp [Rv]
theorem rv_tup {ds : List D} {v : V} : Rv K sa N H (.tup ds) v = ∃ a vs, v = .ref a ∧ SqT K H a vs ∧ Rvs K sa N H ds vs := by simp [Rv]
theorem rv_lst {ds : List D} {v : V} : Rv K sa N H (.lst ds) v = ∃ a vs, v = .ref a ∧ ¬ N a ∧ H a = some (.lst vs) ∧ Rvs K sa N H ds vs := by simp [Rv]
theorem rv_scr {ns : List Int} {v : V} : Rv K sa N H (.scr ns) v = ∃ a, v = .ref a ∧ ScrAt K H a ns := by simp [Rv]
theorem rv_src {v : V} : Rv K sa N H .src v = ∃ a, sa = some a ∧ v = .ref a := by simp [Rv]
theorem rv_ty {n : String} {v : V} : Rv K sa N H (.ty n) v = (v = .ty n) := by simp [Rv]
theorem rv_cls {a : Addr} {v : V} : Rv K sa N H (.cls a) v = (v = .ref a) := by simp [Rv]
theorem rvs_nil {vs : List V} : Rvs K sa N H [] vs = (vs = []) := by simp [Rvs]
theorem rvs_cons {d : D} {ds : List D} {vs : List V} : Rvs K sa N H (d :: ds) vs = ∃ v r, vs = v :: r ∧ Rv K sa N H d v ∧ Rvs K sa N H ds r := by simp [Rvs]
theorem Rvs.nil : Rvs K sa N H [] [] := by rw [rvs_nil]
theorem Rvs.cons {d : D} {ds : List D} {v : V} {vs : List V} (h : Rv K sa N H d v) (t : Rvs K sa N H ds vs) : Rvs K sa N H (d :: ds) (v :: vs) := by
  rw [rvs_cons]; exact ⟨v, vs, rfl, h, t⟩
theorem Rvs.length : ∀ {ds : List D} {vs : List V}, Rvs K sa N H ds vs → ds.length = vs.length
  | [], _, h => by rw [rvs_nil] at h; subst h; rfl
  | d :: ds, _, h => by
    rw [rvs_cons] at h
    obtain ⟨v, r, rfl, _, t⟩ := h
    rw [List.length_cons, List.length_cons, Rvs.length t]
theorem Rvs.get : ∀ {ds : List D} {vs : List V} {i : Nat} {d : D}, Rvs K sa N H ds vs → ds[i]? = some d → ∃ v, vs[i]? = some v ∧ Rv K sa N H d v
  | [], _, _, _, _, e => by simp at e
  | x :: ds, _, 0, d, h, e => by
    rw [rvs_cons] at h
    obtain ⟨v, r, rfl, h, _⟩ := h
    simp at e; subst e
    exact ⟨v, rfl, h⟩
  | x :: ds, _, i + 1, d, h, e => by
    rw [rvs_cons] at h
    obtain ⟨v, r, rfl, _, t⟩ := h
    obtain ⟨w, e1, h1⟩ := Rvs.get (i := i) t (by simpa using e)
    exact ⟨w, by simpa using e1, h1⟩
theorem Rvs.getV {ds : List D} {vs : List V} {i : Nat} {v : V} (h : Rvs K sa N H ds vs) (e : vs[i]? = some v) : ∃ d, ds[i]? = some d ∧ Rv K sa N H d v := by
  have hl : i < ds.length := by rw [h.length]; exact (List.getElem?_eq_some_iff.mp e).1
  obtain ⟨w, e1, h1⟩ := h.get (i := i) (d := ds[i]) (List.getElem?_eq_getElem hl)
  rw [e] at e1; cases e1
  exact ⟨_, List.getElem?_eq_getElem hl, h1⟩
theorem Rvs.append : ∀ {ds es : List D} {vs ws : List V}, Rvs K sa N H ds vs → Rvs K sa N H es ws → Rvs K sa N H (ds ++ es) (vs ++ ws)
  | [], _, _, _, h, k => by rw [rvs_nil] at h; subst h; exact k
  | d :: ds, _, _, _, h, k => by
    rw [rvs_cons] at h
    obtain ⟨v, r, rfl, h1, t⟩ := h
    exact Rvs.cons h1 (Rvs.append t k)
theorem Rvs.set : ∀ {ds : List D} {vs : List V} {d : D} {v : V} (i : Nat), Rvs K sa N H ds vs → Rv K sa N H d v → Rvs K sa N H (ds.set i d) (vs.set i v)
  | [], _, _, _, _, h, _ => by rw [rvs_nil] at h; subst h; exact Rvs.nil
  | x :: ds, _, _, _, 0, h, k => by
    rw [rvs_cons] at h
    obtain ⟨w, r, rfl, _, t⟩ := h
    exact Rvs.cons k t
  | x :: ds, _, _, _, i + 1, h, k => by
    rw [rvs_cons] at h
    obtain ⟨w, r, rfl, h1, t⟩ := h
    exact Rvs.cons h1 (Rvs.set i t k)
theorem Rvs.take : ∀ {ds : List D} {vs : List V} (n : Nat), Rvs K sa N H ds vs → Rvs K sa N H (ds.take n) (vs.take n)
  | _, _, 0, _ => Rvs.nil
  | [], _, n + 1, h => by rw [rvs_nil] at h; subst h; exact Rvs.nil
  | d :: ds, _, n + 1, h => by
    rw [rvs_cons] at h
    obtain ⟨v, r, rfl, h1, t⟩ := h
    exact Rvs.cons h1 (Rvs.take n t)
theorem Rvs.drop : ∀ {ds : List D} {vs : List V} (n : Nat), Rvs K sa N H ds vs → Rvs K sa N H (ds.drop n) (vs.drop n)
  | _, _, 0, h => h
  | [], _, n + 1, h => by rw [rvs_nil] at h; subst h; exact Rvs.nil
  | d :: ds, _, n + 1, h => by
    rw [rvs_cons] at h
    obtain ⟨v, r, rfl, h1, t⟩ := h
    exact Rvs.drop n t
theorem Rvs.of_get : ∀ {ds : List D} {vs : List V}, ds.length = vs.length → (∀ (i : Nat) (d : D) (v : V), ds[i]? = some d → vs[i]? = some v → Rv K sa N H d v) → Rvs K sa N H ds vs
  | [], [], _, _ => Rvs.nil
  | [], _ :: _, h, _ => by simp at h
  | _ :: _, [], h, _ => by simp at h
  | d :: ds, v :: vs, h, k => Rvs.cons (k 0 d v rfl rfl) (Rvs.of_get (by simpa using h) fun i x y e1 e2 => k (i + 1) x y (by simpa using e1) (by simpa using e2))

/-- all is kept but the lists in N -/
def Stb (N : Addr → Prop) (H H' : Hp) : Prop := ∀ b o, H b = some o → (∀ xs, o = .lst xs → ¬ N b) → H' b = some o
theorem Stb.refl (N : Addr → Prop) (H : Hp) : Stb N H H := fun _ _ h _ => h
theorem Stb.trans {N : Addr → Prop} {H1 : Hp} (a : Stb N H H1) (b : Stb N H1 H') : Stb N H H' := fun c o h n => b c o (a c o h n) n
theorem Stb.mono (s : Stb N H H') (h : ∀ b, N b → N' b) : Stb N' H H' := fun b o e n => s b o e fun xs q z => n xs q (h b z)
theorem Stb.tup {a : Addr} {xs : List V} (s : Stb N H H') (h : SqT K H a xs) : SqT K H' a xs := by
  rcases h with (h | ⟨o, h⟩) | h
  · exact .inl (.inl (s _ _ h fun _ q => nomatch q))
  · exact .inl (.inr ⟨o, s _ _ h fun _ q => nomatch q⟩)
  · exact .inr h
theorem Stb.same (s : Same H H') : Stb N H H' := fun b o e _ => s b o e
mutual
theorem Rv.stb (s : Stb N H H') : ∀ (d : D) (v : V), Rv K sa N H d v → Rv K sa N H' d v
  | .non, _, h => by rw [rv_non] at h ⊢; exact h
  | .bl _, _, h => by rw [rv_bl] at h ⊢; exact h
  | .int _, _, h => by rw [rv_int] at h ⊢; exact h
  | .str _, _, h => by rw [rv_str] at h ⊢; exact h
  | .tup ds, _, h => by
    rw [rv_tup] at h ⊢
    obtain ⟨a, vs, e, q, t⟩ := h
    exact ⟨a, vs, e, s.tup q, Rvs.stb s ds vs t⟩
  | .lst ds, _, h => by
    rw [rv_lst] at h ⊢
    obtain ⟨a, vs, e, n, q, t⟩ := h
    exact ⟨a, vs, e, n, s _ _ q fun _ _ => n, Rvs.stb s ds vs t⟩
  | .scr _, _, h => by
    rw [rv_scr] at h ⊢
    obtain ⟨a, e, q⟩ := h
    refine ⟨a, e, ?_⟩
    rcases q with ⟨o, q⟩ | q
    · exact .inl ⟨o, s _ _ q fun _ z => nomatch z⟩
    · exact .inr q
  | .src, _, h => by rw [rv_src] at h ⊢; exact h
  | .ty _, _, h => by rw [rv_ty] at h ⊢; exact h
  | .cls _, _, h => by rw [rv_cls] at h ⊢; exact h
theorem Rvs.stb (s : Stb N H H') : ∀ (ds : List D) (vs : List V), Rvs K sa N H ds vs → Rvs K sa N H' ds vs
  | [], _, h => by rw [rvs_nil] at h ⊢; exact h
  | d :: ds, _, h => by
    rw [rvs_cons] at h ⊢
    obtain ⟨v, r, e, h1, t⟩ := h
    exact ⟨v, r, e, Rv.stb s d v h1, Rvs.stb s ds r t⟩
end
-- another N: no list of the heap comes in anew
mutual
theorem Rv.exc (s : ∀ b vs, N' b → H b = some (.lst vs) → N b) : ∀ (d : D) (v : V), Rv K sa N H d v → Rv K sa N' H d v
  | .non, _, h => by rw [rv_non] at h ⊢; exact h
  | .bl _, _, h => by rw [rv_bl] at h ⊢; exact h
  | .int _, _, h => by rw [rv_int] at h ⊢; exact h
  | .str _, _, h => by rw [rv_str] at h ⊢; exact h
  | .tup ds, _, h => by
    rw [rv_tup] at h ⊢
    obtain ⟨a, vs, e, q, t⟩ := h
    exact ⟨a, vs, e, q, Rvs.exc s ds vs t⟩
  | .lst ds, _, h => by
    rw [rv_lst] at h ⊢
    obtain ⟨a, vs, e, n, q, t⟩ := h
    exact ⟨a, vs, e, fun z => n (s a vs z q), q, Rvs.exc s ds vs t⟩
  | .scr _, _, h => by rw [rv_scr] at h ⊢; exact h
  | .src, _, h => by rw [rv_src] at h ⊢; exact h
  | .ty _, _, h => by rw [rv_ty] at h ⊢; exact h
  | .cls _, _, h => by rw [rv_cls] at h ⊢; exact h
theorem Rvs.exc (s : ∀ b vs, N' b → H b = some (.lst vs) → N b) : ∀ (ds : List D) (vs : List V), Rvs K sa N H ds vs → Rvs K sa N' H ds vs
  | [], _, h => by rw [rvs_nil] at h ⊢; exact h
  | d :: ds, _, h => by
    rw [rvs_cons] at h ⊢
    obtain ⟨v, r, e, h1, t⟩ := h
    exact ⟨v, r, e, Rv.exc s d v h1, Rvs.exc s ds r t⟩
end
theorem Rv.mono {d : D} {v : V} (h : Rv K sa N H d v) (s : ∀ b, N' b → N b) : Rv K sa N' H d v := Rv.exc (fun b _ z _ => s b z) d v h
theorem Rvs.mono {ds : List D} {vs : List V} (h : Rvs K sa N H ds vs) (s : ∀ b, N' b → N b) : Rvs K sa N' H ds vs := Rvs.exc (fun b _ z _ => s b z) ds vs h
-- flat data holds no list
mutual
theorem Rv.flat : ∀ (d : D) (v : V), d.flat = true → Rv K sa N H d v → Rv K sa' N' H d v
  | .non, _, _, h => by rw [rv_non] at h ⊢; exact h
  | .bl _, _, _, h => by rw [rv_bl] at h ⊢; exact h
  | .int _, _, _, h => by rw [rv_int] at h ⊢; exact h
  | .str _, _, _, h => by rw [rv_str] at h ⊢; exact h
  | .tup ds, _, f, h => by
    rw [rv_tup] at h ⊢
    obtain ⟨a, vs, e, q, t⟩ := h
    exact ⟨a, vs, e, q, Rvs.flat ds vs (by simpa [D.flat] using f) t⟩
  | .lst ds, _, f, h => by simp [D.flat] at f
  | .scr _, _, _, h => by rw [rv_scr] at h ⊢; exact h
  | .src, _, f, h => by simp [D.flat] at f
  | .ty _, _, _, h => by rw [rv_ty] at h ⊢; exact h
  | .cls _, _, _, h => by rw [rv_cls] at h ⊢; exact h
theorem Rvs.flat : ∀ (ds : List D) (vs : List V), D.flats ds = true → Rvs K sa N H ds vs → Rvs K sa' N' H ds vs
  | [], _, _, h => by rw [rvs_nil] at h ⊢; exact h
  | d :: ds, _, f, h => by
    rw [rvs_cons] at h ⊢
    obtain ⟨v, r, e, h1, t⟩ := h
    rw [flats_cons, Bool.and_eq_true] at f
    exact ⟨v, r, e, Rv.flat d v f.1 h1, Rvs.flat ds r f.2 t⟩
end
theorem rvs_ints : ∀ {ns : List Int}, Rvs K sa N H (ns.map D.int) (ns.map V.int)
  | [] => Rvs.nil
  | n :: ns => by
    rw [List.map_cons, List.map_cons]
    exact Rvs.cons (by rw [rv_int]) rvs_ints
theorem Rvs.ints : ∀ {ns : List Int} {vs : List V}, Rvs K sa N H (ns.map D.int) vs → vs = ns.map V.int
  | [], _, h => by rw [List.map_nil, rvs_nil] at h; exact h
  | n :: ns, _, h => by
    rw [List.map_cons, rvs_cons] at h
    obtain ⟨v, r, rfl, h1, t⟩ := h
    rw [rv_int] at h1
    rw [h1, Rvs.ints t, List.map_cons]
end
end VL
/-! VL: the state of a def as data, judgements, composition. -/
namespace VL
open PySem L2

/-- what a slot holds: nothing, data, or a list of its own that may be changed -/
inductive Sl where
  | non | val (d : D) | own (ds : List D)
abbrev Env := List Sl
/-- where an answer's lists stand: anywhere | not among the own ones | new since the def's entry | new -/
inductive Md where
  | tn | cl | nw | fr
def Md.isCl : Md → Bool
  | .cl => true
  | .fr => true
  | _ => false
def Md.isNw : Md → Bool
  | .nw => true
  | .fr => true
  | _ => false

structure Gh where
  lf : Bool
  sae : Option Addr
  sa : Option Addr
  N0 : Addr → Prop
  H0 : Hp
  KP : Addr → HO → Prop
  os : List (Option Addr)
def Gh.saN (G : Gh) : Addr → Prop := fun b => G.sa = some b
def Gh.n0N (G : Gh) : Addr → Prop := fun b => G.N0 b ∨ G.sa = some b
def Gh.clN (G : Gh) : Addr → Prop := fun b => G.N0 b ∨ some b ∈ G.os ∨ G.sa = some b
def dom (H : Hp) : Addr → Prop := fun b => H b ≠ none
def excl (G : Gh) (H : Hp) : Md → Addr → Prop
  | .tn => G.n0N
  | .cl => G.clN
  | .nw => fun b => dom G.H0 b ∨ G.sa = some b
  | .fr => dom H
def Sm (y : Int) : Prop := -(2 ^ 64) < y ∧ y < 2 ^ 64
def SrcOk (sa : Option Addr) (H : Hp) : Prop := ∀ a, sa = some a → ∃ (x : Int) (y : { y : Int // Sm y }), H a = some (.lst [.int x, .int y.1])

def SlOk (K : PySem.W.Frag) (G : Gh) (H : Hp) (s : Sl) (v : Option V) (o : Option Addr) : Prop := match s with
  | .non => o = none
  | .val d => o = none ∧ ∃ w, v = some w ∧ Rv K G.sa G.clN H d w
  | .own ds => ∃ l vs, o = some l ∧ v = some (.ref l) ∧ H l = some (.lst vs) ∧ D.flats ds = true ∧ Rvs K G.sa G.clN H ds vs

structure St (K : PySem.W.Frag) (G : Gh) (σ : L2.St) (H : Hp) (ρ : Env) : Prop where
  lσ : σ.length = ρ.length
  lo : G.os.length = ρ.length
  n0 : ∀ b, G.N0 b → dom G.H0 b
  h0 : ∀ b, dom G.H0 b → dom H b
  k0 : ∀ b o, G.H0 b = some o → (∀ xs, o = .lst xs → G.sae ≠ some b) → G.KP b o
  kp : ∀ b o, G.KP b o → H b = some o
  src : SrcOk G.sa H
  sre : SrcOk G.sae H
  sak : ∀ a o, G.sa = some a → ¬ G.KP a o
  sal : G.lf = false → G.sa = G.sae
  sal2 : G.lf = true → G.sae = none
  nd : ∀ (i j : Nat) l, G.os[i]? = some (some l) → G.os[j]? = some (some l) → i = j
  fr : ∀ l, some l ∈ G.os → G.H0 l = none ∧ G.sa ≠ some l ∧ ∀ o, ¬ G.KP l o
  slot : ∀ (i : Nat) s v o, ρ[i]? = some s → σ[i]? = some v → G.os[i]? = some o → SlOk K G H s v o

section
variable {K : PySem.W.Frag} {G : Gh} {σ : L2.St} {H H' : Hp} {ρ : Env}
theorem SrcOk.stb {sa : Option Addr} {N : Addr → Prop} (h : SrcOk sa H) (s : Stb N H H') (n : ∀ a, sa = some a → ¬ N a) : SrcOk sa H' := fun a e => by
  obtain ⟨x, y, q⟩ := h a e
  exact ⟨x, y, s _ _ q fun _ _ => n a e⟩
theorem dom_stb {N : Addr → Prop} (s : Stb N H H') (h : ∀ b, N b → H' b ≠ none) : ∀ b, dom H b → dom H' b := fun b d => by
  cases e : H b with
  | none => exact absurd e d
  | some o =>
    by_cases n : N b
    · exact h b n
    · intro z
      rw [s b o e fun _ _ => n] at z
      cases z
theorem SlOk.stb {s : Sl} {v : Option V} {o : Option Addr} (h : SlOk K G H s v o) (sb : Stb G.saN H H') (ne : ∀ l, o = some l → G.sa ≠ some l) : SlOk K G H' s v o := by
  have sb' : Stb G.clN H H' := sb.mono fun b z => .inr (.inr z)
  cases s with
  | non => exact h
  | val d =>
    obtain ⟨e, w, e1, r⟩ := h
    exact ⟨e, w, e1, Rv.stb sb' d w r⟩
  | own ds =>
    obtain ⟨l, vs, e, e1, q, f, r⟩ := h
    exact ⟨l, vs, e, e1, sb _ _ q fun _ _ => ne l e, f, Rvs.stb sb' ds vs r⟩
theorem mem_of_get? {α : Type} {l : List α} {i : Nat} {a : α} (h : l[i]? = some a) : a ∈ l := List.mem_of_getElem? h
/-- the source's list may have turned, new things may have come -/
theorem St.grow (st : St K G σ H ρ) (sb : Stb G.saN H H') (so : SrcOk G.sa H') : St K G σ H' ρ where
  lσ := st.lσ
  lo := st.lo
  n0 := st.n0
  h0 := fun b d => dom_stb sb (fun b z => by obtain ⟨x, y, e⟩ := so b z; rw [e]; exact fun q => nomatch q) b (st.h0 b d)
  k0 := st.k0
  kp := fun b o k => sb b o (st.kp b o k) fun _ _ z => st.sak b o z k
  src := so
  sre := by
    cases hl : G.lf with
    | false => rw [← st.sal hl]; exact so
    | true =>
      intro a e
      by_cases z : G.sa = some a
      · exact so a z
      · obtain ⟨x, y, q⟩ := st.sre a e
        exact ⟨x, y, sb _ _ q fun _ _ => z⟩
  sak := st.sak
  sal := st.sal
  sal2 := st.sal2
  nd := st.nd
  fr := st.fr
  slot := fun i s v o e1 e2 e3 => (st.slot i s v o e1 e2 e3).stb sb fun l z => by
    subst z
    exact (st.fr l (mem_of_get? e3)).2.1
theorem St.osD (st : St K G σ H ρ) {l : Addr} (h : some l ∈ G.os) : dom H l := by
  obtain ⟨i, hi, e⟩ := List.getElem_of_mem h
  have e3 : G.os[i]? = some (some l) := by rw [List.getElem?_eq_getElem hi, e]
  have h1 : i < ρ.length := by rw [← st.lo]; exact hi
  have h2 : i < σ.length := by rw [st.lσ]; exact h1
  have q := st.slot i ρ[i] σ[i] (some l) (List.getElem?_eq_getElem h1) (List.getElem?_eq_getElem h2) e3
  cases hs : ρ[i] with
  | non => rw [hs] at q; cases (show some l = none from q)
  | val d => rw [hs] at q; cases q.1
  | own ds =>
    rw [hs] at q
    obtain ⟨l', vs, e, _, q, _⟩ := q
    cases e
    exact fun z => by rw [q] at z; cases z
theorem St.saD (st : St K G σ H ρ) {a : Addr} (h : G.sa = some a) : dom H a := by
  obtain ⟨x, y, e⟩ := st.src a h
  exact fun z => by rw [e] at z; cases z
/-- every mode's lists lie without the own ones' .. -/
theorem St.clD (st : St K G σ H ρ) : ∀ b, G.clN b → dom H b := fun b z => by
  rcases z with z | z | z
  · exact st.h0 b (st.n0 b z)
  · exact st.osD z
  · exact st.saD z
theorem excl_n0 (st : St K G σ H ρ) (m : Md) : ∀ b, G.n0N b → excl G H m b := fun b z => by
  cases m with
  | tn => exact z
  | cl => rcases z with z | z; exact .inl z; exact .inr (.inr z)
  | nw => rcases z with z | z; exact .inl (st.n0 b z); exact .inr z
  | fr => rcases z with z | z; exact st.clD b (.inl z); exact st.clD b (.inr (.inr z))
theorem excl_sa (st : St K G σ H ρ) (m : Md) : ∀ b, G.saN b → excl G H m b := fun b z => excl_n0 st m b (.inr z)
theorem excl_cl (st : St K G σ H ρ) {m : Md} (h : m.isCl = true) : ∀ b, G.clN b → excl G H m b := fun b z => by
  cases m with
  | tn => cases h
  | cl => exact z
  | nw => cases h
  | fr => exact st.clD b z
end

def Md.meet : Md → Md → Md
  | .fr, m => m
  | m, .fr => m
  | .cl, .cl => .cl
  | .nw, .nw => .nw
  | _, _ => .tn
section
variable {K : PySem.W.Frag} {G : Gh} {σ : L2.St} {H : Hp} {ρ : Env}
theorem excl_fr (st : St K G σ H ρ) (m : Md) : ∀ b, excl G H m b → dom H b := fun b z => by
  cases m with
  | tn => rcases z with z | z; exact st.clD b (.inl z); exact st.clD b (.inr (.inr z))
  | cl => exact st.clD b z
  | nw => rcases z with z | z; exact st.h0 b z; exact st.clD b (.inr (.inr z))
  | fr => exact z
theorem excl_meet1 (st : St K G σ H ρ) (m m' : Md) : ∀ b, excl G H (m.meet m') b → excl G H m b := fun b z => by
  cases m with
  | fr => cases m' <;> exact excl_fr st _ b z
  | tn => cases m' <;> exact z
  | cl => cases m' <;> first | exact z | exact excl_n0 st _ b z
  | nw => cases m' <;> first | exact z | exact excl_n0 st _ b z
theorem excl_meet2 (st : St K G σ H ρ) (m m' : Md) : ∀ b, excl G H (m.meet m') b → excl G H m' b := fun b z => by
  cases m' with
  | fr => cases m <;> exact excl_fr st _ b z
  | tn => cases m <;> exact z
  | cl => cases m <;> first | exact z | exact excl_n0 st _ b z
  | nw => cases m <;> first | exact z | exact excl_n0 st _ b z
end

/-! ### expressions -/
abbrev E1 := Env → (D → Md → Prop) → Prop
abbrev T1 := Env → (Bool → Prop) → Prop
abbrev A1 := Env → (List D → Md → Prop) → Prop
def lift (K : PySem.W.Frag) (t : E1) : TE := fun σ H Q => ∃ G ρ, St K G σ H ρ ∧ t ρ fun d m => ∀ v H', Stb G.saN H H' → SrcOk G.sa H' → Rv K G.sa (excl G H m) H' d v → Q v H'
def liftT (K : PySem.W.Frag) (t : T1) : TT := fun σ H Q => ∃ G ρ, St K G σ H ρ ∧ t ρ fun b => ∀ H', Stb G.saN H H' → SrcOk G.sa H' → Q b H'
def liftA (K : PySem.W.Frag) (t : A1) : TA := fun σ H Q => ∃ G ρ, St K G σ H ρ ∧ t ρ fun ds c => ∀ vs H', Stb G.saN H H' → SrcOk G.sa H' → Rvs K G.sa (excl G H c) H' ds vs → Q vs H'
structure VE (X : Cx) (e : Expr) (t : E1) : Prop where
  pe : PE X e (lift X.K t)
  mono : ∀ ρ Q Q', (∀ d m, Q d m → Q' d m) → t ρ Q → t ρ Q'
structure VT (X : Cx) (e : Expr) (t : T1) : Prop where
  pt : PT X e (liftT X.K t)
  mono : ∀ ρ Q Q', (∀ b, Q b → Q' b) → t ρ Q → t ρ Q'
structure VW (X : Cx) (e : Expr) (t : T1) : Prop where
  pw : PW X e (liftT X.K t)
  mono : ∀ ρ Q Q', (∀ b, Q b → Q' b) → t ρ Q → t ρ Q'
structure VA (X : Cx) (es : List Expr) (t : A1) : Prop where
  pa : PA X es (liftA X.K t)
  mono : ∀ ρ Q Q', (∀ d m, Q d m → Q' d m) → t ρ Q → t ρ Q'

theorem PE.imp {X : Cx} {e : Expr} {t t' : TE} (h : PE X e t) (i : ∀ σ H Q, t' σ H Q → t σ H Q) : PE X e t' := ⟨fun pins s σ H Q I q => h.run pins s σ H Q I (i σ H Q q)⟩
theorem PT.imp {X : Cx} {e : Expr} {t t' : TT} (h : PT X e t) (i : ∀ σ H Q, t' σ H Q → t σ H Q) : PT X e t' := ⟨fun pins s σ H Q I q => h.run pins s σ H Q I (i σ H Q q)⟩
theorem PW.imp {X : Cx} {e : Expr} {t t' : TT} (h : PW X e t) (i : ∀ σ H Q, t' σ H Q → t σ H Q) : PW X e t' := ⟨fun wh pins s σ H Q I q => h.run wh pins s σ H Q I (i σ H Q q)⟩
theorem PA.imp {X : Cx} {es : List Expr} {t t' : TA} (h : PA X es t) (i : ∀ σ H Q, t' σ H Q → t σ H Q) : PA X es t' := ⟨fun pos pins s σ H Q I q => h.run pos pins s σ H Q I (i σ H Q q)⟩
theorem PS.imp {X : Cx} {st : Stmt} {t t' : TS} (h : PS X st t) (i : ∀ D σ H, t' D σ H → t D σ H) : PS X st t' := ⟨fun pins s σ H D I q => h.run pins s σ H D I (i D σ H q)⟩
theorem PSs.imp {X : Cx} {st : List Stmt} {t t' : TS} (h : PSs X st t) (i : ∀ D σ H, t' D σ H → t D σ H) : PSs X st t' := ⟨fun pins s σ H D I q => h.run pins s σ H D I (i D σ H q)⟩

section
variable {K : PySem.W.Frag} {G : Gh} {σ : L2.St} {H : Hp} {ρ : Env}
theorem lift_of {t : E1} {Qa : D → Md → Prop} {Q : VK} (mono : ∀ ρ Q Q', (∀ d m, Q d m → Q' d m) → t ρ Q → t ρ Q') (st : St K G σ H ρ) (h : t ρ Qa)
    (k : ∀ d m, Qa d m → ∀ v H', Stb G.saN H H' → SrcOk G.sa H' → St K G σ H' ρ → Rv K G.sa (excl G H m) H' d v → Q v H') : lift K t σ H Q :=
  ⟨G, ρ, st, mono _ _ _ (fun d m q v H' s so r => k d m q v H' s so (st.grow s so) r) h⟩
theorem liftT_of {t : T1} {Qa : Bool → Prop} {Q : Bool → Hp → Prop} (mono : ∀ ρ Q Q', (∀ b, Q b → Q' b) → t ρ Q → t ρ Q') (st : St K G σ H ρ) (h : t ρ Qa)
    (k : ∀ b, Qa b → ∀ H', Stb G.saN H H' → SrcOk G.sa H' → St K G σ H' ρ → Q b H') : liftT K t σ H Q :=
  ⟨G, ρ, st, mono _ _ _ (fun b q H' s so => k b q H' s so (st.grow s so)) h⟩
theorem liftA_of {t : A1} {Qa : List D → Md → Prop} {Q : List V → Hp → Prop} (mono : ∀ ρ Q Q', (∀ d m, Q d m → Q' d m) → t ρ Q → t ρ Q') (st : St K G σ H ρ) (h : t ρ Qa)
    (k : ∀ ds c, Qa ds c → ∀ vs H', Stb G.saN H H' → SrcOk G.sa H' → St K G σ H' ρ → Rvs K G.sa (excl G H c) H' ds vs → Q vs H') : liftA K t σ H Q :=
  ⟨G, ρ, st, mono _ _ _ (fun d m q v H' s so r => k d m q v H' s so (st.grow s so) r) h⟩
theorem dom_grow (st : St K G σ H ρ) {H' : Hp} (s : Stb G.saN H H') (so : SrcOk G.sa H') : ∀ b, dom H b → dom H' b :=
  dom_stb s fun b z => by obtain ⟨x, y, e⟩ := so b z; rw [e]; exact fun q => nomatch q
/-- the mode as it was ahead of an expression -/
theorem excl_back (st : St K G σ H ρ) {H' : Hp} (s : Stb G.saN H H') (so : SrcOk G.sa H') (m : Md) : ∀ b, excl G H m b → excl G H' m b := fun b z => by
  cases m with
  | tn => exact z
  | cl => exact z
  | nw => exact z
  | fr => exact dom_grow st s so b z
theorem SrcOk.same {sa : Option Addr} {H H' : Hp} (h : SrcOk sa H) (s : Same H H') : SrcOk sa H' := fun a e => by
  obtain ⟨x, y, q⟩ := h a e
  exact ⟨x, y, s _ _ q⟩
end

/-! ### a value operation: what it makes is new -/
/-- r (by values) does what f says of the data -/
def OpV (K : PySem.W.Frag) (r : R2) (f : D → D → (D → Prop) → Prop) : Prop := ∀ (sa : Option Addr) (H : Hp) x y v w (q : D → Prop) (Q : VK), Rv K sa (fun b => sa = some b) H x v → Rv K sa (fun b => sa = some b) H y w → f x y q →
  (∀ d z H', q d → Same H H' → Rv K sa (dom H) H' d z → Q z H') → r v w H Q
def MonoB (f : D → D → (D → Prop) → Prop) : Prop := ∀ x y q q', (∀ d, q d → q' d) → f x y q → f x y q'
def eBin (f : D → D → (D → Prop) → Prop) (ta tb : E1) : E1 := fun ρ Q => ta ρ fun x _ => tb ρ fun y _ => f x y fun d => Q d .fr
section
variable {X : Cx} {K : PySem.W.Frag} {a b : Expr} {ta tb : E1} {pos : Pos} {f : D → D → (D → Prop) → Prop} {r : R2}
theorem tOp_lift (hk : OpV K r f) (ma : ∀ ρ Q Q', (∀ d m, Q d m → Q' d m) → ta ρ Q → ta ρ Q') (mb : ∀ ρ Q Q', (∀ d m, Q d m → Q' d m) → tb ρ Q → tb ρ Q') :
    ∀ σ H Q, lift K (eBin f ta tb) σ H Q → tOp r (lift K ta) (lift K tb) σ H Q := by
  rintro σ H Q ⟨G, ρ, st, h⟩
  refine lift_of ma st h fun x m hx v H1 g1 s1 st1 r1 => ?_
  refine lift_of mb st1 hx fun y m2 hy w H2 g2 s2 st2 r2 => ?_
  refine hk G.sa H2 x y v w _ Q (Rv.stb g2 x v (r1.mono (excl_sa st m))) (r2.mono (excl_sa st1 m2)) hy fun d z H3 hq sm r3 => ?_
  exact hq z H3 ((g1.trans g2).trans (Stb.same sm)) (s2.same sm) (r3.mono fun c z => dom_grow st1 g2 s2 c (dom_grow st g1 s1 c z))
theorem eBin_mono (mf : MonoB f) (ma : ∀ ρ Q Q', (∀ d m, Q d m → Q' d m) → ta ρ Q → ta ρ Q') (mb : ∀ ρ Q Q', (∀ d m, Q d m → Q' d m) → tb ρ Q → tb ρ Q') :
    ∀ ρ Q Q', (∀ d m, Q d m → Q' d m) → eBin f ta tb ρ Q → eBin f ta tb ρ Q' := fun ρ Q Q' k h =>
  ma ρ _ _ (fun x _ h => mb ρ _ _ (fun y _ h => mf x y _ _ (fun d q => k d .fr q) h) h) h
end
end VL
/-! VL: expressions without calls of one's own. -/
namespace VL
open PySem L2

/-! ### equality of data -/
mutual
def D.eqb : D → D → Bool
  | .non, .non => true
  | .bl a, .bl b => a == b
  | .bl a, .int j => (if a then 1 else 0) == j
  | .int i, .bl b => i == (if b then 1 else 0)
  | .int i, .int j => i == j
  | .str x, .str y => x == y
  | .lst xs, .lst ys => D.eqbs xs ys
  | .tup xs, .tup ys => D.eqbs xs ys
  | _, _ => false
def D.eqbs : List D → List D → Bool
  | [], [] => true
  | x :: xs, y :: ys => D.eqb x y && D.eqbs xs ys
  | _, _ => false
end
mutual
def D.py : D → PyData
  | .non => .none
  | .bl b => .bool b
  | .int i => .int i
  | .str x => .str x
  | .tup ds => .tuple (D.pys ds)
  | .lst ds => .list (D.pys ds)
  | .scr _ => .none
  | .src => .none
  | .ty _ => .none
  | .cls _ => .none
def D.pys : List D → List PyData
  | [] => []
  | d :: ds => d.py :: D.pys ds
end
/-- of at most so many levels, without the script and the source -/
def D.shp : Nat → D → Bool
  | _, .non => true
  | _, .bl _ => true
  | _, .int _ => true
  | _, .str x => PyData.strOk x
  | n + 1, .tup ds => ds.all fun d => D.shp n d
  | n + 1, .lst ds => ds.all fun d => D.shp n d
  | _, _ => false
theorem pys_map : ∀ ds : List D, D.pys ds = ds.map D.py
  | [] => by simp [D.pys]
  | d :: ds => by simp [D.pys, pys_map ds]
theorem eqbs_cons (x y : D) (xs ys : List D) : D.eqbs (x :: xs) (y :: ys) = (D.eqb x y && D.eqbs xs ys) := by simp [D.eqbs]
theorem canLayAll0_all : ∀ ds : List PyData, PyData.canLayAll0 ds = ds.all PyData.canLay0
  | [] => by simp [PyData.canLayAll0]
  | d :: ds => by simp [PyData.canLayAll0, canLayAll0_all ds]
theorem depthAll_le {n : Nat} : ∀ ds : List PyData, (∀ d ∈ ds, d.depth ≤ n) → PyData.depthAll ds ≤ n
  | [], _ => by simp [PyData.depthAll]
  | d :: ds, h => by
    have h1 := h d List.mem_cons_self
    have h2 := depthAll_le ds fun e he => h e (List.mem_cons_of_mem _ he)
    simp only [PyData.depthAll]
    omega
theorem shp_py : ∀ (n : Nat) (d : D), D.shp n d = true → d.py.canLay0 = true ∧ d.py.depth ≤ n
  | n, .non, _ => by simp [D.py, PyData.canLay0, PyData.depth]
  | n, .bl _, _ => by simp [D.py, PyData.canLay0, PyData.depth]
  | n, .int _, _ => by simp [D.py, PyData.canLay0, PyData.depth]
  | n, .str x, h => by
    have h' : PyData.strOk x = true := by cases n <;> simpa [D.shp] using h
    simp [D.py, PyData.canLay0, PyData.depth, h']
  | 0, .tup _, h => by simp [D.shp] at h
  | 0, .lst _, h => by simp [D.shp] at h
  | n + 1, .tup ds, h => by
    have h' : ∀ d ∈ ds, D.shp n d = true := by simpa [D.shp] using h
    simp only [D.py, PyData.canLay0, PyData.depth, pys_map, canLayAll0_all]
    refine ⟨?_, Nat.succ_le_succ (depthAll_le _ fun e he => ?_)⟩
    · rw [List.all_map, List.all_eq_true]
      exact fun d hd => (shp_py n d (h' d hd)).1
    · obtain ⟨d, hd, rfl⟩ := List.mem_map.mp he
      exact (shp_py n d (h' d hd)).2
  | n + 1, .lst ds, h => by
    have h' : ∀ d ∈ ds, D.shp n d = true := by simpa [D.shp] using h
    simp only [D.py, PyData.canLay0, PyData.depth, pys_map, canLayAll0_all]
    refine ⟨?_, Nat.succ_le_succ (depthAll_le _ fun e he => ?_)⟩
    · rw [List.all_map, List.all_eq_true]
      exact fun d hd => (shp_py n d (h' d hd)).1
    · obtain ⟨d, hd, rfl⟩ := List.mem_map.mp he
      exact (shp_py n d (h' d hd)).2
  | 0, .scr _, h => by simp [D.shp] at h
  | 0, .src, h => by simp [D.shp] at h
  | n + 1, .scr _, h => by simp [D.shp] at h
  | n + 1, .src, h => by simp [D.shp] at h
  | 0, .ty _, h => by simp [D.shp] at h
  | 0, .cls _, h => by simp [D.shp] at h
  | n + 1, .ty _, h => by simp [D.shp] at h
  | n + 1, .cls _, h => by simp [D.shp] at h
section
variable {K : PySem.W.Frag} {sa : Option Addr} {N : Addr → Prop} {H : Hp}
mutual
theorem Rv.dp : ∀ (n : Nat) (d : D) (v : V), D.shp n d = true → Rv K sa N H d v → Dp K H v d.py
  | n, .non, _, _, h => by rw [rv_non] at h; subst h; simp only [D.py]; exact .non
  | n, .bl b, _, _, h => by rw [rv_bl] at h; subst h; simp only [D.py]; exact .bl b
  | n, .int i, _, _, h => by rw [rv_int] at h; subst h; simp only [D.py]; exact .int i
  | n, .str x, _, _, h => by rw [rv_str] at h; subst h; simp only [D.py]; exact .str x
  | 0, .tup _, _, h, _ => by simp [D.shp] at h
  | 0, .lst _, _, h, _ => by simp [D.shp] at h
  | n + 1, .tup ds, _, h, r => by
    rw [rv_tup] at r
    obtain ⟨a, vs, rfl, q, t⟩ := r
    simp only [D.py]
    exact .tup q (Rvs.dp n ds vs (by simpa [D.shp] using h) t)
  | n + 1, .lst ds, _, h, r => by
    rw [rv_lst] at r
    obtain ⟨a, vs, rfl, _, q, t⟩ := r
    simp only [D.py]
    exact .lst (SqL.of q) (Rvs.dp n ds vs (by simpa [D.shp] using h) t)
  | 0, .scr _, _, h, _ => by simp [D.shp] at h
  | 0, .src, _, h, _ => by simp [D.shp] at h
  | n + 1, .scr _, _, h, _ => by simp [D.shp] at h
  | n + 1, .src, _, h, _ => by simp [D.shp] at h
  | 0, .ty _, _, h, _ => by simp [D.shp] at h
  | 0, .cls _, _, h, _ => by simp [D.shp] at h
  | n + 1, .ty _, _, h, _ => by simp [D.shp] at h
  | n + 1, .cls _, _, h, _ => by simp [D.shp] at h
theorem Rvs.dp : ∀ (n : Nat) (ds : List D) (vs : List V), (∀ d ∈ ds, D.shp n d = true) → Rvs K sa N H ds vs → DpAll K H vs (D.pys ds)
  | n, [], _, _, h => by rw [rvs_nil] at h; subst h; simp only [D.pys]; exact .nil
  | n, d :: ds, _, s, h => by
    rw [rvs_cons] at h
    obtain ⟨v, r, rfl, h1, t⟩ := h
    simp only [D.pys]
    exact .cons (Rv.dp n d v (s d List.mem_cons_self) h1) (Rvs.dp n ds r (fun e he => s e (List.mem_cons_of_mem _ he)) t)
end
end
mutual
theorem eqv_py : ∀ (n m : Nat) (x y : D), D.shp n x = true → D.shp m y = true → PyData.eqv x.py y.py = D.eqb x y
  | n, m, .non, y, _, h => by cases y <;> first | (simp [D.py, D.eqb, PyData.eqv]; done) | (cases m <;> simp [D.shp] at h)
  | n, m, .bl _, y, _, h => by cases y <;> first | (simp [D.py, D.eqb, PyData.eqv]; done) | (cases m <;> simp [D.shp] at h)
  | n, m, .int _, y, _, h => by cases y <;> first | (simp [D.py, D.eqb, PyData.eqv]; done) | (cases m <;> simp [D.shp] at h)
  | n, m, .str _, y, _, h => by cases y <;> first | (simp [D.py, D.eqb, PyData.eqv]; done) | (cases m <;> simp [D.shp] at h)
  | n, m, .tup xs, y, hx, h => by
    cases y with
    | tup ys =>
      simp only [D.py, D.eqb, PyData.eqv]
      cases n with
      | zero => simp [D.shp] at hx
      | succ n =>
        cases m with
        | zero => simp [D.shp] at h
        | succ m => exact eqv_pys n m xs ys (by simpa [D.shp] using hx) (by simpa [D.shp] using h)
    | _ => first | (simp [D.py, D.eqb, PyData.eqv]; done) | (cases m <;> simp [D.shp] at h)
  | n, m, .lst xs, y, hx, h => by
    cases y with
    | lst ys =>
      simp only [D.py, D.eqb, PyData.eqv]
      cases n with
      | zero => simp [D.shp] at hx
      | succ n =>
        cases m with
        | zero => simp [D.shp] at h
        | succ m => exact eqv_pys n m xs ys (by simpa [D.shp] using hx) (by simpa [D.shp] using h)
    | _ => first | (simp [D.py, D.eqb, PyData.eqv]; done) | (cases m <;> simp [D.shp] at h)
  | n, m, .scr _, _, h, _ => by cases n <;> simp [D.shp] at h
  | n, m, .src, _, h, _ => by cases n <;> simp [D.shp] at h
  | n, m, .ty _, _, h, _ => by cases n <;> simp [D.shp] at h
  | n, m, .cls _, _, h, _ => by cases n <;> simp [D.shp] at h
theorem eqv_pys : ∀ (n m : Nat) (xs ys : List D), (∀ d ∈ xs, D.shp n d = true) → (∀ d ∈ ys, D.shp m d = true) → PyData.eqvAll (D.pys xs) (D.pys ys) = D.eqbs xs ys
  | n, m, [], [], _, _ => by simp [D.pys, D.eqbs, PyData.eqvAll]
  | n, m, [], y :: ys, _, _ => by simp [D.pys, D.eqbs, PyData.eqvAll]
  | n, m, x :: xs, [], _, _ => by simp [D.pys, D.eqbs, PyData.eqvAll]
  | n, m, x :: xs, y :: ys, hx, hy => by
    simp only [D.pys, D.eqbs, PyData.eqvAll]
    rw [eqv_py n m x y (hx x List.mem_cons_self) (hy y List.mem_cons_self), eqv_pys n m xs ys (fun e he => hx e (List.mem_cons_of_mem _ he)) (fun e he => hy e (List.mem_cons_of_mem _ he))]
end
/-- equal lists of data that is told apart by a function -/
theorem eqbs_map {α : Type} [DecidableEq α] (f : α → D) (h : ∀ a b, D.eqb (f a) (f b) = decide (a = b)) : ∀ xs ys : List α, D.eqbs (xs.map f) (ys.map f) = decide (xs = ys)
  | [], [] => by simp [D.eqbs]
  | [], y :: ys => by simp [D.eqbs]
  | x :: xs, [] => by simp [D.eqbs]
  | x :: xs, y :: ys => by
    rw [List.map_cons, List.map_cons, eqbs_cons, h, eqbs_map f h xs ys]
    by_cases e1 : x = y <;> by_cases e2 : xs = ys <;> simp [e1, e2]
theorem eqb_int (i j : Int) : D.eqb (.int i) (.int j) = decide (i = j) := by
  simp only [D.eqb]
  exact Bool.beq_eq_decide_eq i j
theorem eqbs_ints (xs ys : List Int) : D.eqbs (xs.map D.int) (ys.map D.int) = decide (xs = ys) := eqbs_map _ eqb_int xs ys
theorem eqb_tupints (a b : List Int) : D.eqb (.tup (a.map D.int)) (.tup (b.map D.int)) = decide (a = b) := by
  simp only [D.eqb]
  exact eqbs_ints a b

/-! ### names and constants -/
/-- scalars are new wherever they stand -/
def D.md : D → Md
  | .non => .fr
  | .bl _ => .fr
  | .int _ => .fr
  | .str _ => .fr
  | _ => .cl
theorem md_rv {K : PySem.W.Frag} {G : Gh} {H H' : Hp} {d : D} {v : V} (r : Rv K G.sa G.clN H' d v) : Rv K G.sa (excl G H d.md) H' d v := by
  cases d with
  | non => exact Rv.flat _ v rfl r
  | bl b => exact Rv.flat _ v rfl r
  | int b => exact Rv.flat _ v rfl r
  | str b => exact Rv.flat _ v rfl r
  | _ => exact r
def eVar (i : Nat) : E1 := fun ρ Q => match ρ[i]? with
  | some (.val d) => Q d d.md
  | some (.own ds) => Q (.lst ds) .nw
  | _ => False
def eC (d : D) : E1 := fun _ Q => Q d .fr
section
variable {X : Cx} {a b c : Expr} {ta tb tc : E1} {pos : Pos}
theorem St.slot' {K : PySem.W.Frag} {G : Gh} {σ : L2.St} {H : Hp} {ρ : Env} (st : St K G σ H ρ) {i : Nat} {s : Sl} (h : ρ[i]? = some s) : ∃ v o, σ[i]? = some v ∧ G.os[i]? = some o ∧ SlOk K G H s v o := by
  have h1 := (List.getElem?_eq_some_iff.mp h).1
  have h2 : i < σ.length := by rw [st.lσ]; exact h1
  have h3 : i < G.os.length := by rw [st.lo]; exact h1
  exact ⟨_, _, List.getElem?_eq_getElem h2, List.getElem?_eq_getElem h3, st.slot i s _ _ h (List.getElem?_eq_getElem h2) (List.getElem?_eq_getElem h3)⟩
theorem ve_of_pv {x : Str} {i : Nat} {p : Pos} (h : PE X (.Name x p) (tVar i)) : VE X (.Name x p) (eVar i) where
  pe := PE.imp h fun σ H Q ⟨G, ρ, st, k⟩ => by
    cases e : ρ[i]? with
    | none => simp [eVar, e] at k
    | some s =>
      obtain ⟨v, o, e1, e2, so⟩ := st.slot' e
      cases s with
      | non => simp [eVar, e] at k
      | val d =>
        obtain ⟨_, w, rfl, r⟩ := so
        have k' : ∀ v H', Stb G.saN H H' → SrcOk G.sa H' → Rv X.K G.sa (excl G H d.md) H' d v → Q v H' := by simpa [eVar, e] using k
        exact ⟨w, e1, k' w H (Stb.refl _ _) st.src (md_rv r)⟩
      | own ds =>
        obtain ⟨l, vs, rfl, rfl, q, f, r⟩ := so
        have k' : ∀ v H', Stb G.saN H H' → SrcOk G.sa H' → Rv X.K G.sa (excl G H .nw) H' (.lst ds) v → Q v H' := by simpa [eVar, e] using k
        refine ⟨_, e1, k' _ H (Stb.refl _ _) st.src ?_⟩
        obtain ⟨f1, f2, f3⟩ := st.fr l (mem_of_get? e2)
        rw [rv_lst]
        refine ⟨l, vs, rfl, fun z => ?_, q, Rvs.flat ds vs f r⟩
        rcases z with z | z
        · exact z f1
        · exact f2 z
  mono := fun ρ Q Q' k h => by
    unfold eVar at h ⊢
    split
    · rename_i d e; rw [e] at h; exact k _ _ h
    · rename_i d e; rw [e] at h; exact k _ _ h
    · rename_i h1 h2
      split at h
      · rename_i d e; exact absurd e (h1 d)
      · rename_i d e; exact absurd e (h2 d)
      · exact h
theorem vv (i : Nat) {x : Str} {pos : Pos} (hN : X.N[i]? = some x := by rfl) (hv : Vis X.env.scope x := by first | exact Or.inl rfl | exact Or.inr (Or.inl rfl) | exact Or.inr (Or.inr rfl)) (hd : (x == ("__debug__" : Str)) = false := by decide)
    (hcd : (x == ("__classdict__" : Str)) = false := by decide) : VE X (.Name x pos) (eVar i) := ve_of_pv (pe_var hN hv hd hcd)
theorem ve_const {e : Expr} {v : V} {d : D} (h : PE X e (tC v)) (hr : ∀ sa N H, Rv X.K sa N H d v) : VE X e (eC d) where
  pe := PE.imp h fun σ H Q ⟨G, ρ, st, k⟩ => k v H (Stb.refl _ _) st.src (hr _ _ _)
  mono := fun ρ Q Q' k h => k _ _ h
theorem ve_int {i j pos} : VE X (.Constant (.int i) j pos) (eC (.int i)) := ve_const pe_int fun _ _ _ => by rw [rv_int]
theorem ve_bl {b j pos} : VE X (.Constant (.bool b) j pos) (eC (.bl b)) := ve_const pe_bl fun _ _ _ => by rw [rv_bl]
theorem ve_non {j pos} : VE X (.Constant .none j pos) (eC .non) := ve_const pe_non fun _ _ _ => by rw [rv_non]
theorem ve_str {x j pos} : VE X (.Constant (.str x) j pos) (eC (.str x)) := ve_const pe_str fun _ _ _ => by rw [rv_str]
theorem ve_glob {x : Str} {i : Int} {u : Value} {pos : Pos} (hg : Gl X x) (hm : X.mg x = some u) (r : RelV (.int i) u) (hd : (x == ("__debug__" : Str)) = false := by decide) : VE X (.Name x pos) (eC (.int i)) :=
  ve_const (pe_glob hg hm r hd) fun _ _ _ => by rw [rv_int]

/-! ### two-place operations -/
theorem ve_op {op : Operator} {r : R2} {f : D → D → (D → Prop) → Prop} (ho : OpR X (binaryOp op) r) (hk : OpV X.K r f) (mf : MonoB f) (ha : VE X a ta) (hb : VE X b tb) : VE X (.BinOp a op b pos) (eBin f ta tb) :=
  ⟨PE.imp (pe_op ho ha.pe hb.pe) (tOp_lift hk ha.mono hb.mono), eBin_mono mf ha.mono hb.mono⟩
theorem ve_cmpR {op : CmpOp} {r : R2} {f : D → D → (D → Prop) → Prop} (ho : OpR X (compareOp op) r) (hk : OpV X.K r f) (mf : MonoB f) (ha : VE X a ta) (hb : VE X b tb) (hm : behindInMarks op b = false) : VE X (.Compare a [op] [b] pos) (eBin f ta tb) :=
  ⟨PE.imp (pe_cmpR ho ha.pe hb.pe hm) (tOp_lift hk ha.mono hb.mono), eBin_mono mf ha.mono hb.mono⟩
theorem ve_ixR {r : R2} {f : D → D → (D → Prop) → Prop} (ho : IxR X r) (hk : OpV X.K r f) (mf : MonoB f) (ha : VE X a ta) (hb : VE X b tb) (hs : PlainIx b) : VE X (.Subscript a b pos) (eBin f ta tb) :=
  ⟨PE.imp (pe_ix ho ha.pe hb.pe hs) (tOp_lift hk ha.mono hb.mono), eBin_mono mf ha.mono hb.mono⟩
end
/-- ints in, under C, and plain data out -/
def fI (C : Int → Int → Prop) (g : Int → Int → D) : D → D → (D → Prop) → Prop := fun x y q => match x, y with
  | .int i, .int j => C i j ∧ q (g i j)
  | _, _ => False
theorem fI_mono {C : Int → Int → Prop} {g : Int → Int → D} : MonoB (fI C g) := fun x y q q' k h => by
  unfold fI at h ⊢
  split
  · exact ⟨h.1, k _ h.2⟩
  · rename_i h1
    split at h
    · rename_i i j; exact absurd rfl (h1 i j rfl)
    · exact h
theorem fI_ok {K : PySem.W.Frag} {C C' : Int → Int → Prop} {g : Int → Int → D} {gv : Int → Int → V} (hc : ∀ i j, C i j → C' i j) (hg : ∀ i j sa N H, Rv K sa N H (g i j) (gv i j)) : OpV K (rI C' gv) (fI C g) := by
  intro sa H x y v w q Q rx ry h k
  unfold fI at h
  split at h
  · rw [rv_int] at rx ry
    exact ⟨_, _, rx, ry, hc _ _ h.1, k _ _ _ h.2 (Same.refl H) (hg _ _ _ _ _)⟩
  · exact h.elim
theorem fI0_ok {K : PySem.W.Frag} {g : Int → Int → D} {gv : Int → Int → V} (hg : ∀ i j sa N H, Rv K sa N H (g i j) (gv i j)) : OpV K (rI0 gv) (fI (fun _ _ => True) g) := by
  intro sa H x y v w q Q rx ry h k
  unfold fI at h
  split at h
  · rw [rv_int] at rx ry
    exact ⟨_, _, rx, ry, k _ _ _ h.2 (Same.refl H) (hg _ _ _ _ _)⟩
  · exact h.elim
theorem sz1 {n : Nat} (h : n ≤ 100000) : n ≤ sizeLine := Nat.le_trans h (by decide)
theorem Same.new {H : Hp} {p : Addr} {o : HO} (h : H p = none) : Same H (upd H p o) := fun b u e => by
  rw [upd_ne (ne_of_none e h)]
  exact e
/-- a new list, a new tuple of flat data -/
theorem rv_newL {K : PySem.W.Frag} {sa : Option Addr} {N N' : Addr → Prop} {H : Hp} {p : Addr} {ds : List D} {vs : List V} (hp : H p = none) (f : D.flats ds = true) (r : Rvs K sa N H ds vs) (hn : ¬ N' p) : Rv K sa N' (upd H p (.lst vs)) (.lst ds) (.ref p) := by
  rw [rv_lst]
  exact ⟨p, vs, rfl, hn, upd_same, Rvs.flat ds vs f (Rvs.stb (Stb.same (Same.new hp)) ds vs r)⟩
theorem rv_newT {K : PySem.W.Frag} {sa : Option Addr} {N : Addr → Prop} {H : Hp} {p : Addr} {ds : List D} {vs : List V} (hp : H p = none) (r : Rvs K sa N H ds vs) : Rv K sa N (upd H p (.tup vs)) (.tup ds) (.ref p) := by
  rw [rv_tup]
  exact ⟨p, vs, rfl, SqT.of upd_same, Rvs.stb (Stb.same (Same.new hp)) ds vs r⟩
theorem dom_new {H : Hp} {p : Addr} (h : H p = none) : ¬ dom H p := fun z => z h

/-- + -/
def fAdd : D → D → (D → Prop) → Prop := fun x y q => match x, y with
  | .int i, .int j => q (.int (i + j))
  | .lst a, .lst b => a.length + b.length ≤ 100000 ∧ D.flats a = true ∧ D.flats b = true ∧ q (.lst (a ++ b))
  | .tup a, .tup b => a.length + b.length ≤ 100000 ∧ D.flats a = true ∧ D.flats b = true ∧ q (.tup (a ++ b))
  | .str a, .str b => a.length + b.length ≤ 100000 ∧ q (.str (a ++ b))
  | _, _ => False
def rAdd (K : PySem.W.Frag) : R2 := fun x y H Q => rI0 (fun i j => .int (i + j)) x y H Q ∨ (rCat x y H Q ∨ (rCatA K x y H Q ∨ ∃ i j, x = .str i ∧ y = .str j ∧ i.length + j.length ≤ sizeLine ∧ Q (.str (i ++ j)) H))
theorem op_rAdd {X : Cx} : OpR X (binaryOp .Add) (rAdd X.K) := op_add.or (op_cat.or (op_catA.or op_add_str))
theorem fAdd_mono : MonoB fAdd := fun x y q q' k h => by
  cases x <;> cases y <;> first
    | exact h.elim
    | exact k _ h
    | exact ⟨h.1, k _ h.2⟩
    | exact ⟨h.1, h.2.1, h.2.2.1, k _ h.2.2.2⟩
theorem fAdd_ok {K : PySem.W.Frag} : OpV K (rAdd K) fAdd := by
  intro sa H x y v w q Q rx ry h k
  cases x <;> cases y <;> first | exact (show False from h).elim | skip
  · rw [rv_int] at rx ry
    exact .inl ⟨_, _, rx, ry, k _ _ _ h (Same.refl H) (by rw [rv_int])⟩
  · rw [rv_str] at rx ry
    exact .inr (.inr (.inr ⟨_, _, rx, ry, sz1 h.1, k _ _ _ h.2 (Same.refl H) (by rw [rv_str])⟩))
  · obtain ⟨hz, f1, f2, hq⟩ := h
    rw [rv_tup] at rx ry
    obtain ⟨l, vs, rfl, e1, r1⟩ := rx
    obtain ⟨l2, ws, rfl, e2, r2⟩ := ry
    refine .inr (.inr (.inl ⟨l, l2, vs, ws, rfl, rfl, e1, e2, by rw [← r1.length, ← r2.length]; exact sz1 hz, fun z => ?_, fun z1 z2 => ?_, fun z1 z2 p hp => ?_⟩))
    · subst z
      refine k _ _ _ hq (Same.refl H) ?_
      have hl := r1.length
      rw [List.length_nil] at hl
      rw [List.length_eq_zero_iff.mp hl, List.nil_append, rv_tup]
      exact ⟨l2, ws, rfl, e2, Rvs.flat _ ws f2 r2⟩
    · subst z2
      refine k _ _ _ hq (Same.refl H) ?_
      have hl := r2.length
      rw [List.length_nil] at hl
      rw [List.length_eq_zero_iff.mp hl, List.append_nil, rv_tup]
      exact ⟨l, vs, rfl, e1, Rvs.flat _ vs f1 r1⟩
    · exact k _ _ _ hq (Same.new hp) (rv_newT hp ((Rvs.flat _ vs f1 r1).append (Rvs.flat _ ws f2 r2)))
  · obtain ⟨hz, f1, f2, hq⟩ := h
    rw [rv_lst] at rx ry
    obtain ⟨l, vs, rfl, _, e1, r1⟩ := rx
    obtain ⟨l2, ws, rfl, _, e2, r2⟩ := ry
    refine .inr (.inl ⟨l, l2, vs, ws, rfl, rfl, e1, e2, by rw [← r1.length, ← r2.length]; exact sz1 hz, fun p hp => ?_⟩)
    exact k _ _ _ hq (Same.new hp) (rv_newL hp (by rw [flats_append, f1, f2]; rfl) (r1.append r2) (dom_new hp))
/-- * -/
def fMul : D → D → (D → Prop) → Prop := fun x y q => match x, y with
  | .int i, .int j => CMul i j ∧ q (.int (i * j))
  | .lst a, .int k => a.length * k.toNat ≤ 100000 ∧ -1000000 ≤ k ∧ k ≤ 1000000 ∧ D.flats a = true ∧ q (.lst (List.replicate k.toNat a).flatten)
  | .tup a, .int k => a ≠ [] ∧ 2 ≤ k ∧ k ≤ 1000 ∧ a.length ≤ 1000 ∧ D.flats a = true ∧ q (.tup (List.replicate k.toNat a).flatten)
  | _, _ => False
def rMul (K : PySem.W.Frag) : R2 := fun x y H Q => rI CMul (fun i j => .int (i * j)) x y H Q ∨ (rRep x y H Q ∨ rRepT K x y H Q)
theorem op_rMul {X : Cx} : OpR X (binaryOp .Mult) (rMul X.K) := op_mul.or (op_rep.or op_repT)
theorem fMul_mono : MonoB fMul := fun x y q q' k h => by
  cases x <;> cases y <;> first
    | exact h.elim
    | exact ⟨h.1, k _ h.2⟩
    | exact ⟨h.1, h.2.1, h.2.2.1, h.2.2.2.1, k _ h.2.2.2.2⟩
    | exact ⟨h.1, h.2.1, h.2.2.1, h.2.2.2.1, h.2.2.2.2.1, k _ h.2.2.2.2.2⟩
theorem Rvs.rep {K : PySem.W.Frag} {sa : Option Addr} {N : Addr → Prop} {H : Hp} {ds : List D} {vs : List V} (h : Rvs K sa N H ds vs) : ∀ k : Nat, Rvs K sa N H (List.replicate k ds).flatten (List.replicate k vs).flatten
  | 0 => Rvs.nil
  | k + 1 => by
    rw [List.replicate_succ, List.replicate_succ, List.flatten_cons, List.flatten_cons]
    exact h.append (Rvs.rep h k)
theorem flats_rep {ds : List D} (h : D.flats ds = true) : ∀ k : Nat, D.flats (List.replicate k ds).flatten = true
  | 0 => by simp [D.flats]
  | k + 1 => by rw [List.replicate_succ, List.flatten_cons, flats_append, h, flats_rep h k]; rfl
theorem fMul_ok {K : PySem.W.Frag} : OpV K (rMul K) fMul := by
  intro sa H x y v w q Q rx ry h k
  cases x <;> cases y <;> first | exact (show False from h).elim | skip
  · rw [rv_int] at rx ry
    exact .inl ⟨_, _, rx, ry, h.1, k _ _ _ h.2 (Same.refl H) (by rw [rv_int])⟩
  · obtain ⟨h1, h2, h3, h4, f, hq⟩ := h
    rw [rv_int] at ry
    rw [rv_tup] at rx
    obtain ⟨l, vs, rfl, e1, r1⟩ := rx
    have hl := r1.length
    refine .inr (.inr ⟨l, _, vs, rfl, ry, e1, fun z => h1 ?_, h2, h3, by rw [← hl]; exact h4, fun p hp => ?_⟩)
    · subst z
      exact List.length_eq_zero_iff.mp hl
    · exact k _ _ _ hq (Same.new hp) (rv_newT hp (Rvs.flat _ _ (flats_rep f _) (r1.rep _)))
  · obtain ⟨hz, h2, h3, f, hq⟩ := h
    rw [rv_int] at ry
    rw [rv_lst] at rx
    obtain ⟨l, vs, rfl, _, e1, r1⟩ := rx
    have hl := r1.length
    refine .inr (.inl ⟨l, _, vs, rfl, ry, e1, by omega, by omega, by rw [← hl]; exact sz1 hz, fun p hp => ?_⟩)
    exact k _ _ _ hq (Same.new hp) (rv_newL hp (flats_rep f _) (r1.rep _) (dom_new hp))
/-- ==, !=: data at any depth -/
def fEq : D → D → (D → Prop) → Prop := fun x y q => D.shp 20 x = true ∧ D.shp 20 y = true ∧ q (.bl (D.eqb x y))
def fNe : D → D → (D → Prop) → Prop := fun x y q => D.shp 20 x = true ∧ D.shp 20 y = true ∧ q (.bl (!D.eqb x y))
theorem shaped_of {d : D} (h : D.shp 20 d = true) : SeqAt.shaped d.py = true := by
  obtain ⟨h1, h2⟩ := shp_py 20 d h
  unfold SeqAt.shaped
  rw [h1, Bool.true_and]
  exact decide_eq_true (by omega)
theorem fEq_mono : MonoB fEq := fun x y q q' k h => ⟨h.1, h.2.1, k _ h.2.2⟩
theorem fNe_mono : MonoB fNe := fun x y q q' k h => ⟨h.1, h.2.1, k _ h.2.2⟩
theorem fEq_ok {K : PySem.W.Frag} : OpV K (rEqD K) fEq := by
  intro sa H x y v w q Q rx ry h k
  refine ⟨x.py, y.py, Rv.dp 20 x v h.1 rx, Rv.dp 20 y w h.2.1 ry, shaped_of h.1, shaped_of h.2.1, ?_⟩
  rw [eqv_py 20 20 x y h.1 h.2.1]
  exact k _ _ _ h.2.2 (Same.refl H) (by rw [rv_bl])
theorem fNe_ok {K : PySem.W.Frag} : OpV K (rNeD K) fNe := by
  intro sa H x y v w q Q rx ry h k
  refine ⟨x.py, y.py, Rv.dp 20 x v h.1 rx, Rv.dp 20 y w h.2.1 ry, shaped_of h.1, shaped_of h.2.1, ?_⟩
  rw [eqv_py 20 20 x y h.1 h.2.1]
  exact k _ _ _ h.2.2 (Same.refl H) (by rw [rv_bl])
/-- is None, is not None -/
def D.isNon : D → Bool
  | .non => true
  | _ => false
def fIsN : D → D → (D → Prop) → Prop := fun x y q => y = .non ∧ q (.bl x.isNon)
def fNotN : D → D → (D → Prop) → Prop := fun x y q => y = .non ∧ q (.bl (!x.isNon))
theorem fIsN_mono : MonoB fIsN := fun x y q q' k h => ⟨h.1, k _ h.2⟩
theorem fNotN_mono : MonoB fNotN := fun x y q q' k h => ⟨h.1, k _ h.2⟩
theorem isNon_dec {K : PySem.W.Frag} {sa : Option Addr} {N : Addr → Prop} {H : Hp} {x : D} {v : V} (r : Rv K sa N H x v) : decide (v = .non) = x.isNon := by
  cases x with
  | non => rw [rv_non] at r; subst r; rfl
  | bl b => rw [rv_bl] at r; subst r; rfl
  | int i => rw [rv_int] at r; subst r; rfl
  | str x => rw [rv_str] at r; subst r; rfl
  | tup ds => rw [rv_tup] at r; obtain ⟨a, vs, rfl, _⟩ := r; rfl
  | lst ds => rw [rv_lst] at r; obtain ⟨a, vs, rfl, _⟩ := r; rfl
  | scr ns => rw [rv_scr] at r; obtain ⟨a, rfl, _⟩ := r; rfl
  | src => rw [rv_src] at r; obtain ⟨a, _, rfl⟩ := r; rfl
  | ty n => rw [rv_ty] at r; subst r; rfl
  | cls a => rw [rv_cls] at r; subst r; rfl
theorem fIsN_ok {K : PySem.W.Frag} : OpV K (fun x y H Q => y = .non ∧ Q (.bl (decide (x = .non))) H) fIsN := by
  intro sa H x y v w q Q rx ry h k
  obtain ⟨rfl, hq⟩ := h
  rw [rv_non] at ry
  refine ⟨ry, ?_⟩
  rw [isNon_dec rx]
  exact k _ _ _ hq (Same.refl H) (by rw [rv_bl])
theorem fNotN_ok {K : PySem.W.Frag} : OpV K (fun x y H Q => y = .non ∧ Q (.bl (!decide (x = .non))) H) fNotN := by
  intro sa H x y v w q Q rx ry h k
  obtain ⟨rfl, hq⟩ := h
  rw [rv_non] at ry
  refine ⟨ry, ?_⟩
  rw [isNon_dec rx]
  exact k _ _ _ hq (Same.refl H) (by rw [rv_bl])
/-- in, not in a list or tuple of scalars -/
def D.scal : D → Bool
  | .non => true
  | .bl _ => true
  | .int _ => true
  | .str _ => true
  | _ => false
def D.items : D → Option (List D)
  | .lst ds => some ds
  | .tup ds => some ds
  | _ => none
def fIn (neg : Bool) : D → D → (D → Prop) → Prop := fun x y q => ∃ ds, y.items = some ds ∧ x.scal = true ∧ ds.all D.scal = true ∧ q (.bl (neg != ds.any fun y => D.eqb y x))
theorem fIn_mono {neg : Bool} : MonoB (fIn neg) := fun x y q q' k ⟨ds, h1, h2, h3, h4⟩ => ⟨ds, h1, h2, h3, k _ h4⟩
theorem scal_flatV {K : PySem.W.Frag} {sa : Option Addr} {N : Addr → Prop} {H : Hp} {x : D} {v : V} (h : x.scal = true) (r : Rv K sa N H x v) : flatV v = true := by
  cases x with
  | non => rw [rv_non] at r; subst r; rfl
  | bl b => rw [rv_bl] at r; subst r; rfl
  | int i => rw [rv_int] at r; subst r; rfl
  | str x => rw [rv_str] at r; subst r; rfl
  | _ => cases h
theorem scal_eqV {K : PySem.W.Frag} {sa : Option Addr} {N : Addr → Prop} {H : Hp} {x y : D} {v w : V} (hx : x.scal = true) (hy : y.scal = true) (r : Rv K sa N H x v) (r' : Rv K sa N H y w) : eqV w v = D.eqb y x := by
  cases x <;> first | cases hx | skip
  all_goals (cases y <;> first | cases hy | skip)
  all_goals (first | rw [rv_non] at r | rw [rv_bl] at r | rw [rv_int] at r | rw [rv_str] at r)
  all_goals (first | rw [rv_non] at r' | rw [rv_bl] at r' | rw [rv_int] at r' | rw [rv_str] at r')
  all_goals (subst r; subst r'; simp [eqV, D.eqb])
theorem any_eqV {K : PySem.W.Frag} {sa : Option Addr} {N : Addr → Prop} {H : Hp} {x : D} {v : V} (hx : x.scal = true) (r : Rv K sa N H x v) : ∀ {ds : List D} {vs : List V}, ds.all D.scal = true → Rvs K sa N H ds vs → vs.all flatV = true ∧ inV v vs = ds.any fun y => D.eqb y x
  | [], _, _, h => by rw [rvs_nil] at h; subst h; exact ⟨rfl, rfl⟩
  | d :: ds, _, s, h => by
    rw [rvs_cons] at h
    obtain ⟨w, t, rfl, h1, h2⟩ := h
    rw [List.all_cons, Bool.and_eq_true] at s
    obtain ⟨i1, i2⟩ := any_eqV hx r s.2 h2
    refine ⟨by rw [List.all_cons, scal_flatV s.1 h1, i1]; rfl, ?_⟩
    unfold inV at i2 ⊢
    rw [List.any_cons, List.any_cons, i2, scal_eqV hx s.1 r h1]
theorem fIn_ok {K : PySem.W.Frag} {neg : Bool} : OpV K (rIn K neg) (fIn neg) := by
  intro sa H x y v w q Q rx ry h k
  obtain ⟨ds, hi, hx, hs, hq⟩ := h
  have main : ∀ p vs, w = .ref p → (SqL K H p vs ∨ SqT K H p vs) → Rvs K sa (fun b => sa = some b) H ds vs → rIn K neg v w H Q := fun p vs e1 e2 r => by
    obtain ⟨a1, a2⟩ := any_eqV hx rx hs r
    refine ⟨p, vs, e1, e2, scal_flatV hx rx, a1, ?_⟩
    rw [a2]
    refine k _ _ _ hq (Same.refl H) ?_
    rw [rv_bl]
    cases neg <;> cases (ds.any fun y => D.eqb y x) <;> rfl
  cases y with
  | lst es =>
    cases hi
    rw [rv_lst] at ry
    obtain ⟨l, vs, rfl, _, e1, r1⟩ := ry
    exact main l vs rfl (.inl (SqL.of e1)) r1
  | tup es =>
    cases hi
    rw [rv_tup] at ry
    obtain ⟨l, vs, rfl, e1, r1⟩ := ry
    exact main l vs rfl (.inr e1) r1
  | _ => cases hi
end VL
/-! VL: tests, places, cuts, displays, built-ins. -/
namespace VL
open PySem L2

/-! ### tests -/
def eTest (t : E1) : T1 := fun ρ Q => t ρ fun d _ => ∃ k, d = .bl k ∧ Q k
def eAnd (t u : T1) : T1 := fun ρ Q => t ρ fun c => if c = true then u ρ Q else Q false
def eOr (t u : T1) : T1 := fun ρ Q => t ρ fun c => if c = true then Q true else u ρ Q
def eNot (t : T1) : T1 := fun ρ Q => t ρ fun c => Q (!c)
def eAndV (ta tb : E1) : E1 := fun ρ Q => ta ρ fun d _ => ∃ c, d = .bl c ∧ if c = true then tb ρ Q else Q (.bl false) .fr
def eOrV (ta tb : E1) : E1 := fun ρ Q => ta ρ fun d _ => ∃ c, d = .bl c ∧ if c = true then Q (.bl true) .fr else tb ρ Q
def eNotV (ta : E1) : E1 := fun ρ Q => ta ρ fun d _ => ∃ c, d = .bl c ∧ Q (.bl (!c)) .fr
def eIf (t : T1) (ta tb : E1) : E1 := fun ρ Q => t ρ fun c => if c = true then ta ρ Q else tb ρ Q
def eChain (f g : D → D → (D → Prop) → Prop) (ta tb tc : E1) : E1 := fun ρ Q => ta ρ fun x _ => tb ρ fun y _ => f x y fun z => ∃ k, z = .bl k ∧ if k = true then tc ρ fun u _ => g y u fun d => Q d .fr else Q (.bl false) .fr
abbrev MonoE (t : E1) : Prop := ∀ ρ Q Q', (∀ d m, Q d m → Q' d m) → t ρ Q → t ρ Q'
abbrev MonoT (t : T1) : Prop := ∀ ρ Q Q', (∀ b, Q b → Q' b) → t ρ Q → t ρ Q'
section
variable {X : Cx} {a b c : Expr} {ta tb tc : E1} {t u : T1} {pos : Pos} {rest : List Expr} {f g : D → D → (D → Prop) → Prop} {r r' : R2}
theorem ite_mono {c A B A' B' : Prop} [Decidable c] (h1 : A → A') (h2 : B → B') (h : if c then A else B) : if c then A' else B' := by
  split
  · rename_i hc; rw [if_pos hc] at h; exact h1 h
  · rename_i hc; rw [if_neg hc] at h; exact h2 h
theorem eTest_mono (ma : MonoE ta) : MonoT (eTest ta) := fun ρ Q Q' k h => ma ρ _ _ (fun d m ⟨b, e, q⟩ => ⟨b, e, k b q⟩) h
theorem liftT_test {K : PySem.W.Frag} (ma : MonoE ta) {σ : L2.St} {H : Hp} {Q : Bool → Hp → Prop} (h : liftT K (eTest ta) σ H Q) : lift K ta σ H fun x H' => ∃ k, x = .bl k ∧ Q k H' := by
  obtain ⟨G, ρ, st, h⟩ := h
  refine lift_of ma st h fun d m ⟨k, e, q⟩ v H' s so _ r => ?_
  subst e
  rw [rv_bl] at r
  exact ⟨k, r, q H' s so⟩
/-- a comparison as a test -/
theorem vt_cmpR {op : CmpOp} (ho : OpR X (compareOp op) r) (hk : OpV X.K r f) (mf : MonoB f) (ha : VE X a ta) (hb : VE X b tb) (hm : behindInMarks op b = false) : VT X (.Compare a [op] [b] pos) (eTest (eBin f ta tb)) where
  pt := PT.imp (pt_cmpR ho ha.pe hb.pe hm) fun σ H Q h => tOp_lift hk ha.mono hb.mono σ H _ (liftT_test (eBin_mono mf ha.mono hb.mono) h)
  mono := eTest_mono (eBin_mono mf ha.mono hb.mono)
theorem vt_val (ha : VE X a ta) (he : ∀ whole, isTrue a X.env whole = (do let v ← whole; standAt a.pos; holding [v] (truthy v)) := by intro _; rfl) : VT X a (eTest ta) where
  pt := PT.imp (pt_val ha.pe he) fun σ H Q h => liftT_test ha.mono h
  mono := eTest_mono ha.mono
theorem eAnd_mono (m1 : MonoT t) (m2 : MonoT u) : MonoT (eAnd t u) := fun ρ Q Q' k h => m1 ρ _ _ (fun b h => ite_mono (m2 ρ _ _ k) (k false) h) h
theorem eOr_mono (m1 : MonoT t) (m2 : MonoT u) : MonoT (eOr t u) := fun ρ Q Q' k h => m1 ρ _ _ (fun b h => ite_mono (k true) (m2 ρ _ _ k) h) h
theorem vw_and1 (ha : VT X a t) : VW X (.BoolOp .And [a] pos) t := ⟨pw_and1 ha.pt, ha.mono⟩
theorem vw_or1 (ha : VT X a t) : VW X (.BoolOp .Or [a] pos) t := ⟨pw_or1 ha.pt, ha.mono⟩
theorem vw_and (ha : VT X a t) (hb : VW X (.BoolOp .And (b :: rest) pos) u) : VW X (.BoolOp .And (a :: b :: rest) pos) (eAnd t u) where
  pw := PW.imp (pw_and ha.pt hb.pw) fun σ H Q ⟨G, ρ, st, h⟩ => by
    refine liftT_of ha.mono st h fun c hc H1 s so st1 => ?_
    cases c with
    | true => exact liftT_of hb.mono st1 hc fun c hc H2 s2 so2 _ => hc H2 (s.trans s2) so2
    | false => exact hc H1 s so
  mono := eAnd_mono ha.mono hb.mono
theorem vw_or (ha : VT X a t) (hb : VW X (.BoolOp .Or (b :: rest) pos) u) : VW X (.BoolOp .Or (a :: b :: rest) pos) (eOr t u) where
  pw := PW.imp (pw_or ha.pt hb.pw) fun σ H Q ⟨G, ρ, st, h⟩ => by
    refine liftT_of ha.mono st h fun c hc H1 s so st1 => ?_
    cases c with
    | false => exact liftT_of hb.mono st1 hc fun c hc H2 s2 so2 _ => hc H2 (s.trans s2) so2
    | true => exact hc H1 s so
  mono := eOr_mono ha.mono hb.mono
theorem vt_w (h : VW X a t) : VT X a t := ⟨h.pw.pt, h.mono⟩
theorem vt_not (ha : VT X a t) : VT X (.UnaryOp .Not a pos) (eNot t) where
  pt := PT.imp (pt_not ha.pt) fun σ H Q ⟨G, ρ, st, h⟩ => liftT_of ha.mono st h fun c hc H1 s so _ => hc H1 s so
  mono := fun ρ Q Q' k h => ha.mono ρ _ _ (fun b h => k _ h) h
theorem ve_one {op} (h : VE X a ta) : VE X (.BoolOp op [a] pos) ta := ⟨pe_one h.pe, h.mono⟩
theorem ve_and (ha : VE X a ta) (hb : VE X (.BoolOp .And (b :: rest) pos) tb) : VE X (.BoolOp .And (a :: b :: rest) pos) (eAndV ta tb) where
  pe := PE.imp (pe_and ha.pe hb.pe) fun σ H Q ⟨G, ρ, st, h⟩ => by
    refine lift_of ha.mono st h fun d m ⟨c, e, hc⟩ v H1 s so st1 r => ?_
    subst e
    rw [rv_bl] at r
    refine ⟨c, r, ?_⟩
    cases c with
    | true => exact lift_of hb.mono st1 hc fun d m hc v H2 s2 so2 _ r2 => hc v H2 (s.trans s2) so2 (r2.mono (excl_back st s so m))
    | false => exact hc _ H1 s so (by rw [rv_bl])
  mono := fun ρ Q Q' k h => ha.mono ρ _ _ (fun d m ⟨c, e, h⟩ => ⟨c, e, ite_mono (hb.mono ρ _ _ k) (k _ _) h⟩) h
theorem ve_or (ha : VE X a ta) (hb : VE X (.BoolOp .Or (b :: rest) pos) tb) : VE X (.BoolOp .Or (a :: b :: rest) pos) (eOrV ta tb) where
  pe := PE.imp (pe_or ha.pe hb.pe) fun σ H Q ⟨G, ρ, st, h⟩ => by
    refine lift_of ha.mono st h fun d m ⟨c, e, hc⟩ v H1 s so st1 r => ?_
    subst e
    rw [rv_bl] at r
    refine ⟨c, r, ?_⟩
    cases c with
    | false => exact lift_of hb.mono st1 hc fun d m hc v H2 s2 so2 _ r2 => hc v H2 (s.trans s2) so2 (r2.mono (excl_back st s so m))
    | true => exact hc _ H1 s so (by rw [rv_bl])
  mono := fun ρ Q Q' k h => ha.mono ρ _ _ (fun d m ⟨c, e, h⟩ => ⟨c, e, ite_mono (k _ _) (hb.mono ρ _ _ k) h⟩) h
theorem ve_not (ha : VE X a ta) : VE X (.UnaryOp .Not a pos) (eNotV ta) where
  pe := PE.imp (pe_not ha.pe) fun σ H Q ⟨G, ρ, st, h⟩ => by
    refine lift_of ha.mono st h fun d m ⟨c, e, hc⟩ v H1 s so st1 r => ?_
    subst e
    rw [rv_bl] at r
    exact ⟨c, r, hc _ H1 s so (by rw [rv_bl])⟩
  mono := fun ρ Q Q' k h => ha.mono ρ _ _ (fun d m ⟨c, e, h⟩ => ⟨c, e, k _ _ h⟩) h
theorem ve_if (hc : VT X c t) (ha : VE X a ta) (hb : VE X b tb) : VE X (.IfExp c a b pos) (eIf t ta tb) where
  pe := PE.imp (pe_ifExp hc.pt ha.pe hb.pe) fun σ H Q ⟨G, ρ, st, h⟩ => by
    refine liftT_of hc.mono st h fun k hk H1 s so st1 => ?_
    cases k with
    | true => exact lift_of ha.mono st1 hk fun d m hc v H2 s2 so2 _ r2 => hc v H2 (s.trans s2) so2 (r2.mono (excl_back st s so m))
    | false => exact lift_of hb.mono st1 hk fun d m hc v H2 s2 so2 _ r2 => hc v H2 (s.trans s2) so2 (r2.mono (excl_back st s so m))
  mono := fun ρ Q Q' k h => hc.mono ρ _ _ (fun b h => ite_mono (ha.mono ρ _ _ k) (hb.mono ρ _ _ k) h) h
theorem eChain_mono (mf : MonoB f) (mg : MonoB g) (ma : MonoE ta) (mb : MonoE tb) (mc : MonoE tc) : MonoE (eChain f g ta tb tc) := fun ρ Q Q' k h =>
  ma ρ _ _ (fun x _ h => mb ρ _ _ (fun y _ h => mf x y _ _ (fun z ⟨c, e, h⟩ => ⟨c, e, ite_mono (mc ρ _ _ fun u _ h => mg y u _ _ (fun d q => k d _ q) h) (k _ _) h⟩) h) h) h
theorem chain_lift {K : PySem.W.Frag} (hk : OpV K r f) (hk' : OpV K r' g) (ma : MonoE ta) (mb : MonoE tb) (mc : MonoE tc) : ∀ σ H Q, lift K (eChain f g ta tb tc) σ H Q → tChain r r' (lift K ta) (lift K tb) (lift K tc) σ H Q := by
  rintro σ H Q ⟨G, ρ, st, h⟩
  refine lift_of ma st h fun x m hx v H1 g1 s1 st1 r1 => ?_
  refine lift_of mb st1 hx fun y m2 hy w H2 g2 s2 st2 r2 => ?_
  refine hk G.sa H2 x y v w _ _ (Rv.stb g2 x v (r1.mono (excl_sa st m))) (r2.mono (excl_sa st1 m2)) hy fun d z H3 ⟨k, e, hq⟩ sm r3 => ?_
  subst e
  rw [rv_bl] at r3
  refine ⟨k, r3, ?_⟩
  have g3 := (g1.trans g2).trans (Stb.same sm)
  have s3 := s2.same sm
  have st3 := st2.grow (Stb.same sm) s3
  cases k with
  | false => exact hq _ H3 g3 s3 (by rw [rv_bl])
  | true =>
    refine lift_of mc st3 hq fun u m4 hu w4 H4 g4 s4 st4 r4 => ?_
    refine hk' G.sa H4 y u w w4 _ _ (Rv.stb ((Stb.same sm).trans g4) y w (r2.mono (excl_sa st1 m2))) (r4.mono (excl_sa st3 m4)) hu fun d z H5 hq sm5 r5 => ?_
    exact hq z H5 ((g3.trans g4).trans (Stb.same sm5)) (s4.same sm5) (r5.mono fun c z => dom_grow st3 g4 s4 c (dom_grow st g3 s3 c z))
theorem ve_chain {op op' : CmpOp} (ho : OpR X (compareOp op) r) (hk : OpV X.K r f) (mf : MonoB f) (ho' : OpR X (compareOp op') r') (hk' : OpV X.K r' g) (mg : MonoB g) (ha : VE X a ta) (hb : VE X b tb) (hc : VE X c tc)
    (hm : lastMarks [op, op'] [b, c] = false := by with_unfolding_all rfl) : VE X (.Compare a [op, op'] [b, c] pos) (eChain f g ta tb tc) :=
  ⟨PE.imp (pe_chain ho ho' ha.pe hb.pe hc.pe hm) (chain_lift hk hk' ha.mono hb.mono hc.mono), eChain_mono mf mg ha.mono hb.mono hc.mono⟩
theorem vt_chain {op op' : CmpOp} (ho : OpR X (compareOp op) r) (hk : OpV X.K r f) (mf : MonoB f) (ho' : OpR X (compareOp op') r') (hk' : OpV X.K r' g) (mg : MonoB g) (ha : VE X a ta) (hb : VE X b tb) (hc : VE X c tc)
    (hm : lastMarks [op, op'] [b, c] = false := by with_unfolding_all rfl) : VT X (.Compare a [op, op'] [b, c] pos) (eTest (eChain f g ta tb tc)) where
  pt := PT.imp (pt_chain ho ho' ha.pe hb.pe hc.pe hm) fun σ H Q h => chain_lift hk hk' ha.mono hb.mono hc.mono σ H _ (liftT_test (eChain_mono mf mg ha.mono hb.mono hc.mono) h)
  mono := eTest_mono (eChain_mono mf mg ha.mono hb.mono hc.mono)

/-! ### the int operations by name -/
def fSub := fI (fun _ _ => True) fun i j => .int (i - j)
def fDiv := fI (fun _ j => 0 < j ∧ j < 2 ^ 64) fun i j => .int (i / j)
def fMod := fI (fun _ j => 0 < j) fun i j => .int (i % j)
def fPow := fI CPow fun i j => .int (i ^ j.toNat)
def fLt := fI (fun _ _ => True) fun i j => .bl (decide (i < j))
def fLe := fI (fun _ _ => True) fun i j => .bl (decide (i ≤ j))
def fGt := fI (fun _ _ => True) fun i j => .bl (decide (j < i))
def fGe := fI (fun _ _ => True) fun i j => .bl (decide (j ≤ i))
theorem okI {K : PySem.W.Frag} {g : Int → Int → Int} : ∀ i j sa N H, Rv K sa N H (D.int (g i j)) (V.int (g i j)) := fun _ _ _ _ _ => by rw [rv_int]
theorem okB {K : PySem.W.Frag} {g : Int → Int → Bool} : ∀ i j sa N H, Rv K sa N H (D.bl (g i j)) (V.bl (g i j)) := fun _ _ _ _ _ => by rw [rv_bl]
theorem divW {i j : Int} (h : 0 < j ∧ j < 2 ^ 64) : CDivW i j := wide_div (b := 64) h.1 (by omega) (by decide) (by decide)
theorem ve_add (ha : VE X a ta) (hb : VE X b tb) : VE X (.BinOp a .Add b pos) (eBin fAdd ta tb) := ve_op op_rAdd fAdd_ok fAdd_mono ha hb
theorem ve_mul (ha : VE X a ta) (hb : VE X b tb) : VE X (.BinOp a .Mult b pos) (eBin fMul ta tb) := ve_op op_rMul fMul_ok fMul_mono ha hb
theorem ve_sub (ha : VE X a ta) (hb : VE X b tb) : VE X (.BinOp a .Sub b pos) (eBin fSub ta tb) := ve_op op_sub (fI0_ok okI) fI_mono ha hb
theorem ve_fdiv (ha : VE X a ta) (hb : VE X b tb) : VE X (.BinOp a .FloorDiv b pos) (eBin fDiv ta tb) := ve_op op_fdivW (fI_ok (fun _ _ h => divW h) okI) fI_mono ha hb
theorem ve_mod (ha : VE X a ta) (hb : VE X b tb) : VE X (.BinOp a .Mod b pos) (eBin fMod ta tb) := ve_op op_mod (fI_ok (fun _ _ h => h) okI) fI_mono ha hb
theorem ve_pow (ha : VE X a ta) (hb : VE X b tb) : VE X (.BinOp a .Pow b pos) (eBin fPow ta tb) := ve_op op_pow (fI_ok (fun _ _ h => h) okI) fI_mono ha hb
theorem ve_lt (ha : VE X a ta) (hb : VE X b tb) : VE X (.Compare a [.Lt] [b] pos) (eBin fLt ta tb) := ve_cmpR op_lt (fI0_ok okB) fI_mono ha hb (nomark _)
theorem ve_le (ha : VE X a ta) (hb : VE X b tb) : VE X (.Compare a [.LtE] [b] pos) (eBin fLe ta tb) := ve_cmpR op_le (fI0_ok okB) fI_mono ha hb (nomark _)
theorem ve_gt (ha : VE X a ta) (hb : VE X b tb) : VE X (.Compare a [.Gt] [b] pos) (eBin fGt ta tb) := ve_cmpR op_gt (fI0_ok okB) fI_mono ha hb (nomark _)
theorem ve_ge (ha : VE X a ta) (hb : VE X b tb) : VE X (.Compare a [.GtE] [b] pos) (eBin fGe ta tb) := ve_cmpR op_ge (fI0_ok okB) fI_mono ha hb (nomark _)
theorem ve_eq (hu : X.A.units + 64 < cLine) (ha : VE X a ta) (hb : VE X b tb) : VE X (.Compare a [.Eq] [b] pos) (eBin fEq ta tb) := ve_cmpR (op_eqD hu) fEq_ok fEq_mono ha hb (nomark _)
theorem ve_ne (hu : X.A.units + 64 < cLine) (ha : VE X a ta) (hb : VE X b tb) : VE X (.Compare a [.NotEq] [b] pos) (eBin fNe ta tb) := ve_cmpR (op_neD hu) fNe_ok fNe_mono ha hb (nomark _)
theorem ve_is (ha : VE X a ta) (hb : VE X b tb) : VE X (.Compare a [.Is] [b] pos) (eBin fIsN ta tb) := ve_cmpR op_isN fIsN_ok fIsN_mono ha hb (nomark _)
theorem ve_isnot (ha : VE X a ta) (hb : VE X b tb) : VE X (.Compare a [.IsNot] [b] pos) (eBin fNotN ta tb) := ve_cmpR op_notN fNotN_ok fNotN_mono ha hb (nomark _)
theorem ve_in (ha : VE X a ta) (hb : VE X b tb) (hm : behindInMarks .In b = false := by rfl) : VE X (.Compare a [.In] [b] pos) (eBin (fIn false) ta tb) := ve_cmpR op_in_seq fIn_ok fIn_mono ha hb hm
theorem ve_notin (ha : VE X a ta) (hb : VE X b tb) (hm : behindInMarks .NotIn b = false := by rfl) : VE X (.Compare a [.NotIn] [b] pos) (eBin (fIn true) ta tb) := ve_cmpR op_notIn_seq fIn_ok fIn_mono ha hb hm
theorem vt_lt (ha : VE X a ta) (hb : VE X b tb) : VT X (.Compare a [.Lt] [b] pos) (eTest (eBin fLt ta tb)) := vt_cmpR op_lt (fI0_ok okB) fI_mono ha hb (nomark _)
theorem vt_le (ha : VE X a ta) (hb : VE X b tb) : VT X (.Compare a [.LtE] [b] pos) (eTest (eBin fLe ta tb)) := vt_cmpR op_le (fI0_ok okB) fI_mono ha hb (nomark _)
theorem vt_gt (ha : VE X a ta) (hb : VE X b tb) : VT X (.Compare a [.Gt] [b] pos) (eTest (eBin fGt ta tb)) := vt_cmpR op_gt (fI0_ok okB) fI_mono ha hb (nomark _)
theorem vt_ge (ha : VE X a ta) (hb : VE X b tb) : VT X (.Compare a [.GtE] [b] pos) (eTest (eBin fGe ta tb)) := vt_cmpR op_ge (fI0_ok okB) fI_mono ha hb (nomark _)
theorem vt_eq (hu : X.A.units + 64 < cLine) (ha : VE X a ta) (hb : VE X b tb) : VT X (.Compare a [.Eq] [b] pos) (eTest (eBin fEq ta tb)) := vt_cmpR (op_eqD hu) fEq_ok fEq_mono ha hb (nomark _)
theorem vt_ne (hu : X.A.units + 64 < cLine) (ha : VE X a ta) (hb : VE X b tb) : VT X (.Compare a [.NotEq] [b] pos) (eTest (eBin fNe ta tb)) := vt_cmpR (op_neD hu) fNe_ok fNe_mono ha hb (nomark _)
theorem vt_is (ha : VE X a ta) (hb : VE X b tb) : VT X (.Compare a [.Is] [b] pos) (eTest (eBin fIsN ta tb)) := vt_cmpR op_isN fIsN_ok fIsN_mono ha hb (nomark _)
theorem vt_isnot (ha : VE X a ta) (hb : VE X b tb) : VT X (.Compare a [.IsNot] [b] pos) (eTest (eBin fNotN ta tb)) := vt_cmpR op_notN fNotN_ok fNotN_mono ha hb (nomark _)
theorem vt_in (ha : VE X a ta) (hb : VE X b tb) (hm : behindInMarks .In b = false := by rfl) : VT X (.Compare a [.In] [b] pos) (eTest (eBin (fIn false) ta tb)) := vt_cmpR op_in_seq fIn_ok fIn_mono ha hb hm
theorem vt_notin (ha : VE X a ta) (hb : VE X b tb) (hm : behindInMarks .NotIn b = false := by rfl) : VT X (.Compare a [.NotIn] [b] pos) (eTest (eBin (fIn true) ta tb)) := vt_cmpR op_notIn_seq fIn_ok fIn_mono ha hb hm
theorem vt_le_le (ha : VE X a ta) (hb : VE X b tb) (hc : VE X c tc) (hm : lastMarks [.LtE, .LtE] [b, c] = false := by with_unfolding_all rfl) : VT X (.Compare a [.LtE, .LtE] [b, c] pos) (eTest (eChain fLe fLe ta tb tc)) :=
  vt_chain op_le (fI0_ok okB) fI_mono op_le (fI0_ok okB) fI_mono ha hb hc hm
theorem ve_le_le (ha : VE X a ta) (hb : VE X b tb) (hc : VE X c tc) (hm : lastMarks [.LtE, .LtE] [b, c] = false := by with_unfolding_all rfl) : VE X (.Compare a [.LtE, .LtE] [b, c] pos) (eChain fLe fLe ta tb tc) :=
  ve_chain op_le (fI0_ok okB) fI_mono op_le (fI0_ok okB) fI_mono ha hb hc hm
def eNeg (ta : E1) : E1 := fun ρ Q => ta ρ fun d _ => ∃ i, d = .int i ∧ Q (.int (-i)) .fr
theorem ve_neg (ha : VE X a ta) : VE X (.UnaryOp .USub a pos) (eNeg ta) where
  pe := PE.imp (pe_un un_neg ha.pe) fun σ H Q ⟨G, ρ, st, h⟩ => by
    refine lift_of ha.mono st h fun d m ⟨i, e, hc⟩ v H1 s so st1 r => ?_
    subst e
    rw [rv_int] at r
    exact ⟨i, r, hc _ H1 s so (by rw [rv_int])⟩
  mono := fun ρ Q Q' k h => ha.mono ρ _ _ (fun d m ⟨c, e, h⟩ => ⟨c, e, k _ _ h⟩) h

/-! ### places -/
/-- the item at a place; its lists stand as the whole's -/
def eIx (ta tb : E1) : E1 := fun ρ Q => ta ρ fun x m => tb ρ fun y _ => ∃ ds i d, x.items = some ds ∧ y = .int i ∧ atI ds i = some d ∧ Q d m
def eIxS (ta tb : E1) : E1 := fun ρ Q => ta ρ fun x _ => tb ρ fun y _ => ∃ ns i n, x = .scr ns ∧ y = .int i ∧ atI ns i = some n ∧ Q (.int n) .fr
theorem ixN_map {α β : Type} (g : α → β) (l : List α) (i : Int) : atI (l.map g) i = (atI l i).map g := by
  unfold atI
  rw [List.length_map]
  cases ixN l.length i with
  | none => rfl
  | some j => simp
theorem Rvs.atI {K : PySem.W.Frag} {sa : Option Addr} {N : Addr → Prop} {H : Hp} {ds : List D} {vs : List V} {i : Int} {d : D} (h : Rvs K sa N H ds vs) (e : L2.atI ds i = some d) : ∃ v, L2.atI vs i = some v ∧ Rv K sa N H d v := by
  unfold L2.atI at e ⊢
  rw [h.length] at e
  cases hj : ixN vs.length i with
  | none => rw [hj] at e; cases e
  | some j =>
    rw [hj] at e
    exact h.get e
def rIxA (K : PySem.W.Frag) : R2 := fun x y H Q => rIxL K x y H Q ∨ rIxT K x y H Q
theorem ix_any {X : Cx} : IxR X (rIxA X.K) := ix_list.or ix_tup
theorem ve_ix (ha : VE X a ta) (hb : VE X b tb) (hs : PlainIx b) : VE X (.Subscript a b pos) (eIx ta tb) where
  pe := PE.imp (pe_ix ix_any ha.pe hb.pe hs) fun σ H Q ⟨G, ρ, st, h⟩ => by
    refine lift_of ha.mono st h fun x m hx v H1 g1 s1 st1 r1 => ?_
    refine lift_of hb.mono st1 hx fun y m2 ⟨ds, i, d, e1, e2, e3, hq⟩ w H2 g2 s2 st2 r2 => ?_
    subst e2
    rw [rv_int] at r2
    have r1' := Rv.stb (g2.mono (excl_sa st m)) x v r1
    cases x with
    | lst es =>
      cases e1
      rw [rv_lst] at r1'
      obtain ⟨p, vs, e, _, q, r⟩ := r1'
      obtain ⟨z, h1, h2⟩ := r.atI e3
      exact .inl ⟨p, vs, i, z, e, r2, SqL.of q, h1, hq z H2 (g1.trans g2) s2 h2⟩
    | tup es =>
      cases e1
      rw [rv_tup] at r1'
      obtain ⟨p, vs, e, q, r⟩ := r1'
      obtain ⟨z, h1, h2⟩ := r.atI e3
      exact .inr ⟨p, vs, i, z, e, r2, q, h1, hq z H2 (g1.trans g2) s2 h2⟩
    | _ => cases e1
  mono := fun ρ Q Q' k h => ha.mono ρ _ _ (fun x m h => hb.mono ρ _ _ (fun y _ ⟨ds, i, d, e1, e2, e3, h⟩ => ⟨ds, i, d, e1, e2, e3, k _ _ h⟩) h) h
theorem ve_ixS (ha : VE X a ta) (hb : VE X b tb) (hs : PlainIx b) : VE X (.Subscript a b pos) (eIxS ta tb) where
  pe := PE.imp (pe_ix ix_list ha.pe hb.pe hs) fun σ H Q ⟨G, ρ, st, h⟩ => by
    refine lift_of ha.mono st h fun x m hx v H1 g1 s1 st1 r1 => ?_
    refine lift_of hb.mono st1 hx fun y m2 ⟨ns, i, n, e1, e2, e3, hq⟩ w H2 g2 s2 st2 r2 => ?_
    subst e1 e2
    rw [rv_int] at r2
    have r1' := Rv.stb (g2.mono (excl_sa st m)) _ v r1
    rw [rv_scr] at r1'
    obtain ⟨p, e, q⟩ := r1'
    exact ⟨p, ns.map V.int, i, .int n, e, r2, q.sq, by rw [ixN_map, e3]; rfl, hq _ H2 (g1.trans g2) s2 (by rw [rv_int])⟩
  mono := fun ρ Q Q' k h => ha.mono ρ _ _ (fun x m h => hb.mono ρ _ _ (fun y _ ⟨ds, i, d, e1, e2, e3, h⟩ => ⟨ds, i, d, e1, e2, e3, k _ _ h⟩) h) h

/-! ### cuts -/
abbrev O1 := Env → (Option Int → Prop) → Prop
def liftO (K : PySem.W.Frag) (t : O1) : TO := fun σ H Q => ∃ G ρ, St K G σ H ρ ∧ t ρ fun o => ∀ H', Stb G.saN H H' → SrcOk G.sa H' → Q o H'
structure VO (X : Cx) (e : Option Expr) (t : O1) : Prop where
  po : PO X e (liftO X.K t)
  mono : ∀ ρ Q Q', (∀ o, Q o → Q' o) → t ρ Q → t ρ Q'
theorem PO.imp {e : Option Expr} {t t' : TO} (h : PO X e t) (i : ∀ σ H Q, t' σ H Q → t σ H Q) : PO X e t' := ⟨fun pins s σ H Q I q => h.run pins s σ H Q I (i σ H Q q)⟩
def oNone : O1 := fun _ Q => Q none
def oSome (te : E1) : O1 := fun ρ Q => te ρ fun d _ => ∃ i, d = .int i ∧ Q (some i)
theorem vo_none : VO X none oNone := ⟨PO.imp po_none fun σ H Q ⟨G, ρ, st, h⟩ => h H (Stb.refl _ _) st.src, fun ρ Q Q' k h => k _ h⟩
theorem vo_some (ha : VE X a ta) : VO X (some a) (oSome ta) where
  po := PO.imp (po_some ha.pe) fun σ H Q ⟨G, ρ, st, h⟩ => by
    refine lift_of ha.mono st h fun d m ⟨i, e, hc⟩ v H1 s so st1 r => ?_
    subst e
    rw [rv_int] at r
    exact ⟨i, r, hc H1 s so⟩
  mono := fun ρ Q Q' k h => ha.mono ρ _ _ (fun d m ⟨c, e, h⟩ => ⟨c, e, k _ h⟩) h
theorem liftO_of {K : PySem.W.Frag} {G : Gh} {σ : L2.St} {H : Hp} {ρ : Env} {t : O1} {Qa : Option Int → Prop} {Q : Option Int → Hp → Prop} (mono : ∀ ρ Q Q', (∀ b, Q b → Q' b) → t ρ Q → t ρ Q') (st : St K G σ H ρ) (h : t ρ Qa)
    (k : ∀ b, Qa b → ∀ H', Stb G.saN H H' → SrcOk G.sa H' → St K G σ H' ρ → Q b H') : liftO K t σ H Q :=
  ⟨G, ρ, st, mono _ _ _ (fun b q H' s so => k b q H' s so (st.grow s so)) h⟩
def cutD (xs : List D) (lo hi : Option Int) : List D := (xs.drop (HT.sIx xs.length 0 lo)).take (HT.sIx xs.length xs.length hi - HT.sIx xs.length 0 lo)
def eSl (te : E1) (tl th : O1) : E1 := fun ρ Q => te ρ fun x _ => tl ρ fun lo => th ρ fun hi =>
  (∃ ds, x = .lst ds ∧ D.flats ds = true ∧ Q (.lst (cutD ds lo hi)) .fr) ∨ ∃ ds, x = .tup ds ∧ D.flats ds = true ∧ Q (.tup (cutD ds lo hi)) .fr
theorem flats_take {ds : List D} (h : D.flats ds = true) (n : Nat) : D.flats (ds.take n) = true := flats_of fun d hd => flats_mem h (List.mem_of_mem_take hd)
theorem flats_drop {ds : List D} (h : D.flats ds = true) (n : Nat) : D.flats (ds.drop n) = true := flats_of fun d hd => flats_mem h (List.mem_of_mem_drop hd)
theorem flats_cut {ds : List D} (h : D.flats ds = true) (lo hi : Option Int) : D.flats (cutD ds lo hi) = true := flats_take (flats_drop h _) _
theorem Rvs.cut {K : PySem.W.Frag} {sa : Option Addr} {N : Addr → Prop} {H : Hp} {ds : List D} {vs : List V} (h : Rvs K sa N H ds vs) (lo hi : Option Int) : Rvs K sa N H (cutD ds lo hi) (cutV vs lo hi) := by
  unfold cutD cutV
  rw [h.length]
  exact (h.drop _).take _
def rSlAll (K : PySem.W.Frag) : V → Option Int → Option Int → Hp → VK → Prop := fun x lo hi H Q => rSlL K x lo hi H Q ∨ rSlA K x lo hi H Q
theorem ve_sl {lo hi : Option Expr} {tl th : O1} {p2 : Pos} (ha : VE X a ta) (hl : VO X lo tl) (hh : VO X hi th) : VE X (.Subscript a (.Slice lo hi none p2) pos) (eSl ta tl th) where
  pe := PE.imp (pe_slice (sl_list.or sl_tupA) ha.pe hl.po hh.po) fun σ H Q ⟨G, ρ, st, h⟩ => by
    refine lift_of ha.mono st h fun x m hx v H1 g1 s1 st1 r1 => ?_
    refine liftO_of hl.mono st1 hx fun lo hlo H2 g2 s2 st2 => ?_
    refine liftO_of hh.mono st2 hlo fun hi hq H3 g3 s3 st3 => ?_
    have r1' := Rv.stb ((g2.trans g3).mono (excl_sa st m)) x v r1
    have gg := (g1.trans g2).trans g3
    rcases hq with ⟨ds, e, f, hq⟩ | ⟨ds, e, f, hq⟩
    · subst e
      rw [rv_lst] at r1'
      obtain ⟨p, vs, e, _, q, r⟩ := r1'
      refine .inl ⟨p, vs, e, SqL.of q, fun z hz => ?_⟩
      exact hq _ _ (gg.trans (Stb.same (Same.new hz))) (s3.same (Same.new hz)) (rv_newL hz (flats_cut f _ _) (r.cut _ _) fun w => dom_new hz (dom_grow st gg s3 _ w))
    · subst e
      rw [rv_tup] at r1'
      obtain ⟨p, vs, e, q, r⟩ := r1'
      refine .inr ⟨p, vs, e, q, fun w => ?_, fun _ z hz => ?_⟩
      · have hc : cutV vs lo hi = vs := by
          unfold cutV
          rw [w.1, w.2, List.drop_zero, Nat.sub_zero, List.take_length]
        have r' := r.cut lo hi
        rw [hc] at r'
        refine hq _ H3 gg s3 ?_
        rw [rv_tup]
        exact ⟨p, vs, rfl, q, Rvs.flat _ vs (flats_cut f _ _) r'⟩
      · exact hq _ _ (gg.trans (Stb.same (Same.new hz))) (s3.same (Same.new hz)) (rv_newT hz (Rvs.flat _ _ (flats_cut f _ _) (r.cut _ _)))
  mono := fun ρ Q Q' k h => ha.mono ρ _ _ (fun x _ h => hl.mono ρ _ _ (fun lo h => hh.mono ρ _ _ (fun hi h => h.imp (fun ⟨ds, e, f, h⟩ => ⟨ds, e, f, k _ _ h⟩) fun ⟨ds, e, f, h⟩ => ⟨ds, e, f, k _ _ h⟩) h) h) h
end
end VL
/-! VL4b: sum, max, min of a tuple of ints. -/
namespace VL
open PySem L2 PyProof.Rows
section
variable {prog : Program} {w : World} {A : Around} {E : Value → Shared → Prop} {s : Shared} {l : Addr}
def tIt (h : Heap) (l : Addr) : Heap := h.push { cls := .type "tuple_iterator", data := .fields #[.ref l, .int 0 0] }
theorem tIt_old {h h' : Heap} (k : ∀ b o, b ∉ [h.objs.size] → (tIt h l).get? b = some o → h'.get? b = some o) : ∀ b o, h.get? b = some o → h'.get? b = some o := fun b o e => by
  refine k b o (fun z => ?_) (Heap.get?_push_of_some _ e)
  have z' := List.mem_singleton.mp z
  have := Heap.lt_size e
  rw [z'] at this
  exact Nat.lt_irrefl _ this
theorem tIt_lt {h : Heap} (hl : l < h.objs.size) : ∀ b ∈ [h.objs.size, l], b < (tIt h l).objs.size := fun b hb => by
  unfold tIt
  rw [Heap.size_push]
  have z : b = h.objs.size ∨ b = l := by simpa using hb
  rcases z with z | z
  · rw [z]; exact Nat.lt_succ_self _
  · rw [z]; exact Nat.lt_succ_of_lt hl
theorem tup_lt {h : Heap} {items : Array Value} (ht : h.IsTuple l items) : l < h.objs.size := by
  obtain ⟨_, e, _⟩ := ht
  exact Heap.lt_size e
theorem sum_tupG {xs : Array (Int × Tok)} {Q : Value → Shared → Prop} (hh : A.handled = none) (ht : s.heap.IsTuple l (intItems xs))
    (h : ∀ h' tk t', (∀ b o, s.heap.get? b = some o → h'.get? b = some o) → Q (.int (preSum (numAt xs) xs.size) t') { s with heap := h', toks := tk }) : wpAny (model prog w) A (call (.builtin "sum") [.ref l]) Q E s := by
  have hlt := tup_lt ht
  refine call_sum_walkG (wpAny_pyIter_tuple ht ?_)
  refine ⟨_, _, _, _, _, _, numAt xs, rfl, Walks.tuple (A := A.in1) hh _ l (Nat.ne_of_lt hlt) (intItems xs), ⟨⟨_, Heap.get?_push_size _ rfl, rfl, rfl⟩, ht.push _⟩, tIt_lt hlt, (fun _ _ => intItems_at), fun h' tk t' k => ?_⟩
  have := h h' tk t' (tIt_old k)
  simpa [intItems] using this
theorem max_tupG {xs : Array (Int × Tok)} {Q : Value → Shared → Prop} (hh : A.handled = none) (ht : s.heap.IsTuple l (intItems xs)) (hne : 0 < xs.size)
    (h : ∀ v h' tk, (intItems xs)[argBest (fun i j => decide (numAt xs i > numAt xs j)) (xs.size - 1)]? = some v → (∀ b o, s.heap.get? b = some o → h'.get? b = some o) → Q v { s with heap := h', toks := tk }) : wpAny (model prog w) A (call (.builtin "max") [.ref l]) Q E s := by
  have hlt := tup_lt ht
  refine call_max_walk (wpAny_pyIter_tuple ht ?_)
  refine ⟨_, _, _, _, _, _, _, rfl, Walks.tuple (A := A.in1) hh _ l (Nat.ne_of_lt hlt) (intItems xs), ⟨⟨_, Heap.get?_push_size _ rfl, rfl, rfl⟩, ht.push _⟩, tIt_lt hlt, by simpa [intItems] using hne, CmpOf.ints_gt (numAt xs) (fun _ _ => intItems_at), fun v h' tk hP k => ?_⟩
  exact h v h' tk (by simpa [intItems] using hP) (tIt_old k)
theorem min_tupG {xs : Array (Int × Tok)} {Q : Value → Shared → Prop} (hh : A.handled = none) (ht : s.heap.IsTuple l (intItems xs)) (hne : 0 < xs.size)
    (h : ∀ v h' tk, (intItems xs)[argBest (fun i j => decide (numAt xs i < numAt xs j)) (xs.size - 1)]? = some v → (∀ b o, s.heap.get? b = some o → h'.get? b = some o) → Q v { s with heap := h', toks := tk }) : wpAny (model prog w) A (call (.builtin "min") [.ref l]) Q E s := by
  have hlt := tup_lt ht
  refine call_min_walk (wpAny_pyIter_tuple ht ?_)
  refine ⟨_, _, _, _, _, _, _, rfl, Walks.tuple (A := A.in1) hh _ l (Nat.ne_of_lt hlt) (intItems xs), ⟨⟨_, Heap.get?_push_size _ rfl, rfl, rfl⟩, ht.push _⟩, tIt_lt hlt, by simpa [intItems] using hne, CmpOf.ints_lt (numAt xs) (fun _ _ => intItems_at), fun v h' tk hP k => ?_⟩
  exact h v h' tk (by simpa [intItems] using hP) (tIt_old k)
end
def rSumT (K : PySem.W.Frag) : List V → Hp → VK → Prop := fun vs H Q => ∃ (a : Addr) (ns : List Int), vs = [V.ref a] ∧ SqT K H a (ns.map V.int) ∧ Q (.int ns.sum) H
def rMaxT (K : PySem.W.Frag) : List V → Hp → VK → Prop := fun vs H Q => ∃ (a : Addr) (ns : List Int), vs = [V.ref a] ∧ SqT K H a (ns.map V.int) ∧ 0 < ns.length ∧ ∀ m, m ∈ ns → (∀ y, y ∈ ns → y ≤ m) → Q (.int m) H
def rMinT (K : PySem.W.Frag) : List V → Hp → VK → Prop := fun vs H Q => ∃ (a : Addr) (ns : List Int), vs = [V.ref a] ∧ SqT K H a (ns.map V.int) ∧ 0 < ns.length ∧ ∀ m, m ∈ ns → (∀ y, y ∈ ns → m ≤ y) → Q (.int m) H
section
variable {X : Cx}
theorem cr_sumT (hc : X.calm = true) : CallR X (.builtin "sum") (rSumT X.K) := by
  intro pins s σ H vs us Q I r h
  obtain ⟨a, ns, rfl, hs, q⟩ := h
  obtain ⟨its, rv, pt, _⟩ := I.tuple hs
  rw [Vals.ref1 r]
  obtain ⟨xs, e⟩ := rv.ints.allInts.items
  have hn : numsOf (intItems xs).toList = ns := by rw [← e]; exact rv.ints.numsOf
  rw [nums_intItems] at hn
  have pt' : s.heap.IsTuple a (intItems xs) := by rw [← e]; exact pt
  refine sum_tupG (I.ok.hd hc) pt' fun h' tk t' k => ?_
  refine ⟨.int _, H, I.kept k, ⟨t', ?_⟩, q⟩
  rw [preSum_eq, List.take_of_length_le (by simp), hn]
theorem cr_maxT (hc : X.calm = true) : CallR X (.builtin "max") (rMaxT X.K) := by
  intro pins s σ H vs us Q I r h
  obtain ⟨a, ns, rfl, hs, hne, q⟩ := h
  obtain ⟨its, rv, pt, _⟩ := I.tuple hs
  rw [Vals.ref1 r]
  obtain ⟨xs, e⟩ := rv.ints.allInts.items
  have hn : numsOf (intItems xs).toList = ns := by rw [← e]; exact rv.ints.numsOf
  rw [nums_intItems] at hn
  subst hn
  have pt' : s.heap.IsTuple a (intItems xs) := by rw [← e]; exact pt
  have hsz : 0 < xs.size := by simpa using hne
  refine max_tupG (I.ok.hd hc) pt' hsz fun v h' tk hv k => ?_
  obtain ⟨t, rfl⟩ := intItems_at hv
  obtain ⟨h1, h2⟩ := argBest_gt (numAt xs) (xs.size - 1)
  refine ⟨.int _, H, I.kept k, ⟨t, rfl⟩, q _ ?_ fun y hy => ?_⟩
  · rw [numAt_eq]; exact PySem.getD_mem (by rw [List.length_map, Array.length_toList]; omega)
  · obtain ⟨j, hj, rfl⟩ := mem_getD hy
    rw [List.length_map, Array.length_toList] at hj
    rw [← numAt_eq]
    exact h2 j (by omega)
theorem cr_minT (hc : X.calm = true) : CallR X (.builtin "min") (rMinT X.K) := by
  intro pins s σ H vs us Q I r h
  obtain ⟨a, ns, rfl, hs, hne, q⟩ := h
  obtain ⟨its, rv, pt, _⟩ := I.tuple hs
  rw [Vals.ref1 r]
  obtain ⟨xs, e⟩ := rv.ints.allInts.items
  have hn : numsOf (intItems xs).toList = ns := by rw [← e]; exact rv.ints.numsOf
  rw [nums_intItems] at hn
  subst hn
  have pt' : s.heap.IsTuple a (intItems xs) := by rw [← e]; exact pt
  have hsz : 0 < xs.size := by simpa using hne
  refine min_tupG (I.ok.hd hc) pt' hsz fun v h' tk hv k => ?_
  obtain ⟨t, rfl⟩ := intItems_at hv
  obtain ⟨h1, h2⟩ := argBest_lt (numAt xs) (xs.size - 1)
  refine ⟨.int _, H, I.kept k, ⟨t, rfl⟩, q _ ?_ fun y hy => ?_⟩
  · rw [numAt_eq]; exact PySem.getD_mem (by rw [List.length_map, Array.length_toList]; omega)
  · obtain ⟨j, hj, rfl⟩ := mem_getD hy
    rw [List.length_map, Array.length_toList] at hj
    rw [← numAt_eq]
    exact h2 j (by omega)
end
end VL
/-! VL: argument lists, displays, built-ins by name. -/
namespace VL
open PySem L2 PyProof.Rows

def aNil : A1 := fun _ Q => Q [] .fr
def aCons (ta : E1) (tr : A1) : A1 := fun ρ Q => ta ρ fun d m => tr ρ fun ds m' => Q (d :: ds) (m.meet m')
section
variable {X : Cx} {a b c e : Expr} {es : List Expr} {ta tb tc te : E1} {tr : A1} {pos p : Pos} {x : Str}
theorem va_nil : VA X [] aNil := ⟨PA.imp pa_nil fun σ H Q ⟨G, ρ, st, h⟩ => h [] H (Stb.refl _ _) st.src Rvs.nil, fun ρ Q Q' k h => k _ _ h⟩
theorem va_cons (ha : VE X e te) (hr : VA X es tr) (hs : starEach (e :: es) X.env = (false, eval e X.env) :: starEach es X.env := by rfl) : VA X (e :: es) (aCons te tr) where
  pa := PA.imp (pa_cons ha.pe hr.pa hs) fun σ H Q ⟨G, ρ, st, h⟩ => by
    refine lift_of ha.mono st h fun d m h1 v H1 g1 s1 st1 r1 => ?_
    refine liftA_of hr.mono st1 h1 fun ds m' h2 vs H2 g2 s2 st2 r2 => ?_
    refine h2 _ H2 (g1.trans g2) s2 (Rvs.cons ?_ ?_)
    · exact Rv.mono (Rv.stb (g2.mono (excl_sa st m)) d v r1) (excl_meet1 st m m')
    · exact r2.mono fun b z => excl_back st g1 s1 m' b (excl_meet2 st m m' b z)
  mono := fun ρ Q Q' k h => ha.mono ρ _ _ (fun d m h => hr.mono ρ _ _ (fun ds m' h => k _ _ h) h) h

/-! ### displays: of flat data (new), of any -/
def eTup (t : A1) : E1 := fun ρ Q => t ρ fun ds _ => ds.length ≤ 100000 ∧ D.flats ds = true ∧ Q (.tup ds) .fr
def eLst (t : A1) : E1 := fun ρ Q => t ρ fun ds _ => ds.length ≤ 100000 ∧ D.flats ds = true ∧ Q (.lst ds) .fr
def eTupM (t : A1) : E1 := fun ρ Q => t ρ fun ds m => ds.length ≤ 100000 ∧ Q (.tup ds) m
def eLstM (t : A1) : E1 := fun ρ Q => t ρ fun ds m => ds.length ≤ 100000 ∧ Q (.lst ds) m
theorem ve_tupM {k1} (h : VA X es tr) : VE X (.Tuple es k1 pos) (eTupM tr) where
  pe := PE.imp (pe_tup h.pa) fun σ H Q ⟨G, ρ, st, hh⟩ => by
    refine liftA_of h.mono st hh fun ds m ⟨hz, hq⟩ vs H1 g1 s1 st1 r => ⟨by rw [← r.length]; exact sz1 hz, fun z hz => ?_⟩
    exact hq _ _ (g1.trans (Stb.same (Same.new hz))) (s1.same (Same.new hz)) (rv_newT hz r)
  mono := fun ρ Q Q' k hh => h.mono ρ _ _ (fun ds m ⟨h1, h2⟩ => ⟨h1, k _ _ h2⟩) hh
theorem ve_tup {k1} (h : VA X es tr) : VE X (.Tuple es k1 pos) (eTup tr) where
  pe := PE.imp (pe_tup h.pa) fun σ H Q ⟨G, ρ, st, hh⟩ => by
    refine liftA_of h.mono st hh fun ds m ⟨hz, hf, hq⟩ vs H1 g1 s1 st1 r => ⟨by rw [← r.length]; exact sz1 hz, fun z hz => ?_⟩
    exact hq _ _ (g1.trans (Stb.same (Same.new hz))) (s1.same (Same.new hz)) (rv_newT hz (Rvs.flat _ _ hf r))
  mono := fun ρ Q Q' k hh => h.mono ρ _ _ (fun ds m ⟨h1, h2, h3⟩ => ⟨h1, h2, k _ _ h3⟩) hh
theorem ve_lstM (h : VA X es tr) : VE X (.List es pos) (eLstM tr) where
  pe := PE.imp (pe_lst h.pa) fun σ H Q ⟨G, ρ, st, hh⟩ => by
    refine liftA_of h.mono st hh fun ds m ⟨hz, hq⟩ vs H1 g1 s1 st1 r => ⟨by rw [← r.length]; exact sz1 hz, fun z hz => ?_⟩
    refine hq _ _ (g1.trans (Stb.same (Same.new hz))) (s1.same (Same.new hz)) ?_
    rw [rv_lst]
    exact ⟨z, vs, rfl, fun w => dom_new hz (dom_grow st g1 s1 _ (excl_fr st m _ w)), upd_same, Rvs.stb (Stb.same (Same.new hz)) _ _ r⟩
  mono := fun ρ Q Q' k hh => h.mono ρ _ _ (fun ds m ⟨h1, h2⟩ => ⟨h1, k _ _ h2⟩) hh
theorem ve_lst (h : VA X es tr) : VE X (.List es pos) (eLst tr) where
  pe := PE.imp (pe_lst h.pa) fun σ H Q ⟨G, ρ, st, hh⟩ => by
    refine liftA_of h.mono st hh fun ds m ⟨hz, hf, hq⟩ vs H1 g1 s1 st1 r => ⟨by rw [← r.length]; exact sz1 hz, fun z hz => ?_⟩
    exact hq _ _ (g1.trans (Stb.same (Same.new hz))) (s1.same (Same.new hz)) (rv_newL hz hf r fun w => dom_new hz (dom_grow st g1 s1 _ w))
  mono := fun ρ Q Q' k hh => h.mono ρ _ _ (fun ds m ⟨h1, h2, h3⟩ => ⟨h1, h2, k _ _ h3⟩) hh

/-! ### built-ins by name -/
def CallV (K : PySem.W.Frag) (r : List V → Hp → VK → Prop) (f : List D → (D → Prop) → Prop) : Prop := ∀ (sa : Option Addr) (H : Hp) ds vs (q : D → Prop) (Q : VK), Rvs K sa (fun b => sa = some b) H ds vs → f ds q →
  (∀ d z H', q d → Same H H' → Rv K sa (dom H) H' d z → Q z H') → r vs H Q
def MonoC (f : List D → (D → Prop) → Prop) : Prop := ∀ ds q q', (∀ d, q d → q' d) → f ds q → f ds q'
def eCB (f : List D → (D → Prop) → Prop) (t : A1) : E1 := fun ρ Q => t ρ fun ds _ => f ds fun d => Q d .fr
theorem tCB_lift {K : PySem.W.Frag} {r : List V → Hp → VK → Prop} {f : List D → (D → Prop) → Prop} (hk : CallV K r f) (mt : ∀ ρ Q Q', (∀ d m, Q d m → Q' d m) → tr ρ Q → tr ρ Q') : ∀ σ H Q, lift K (eCB f tr) σ H Q → tCB r (liftA K tr) σ H Q := by
  rintro σ H Q ⟨G, ρ, st, h⟩
  refine liftA_of mt st h fun ds m hd vs H1 g1 s1 st1 r1 => ?_
  refine hk G.sa H1 ds vs _ Q (r1.mono (excl_sa st m)) hd fun d z H2 hq sm r2 => ?_
  exact hq z H2 (g1.trans (Stb.same sm)) (s1.same sm) (r2.mono fun b w => dom_grow st g1 s1 b w)
theorem eCB_mono {f : List D → (D → Prop) → Prop} (mf : MonoC f) (mt : ∀ ρ Q Q', (∀ d m, Q d m → Q' d m) → tr ρ Q → tr ρ Q') : MonoE (eCB f tr) := fun ρ Q Q' k h => mt ρ _ _ (fun ds m h => mf ds _ _ (fun d q => k _ _ q) h) h
theorem ve_callB {id : String} {r : List V → Hp → VK → Prop} {f : List D → (D → Prop) → Prop} (hk : CallV X.K r f) (mf : MonoC f) (hc : CallR X (.builtin id) r) (hg : Gl X x) (hm : X.mg x = none) (hv : bootBuiltins x = some (.builtin id)) (ha : VA X (e :: es) tr)
    (hn : x ≠ "__name__" := by decide) (hdb : (x == ("__debug__" : Str)) = false := by decide)
    (he : starEach (e :: es) X.env = (false, eval e X.env) :: starEach es X.env := by rfl) (hpl : (backTo pos (starEach es X.env)).any (·.1) = false := by rfl) : VE X (.Call (.Name x p) (e :: es) [] pos) (eCB f tr) :=
  ⟨PE.imp (pe_callB hc hg hm hv ha.pa hn hdb he hpl) (tCB_lift hk ha.mono), eCB_mono mf ha.mono⟩
theorem ve_callTy {T : String} {r : List V → Hp → VK → Prop} {f : List D → (D → Prop) → Prop} (hk : CallV X.K r f) (mf : MonoC f) (hc : CallR X (.type T) r) (hg : Gl X x) (hm : X.mg x = none) (hv : bootBuiltins x = some (.type T)) (ha : VA X (e :: es) tr)
    (hn : x ≠ "__name__" := by decide) (hdb : (x == ("__debug__" : Str)) = false := by decide)
    (he : starEach (e :: es) X.env = (false, eval e X.env) :: starEach es X.env := by rfl) (hpl : (backTo pos (starEach es X.env)).any (·.1) = false := by rfl) : VE X (.Call (.Name x p) (e :: es) [] pos) (eCB f tr) :=
  ⟨PE.imp (pe_callTy hc hg hm hv ha.pa hn hdb he hpl) (tCB_lift hk ha.mono), eCB_mono mf ha.mono⟩
end

/-- len -/
def fLen : List D → (D → Prop) → Prop := fun ds q => match ds with
  | [.lst l] => q (.int l.length)
  | [.tup l] => q (.int l.length)
  | [.scr l] => q (.int l.length)
  | _ => False
theorem fLen_mono : MonoC fLen := fun ds q q' k h => by
  unfold fLen at h ⊢
  split at h
  · exact k _ h
  · exact k _ h
  · exact k _ h
  · exact h.elim
theorem Rvs.one {K : PySem.W.Frag} {sa : Option Addr} {N : Addr → Prop} {H : Hp} {d : D} {vs : List V} (h : Rvs K sa N H [d] vs) : ∃ v, vs = [v] ∧ Rv K sa N H d v := by
  rw [rvs_cons] at h
  obtain ⟨v, r, rfl, h1, h2⟩ := h
  rw [rvs_nil] at h2
  exact ⟨v, by rw [h2], h1⟩
theorem Rvs.two {K : PySem.W.Frag} {sa : Option Addr} {N : Addr → Prop} {H : Hp} {d e : D} {vs : List V} (h : Rvs K sa N H [d, e] vs) : ∃ v w, vs = [v, w] ∧ Rv K sa N H d v ∧ Rv K sa N H e w := by
  rw [rvs_cons] at h
  obtain ⟨v, r, rfl, h1, h2⟩ := h
  obtain ⟨w, rfl, h3⟩ := h2.one
  exact ⟨v, w, rfl, h1, h3⟩
theorem Rvs.three {K : PySem.W.Frag} {sa : Option Addr} {N : Addr → Prop} {H : Hp} {d e f : D} {vs : List V} (h : Rvs K sa N H [d, e, f] vs) : ∃ v w z, vs = [v, w, z] ∧ Rv K sa N H d v ∧ Rv K sa N H e w ∧ Rv K sa N H f z := by
  rw [rvs_cons] at h
  obtain ⟨v, r, rfl, h1, h2⟩ := h
  obtain ⟨w, z, rfl, h3, h4⟩ := h2.two
  exact ⟨v, w, z, rfl, h1, h3, h4⟩
theorem fLen_ok {K : PySem.W.Frag} : CallV K (fun xs H Q => ∃ p ys, xs = [.ref p] ∧ (SqL K H p ys ∨ SqT K H p ys) ∧ Q (.int ys.length) H) fLen := by
  intro sa H ds vs q Q r h k
  unfold fLen at h
  split at h
  · obtain ⟨v, rfl, r1⟩ := r.one
    rw [rv_lst] at r1
    obtain ⟨a, us, rfl, _, e, t⟩ := r1
    exact ⟨a, us, rfl, .inl (SqL.of e), k _ _ _ h (Same.refl H) (by rw [rv_int, t.length])⟩
  · obtain ⟨v, rfl, r1⟩ := r.one
    rw [rv_tup] at r1
    obtain ⟨a, us, rfl, e, t⟩ := r1
    exact ⟨a, us, rfl, .inr e, k _ _ _ h (Same.refl H) (by rw [rv_int, t.length])⟩
  · obtain ⟨v, rfl, r1⟩ := r.one
    rw [rv_scr] at r1
    obtain ⟨a, rfl, e⟩ := r1
    exact ⟨a, _, rfl, .inl e.sq, k _ _ _ h (Same.refl H) (by rw [rv_int, List.length_map])⟩
  · exact h.elim
/-- abs -/
def fAbs : List D → (D → Prop) → Prop := fun ds q => match ds with
  | [.int i] => q (.int (i.natAbs : Int))
  | _ => False
theorem fAbs_mono : MonoC fAbs := fun ds q q' k h => by
  unfold fAbs at h ⊢
  split at h
  · exact k _ h
  · exact h.elim
theorem fAbs_ok {K : PySem.W.Frag} : CallV K (fun xs H Q => ∃ i, xs = [.int i] ∧ Q (.int (if i < 0 then -i else i)) H) fAbs := by
  intro sa H ds vs q Q r h k
  unfold fAbs at h
  split at h
  · rename_i i
    obtain ⟨v, rfl, r1⟩ := r.one
    rw [rv_int] at r1
    subst r1
    have e : (if i < 0 then -i else i) = (i.natAbs : Int) := by split <;> omega
    exact ⟨i, rfl, by rw [e]; exact k _ _ _ h (Same.refl H) (by rw [rv_int])⟩
  · exact h.elim
/-- max, min: of ints, of a list of ints -/
def Top (ns : List Int) (m : Int) : Prop := m ∈ ns ∧ ∀ y ∈ ns, y ≤ m
def Bot (ns : List Int) (m : Int) : Prop := m ∈ ns ∧ ∀ y ∈ ns, m ≤ y
def fMax : List D → (D → Prop) → Prop := fun ds q => match ds with
  | [.int i, .int j] => q (.int (max i j))
  | [.int i, .int j, .int k] => q (.int (max (max i j) k))
  | [.lst l] => ∃ ns, l = ns.map D.int ∧ ns ≠ [] ∧ ∀ m, Top ns m → q (.int m)
  | [.tup l] => ∃ ns, l = ns.map D.int ∧ ns ≠ [] ∧ ∀ m, Top ns m → q (.int m)
  | _ => False
def fMin : List D → (D → Prop) → Prop := fun ds q => match ds with
  | [.int i, .int j] => q (.int (min i j))
  | [.lst l] => ∃ ns, l = ns.map D.int ∧ ns ≠ [] ∧ ∀ m, Bot ns m → q (.int m)
  | [.tup l] => ∃ ns, l = ns.map D.int ∧ ns ≠ [] ∧ ∀ m, Bot ns m → q (.int m)
  | _ => False
theorem fMax_mono : MonoC fMax := fun ds q q' k h => by
  unfold fMax at h ⊢
  split at h
  · exact k _ h
  · exact k _ h
  · obtain ⟨ns, e, n, h⟩ := h
    exact ⟨ns, e, n, fun m t => k _ (h m t)⟩
  · obtain ⟨ns, e, n, h⟩ := h
    exact ⟨ns, e, n, fun m t => k _ (h m t)⟩
  · exact h.elim
theorem fMin_mono : MonoC fMin := fun ds q q' k h => by
  unfold fMin at h ⊢
  split at h
  · exact k _ h
  · obtain ⟨ns, e, n, h⟩ := h
    exact ⟨ns, e, n, fun m t => k _ (h m t)⟩
  · obtain ⟨ns, e, n, h⟩ := h
    exact ⟨ns, e, n, fun m t => k _ (h m t)⟩
  · exact h.elim
theorem call_max3 {X : Cx} (hc : X.calm = true) : CallR X (.builtin "max") (fun xs H Q => ∃ i j k, xs = [.int i, .int j, .int k] ∧ Q (.int (max (max i j) k)) H) := by
  intro pins s σ H xs us Q I r h
  obtain ⟨i, j, k, rfl, q⟩ := h
  cases r with
  | cons r1 r =>
    obtain ⟨u, w', rfl, ⟨t', rfl⟩, ⟨t2, rfl⟩⟩ := vals2 r
    obtain ⟨t, rfl⟩ := r1
    refine max_three_ints (I.ok.hd hc) fun h' tk kk => ?_
    have I' := I.kept (t' := tk) kk
    have e : ∃ tt, (if j > i then (if k > j then Value.int k t2 else Value.int j t') else (if k > i then Value.int k t2 else Value.int i t)) = Value.int (max (max i j) k) tt := by
      by_cases h1 : j > i
      · rw [if_pos h1]
        by_cases h2 : k > j
        · rw [if_pos h2]; exact ⟨t2, by congr 1; omega⟩
        · rw [if_neg h2]; exact ⟨t', by congr 1; omega⟩
      · rw [if_neg h1]
        by_cases h2 : k > i
        · rw [if_pos h2]; exact ⟨t2, by congr 1; omega⟩
        · rw [if_neg h2]; exact ⟨t, by congr 1; omega⟩
    exact ⟨.int (max (max i j) k), H, I', e, q⟩
def rMaxA (K : PySem.W.Frag) : List V → Hp → VK → Prop := fun xs H Q => (∃ i j, xs = [.int i, .int j] ∧ Q (.int (if j > i then j else i)) H) ∨ ((∃ i j k, xs = [.int i, .int j, .int k] ∧ Q (.int (max (max i j) k)) H) ∨ (rMax K xs H Q ∨ rMaxT K xs H Q))
def rMinA (K : PySem.W.Frag) : List V → Hp → VK → Prop := fun xs H Q => (∃ i j, xs = [.int i, .int j] ∧ Q (.int (if j < i then j else i)) H) ∨ (rMin K xs H Q ∨ rMinT K xs H Q)
theorem call_maxA {X : Cx} (hc : X.calm = true) : CallR X (.builtin "max") (rMaxA X.K) := (call_max2 hc).or ((call_max3 hc).or ((cr_max hc).or (cr_maxT hc)))
theorem call_minA {X : Cx} (hc : X.calm = true) : CallR X (.builtin "min") (rMinA X.K) := (call_min2 hc).or ((cr_min hc).or (cr_minT hc))
theorem fMax_ok {K : PySem.W.Frag} : CallV K (rMaxA K) fMax := by
  intro sa H ds vs q Q r h k
  unfold fMax at h
  split at h
  · rename_i i j
    obtain ⟨v, w, rfl, r1, r2⟩ := r.two
    rw [rv_int] at r1 r2
    subst r1 r2
    have e : (if j > i then j else i) = max i j := by split <;> omega
    exact .inl ⟨i, j, rfl, by rw [e]; exact k _ _ _ h (Same.refl H) (by rw [rv_int])⟩
  · rename_i i j n
    obtain ⟨v, w, z, rfl, r1, r2, r3⟩ := r.three
    rw [rv_int] at r1 r2 r3
    subst r1 r2 r3
    exact .inr (.inl ⟨i, j, n, rfl, k _ _ _ h (Same.refl H) (by rw [rv_int])⟩)
  · obtain ⟨ns, rfl, hn, hq⟩ := h
    obtain ⟨v, rfl, r1⟩ := r.one
    rw [rv_lst] at r1
    obtain ⟨a, us, rfl, _, e, t⟩ := r1
    have e2 := t.ints
    subst e2
    exact .inr (.inr (.inl ⟨a, ns, rfl, SqL.of e, List.length_pos_iff.mpr hn, fun m h1 h2 => k _ _ _ (hq m ⟨h1, h2⟩) (Same.refl H) (by rw [rv_int])⟩))
  · obtain ⟨ns, rfl, hn, hq⟩ := h
    obtain ⟨v, rfl, r1⟩ := r.one
    rw [rv_tup] at r1
    obtain ⟨a, us, rfl, e, t⟩ := r1
    have e2 := t.ints
    subst e2
    exact .inr (.inr (.inr ⟨a, ns, rfl, e, List.length_pos_iff.mpr hn, fun m h1 h2 => k _ _ _ (hq m ⟨h1, h2⟩) (Same.refl H) (by rw [rv_int])⟩))
  · exact h.elim
theorem fMin_ok {K : PySem.W.Frag} : CallV K (rMinA K) fMin := by
  intro sa H ds vs q Q r h k
  unfold fMin at h
  split at h
  · rename_i i j
    obtain ⟨v, w, rfl, r1, r2⟩ := r.two
    rw [rv_int] at r1 r2
    subst r1 r2
    have e : (if j < i then j else i) = min i j := by split <;> omega
    exact .inl ⟨i, j, rfl, by rw [e]; exact k _ _ _ h (Same.refl H) (by rw [rv_int])⟩
  · obtain ⟨ns, rfl, hn, hq⟩ := h
    obtain ⟨v, rfl, r1⟩ := r.one
    rw [rv_lst] at r1
    obtain ⟨a, us, rfl, _, e, t⟩ := r1
    have e2 := t.ints
    subst e2
    exact .inr (.inl ⟨a, ns, rfl, SqL.of e, List.length_pos_iff.mpr hn, fun m h1 h2 => k _ _ _ (hq m ⟨h1, h2⟩) (Same.refl H) (by rw [rv_int])⟩)
  · obtain ⟨ns, rfl, hn, hq⟩ := h
    obtain ⟨v, rfl, r1⟩ := r.one
    rw [rv_tup] at r1
    obtain ⟨a, us, rfl, e, t⟩ := r1
    have e2 := t.ints
    subst e2
    exact .inr (.inr ⟨a, ns, rfl, e, List.length_pos_iff.mpr hn, fun m h1 h2 => k _ _ _ (hq m ⟨h1, h2⟩) (Same.refl H) (by rw [rv_int])⟩)
  · exact h.elim
/-- sum of ints -/
def fSum : List D → (D → Prop) → Prop := fun ds q => ∃ ns : List Int, (ds = [.lst (ns.map D.int)] ∨ ds = [.tup (ns.map D.int)]) ∧ q (.int ns.sum)
theorem fSum_mono : MonoC fSum := fun ds q q' k ⟨ns, e, h⟩ => ⟨ns, e, k _ h⟩
theorem call_sumA {X : Cx} (hc : X.calm = true) : CallR X (.builtin "sum") (fun xs H Q => rSum X.K xs H Q ∨ rSumT X.K xs H Q) := (cr_sum hc).or (cr_sumT hc)
theorem fSum_ok {K : PySem.W.Frag} : CallV K (fun xs H Q => rSum K xs H Q ∨ rSumT K xs H Q) fSum := by
  intro sa H ds vs q Q r ⟨ns, e, h⟩ k
  rcases e with e | e
  · subst e
    obtain ⟨v, rfl, r1⟩ := r.one
    rw [rv_lst] at r1
    obtain ⟨a, us, rfl, _, e, t⟩ := r1
    have e2 := t.ints
    subst e2
    exact .inl ⟨a, ns, rfl, SqL.of e, k _ _ _ h (Same.refl H) (by rw [rv_int])⟩
  · subst e
    obtain ⟨v, rfl, r1⟩ := r.one
    rw [rv_tup] at r1
    obtain ⟨a, us, rfl, e, t⟩ := r1
    have e2 := t.ints
    subst e2
    exact .inr ⟨a, ns, rfl, e, k _ _ _ h (Same.refl H) (by rw [rv_int])⟩
/-- all of a list of truth values -/
def fAll : List D → (D → Prop) → Prop := fun ds q => ∃ bs : List Bool, ds = [.lst (bs.map D.bl)] ∧ q (.bl (bs.all id))
theorem fAll_mono : MonoC fAll := fun ds q q' k ⟨ns, e, h⟩ => ⟨ns, e, k _ h⟩
theorem Rvs.bls {K : PySem.W.Frag} {sa : Option Addr} {N : Addr → Prop} {H : Hp} : ∀ {ns : List Bool} {vs : List V}, Rvs K sa N H (ns.map D.bl) vs → vs = ns.map V.bl
  | [], _, h => by rw [List.map_nil, rvs_nil] at h; exact h
  | n :: ns, _, h => by
    rw [List.map_cons, rvs_cons] at h
    obtain ⟨v, r, rfl, h1, t⟩ := h
    rw [rv_bl] at h1
    rw [h1, Rvs.bls t, List.map_cons]
theorem fAll_ok {K : PySem.W.Frag} : CallV K (rAll K) fAll := by
  intro sa H ds vs q Q r ⟨ns, e, h⟩ k
  subst e
  obtain ⟨v, rfl, r1⟩ := r.one
  rw [rv_lst] at r1
  obtain ⟨a, us, rfl, _, e, t⟩ := r1
  have e2 := t.bls
  subst e2
  exact ⟨a, ns, rfl, SqL.of e, k _ _ _ h (Same.refl H) (by rw [rv_bl])⟩
/-- list(x), tuple(x) of flat data -/
def fList : List D → (D → Prop) → Prop := fun ds q => ∃ x l, ds = [x] ∧ x.items = some l ∧ D.flats l = true ∧ q (.lst l)
theorem fList_mono : MonoC fList := fun ds q q' k ⟨x, l, e, e2, f, h⟩ => ⟨x, l, e, e2, f, k _ h⟩
theorem fList_ok {K : PySem.W.Frag} : CallV K (fun xs H Q => ∃ p ys, xs = [.ref p] ∧ (SqL K H p ys ∨ SqT K H p ys) ∧ ∀ l, H l = none → Q (.ref l) (upd H l (.lst ys))) fList := by
  intro sa H ds vs q Q r ⟨x, l, e, e2, f, h⟩ k
  subst e
  obtain ⟨v, rfl, r1⟩ := r.one
  cases x with
  | lst es =>
    cases e2
    rw [rv_lst] at r1
    obtain ⟨a, us, rfl, _, e, t⟩ := r1
    exact ⟨a, us, rfl, .inl (SqL.of e), fun z hz => k _ _ _ h (Same.new hz) (rv_newL hz f t (dom_new hz))⟩
  | tup es =>
    cases e2
    rw [rv_tup] at r1
    obtain ⟨a, us, rfl, e, t⟩ := r1
    exact ⟨a, us, rfl, .inr e, fun z hz => k _ _ _ h (Same.new hz) (rv_newL hz f t (dom_new hz))⟩
  | _ => cases e2
def fTuple : List D → (D → Prop) → Prop := fun ds q => ∃ x l, ds = [x] ∧ x.items = some l ∧ D.flats l = true ∧ q (.tup l)
theorem fTuple_mono : MonoC fTuple := fun ds q q' k ⟨x, l, e, e2, f, h⟩ => ⟨x, l, e, e2, f, k _ h⟩
theorem fTuple_ok {K : PySem.W.Frag} : CallV K (fun xs H Q => ∃ p ys, xs = [.ref p] ∧ ((SqL K H p ys ∧ ∀ l, H l = none → Q (.ref l) (upd H l (.tup ys))) ∨ (SqT K H p ys ∧ Q (.ref p) H))) fTuple := by
  intro sa H ds vs q Q r ⟨x, l, e, e2, f, h⟩ k
  subst e
  obtain ⟨v, rfl, r1⟩ := r.one
  cases x with
  | lst es =>
    cases e2
    rw [rv_lst] at r1
    obtain ⟨a, us, rfl, _, e, t⟩ := r1
    exact ⟨a, us, rfl, .inl ⟨SqL.of e, fun z hz => k _ _ _ h (Same.new hz) (rv_newT hz (Rvs.flat _ _ f t))⟩⟩
  | tup es =>
    cases e2
    rw [rv_tup] at r1
    obtain ⟨a, us, rfl, e, t⟩ := r1
    exact ⟨a, us, rfl, .inr ⟨e, k _ _ _ h (Same.refl H) (by rw [rv_tup]; exact ⟨a, us, rfl, e, Rvs.flat _ _ f t⟩)⟩⟩
  | _ => cases e2
/-- int(x) -/
def fInt : List D → (D → Prop) → Prop := fun ds q => match ds with
  | [.int i] => q (.int i)
  | [.bl b] => q (.int (if b then 1 else 0))
  | _ => False
theorem fInt_mono : MonoC fInt := fun ds q q' k h => by
  unfold fInt at h ⊢
  split at h
  · exact k _ h
  · exact k _ h
  · exact h.elim
theorem fInt_ok {K : PySem.W.Frag} : CallV K (fun xs H Q => (∃ i, xs = [.int i] ∧ Q (.int i) H) ∨ ∃ k, xs = [.bl k] ∧ Q (.int (if k then 1 else 0)) H) fInt := by
  intro sa H ds vs q Q r h k
  unfold fInt at h
  split at h
  · rename_i i
    obtain ⟨v, rfl, r1⟩ := r.one
    rw [rv_int] at r1
    subst r1
    exact .inl ⟨i, rfl, k _ _ _ h (Same.refl H) (by rw [rv_int])⟩
  · rename_i i
    obtain ⟨v, rfl, r1⟩ := r.one
    rw [rv_bl] at r1
    subst r1
    exact .inr ⟨i, rfl, k _ _ _ h (Same.refl H) (by rw [rv_int])⟩
  · exact h.elim
/-- isinstance(x, T) -/
def D.isT : D → String → Bool
  | .int _, "int" => true
  | .bl _, "int" => true
  | .bl _, "bool" => true
  | .tup _, "tuple" => true
  | .lst _, "list" => true
  | _, _ => false
def isTs : List String := ["int", "bool", "tuple", "list"]
def D.tyN : D → Option String
  | .non => some "NoneType"
  | .bl _ => some "bool"
  | .int _ => some "int"
  | .str _ => some "str"
  | .tup _ => some "tuple"
  | .lst _ => some "list"
  | _ => none
def fIsi : List D → (D → Prop) → Prop := fun ds q => ∃ x T, ds = [x, .ty T] ∧ x.tyN.isSome = true ∧ T ∈ isTs ∧ q (.bl (x.isT T))
theorem fIsi_mono : MonoC fIsi := fun ds q q' k ⟨x, l, e, e2, f, h⟩ => ⟨x, l, e, e2, f, k _ h⟩
theorem kitB_is : ∀ a ∈ ["NoneType", "bool", "int", "str", "tuple", "list"], ∀ T ∈ isTs, kitB a T = some (if a = T then true else decide (a = "bool" ∧ T = "int")) := by decide +kernel
theorem isT_tyN {x : D} {a T : String} (h : x.tyN = some a) (hT : T ∈ isTs) : x.isT T = (if a = T then true else decide (a = "bool" ∧ T = "int")) := by
  have hT' : T = "int" ∨ T = "bool" ∨ T = "tuple" ∨ T = "list" := by simpa [isTs] using hT
  cases x <;> simp [D.tyN] at h <;> subst h <;> rcases hT' with rfl | rfl | rfl | rfl <;> simp [D.isT]
theorem tyN_mem {x : D} {a : String} (h : x.tyN = some a) : a ∈ ["NoneType", "bool", "int", "str", "tuple", "list"] := by
  cases x <;> simp [D.tyN] at h <;> subst h <;> simp
theorem tyX_of {K : PySem.W.Frag} {sa : Option Addr} {N : Addr → Prop} {H : Hp} {x : D} {v : V} {a : String} (h : x.tyN = some a) (r : Rv K sa N H x v) : TyX K H v (.type a) := by
  cases x with
  | non => cases h; rw [rv_non] at r; subst r; exact .base .non
  | bl b => cases h; rw [rv_bl] at r; subst r; exact .base (.bl b)
  | int i => cases h; rw [rv_int] at r; subst r; exact .base (.int i)
  | str i => cases h; rw [rv_str] at r; subst r; exact .base (.str i)
  | tup ds =>
    cases h
    rw [rv_tup] at r
    obtain ⟨p, vs, rfl, q, _⟩ := r
    rcases q with (q | ⟨o, q⟩) | ⟨o, its, n, q, c, _⟩
    · exact .base (.tup q)
    · exact .fTuple q
    · exact .kTuple q c
  | lst ds =>
    cases h
    rw [rv_lst] at r
    obtain ⟨p, vs, rfl, _, q, _⟩ := r
    exact .base (.lst q)
  | _ => cases h
theorem fIsi_ok {K : PySem.W.Frag} : CallV K (rIsi K) fIsi := by
  intro sa H ds vs q Q r ⟨x, T, e, e2, hT, h⟩ k
  subst e
  obtain ⟨v, w, rfl, r1, r2⟩ := r.two
  rw [rv_ty] at r2
  subst r2
  obtain ⟨a, ha⟩ := Option.isSome_iff_exists.mp e2
  refine ⟨v, .ty T, .type a, .type T, x.isT T, rfl, .ty T, tyX_of ha r1, kit_ty ?_, k _ _ _ h (Same.refl H) (by rw [rv_bl])⟩
  rw [isT_tyN ha hT]
  exact kitB_is a (tyN_mem ha) T hT
/-- sorted of a list of ints -/
def Srt (ns ms : List Int) : Prop := ms.Perm ns ∧ ms.Pairwise (· ≤ ·)
def fSorted : List D → (D → Prop) → Prop := fun ds q => ∃ ns : List Int, ds = [.lst (ns.map D.int)] ∧ ns.length < 64 ∧ ∀ ms, Srt ns ms → q (.lst (ms.map D.int))
theorem fSorted_mono : MonoC fSorted := fun ds q q' k ⟨ns, e, l, h⟩ => ⟨ns, e, l, fun ms s => k _ (h ms s)⟩
end VL
/-! VL: what is walked: lists and tuples alike, ranges, enumerate, zip. -/
namespace PySem
open Sem (wp)
set_option maxHeartbeats 1000000 in
theorem vl_enum_newB {v : Value} {o : Obj} {H : Heap → Prop} (B : Begins v o H) :
    Meets (Builtin.«enumerate.__new__» ⟨[.type "enumerate", v], []⟩) (fun _ R s => H s.heap ∧
      R (.ok (.ret (.ref (s.heap.push o).objs.size))) { s with heap := (s.heap.push o).push { cls := .type "enumerate", data := .fields #[.none, .bool false, .ref s.heap.objs.size, rawInt 0, .none, .none] } }) :=
  .of_wp fun prog w A R s h => by
    obtain ⟨hp, g, d, tk, os⟩ := s; obtain ⟨h1, h⟩ := h
    have hsub := sub_enumerate
    have q1 : ∀ {A' : Around} {E : Value → Shared → Prop} {Q : Value → Shared → Prop}, Q (.ref hp.objs.size) ⟨hp.push o, g, d, tk, os⟩ → wpAny (model prog w) A' (pyIter v) Q E ⟨hp, g, d, tk, os⟩ :=
      fun q => B.iter prog w _ _ ⟨hp, g, d, tk, os⟩ _ h1 q
    wp_walk using q1
    refine wpAny_stack_any fun st => wpAny_pure ?_
    split
    · rename_i c _ _ _ _ _
      cases (c == Value.type "enumerate")
      · wp_walk using q1
        exact ⟨_, rfl, h⟩
      · wp_walk using q1
        exact ⟨_, rfl, h⟩
    · wp_walk using q1
      exact ⟨_, rfl, h⟩
theorem vl_enum_begins {prog : Program} {w : World} {A : Around} {E : Value → Shared → Prop} {s : Shared} {v : Value} {o : Obj} {H : Heap → Prop} {Q : Value → Shared → Prop} (B : Begins v o H) (h1 : H s.heap)
    (h : ∀ h', IsEnum h' (s.heap.objs.size + 1) s.heap.objs.size 0 .none → h'.get? s.heap.objs.size = some o → h'.objs.size = s.heap.objs.size + 2 →
      (∀ b o, s.heap.get? b = some o → h'.get? b = some o) → Q (.ref (s.heap.objs.size + 1)) { s with heap := h' }) :
    wpAny (model prog w) A (call (.type "enumerate") [v]) Q E s := by
  refine callType_new F.called_enumerate (by decide) (F.typeCall_enumerate_1 _) (F.newCall_enumerate_1 _) (fun obj => F.args_object_init_2 obj _) F.entry_enumerate_new
    (vl_enum_newB B) ⟨h1, ?_⟩
  have hz : (s.heap.push o).objs.size = s.heap.objs.size + 1 := Heap.size_push ..
  show _ ∧ _
  rw [hz]
  have he : IsEnum ((s.heap.push o).push { cls := .type "enumerate", data := .fields #[.none, .bool false, .ref s.heap.objs.size, rawInt 0, .none, .none] }) (s.heap.objs.size + 1) s.heap.objs.size 0 .none := by
    have := Heap.get?_push_size (s.heap.push o) (o := { cls := .type "enumerate", data := .fields #[.none, .bool false, .ref s.heap.objs.size, rawInt 0, .none, .none] }) rfl
    rw [hz] at this; exact this
  refine ⟨⟨_, he, rfl⟩, h _ he (Heap.get?_push_of_some _ (Heap.get?_push_size _ B.free)) (by rw [Heap.size_push, hz]) fun b o x => Heap.get?_push_of_some _ (Heap.get?_push_of_some _ x)⟩
end PySem
namespace VL
open PySem PySem.Spec L2 PyProof.Rows

/-! ### a list or a tuple -/
def Sq (K : PySem.W.Frag) (k : Bool) (H : Hp) (a : Addr) (xs : List V) : Prop := if k = true then SqT K H a xs else SqL K H a xs
def KIs (k : Bool) (h : Heap) (a : Addr) (its : Array Value) : Prop := if k = true then h.IsTuple a its else h.IsList a its
def KIter (k : Bool) (h : Heap) (it a : Addr) (i : Nat) : Prop := if k = true then h.IsTupleIter it a i else h.IsListIter it a i
def kObj (k : Bool) (a : Addr) : Obj := { cls := .type (if k = true then "tuple_iterator" else "list_iterator"), data := .fields #[.ref a, .int 0 0] }
section
variable {X : Cx} {pins : List (Addr × Obj)} {σ : L2.St} {H : Hp} {s : Shared} {a : Addr} {xs ys : List V} {k : Bool}
theorem Inv.sq (I : Inv X pins σ H s) (h : Sq X.K k H a xs) : ∃ its : List Value, Vals xs its ∧ KIs k s.heap a its.toArray ∧ xs.length ≤ sizeLine := by
  cases k with
  | true =>
    obtain ⟨its, r, p, z⟩ := I.tuple (show SqT X.K H a xs from h)
    exact ⟨its, r, p, z⟩
  | false =>
    obtain ⟨its, r, p, z⟩ := I.list (show SqL X.K H a xs from h)
    exact ⟨its, r, p.isList, z⟩
theorem Inv.sq_inj (I : Inv X pins σ H s) (h : Sq X.K k H a xs) (h' : Sq X.K k H a ys) : xs = ys := by
  cases k with
  | true => exact I.tuple_inj h h'
  | false => exact I.list_inj h h'
theorem kis_lt {h : Heap} {its : Array Value} (p : KIs k h a its) : a < h.objs.size := by
  cases k with
  | true => obtain ⟨_, e, _⟩ := (show h.IsTuple a its from p); exact Heap.lt_size e
  | false => obtain ⟨_, e, _⟩ := (show h.IsList a its from p); exact Heap.lt_size e
theorem kdraws {prog : Program} {w : World} {A : Around} (hh : A.handled = none) (it l : Addr) (hne : l ≠ it) (items : Array Value) :
    Draws prog w A it [it, l] items.size (fun i v => items[i]? = some v) (fun i h => KIter k h it l i ∧ KIs k h l items) := by
  cases k with
  | true => exact Draws.tuple hh it l hne items
  | false => exact Draws.list hh it l hne items
theorem kbegins (l : Addr) (items : Array Value) : Begins (.ref l) (kObj k l) fun h => KIs k h l items := by
  cases k with
  | true => exact begins_tuple l items
  | false => exact begins_list l items
theorem kiter_obj {h : Heap} {it l : Addr} {i : Nat} (x : KIter k h it l i) : ∃ o, h.get? it = some o ∧ ∀ v, o.data ≠ .cell v := by
  cases k with
  | true => obtain ⟨o, e, _, d⟩ := (show h.IsTupleIter it l i from x); exact ⟨o, e, fun v q => by rw [d] at q; cases q⟩
  | false => obtain ⟨o, e, _, d⟩ := (show h.IsListIter it l i from x); exact ⟨o, e, fun v q => by rw [d] at q; cases q⟩
theorem kiter_at {h h' : Heap} {it l : Addr} {i : Nat} (x : KIter k h it l i) (hk : ∀ o, h.get? it = some o → h'.get? it = some o) : KIter k h' it l i := by
  cases k with
  | true => exact (show h.IsTupleIter it l i from x).at hk
  | false => exact (show h.IsListIter it l i from x).at hk
theorem kiter_new {h : Heap} {it l : Addr} (e : h.get? it = some (kObj k l)) : KIter k h it l 0 := by
  cases k with
  | true => exact ⟨_, e, rfl, rfl⟩
  | false => exact ⟨_, e, rfl, rfl⟩
end

/-! ### enumerate -/
def Ite2 (K : PySem.W.Frag) (k : Bool) (a : Addr) : It :=
  ⟨fun i H => ∃ (xs : List V) (x : V), Sq K k H a xs ∧ xs[i]? = some x, fun i H v H' => ∃ T x, v = .ref T ∧ H T = none ∧ H' = upd H T (.tup [.int (i : Nat), x]) ∧ ∀ xs, Sq K k H a xs → xs[i]? = some x, fun i H => ∃ xs : List V, Sq K k H a xs ∧ xs.length = i⟩
theorem turn_enum2 {P : Program} {w : World} {K : PySem.W.Frag} {elts : List Expr} {kk : Nat} {tpos : Pos} {k : Bool} (a e it : Addr) (hai : a ≠ it) (hae : a ≠ e) :
    Turn P w K (.Tuple elts kk tpos) (Ite2 K k a) [e, it] e (fun i h => (∃ old, IsEnum h e it ((i : Nat) : Int) old) ∧ KIter k h it a i ∧ e ≠ it) where
  mem := by simp
  obj := fun i h st b hb => by
    obtain ⟨⟨old, he⟩, hi, _⟩ := st
    have e' : b = e ∨ b = it := by simpa using hb
    rcases e' with z | z
    · rw [z]; exact ⟨_, he, fun v q => nomatch q⟩
    · rw [z]; exact kiter_obj hi
  keep := fun i h h' st k => let ⟨⟨old, he⟩, hi, hne⟩ := st; ⟨⟨old, k e (by simp) _ he⟩, kiter_at hi fun o q => k it (by simp) o q, hne⟩
  item := by
    intro X hP hw hK hc i pins s σ H E I hf st hg
    subst hP hw hK
    obtain ⟨⟨old, he⟩, hit, hne⟩ := st
    obtain ⟨xs, x, hq, hx⟩ := hg
    obtain ⟨its, rv, p, hz⟩ := Inv.sq I hq
    obtain ⟨u, hu, ru⟩ := rv.get hx
    have hel : e < s.heap.objs.size := Heap.lt_size he
    have hil : it < s.heap.objs.size := by obtain ⟨_, q, _⟩ := kiter_obj hit; exact Heap.lt_size q
    have hlt : i < its.toArray.size := by simpa using (List.getElem?_eq_some_iff.mp hu).1
    have Dr := kdraws (prog := X.prog) (w := X.w) (A := X.A.in1) (k := k) (I.ok.hd hc) it a hai its.toArray
    refine wpAny_pyNext_enum_itemD Dr he ⟨hit, p⟩ hlt hne (fun z => ?_) fun x' h' tk hx' ho hit' hT hsz hk => ?_
    · rcases List.mem_cons.mp z with z | z
      · exact hne z
      · exact hae (List.mem_singleton.mp z).symm
    have hu' : its.toArray[i]? = some u := by simpa using hu
    rw [hu'] at hx'
    cases hx'
    refine ⟨_, rfl, wpAny_letOwnedTupleGo_enum (s := { s with heap := h', toks := tk + 1 }) ho fun h'' he' sb => ?_⟩
    have hT2 : h''.get? s.heap.objs.size = some { cls := .type "tuple", data := .seq #[.int i tk, u] } := (sb.2 _ (Nat.ne_of_gt hel)).trans hT
    have new : ObjOk X.prog X.w (upd H s.heap.objs.size (.tup [.int (i : Nat), x])) h'' s.heap.objs.size (.tup [.int (i : Nat), x]) :=
      ⟨by show 2 ≤ sizeLine; decide, [.int i tk, u], .cons ⟨_, rfl⟩ (.cons ru .nil), ⟨_, hT2, rfl, _, rfl⟩⟩
    have I1 : Inv X pins σ (upd H s.heap.objs.size (.tup [.int (i : Nat), x])) { s with heap := h'', toks := tk + 1 } :=
      I.turnedNew (ch := [e, it]) (fun b ob hb q => (sb.2 b (fun z => hb (by simp [z]))).trans (hk b ob (fun z => hb (by simp [z])) (fun z => hb (by simp [z])) q)) hf (Nat.le_refl _) new
    refine ⟨.ref s.heap.objs.size, _, I1, rfl, ⟨_, x, rfl, I.hok.fresh (Nat.le_refl _), rfl, fun ys hy => by rw [Inv.sq_inj I hy hq]; exact hx⟩, ⟨⟨u, ?_⟩, kiter_at hit'.1 fun o q => (sb.2 it (Ne.symm hne)).trans q, hne⟩, fun b hb => ?_⟩
    · have e1 : ((i + 1 : Nat) : Int) = (i : Int) + 1 := by omega
      rw [e1]; exact he'
    · have hb' : b < s.heap.objs.size := by
        have e' : b = e ∨ b = it := by simpa using hb
        rcases e' with z | z
        · rw [z]; exact hel
        · rw [z]; exact hil
      rw [upd_ne (Nat.ne_of_lt hb')]
      exact (hf b hb).1
  done := by
    intro X hP hw hK hc i pins s σ H E I hf st hg
    subst hP hw hK
    obtain ⟨⟨old, he⟩, hit, hne⟩ := st
    obtain ⟨xs, hq, hx⟩ := hg
    obtain ⟨its, rv, p, hz⟩ := Inv.sq I hq
    obtain ⟨f0, f1, f2, f3, f4, f5⟩ := hf it (by simp)
    have hl := rv.length
    have hn : its.toArray.size = i := by simp; omega
    have Dr := kdraws (prog := X.prog) (w := X.w) (A := X.A.in1) (k := k) (I.ok.hd hc) it a hai its.toArray
    refine wpAny_pyNext_enum_endD Dr he (by rw [hn]; exact ⟨hit, p⟩) fun h' eb => ⟨rfl, I.turned (t' := s.toks) (fun b o hb q => eb b o hb q) f0 f1 f3 f4 f5⟩
  self := fun A i s Q E st h => let ⟨⟨_, he⟩, _⟩ := st; wpAny_pyIter_enum he h
def iEnum2 (K : PySem.W.Frag) (ta : TA) : TI := fun σ H R => ta σ H fun vs H1 => ∃ k a xs, vs = [.ref a] ∧ Sq K k H1 a xs ∧ R (Ite2 K k a) H1
theorem pi_enum2 {X : Cx} {e : Expr} {ta : TA} {p pos tpos : Pos} {elts : List Expr} {kk : Nat} (hg : Gl X "enumerate") (hm : X.mg "enumerate" = none) (ha : PA X [e] ta) (hs : starEach [e] X.env = [(false, eval e X.env)] := by rfl) :
    PI X (.Tuple elts kk tpos) (.Call (.Name "enumerate" p) [e] [] pos) (iEnum2 X.K ta) := by
  refine ⟨fun pins s σ H R I h => ?_⟩
  refine Call_ (ld_blt I hg hm boot_enumerate (PyProof.Rows.callWith_type1 (thn (ha.run pos pins s σ H _ I h) fun us s1 ⟨vs, H1, I1, r1, q1⟩ => ?_) hs rfl))
  obtain ⟨k, a, xs, ex, hq, q⟩ := q1
  subst ex
  cases r1 with
  | cons r rr =>
    cases rr
    cases r
    obtain ⟨its, rv, p', hz⟩ := Inv.sq I1 hq
    have hal := kis_lt p'
    refine vl_enum_begins (kbegins a its.toArray) p' fun h' he hit hsz hk => wpAny_pyIter_enum he ?_
    have I2 : Inv X pins σ H1 { s1 with heap := h' } := I1.kept (t' := s1.toks) hk
    refine ⟨s1.heap.objs.size + 1, [s1.heap.objs.size + 1, s1.heap.objs.size], _, _, H1, rfl, I2, turn_enum2 (k := k) a (s1.heap.objs.size + 1) s1.heap.objs.size (Nat.ne_of_lt hal) (Nat.ne_of_lt (Nat.lt_succ_of_lt hal)), ⟨⟨.none, he⟩, kiter_new hit, Nat.succ_ne_self _⟩, fun b hb => ?_, q⟩
    have e' : b = s1.heap.objs.size + 1 ∨ b = s1.heap.objs.size := by simpa using hb
    have hle : s1.heap.objs.size ≤ b := by
      rcases e' with z | z
      · rw [z]; exact Nat.le_add_right _ _
      · rw [z]; exact Nat.le_refl _
    exact I1.fpOk hle (I1.hok.fresh hle)

/-! ### zip -/
def Itz2 (K : PySem.W.Frag) (k1 k2 : Bool) (a b : Addr) : It :=
  ⟨fun i H => ∃ (xs ys : List V) (x y : V), Sq K k1 H a xs ∧ Sq K k2 H b ys ∧ xs[i]? = some x ∧ ys[i]? = some y,
    fun i H v H' => ∃ T x y, v = .ref T ∧ H T = none ∧ H' = upd H T (.tup [x, y]) ∧ (∀ xs, Sq K k1 H a xs → xs[i]? = some x) ∧ ∀ ys, Sq K k2 H b ys → ys[i]? = some y,
    fun i H => ∃ xs ys : List V, Sq K k1 H a xs ∧ Sq K k2 H b ys ∧ i = min xs.length ys.length⟩
theorem turn_zip2 {P : Program} {w : World} {K : PySem.W.Frag} {elts : List Expr} {kk : Nat} {tpos : Pos} {k1 k2 : Bool} {a b z TI TO i1 i2 : Addr} (D : ZipSep2 z TI TO i1 i2 [i1, a] [i2, b]) (hai : a ≠ i1) (hbi : b ≠ i2) :
    Turn P w K (.Tuple elts kk tpos) (Itz2 K k1 k2 a b) [z, TI, TO, i1, i2] z (fun i h => IsZip h z TI TO .none ∧ IsTupOf2 h TI (.ref i1) (.ref i2) ∧ (∃ x y, IsTupOf2 h TO x y) ∧ KIter k1 h i1 a i ∧ KIter k2 h i2 b i) where
  mem := by simp
  obj := fun i h st c hc => by
    obtain ⟨hz, hTI, ⟨x, y, hTO⟩, h1, h2⟩ := st
    have e' : c = z ∨ c = TI ∨ c = TO ∨ c = i1 ∨ c = i2 := by simpa using hc
    rcases e' with q | q | q | q | q
    · rw [q]; exact ⟨_, hz, fun v q => nomatch q⟩
    · rw [q]; exact ⟨_, hTI, fun v q => nomatch q⟩
    · rw [q]; exact ⟨_, hTO, fun v q => nomatch q⟩
    · rw [q]; exact kiter_obj h1
    · rw [q]; exact kiter_obj h2
  keep := fun i h h' st k => by
    obtain ⟨hz, hTI, ⟨x, y, hTO⟩, h1, h2⟩ := st
    exact ⟨k z (by simp) _ hz, k TI (by simp) _ hTI, ⟨x, y, k TO (by simp) _ hTO⟩, kiter_at h1 fun o q => k i1 (by simp) o q, kiter_at h2 fun o q => k i2 (by simp) o q⟩
  item := by
    intro X hP hw hK hc i pins s σ H E I hf st hg
    subst hP hw hK
    obtain ⟨hz, hTI, ⟨x0, y0, hTO⟩, h1, h2⟩ := st
    obtain ⟨xs, ys, x, y, hqx, hqy, hx, hy⟩ := hg
    obtain ⟨its, rv, p, _⟩ := Inv.sq I hqx
    obtain ⟨its2, rv2, p2, _⟩ := Inv.sq I hqy
    obtain ⟨u, hu, ru⟩ := rv.get hx
    obtain ⟨u2, hu2, ru2⟩ := rv2.get hy
    have hzl : z < s.heap.objs.size := Heap.lt_size hz
    have hlt : i < its.toArray.size := by simpa using (List.getElem?_eq_some_iff.mp hu).1
    have hlt2 : i < its2.toArray.size := by simpa using (List.getElem?_eq_some_iff.mp hu2).1
    have D1 := kdraws (prog := X.prog) (w := X.w) (A := X.A.in1) (k := k1) (I.ok.hd hc) i1 a hai its.toArray
    have D2 := kdraws (prog := X.prog) (w := X.w) (A := X.A.in1) (k := k2) (I.ok.hd hc) i2 b hbi its2.toArray
    refine wpAny_pyNext_zipD2_item D D1 D2 hz hTI hTO ⟨h1, p⟩ ⟨h2, p2⟩ hlt hlt2 fun x1 x2 h' tk hx1 hx2 z' TO' h1' h2' hT hsz hk => ?_
    have hu' : its.toArray[i]? = some u := by simpa using hu
    have hu2' : its2.toArray[i]? = some u2 := by simpa using hu2
    rw [hu'] at hx1
    rw [hu2'] at hx2
    cases hx1
    cases hx2
    refine ⟨_, rfl, wpAny_letOwnedTupleGo_zip (s := { s with heap := h', toks := tk }) z' fun h'' z'' sb => ?_⟩
    have hT2 : h''.get? s.heap.objs.size = some { cls := .type "tuple", data := .seq #[u, u2] } := (sb.2 _ (Nat.ne_of_gt hzl)).trans hT
    have new : ObjOk X.prog X.w (upd H s.heap.objs.size (.tup [x, y])) h'' s.heap.objs.size (.tup [x, y]) :=
      ⟨by show 2 ≤ sizeLine; decide, [u, u2], .cons ru (.cons ru2 .nil), ⟨_, hT2, rfl, _, rfl⟩⟩
    have I1 : Inv X pins σ (upd H s.heap.objs.size (.tup [x, y])) { s with heap := h'', toks := tk } :=
      I.turnedNew (t' := tk) (ch := [z, TI, TO, i1, i2]) (fun c o hb q => (sb.2 c (fun q' => hb (by simp [q']))).trans (hk c o (fun q' => hb (by simp [q'])) (fun q' => hb (by simp [q'])) (fun q' => hb (by simp [q'])) (fun q' => hb (by simp [q'])) q)) hf (Nat.le_refl _) new
    refine ⟨.ref s.heap.objs.size, _, I1, rfl, ⟨_, x, y, rfl, I.hok.fresh (Nat.le_refl _), rfl, fun l hl => by rw [Inv.sq_inj I hl hqx]; exact hx, fun l hl => by rw [Inv.sq_inj I hl hqy]; exact hy⟩, ⟨z'', ?_, ⟨u, u2, ?_⟩, ?_, ?_⟩, fun c hcm => ?_⟩
    · exact (sb.2 _ D.TIz).trans (hk _ _ D.TIz D.TITO D.TIi1 D.TIi2 hTI)
    · exact (sb.2 _ D.TOz).trans TO'
    · exact kiter_at h1'.1 fun o q => (sb.2 _ (Ne.symm D.zi1)).trans q
    · exact kiter_at h2'.1 fun o q => (sb.2 _ (Ne.symm D.zi2)).trans q
    · have hlt : c < s.heap.objs.size := by
        have e' : c = z ∨ c = TI ∨ c = TO ∨ c = i1 ∨ c = i2 := by simpa using hcm
        rcases e' with q | q | q | q | q
        · rw [q]; exact hzl
        · rw [q]; exact Heap.lt_size hTI
        · rw [q]; exact Heap.lt_size hTO
        · rw [q]; obtain ⟨_, e1, _⟩ := kiter_obj h1; exact Heap.lt_size e1
        · rw [q]; obtain ⟨_, e2, _⟩ := kiter_obj h2; exact Heap.lt_size e2
      rw [upd_ne (Nat.ne_of_lt hlt)]
      exact (hf c hcm).1
  done := by
    intro X hP hw hK hc i pins s σ H E I hf st hg
    subst hP hw hK
    obtain ⟨hz, hTI, ⟨x0, y0, hTO⟩, h1, h2⟩ := st
    obtain ⟨xs, ys, hqx, hqy, hend⟩ := hg
    obtain ⟨its, rv, p, _⟩ := Inv.sq I hqx
    obtain ⟨its2, rv2, p2, _⟩ := Inv.sq I hqy
    have l1 := rv.length
    have l2 := rv2.length
    have s1 : its.toArray.size = xs.length := by simp [l1]
    have s2 : its2.toArray.size = ys.length := by simp [l2]
    have D1 := kdraws (prog := X.prog) (w := X.w) (A := X.A.in1) (k := k1) (I.ok.hd hc) i1 a hai its.toArray
    have D2 := kdraws (prog := X.prog) (w := X.w) (A := X.A.in1) (k := k2) (I.ok.hd hc) i2 b hbi its2.toArray
    exact wpAny_pyNext_zipD2_end D D1 D2 hz hTI hTO ⟨h1, p⟩ ⟨h2, p2⟩ (by omega) (by omega) (by omega) fun h' tk hk => ⟨rfl, I.turnedL (t' := tk) (ch := [z, TI, TO, i1, i2]) (fun c o hb q =>
      hk c o (fun q' => hb (by simp [q'])) (fun q' => hb (by simp [q'])) (fun q' => hb (by simp [q'])) (fun q' => hb (by simp [q'])) q) hf⟩
  self := fun A i s Q E st h => wpAny_pyIter_zip st.1 h
def iZip2 (K : PySem.W.Frag) (ta : TA) : TI := fun σ H R => ta σ H fun vs H1 => ∃ k1 k2 a b xs ys, vs = [.ref a, .ref b] ∧ Sq K k1 H1 a xs ∧ Sq K k2 H1 b ys ∧ R (Itz2 K k1 k2 a b) H1
theorem zipSep (n a b : Nat) (la : a < n) (lb : b < n) : ZipSep2 (n + 4) (n + 2) (n + 3) n (n + 1) [n, a] [n + 1, b] := by
  have m : ∀ x y z : Nat, x ≠ y → x ≠ z → ¬ x ∈ [y, z] := fun x y z h1 h2 h => by simp at h; omega
  exact ⟨by show (n + 2 : Nat) ≠ n + 4; omega, by show (n + 3 : Nat) ≠ n + 4; omega, by show (n + 2 : Nat) ≠ n + 3; omega, by show (n + 2 : Nat) ≠ n; omega, List.mem_cons_self, m _ _ _ (by omega) (by omega), m _ _ _ (by omega) (by omega),
    by show (n + 2 : Nat) ≠ n + 1; omega, List.mem_cons_self, m _ _ _ (by omega) (by omega), m _ _ _ (by omega) (by omega), m _ _ _ (by omega) (by omega), m _ _ _ (by omega) (by omega)⟩
theorem pi_zip2 {X : Cx} {e e2 : Expr} {ta : TA} {p pos tpos : Pos} {elts : List Expr} {kk : Nat} (hg : Gl X "zip") (hm : X.mg "zip" = none) (ha : PA X [e, e2] ta)
    (hs : starEach [e, e2] X.env = (false, eval e X.env) :: starEach [e2] X.env := by rfl) (hpl : (backTo pos (starEach [e2] X.env)).any (·.1) = false := by rfl) :
    PI X (.Tuple elts kk tpos) (.Call (.Name "zip" p) [e, e2] [] pos) (iZip2 X.K ta) := by
  refine ⟨fun pins s σ H R I h => ?_⟩
  refine Call_ (ld_blt I hg hm PyProof.Rows.boot_zip (PyProof.Rows.callWith_type1 (thn (ha.run pos pins s σ H _ I h) fun us s1 ⟨vs, H1, I1, r1, q1⟩ => ?_) hs hpl))
  obtain ⟨k1, k2, a, b, xs, ys, ex, hqx, hqy, q⟩ := q1
  subst ex
  cases r1 with
  | cons r rr =>
    cases rr with
    | cons r' rr =>
      cases rr
      cases r
      cases r'
      obtain ⟨its, rv, p1, _⟩ := Inv.sq I1 hqx
      obtain ⟨its2, rv2, p2, _⟩ := Inv.sq I1 hqy
      have la := kis_lt p1
      have lb := kis_lt p2
      refine zip_begins2 (kbegins a its.toArray) (kbegins b its2.toArray) p1 p2 fun h' hz hTI hTO h1 h2 hsz hk => wpAny_pyIter_zip hz ?_
      have I2 : Inv X pins σ H1 { s1 with heap := h' } := I1.kept (t' := s1.toks) hk
      have sep := zipSep s1.heap.objs.size a b la lb
      refine ⟨s1.heap.objs.size + 4, [s1.heap.objs.size + 4, s1.heap.objs.size + 2, s1.heap.objs.size + 3, s1.heap.objs.size, s1.heap.objs.size + 1], _, _, H1, rfl, I2, turn_zip2 (k1 := k1) (k2 := k2) sep (Nat.ne_of_lt la) (Nat.ne_of_lt (Nat.lt_succ_of_lt lb)), ⟨hz, hTI, ⟨_, _, hTO⟩, kiter_new h1, kiter_new h2⟩, fun c hcm => ?_, q⟩
      have e' : c = s1.heap.objs.size + 4 ∨ c = s1.heap.objs.size + 2 ∨ c = s1.heap.objs.size + 3 ∨ c = s1.heap.objs.size ∨ c = s1.heap.objs.size + 1 := by simpa using hcm
      have hle : s1.heap.objs.size ≤ c := by
        rcases e' with z | z | z | z | z
        · rw [z]; exact Nat.le_add_right _ _
        · rw [z]; exact Nat.le_add_right _ _
        · rw [z]; exact Nat.le_add_right _ _
        · rw [z]; exact Nat.le_refl _
        · rw [z]; exact Nat.le_add_right _ _
      exact I1.fpOk hle (I1.hok.fresh hle)
/-! ### a list or a tuple itself -/
def Its2 (K : PySem.W.Frag) (k : Bool) (a : Addr) : It := if k = true then Itt K a else Itl K a
def iSeq (K : PySem.W.Frag) (tl : TE) : TI := fun σ H R => tl σ H fun x H1 => ∃ k a, x = .ref a ∧ (∃ xs, Sq K k H1 a xs) ∧ R (Its2 K k a) H1
theorem pi_seq {X : Cx} {tg l : Expr} {tl : TE} (hl : PE X l tl) : PI X tg l (iSeq X.K tl) := by
  refine ⟨fun pins s σ H R I h => ?_⟩
  refine thn (hl.run pins s σ H _ I h) fun v s1 ⟨x, H1, I1, r1, q1⟩ => ?_
  obtain ⟨k, a, e, ⟨xs, hq⟩, q⟩ := q1
  subst e
  cases r1
  cases k with
  | false =>
    obtain ⟨its, rv, p, hz⟩ := I1.list (show SqL X.K H1 a xs from hq)
    refine wpAny_pyIter_list p.isList ?_
    refine ⟨s1.heap.objs.size, [s1.heap.objs.size], _, _, H1, rfl, I1.kept (t' := s1.toks) fun b o e => Heap.get?_push_of_some _ e, turn_list a _, ⟨_, Heap.get?_push_size _ rfl, rfl, rfl⟩, fun b hb => ?_, q⟩
    have e : b = s1.heap.objs.size := by simpa using hb
    subst e
    exact I1.fpOk (Nat.le_refl _) (I1.hok.fresh (Nat.le_refl _))
  | true =>
    obtain ⟨its, rv, p, hz⟩ := I1.tuple (show SqT X.K H1 a xs from hq)
    refine wpAny_pyIter_tuple (show s1.heap.IsTuple a its.toArray from p) ?_
    refine ⟨s1.heap.objs.size, [s1.heap.objs.size], _, _, H1, rfl, I1.kept (t' := s1.toks) fun b o e => Heap.get?_push_of_some _ e, turn_tuple a _, ⟨_, Heap.get?_push_size _ rfl, rfl, rfl⟩, fun b hb => ?_, q⟩
    have e : b = s1.heap.objs.size := by simpa using hb
    subst e
    exact I1.fpOk (Nat.le_refl _) (I1.hok.fresh (Nat.le_refl _))
end VL
/-! VL: iterables, targets, comprehensions, calls of defs. -/
namespace VL
open PySem L2

structure Itm (K : PySem.W.Frag) (sa : Option Addr) (N : Addr → Prop) (Hs : Hp) (J : It) (xs : List D) : Prop where
  go : ∀ i H, i < xs.length → Stb N Hs H → J.go i H
  stop : ∀ H, Stb N Hs H → J.stop xs.length H
  yld : ∀ i H x H', i < xs.length → Stb N Hs H → J.yld i H x H' → Same H H' ∧ ∃ d, xs[i]? = some d ∧ Rv K sa (fun b => N b ∨ ¬ dom Hs b) H' d x
abbrev I1 := Env → (List D → Md → Prop) → Prop
def liftI (K : PySem.W.Frag) (t : I1) : TI := fun σ H R => ∃ G ρ, St K G σ H ρ ∧ t ρ fun xs m => ∀ J H', Stb G.saN H H' → SrcOk G.sa H' → Itm K G.sa (excl G H m) H' J xs → R J H'
structure VI (X : Cx) (tg iter : Expr) (t : I1) : Prop where
  pi : PI X tg iter (liftI X.K t)
  mono : ∀ ρ Q Q', (∀ d m, Q d m → Q' d m) → t ρ Q → t ρ Q'
theorem PI.imp {X : Cx} {tg iter : Expr} {t t' : TI} (h : PI X tg iter t) (i : ∀ σ H Q, t' σ H Q → t σ H Q) : PI X tg iter t' := ⟨fun pins s σ H Q I q => h.run pins s σ H Q I (i σ H Q q)⟩
/-- a value that is walked: at any heap that keeps what N leaves out -/
theorem sq_of {K : PySem.W.Frag} {sa : Option Addr} {N : Addr → Prop} {Hs : Hp} {x : D} {v : V} {ds : List D} (r : Rv K sa N Hs x v) (e : x.items = some ds) :
    ∃ k a vs, v = .ref a ∧ Rvs K sa N Hs ds vs ∧ ∀ H, Stb N Hs H → Sq K k H a vs := by
  cases x with
  | lst es =>
    cases e
    rw [rv_lst] at r
    obtain ⟨a, vs, e, n, q, t⟩ := r
    exact ⟨false, a, vs, e, t, fun H s => SqL.of (s _ _ q fun _ _ => n)⟩
  | tup es =>
    cases e
    rw [rv_tup] at r
    obtain ⟨a, vs, e, q, t⟩ := r
    exact ⟨true, a, vs, e, t, fun H s => s.tup q⟩
  | _ => cases e
theorem Rvs.old {K : PySem.W.Frag} {sa : Option Addr} {N : Addr → Prop} {Hs H : Hp} {ds : List D} {vs : List V} (r : Rvs K sa N Hs ds vs) (s : Stb N Hs H) : Rvs K sa (fun b => N b ∨ ¬ dom Hs b) H ds vs := by
  refine Rvs.stb (s.mono fun b z => .inl z) ds vs (Rvs.exc (fun b us z q => z.resolve_right fun w => w ?_) ds vs r)
  exact fun z => by rw [q] at z; cases z
section
variable {X : Cx} {a b c e e2 l tg : Expr} {ta tb tc te : E1} {tr : A1} {pos p tpos : Pos} {x : Str}
/-! ### iterables -/
def iSeqD (te : E1) : I1 := fun ρ Q => te ρ fun d m => ∃ ds, d.items = some ds ∧ Q ds m
theorem vi_seq (h : VE X l te) : VI X tg l (iSeqD te) where
  pi := PI.imp (pi_seq h.pe) fun σ H R ⟨G, ρ, st, hh⟩ => by
    refine lift_of h.mono st hh fun d m ⟨ds, e, hq⟩ v H1 g1 s1 st1 r => ?_
    obtain ⟨k, a, vs, rfl, rs, sq⟩ := sq_of r e
    refine ⟨k, a, rfl, ⟨vs, sq H1 (Stb.refl _ _)⟩, hq _ H1 g1 s1 ?_⟩
    have hl := rs.length
    cases k with
    | true =>
      refine ⟨fun i H' hi s => ?_, fun H' s => ⟨vs, sq H' s, by omega⟩, fun i H' x H2 hi s y => ?_⟩
      · exact ⟨vs, vs[i]'(by omega), sq H' s, List.getElem?_eq_getElem (by omega)⟩
      · obtain ⟨rfl, y⟩ := y
        have q := y vs (sq _ s)
        obtain ⟨d, e1, e2⟩ := (rs.old s).getV q
        exact ⟨Same.refl _, d, e1, e2⟩
    | false =>
      refine ⟨fun i H' hi s => ?_, fun H' s => ⟨vs, sq H' s, by omega⟩, fun i H' x H2 hi s y => ?_⟩
      · exact ⟨vs, vs[i]'(by omega), sq H' s, List.getElem?_eq_getElem (by omega)⟩
      · obtain ⟨rfl, y⟩ := y
        have q := y vs (sq _ s)
        obtain ⟨d, e1, e2⟩ := (rs.old s).getV q
        exact ⟨Same.refl _, d, e1, e2⟩
  mono := fun ρ Q Q' k h' => h.mono ρ _ _ (fun d m ⟨ds, e, q⟩ => ⟨ds, e, k _ _ q⟩) h'
def rgD (lo c : Int) (n : Nat) : List D := (List.range n).map fun i => D.int (lo + (i : Nat) * c)
theorem rgD_length (lo c : Int) (n : Nat) : (rgD lo c n).length = n := by unfold rgD; simp
theorem rgD_get {lo c : Int} {n i : Nat} (h : i < n) : (rgD lo c n)[i]? = some (.int (lo + (i : Nat) * c)) := by
  unfold rgD
  rw [List.getElem?_map, List.getElem?_range h]
  rfl
def iRg1 (t : A1) : I1 := fun ρ Q => t ρ fun ds _ => ∃ j : Int, ds = [.int j] ∧ -(2 ^ 62) ≤ j ∧ j < 2 ^ 62 ∧ Q (rgD 0 1 j.toNat) .fr
def iRg2 (t : A1) : I1 := fun ρ Q => t ρ fun ds _ => ∃ i j : Int, ds = [.int i, .int j] ∧ (-(2 ^ 62) ≤ i ∧ i < 2 ^ 62 ∧ -(2 ^ 62) ≤ j ∧ j < 2 ^ 62) ∧ Q (rgD i 1 (j - i).toNat) .fr
def iRg3 (t : A1) : I1 := fun ρ Q => t ρ fun ds _ => ∃ (i j c : Int) (n : Nat), ds = [.int i, .int j, .int c] ∧ RgC i j c n ∧ Q (rgD i c n) .fr
theorem itm_range {K : PySem.W.Frag} {sa : Option Addr} {N : Addr → Prop} {Hs : Hp} {lo : Int} {n : Nat} : Itm K sa N Hs (Itr lo n) (rgD lo 1 n) := by
  refine ⟨fun i H hi _ => by rw [rgD_length] at hi; exact hi, fun H _ => by rw [rgD_length]; exact Nat.le_refl _, fun i H x H' hi _ y => ?_⟩
  obtain ⟨rfl, rfl⟩ := y
  rw [rgD_length] at hi
  exact ⟨Same.refl _, _, rgD_get hi, by rw [rv_int, Int.mul_one]⟩
theorem itm_rangeC {K : PySem.W.Frag} {sa : Option Addr} {N : Addr → Prop} {Hs : Hp} {lo c : Int} {n : Nat} : Itm K sa N Hs (Itc lo c n) (rgD lo c n) := by
  refine ⟨fun i H hi _ => by rw [rgD_length] at hi; exact hi, fun H _ => by rw [rgD_length]; exact Nat.le_refl _, fun i H x H' hi _ y => ?_⟩
  obtain ⟨rfl, rfl⟩ := y
  rw [rgD_length] at hi
  exact ⟨Same.refl _, _, rgD_get hi, by rw [rv_int]⟩
theorem vi_rg1 (hg : Gl X "range") (hm : X.mg "range" = none) (ha : VA X [a] tr) (hs : starEach [a] X.env = [(false, eval a X.env)] := by rfl) : VI X tg (.Call (.Name "range" p) [a] [] pos) (iRg1 tr) where
  pi := PI.imp (pi_range1 hg hm ha.pa hs) fun σ H R ⟨G, ρ, st, hh⟩ => by
    refine liftA_of ha.mono st hh fun ds m ⟨j, e, h1, h2, hq⟩ vs H1 g1 s1 st1 r => ?_
    subst e
    obtain ⟨v, rfl, r1⟩ := r.one
    rw [rv_int] at r1
    subst r1
    exact ⟨j, rfl, h1, h2, hq _ H1 g1 s1 itm_range⟩
  mono := fun ρ Q Q' k h' => ha.mono ρ _ _ (fun d m ⟨j, e, h1, h2, q⟩ => ⟨j, e, h1, h2, k _ _ q⟩) h'
theorem vi_rg2 (hg : Gl X "range") (hm : X.mg "range" = none) (ha : VA X [a, b] tr) (hs : starEach [a, b] X.env = [(false, eval a X.env), (false, eval b X.env)] := by rfl) (hs2 : starEach [b] X.env = [(false, eval b X.env)] := by rfl) : VI X tg (.Call (.Name "range" p) [a, b] [] pos) (iRg2 tr) where
  pi := PI.imp (pi_range2 hg hm ha.pa hs hs2) fun σ H R ⟨G, ρ, st, hh⟩ => by
    refine liftA_of ha.mono st hh fun ds m ⟨i, j, e, h1, hq⟩ vs H1 g1 s1 st1 r => ?_
    subst e
    obtain ⟨v, w, rfl, r1, r2⟩ := r.two
    rw [rv_int] at r1 r2
    subst r1 r2
    exact ⟨i, j, rfl, h1, hq _ H1 g1 s1 itm_range⟩
  mono := fun ρ Q Q' k h' => ha.mono ρ _ _ (fun d m ⟨i, j, e, h1, q⟩ => ⟨i, j, e, h1, k _ _ q⟩) h'
theorem vi_rg3 (hg : Gl X "range") (hm : X.mg "range" = none) (ha : VA X [a, b, c] tr) (hs : starEach [a, b, c] X.env = (false, eval a X.env) :: starEach [b, c] X.env := by rfl) (hs2 : starEach [b, c] X.env = (false, eval b X.env) :: starEach [c] X.env := by rfl)
    (hpl : (backTo pos (starEach [b, c] X.env)).any (·.1) = false := by rfl) : VI X tg (.Call (.Name "range" p) [a, b, c] [] pos) (iRg3 tr) where
  pi := PI.imp (pi_range3 hg hm ha.pa (by first | exact hs | exact hpl | rfl) (by first | exact hpl | exact hs2 | rfl)) fun σ H R ⟨G, ρ, st, hh⟩ => by
    refine liftA_of ha.mono st hh fun ds m ⟨i, j, c, n, e, h1, hq⟩ vs H1 g1 s1 st1 r => ?_
    subst e
    obtain ⟨v, w, z, rfl, r1, r2, r3⟩ := r.three
    rw [rv_int] at r1 r2 r3
    subst r1 r2 r3
    exact ⟨i, j, c, n, rfl, h1, hq _ H1 g1 s1 itm_rangeC⟩
  mono := fun ρ Q Q' k h' => ha.mono ρ _ _ (fun d m ⟨i, j, c, n, e, h1, q⟩ => ⟨i, j, c, n, e, h1, k _ _ q⟩) h'
def enumD (ds : List D) : List D := ds.mapIdx fun i d => D.tup [.int (i : Nat), d]
def zipD (xs ys : List D) : List D := (xs.zip ys).map fun p => D.tup [p.1, p.2]
def iEnumD (t : A1) : I1 := fun ρ Q => t ρ fun ds m => ∃ x xs, ds = [x] ∧ x.items = some xs ∧ Q (enumD xs) m
def iZipD (t : A1) : I1 := fun ρ Q => t ρ fun ds m => ∃ x y xs ys, ds = [x, y] ∧ x.items = some xs ∧ y.items = some ys ∧ Q (zipD xs ys) m
theorem rv_pair {K : PySem.W.Frag} {sa : Option Addr} {N : Addr → Prop} {H : Hp} {T : Addr} {x y : V} {d e : D} (hT : H T = none) (h1 : Rv K sa N H d x) (h2 : Rv K sa N H e y) : Rv K sa N (upd H T (.tup [x, y])) (.tup [d, e]) (.ref T) :=
  rv_newT hT (Rvs.cons h1 (Rvs.cons h2 Rvs.nil))
theorem vi_enum {elts : List Expr} {kk : Nat} (hg : Gl X "enumerate") (hm : X.mg "enumerate" = none) (ha : VA X [e] tr) (hs : starEach [e] X.env = [(false, eval e X.env)] := by rfl) : VI X (.Tuple elts kk tpos) (.Call (.Name "enumerate" p) [e] [] pos) (iEnumD tr) where
  pi := PI.imp (pi_enum2 hg hm ha.pa hs) fun σ H R ⟨G, ρ, st, hh⟩ => by
    refine liftA_of ha.mono st hh fun ds m ⟨x, xs, e, e1, hq⟩ vs H1 g1 s1 st1 r => ?_
    subst e
    obtain ⟨v, rfl, r1⟩ := r.one
    obtain ⟨k, a, us, rfl, rs, sq⟩ := sq_of r1 e1
    have hl := rs.length
    refine ⟨k, a, us, rfl, sq H1 (Stb.refl _ _), hq _ H1 g1 s1 ⟨fun i H' hi s => ?_, fun H' s => ⟨us, sq H' s, by unfold enumD; rw [List.length_mapIdx]; omega⟩, fun i H' x H2 hi s y => ?_⟩⟩
    · unfold enumD at hi
      rw [List.length_mapIdx] at hi
      exact ⟨us, us[i]'(by omega), sq H' s, List.getElem?_eq_getElem (by omega)⟩
    · obtain ⟨T, z, rfl, hT, rfl, y⟩ := y
      obtain ⟨d, e1, e2⟩ := (rs.old s).getV (y us (sq _ s))
      exact ⟨Same.new hT, .tup [.int (i : Nat), d], by unfold enumD; rw [List.getElem?_mapIdx, e1]; rfl, rv_pair hT (by rw [rv_int]) e2⟩
  mono := fun ρ Q Q' k h' => ha.mono ρ _ _ (fun d m ⟨x, xs, e, e1, q⟩ => ⟨x, xs, e, e1, k _ _ q⟩) h'
theorem vi_zip {elts : List Expr} {kk : Nat} (hg : Gl X "zip") (hm : X.mg "zip" = none) (ha : VA X [e, e2] tr) (hs : starEach [e, e2] X.env = (false, eval e X.env) :: starEach [e2] X.env := by rfl) (hpl : (backTo pos (starEach [e2] X.env)).any (·.1) = false := by rfl) :
    VI X (.Tuple elts kk tpos) (.Call (.Name "zip" p) [e, e2] [] pos) (iZipD tr) where
  pi := PI.imp (pi_zip2 hg hm ha.pa hs hpl) fun σ H R ⟨G, ρ, st, hh⟩ => by
    refine liftA_of ha.mono st hh fun ds m ⟨x, y, xs, ys, e, e1, e2, hq⟩ vs H1 g1 s1 st1 r => ?_
    subst e
    obtain ⟨v, w, rfl, r1, r2⟩ := r.two
    obtain ⟨k, a, us, rfl, rs, sq⟩ := sq_of r1 e1
    obtain ⟨k2, b, ws, rfl, rs2, sq2⟩ := sq_of r2 e2
    have hl := rs.length
    have hl2 := rs2.length
    have hz : (zipD xs ys).length = min xs.length ys.length := by unfold zipD; rw [List.length_map, List.length_zip]
    refine ⟨k, k2, a, b, us, ws, rfl, sq H1 (Stb.refl _ _), sq2 H1 (Stb.refl _ _), hq _ H1 g1 s1 ⟨fun i H' hi s => ?_, fun H' s => ⟨us, ws, sq H' s, sq2 H' s, by omega⟩, fun i H' x H2 hi s y => ?_⟩⟩
    · exact ⟨us, ws, us[i]'(by omega), ws[i]'(by omega), sq H' s, sq2 H' s, List.getElem?_eq_getElem (by omega), List.getElem?_eq_getElem (by omega)⟩
    · obtain ⟨T, z, z2, rfl, hT, rfl, y1, y2⟩ := y
      obtain ⟨d, e1, r1⟩ := (rs.old s).getV (y1 us (sq _ s))
      obtain ⟨d2, e2, r2⟩ := (rs2.old s).getV (y2 ws (sq2 _ s))
      refine ⟨Same.new hT, .tup [d, d2], ?_, rv_pair hT r1 r2⟩
      unfold zipD
      rw [List.getElem?_map, List.getElem?_zip_eq_some (z := (d, d2)) |>.mpr ⟨e1, e2⟩]
      rfl
  mono := fun ρ Q Q' k h' => ha.mono ρ _ _ (fun d m ⟨x, y, xs, ys, e, e1, e2, q⟩ => ⟨x, y, xs, ys, e, e1, e2, k _ _ q⟩) h'
end

/-! ### forgetting slots -/
def wipeE (ρ : Env) : List Nat → Env
  | [] => ρ
  | v :: vs => (wipeE ρ vs).set v .non
def wipeO (os : List (Option Addr)) : List Nat → List (Option Addr)
  | [] => os
  | v :: vs => (wipeO os vs).set v none
theorem wipeO_mem {os : List (Option Addr)} {l : Addr} : ∀ {vs : List Nat}, some l ∈ wipeO os vs → some l ∈ os
  | [], h => h
  | v :: vs, h => by
    unfold wipeO at h
    rcases List.mem_or_eq_of_mem_set h with h | h
    · exact wipeO_mem h
    · cases h
theorem wipeE_length (ρ : Env) : ∀ vs, (wipeE ρ vs).length = ρ.length
  | [] => rfl
  | v :: vs => by unfold wipeE; rw [List.length_set, wipeE_length ρ vs]
theorem wipeO_length (ρ : List (Option Addr)) : ∀ vs, (wipeO ρ vs).length = ρ.length
  | [] => rfl
  | v :: vs => by unfold wipeO; rw [List.length_set, wipeO_length ρ vs]
/-- the same frame, other own lists -/
def Gh.withOs (G : Gh) (os : List (Option Addr)) : Gh := { G with os := os }
section
variable {K : PySem.W.Frag} {G : Gh} {σ : L2.St} {H : Hp} {ρ : Env}
theorem Rv.os {os : List (Option Addr)} (h : ∀ l, some l ∈ os → some l ∈ G.os) {d : D} {v : V} (r : Rv K G.sa G.clN H d v) : Rv K G.sa (G.withOs os).clN H d v := r.mono fun b z => by
  rcases z with z | z | z
  · exact .inl z
  · exact .inr (.inl (h b z))
  · exact .inr (.inr z)
theorem SlOk.os {os : List (Option Addr)} (h : ∀ l, some l ∈ os → some l ∈ G.os) {s : Sl} {v : Option V} {o : Option Addr} (q : SlOk K G H s v o) : SlOk K (G.withOs os) H s v o := by
  cases s with
  | non => exact q
  | val d => obtain ⟨e, w, e1, r⟩ := q; exact ⟨e, w, e1, Rv.os h r⟩
  | own ds => obtain ⟨l, vs, e, e1, e2, f, r⟩ := q; exact ⟨l, vs, e, e1, e2, f, Rvs.flat _ _ f r⟩
/-- a slot changes, its own list is let go -/
theorem St.setSlot (st : St K G σ H ρ) {i : Nat} {v : Option V} {s : Sl} (hs : SlOk K (G.withOs (G.os.set i none)) H s v none) : St K (G.withOs (G.os.set i none)) (σ.set i v) H (ρ.set i s) where
  lσ := by rw [List.length_set, List.length_set]; exact st.lσ
  lo := by show (G.os.set i none).length = _; rw [List.length_set, List.length_set]; exact st.lo
  n0 := st.n0
  h0 := st.h0
  k0 := st.k0
  kp := st.kp
  src := st.src
  sre := st.sre
  sak := st.sak
  sal := st.sal
  sal2 := st.sal2
  nd := fun j k l h1 h2 => by
    have h1' : (G.os.set i none)[j]? = some (some l) := h1
    have h2' : (G.os.set i none)[k]? = some (some l) := h2
    rw [List.getElem?_set] at h1' h2'
    split at h1'
    · split at h1' <;> cases h1'
    · split at h2'
      · split at h2' <;> cases h2'
      · exact st.nd j k l h1' h2'
  fr := fun l h => by
    rcases List.mem_or_eq_of_mem_set (show some l ∈ G.os.set i none from h) with h | h
    · exact st.fr l h
    · cases h
  slot := fun j s' v' o' e1 e2 e3 => by
    have e3' : (G.os.set i none)[j]? = some o' := e3
    rw [List.getElem?_set] at e1 e2 e3'
    by_cases hj : i = j
    · subst hj
      rw [if_pos rfl] at e1 e2 e3'
      split at e1 <;> cases e1
      split at e2 <;> cases e2
      split at e3' <;> cases e3'
      exact hs
    · rw [if_neg hj] at e1 e2 e3'
      refine (st.slot j s' v' o' e1 e2 e3').os fun l h => ?_
      rcases List.mem_or_eq_of_mem_set h with h | h
      · exact h
      · cases h
theorem St.wipe (st : St K G σ H ρ) : ∀ vs : List Nat, St K (G.withOs (wipeO G.os vs)) (L2.wipe σ vs) H (wipeE ρ vs)
  | [] => st
  | v :: vs => by
    have q := (St.wipe st vs).setSlot (i := v) (v := none) (s := .non) rfl
    exact q
theorem wipe_get (σ : L2.St) (j : Nat) : ∀ vs : List Nat, (L2.wipe σ vs)[j]? = if j ∈ vs ∧ j < σ.length then some none else σ[j]?
  | [] => by simp [L2.wipe]
  | v :: vs => by
    unfold L2.wipe
    rw [List.getElem?_set, wipe_get σ j vs, wipe_length]
    by_cases h1 : v = j
    · subst h1
      by_cases h2 : v < σ.length
      · simp [h2]
      · simp [h2]
    · have h1' : ¬ j = v := fun e => h1 e.symm
      simp [h1, h1']
theorem wipe_set {σ : L2.St} {i : Nat} {v : Option V} {vs : List Nat} (h : i ∈ vs) : L2.wipe (σ.set i v) vs = L2.wipe σ vs := by
  apply List.ext_getElem?
  intro j
  rw [wipe_get, wipe_get, List.length_set]
  by_cases hj : j ∈ vs ∧ j < σ.length
  · rw [if_pos hj, if_pos hj]
  · rw [if_neg hj, if_neg hj]
    by_cases e : i = j
    · subst e
      have : ¬ i < σ.length := fun z => hj ⟨h, z⟩
      rw [List.getElem?_eq_none (by rw [List.length_set]; omega), List.getElem?_eq_none (by omega)]
    · rw [List.getElem?_set_ne e]
theorem wipe_wipe {σ : L2.St} {vs : List Nat} : L2.wipe (L2.wipe σ vs) vs = L2.wipe σ vs := by
  apply List.ext_getElem?
  intro j
  rw [wipe_get, wipe_length, wipe_get]
  split <;> rfl
end

/-! ### targets -/
abbrev G1 := D → Md → Env → (Env → Prop) → Prop
abbrev Gs1 := List D → Md → Env → (Env → Prop) → Prop
def GOs (G G' : Gh) : Prop := ∃ os, G' = G.withOs os ∧ ∀ l, some l ∈ os → some l ∈ G.os
theorem GOs.refl (G : Gh) : GOs G G := ⟨G.os, rfl, fun _ h => h⟩
theorem GOs.trans {G G1 G2 : Gh} (a : GOs G G1) (b : GOs G1 G2) : GOs G G2 := by
  obtain ⟨o1, rfl, h1⟩ := a
  obtain ⟨o2, rfl, h2⟩ := b
  exact ⟨o2, rfl, fun l h => h1 l (h2 l h)⟩
def liftG (K : PySem.W.Frag) (ts : List Nat) (t : G1) : TG := fun v σ H Q => ∃ G ρ d m N, St K G σ H ρ ∧ Rv K G.sa N H d v ∧ (m.isCl = true → ∀ b, G.clN b → N b) ∧
  t d m ρ fun ρ' => ∀ G' σ', GOs G G' → St K G' σ' H ρ' → (∀ vs, (∀ i ∈ ts, i ∈ vs) → L2.wipe σ' vs = L2.wipe σ vs) → Q σ' H
def liftGs (K : PySem.W.Frag) (ts : List Nat) (t : Gs1) : TGs := fun vs σ H Q => ∃ G ρ ds m N, St K G σ H ρ ∧ Rvs K G.sa N H ds vs ∧ (m.isCl = true → ∀ b, G.clN b → N b) ∧
  t ds m ρ fun ρ' => ∀ G' σ', GOs G G' → St K G' σ' H ρ' → (∀ vs, (∀ i ∈ ts, i ∈ vs) → L2.wipe σ' vs = L2.wipe σ vs) → Q σ' H
structure VG (X : Cx) (tg : Expr) (ts : List Nat) (t : G1) : Prop where
  pg : PG X tg (liftG X.K ts t)
  mono : ∀ d m ρ Q Q', (∀ ρ, Q ρ → Q' ρ) → t d m ρ Q → t d m ρ Q'
structure VGs (X : Cx) (tgs : List Expr) (ts : List Nat) (t : Gs1) : Prop where
  pg : PGs X tgs (liftGs X.K ts t)
  mono : ∀ d m ρ Q Q', (∀ ρ, Q ρ → Q' ρ) → t d m ρ Q → t d m ρ Q'
theorem PG.imp {X : Cx} {tg : Expr} {t t' : TG} (h : PG X tg t) (i : ∀ v σ H Q, t' v σ H Q → t v σ H Q) : PG X tg t' := ⟨fun pins s σ H v u Q I r q => h.run pins s σ H v u Q I r (i v σ H Q q)⟩
theorem PGs.imp {X : Cx} {tg : List Expr} {t t' : TGs} (h : PGs X tg t) (i : ∀ v σ H Q, t' v σ H Q → t v σ H Q) : PGs X tg t' := ⟨fun pins s σ H v u Q I r q => h.run pins s σ H v u Q I r (i v σ H Q q)⟩
def okSt (d : D) (m : Md) : Prop := m.isCl = true ∨ d.flat = true
def gNm (i : Nat) : G1 := fun d m ρ Q => okSt d m ∧ Q (ρ.set i (.val d))
def gsN : Gs1 := fun ds _ ρ Q => ds = [] ∧ Q ρ
def gsC (g : G1) (gs : Gs1) : Gs1 := fun ds m ρ Q => ∃ d r, ds = d :: r ∧ g d m ρ fun ρ' => gs r m ρ' Q
def gTp (n : Nat) (g : Gs1) : G1 := fun d m ρ Q => ∃ ds, d = .tup ds ∧ ds.length = n ∧ g ds m ρ Q
section
variable {X : Cx} {pos : Pos} {x : Str} {e : Expr} {es : List Expr} {g : G1} {gs : Gs1} {ts us : List Nat}
theorem okSt.rv {K : PySem.W.Frag} {G : Gh} {H : Hp} {d : D} {m : Md} {v : V} {N : Addr → Prop} (h : okSt d m) (r : Rv K G.sa N H d v) (c : m.isCl = true → ∀ b, G.clN b → N b) : Rv K G.sa G.clN H d v := by
  rcases h with h | h
  · exact r.mono (c h)
  · exact Rv.flat d v h r
theorem St.setVal {K : PySem.W.Frag} {G : Gh} {σ : L2.St} {H : Hp} {ρ : Env} (st : St K G σ H ρ) {i : Nat} {d : D} {v : V} (r : Rv K G.sa G.clN H d v) : St K (G.withOs (G.os.set i none)) (σ.set i (some v)) H (ρ.set i (.val d)) :=
  st.setSlot ⟨rfl, v, rfl, Rv.os (G := G) (os := G.os.set i none) (fun l h => by
    rcases List.mem_or_eq_of_mem_set h with h | h
    · exact h
    · cases h) r⟩
theorem gos_set (G : Gh) (i : Nat) : GOs G (G.withOs (G.os.set i none)) := ⟨_, rfl, fun l h => by
  rcases List.mem_or_eq_of_mem_set h with h | h
  · exact h
  · cases h⟩
theorem vg_name {i : Nat} (hN : X.N.Nodup) (hi : X.N[i]? = some x) (hx : Loc X.env.scope x) (hf : X.fn x = true ∨ X.env.scope.names.lookup x = some .local := by first | exact .inl rfl | exact .inr rfl | assumption) : VG X (.Name x pos) [i] (gNm i) where
  pg := PG.imp (pg_name hN hi hx hf) fun v σ H Q ⟨G, ρ, d, m, N, st, r, c, ok, hq⟩ => hq _ _ (gos_set G i) (st.setVal (ok.rv r c)) fun vs h => wipe_set (h i List.mem_cons_self)
  mono := fun d m ρ Q Q' k ⟨h1, h2⟩ => ⟨h1, k _ h2⟩
theorem vgs_nil : VGs X [] [] gsN where
  pg := PGs.imp pgs_nil fun vs σ H Q ⟨G, ρ, ds, m, N, st, r, c, e, hq⟩ => by
    subst e
    rw [rvs_nil] at r
    exact ⟨r, hq G σ (GOs.refl G) st fun _ _ => rfl⟩
  mono := fun d m ρ Q Q' k ⟨h1, h2⟩ => ⟨h1, k _ h2⟩
theorem vgs_cons (h1 : VG X e ts g) (h2 : VGs X es us gs) (hs : (assignEach (e :: es) X.env).map (·.2) = assign e X.env :: (assignEach es X.env).map (·.2) := by rfl) : VGs X (e :: es) (ts ++ us) (gsC g gs) where
  pg := PGs.imp (pgs_cons h1.pg h2.pg hs) fun vs σ H Q ⟨G, ρ, ds, m, N, st, r, c, d, ds', e, hq⟩ => by
    subst e
    rw [rvs_cons] at r
    obtain ⟨v, vr, rfl, r1, r2⟩ := r
    refine ⟨v, vr, rfl, G, ρ, d, m, N, st, r1, c, h1.mono _ _ _ _ _ (fun ρ1 hq G1 σ1 g1 st1 w1 => ?_) hq⟩
    obtain ⟨os, rfl, ho⟩ := g1
    refine ⟨_, ρ1, ds', m, N, st1, r2, fun cl b z => c cl b ?_, h2.mono _ _ _ _ _ (fun ρ2 hq G2 σ2 g2 st2 w2 => hq G2 σ2 (GOs.trans ⟨os, rfl, ho⟩ g2) st2 fun vs h => ?_) hq⟩
    · rcases z with z | z | z
      · exact .inl z
      · exact .inr (.inl (ho b z))
      · exact .inr (.inr z)
    · rw [w2 vs fun i hi => h i (List.mem_append_right _ hi), w1 vs fun i hi => h i (List.mem_append_left _ hi)]
  mono := fun d m ρ Q Q' k ⟨a, r, e, h⟩ => ⟨a, r, e, h1.mono _ _ _ _ _ (fun ρ1 h => h2.mono _ _ _ _ _ k h) h⟩
theorem vg_tup {k n : Nat} (hc : X.calm = true) (h : VGs X es ts gs) (hn : (assignEach es X.env).length = n := by rfl) (hst : (assignEach es X.env).findIdx? (·.1) = none := by rfl) : VG X (.Tuple es k pos) ts (gTp n gs) where
  pg := PG.imp (pg_tup hc h.pg hn hst) fun v σ H Q ⟨G, ρ, d, m, N, st, r, c, ds, e, hl, hq⟩ => by
    subst e
    rw [rv_tup] at r
    obtain ⟨a, vs, rfl, q, t⟩ := r
    exact ⟨a, vs, rfl, q, by rw [← t.length]; exact hl, G, ρ, ds, m, N, st, t, c, hq⟩
  mono := fun d m ρ Q Q' k ⟨ds, e, hl, hq⟩ => ⟨ds, e, hl, h.mono _ _ _ _ _ k hq⟩
end
end VL
/-! VL: comprehensions, calls of defs. -/
namespace VL
open PySem L2

structure VTs (X : Cx) (ifs : List Expr) (t : T1) : Prop where
  pts : PTs X ifs (liftT X.K t)
  mono : ∀ ρ Q Q', (∀ b, Q b → Q' b) → t ρ Q → t ρ Q'
def eYes : T1 := fun _ Q => Q true
theorem PTs.imp {X : Cx} {e : List Expr} {t t' : TT} (h : PTs X e t) (i : ∀ σ H Q, t' σ H Q → t σ H Q) : PTs X e t' := ⟨fun pins s σ H Q I q => h.run pins s σ H Q I (i σ H Q q)⟩
theorem vts_nil {X : Cx} : VTs X [] eYes := ⟨PTs.imp pts_nil fun σ H Q ⟨G, ρ, st, h⟩ => h H (Stb.refl _ _) st.src, fun ρ Q Q' k h => k _ h⟩
theorem vts_one {X : Cx} {c : Expr} {t : T1} (h : VT X c t) : VTs X [c] t := ⟨pts_one h.pt, h.mono⟩

def eComp (it : I1) (g : G1) (tt : T1) (te : E1) (vs : List Nat) : E1 := fun ρ Q => it ρ fun items m => items.length ≤ 100000 ∧ ∃ P : Nat → List D → Prop, P 0 [] ∧
  (∀ i x acc, items[i]? = some x → P i acc → g x m (wipeE ρ vs) fun ρ2 => tt ρ2 fun b => if b = true then te ρ2 fun y my => (y.flat = true ∨ my = .fr) ∧ P (i + 1) (acc ++ [y]) else P (i + 1) acc) ∧
  ∀ acc, P items.length acc → Q (.lst acc) .fr
theorem eComp_mono {it : I1} {g : G1} {tt : T1} {te : E1} {vs : List Nat} (mi : ∀ ρ Q Q', (∀ d m, Q d m → Q' d m) → it ρ Q → it ρ Q') : MonoE (eComp it g tt te vs) := fun ρ Q Q' k h =>
  mi ρ _ _ (fun xs m ⟨hz, P, h0, hs, hd⟩ => ⟨hz, P, h0, hs, fun acc p => k _ _ (hd acc p)⟩) h
section
variable {X : Cx} {elt tg iter : Expr} {ifs : List Expr} {scope : Scope} {own : List (Str × Nat)} {pos spos : Pos} {it : I1} {g : G1} {tt : T1} {te : E1} {ts : List Nat}
theorem tLc_lift {K : PySem.W.Frag} {vs : List Nat} (mi : ∀ ρ Q Q', (∀ d m, Q d m → Q' d m) → it ρ Q → it ρ Q') (mg : ∀ d m ρ Q Q', (∀ ρ, Q ρ → Q' ρ) → g d m ρ Q → g d m ρ Q')
    (mt : MonoT tt) (me : MonoE te) (hts : ∀ i ∈ ts, i ∈ vs) : ∀ σ H Q, lift K (eComp it g tt te vs) σ H Q → tLc (liftI K it) (liftG K ts g) (liftT K tt) (lift K te) vs σ H Q := by
  rintro σ H Q ⟨G, ρ, st, h⟩
  refine ⟨G, ρ, st, mi _ _ _ (fun items m ⟨hz, P, p0, hs, hd⟩ J H1 g1 s1 im Dd hD => ?_) h⟩
  have st1 := st.grow g1 s1
  have hDsa : G.sa ≠ some Dd := fun z => st1.saD z hD
  -- the loop's word
  refine ⟨fun i k H2 => k = items.length - i ∧ i ≤ items.length ∧ Stb G.saN H1 H2 ∧ SrcOk G.sa H2 ∧ ∃ acc us, H2 Dd = some (.lst us) ∧ Rvs K G.sa (fun b => dom H b ∨ b = Dd) H2 acc us ∧ us.length ≤ i ∧ P i acc,
    ⟨items.length, by simp, Nat.zero_le _, Stb.same (Same.new hD), s1.same (Same.new hD), [], [], upd_same, Rvs.nil, Nat.le_refl _, p0⟩, ?_⟩
  rintro i k H2 ⟨rfl, hi, g2, s2, acc, us, eD, ra, hu, p⟩
  have g2' : Stb (excl G H m) H1 H2 := g2.mono (excl_sa st m)
  by_cases hlt : i < items.length
  · refine .inr ⟨im.go i H2 hlt g2', fun H' => i + 1 ≤ items.length ∧ Stb G.saN H1 H' ∧ SrcOk G.sa H' ∧ ∃ acc us, H' Dd = some (.lst us) ∧ Rvs K G.sa (fun b => dom H b ∨ b = Dd) H' acc us ∧ us.length ≤ i + 1 ∧ P (i + 1) acc, ?_, ?_⟩
    · rintro H' ⟨h1, h2, h3, h4⟩
      exact ⟨items.length - (i + 1), by omega, rfl, h1, h2, h3, h4⟩
    · intro x H3 y
      obtain ⟨sm, d, ed, rd⟩ := im.yld i H2 x H3 hlt g2' y
      have s3 := s2.same sm
      have g3 : Stb G.saN H1 H3 := g2.trans (Stb.same sm)
      have st3 := (st1.grow g3 s3).wipe vs
      have eD3 := sm _ _ eD
      have ra3 := Rvs.stb (Stb.same sm) acc us ra
      refine ⟨G.withOs (wipeO G.os vs), wipeE ρ vs, d, m, _, st3, rd, fun hm b z => .inl (excl_cl st hm b ?_), mg _ _ _ _ _ (fun ρ2 h2 G2 σ2 go st2 w2 => ?_) (hs i d acc ed p)⟩
      · rcases z with z | z | z
        · exact .inl z
        · exact .inr (.inl (wipeO_mem z))
        · exact .inr (.inr z)
      obtain ⟨os, rfl, ho⟩ := go
      refine ⟨?_, ?_⟩
      · rw [w2 vs hts, wipe_wipe]
      refine liftT_of mt st2 h2 fun b hb H4 g4 s4 st4 => ?_
      have eD4 : H4 Dd = some (.lst us) := g4 _ _ eD3 fun _ _ => hDsa
      have ra4 := Rvs.stb (g4.mono fun b z => Or.inl (show dom H b from st.saD z)) acc us ra3
      have g14 : Stb G.saN H1 H4 := g3.trans g4
      cases b with
      | false =>
        rw [if_neg Bool.false_ne_true] at hb ⊢
        exact ⟨hlt, g14, s4, acc, us, eD4, ra4, Nat.le_succ_of_le hu, hb⟩
      | true =>
        rw [if_pos rfl] at hb ⊢
        refine lift_of me st4 hb fun y my ⟨fy, hp⟩ v H5 g5 s5 st5 r5 => ?_
        have eD5 : H5 Dd = some (.lst us) := g5 _ _ eD4 fun _ _ => hDsa
        have ra5 := Rvs.stb (g5.mono fun b z => Or.inl (show dom H b from st.saD z)) acc us ra4
        have g15 : Stb G.saN H1 H5 := g14.trans g5
        have hz' : sizeLine = 16777216 := sizeLine_eq
        refine ⟨us, eD5, by omega, hlt, fun b o e n => ?_, fun a e => ?_, acc ++ [y], us ++ [v], upd_same, ?_, by rw [List.length_append]; exact Nat.succ_le_succ hu, hp⟩
        · rw [upd_ne (ne_of_none e hD)]
          exact g15 b o e n
        · obtain ⟨x, y, q⟩ := s5 a e
          exact ⟨x, y, by rw [upd_ne (fun z => hDsa (by rw [← z]; exact e))]; exact q⟩
        · have sb : Stb (fun b => dom H b ∨ b = Dd) H5 (upd H5 Dd (.lst (us ++ [v]))) := fun b o e n => by
            by_cases z : b = Dd
            · subst z
              rw [eD5] at e
              cases e
              exact absurd (Or.inr rfl) (n us rfl)
            · rw [upd_ne z]; exact e
          refine (Rvs.stb sb _ _ ra5).append (Rvs.cons (Rv.stb sb _ _ ?_) Rvs.nil)
          rcases fy with fy | fy
          · exact Rv.flat y v fy r5
          · subst fy
            refine r5.mono fun b z => ?_
            rcases z with z | z
            · exact dom_grow st1 g14 s4 b (dom_grow st g1 s1 b z)
            · subst z
              exact fun w => by rw [eD4] at w; cases w
  · have e : i = items.length := by omega
    subst e
    refine .inl ⟨im.stop H2 g2', hd acc p _ H2 (g1.trans g2) s2 ?_⟩
    rw [rv_lst]
    exact ⟨Dd, us, rfl, fun z => dom_grow st g1 s1 _ z hD, eD, ra.mono fun b z => .inl z⟩
theorem ve_lc (hc : X.calm = true) (hN : X.N.Nodup) (hi : VI X tg iter it) (ok : BlkOk X.N X.env.scope scope own)
    (hg : ∀ (s : Shared) (H : Hp) (C : Addr) (cl : List (Str × Addr)) (fp : List Addr), VG (X.blk s H scope (compEnvC scope cl C X.env) fp) tg ts g) (ht : ∀ (s : Shared) (H : Hp) (C : Addr) (cl : List (Str × Addr)) (fp : List Addr), VTs (X.blk s H scope (compEnvC scope cl C X.env) fp) ifs tt)
    (he : ∀ (s : Shared) (H : Hp) (C : Addr) (cl : List (Str × Addr)) (fp : List Addr), VE (X.blk s H scope (compEnvC scope cl C X.env) fp) elt te) (hts : ∀ i ∈ ts, i ∈ own.map (·.2)) (hs : ∀ x, foldedSetIterable iter X.env x = pure x := by intro _; rfl) :
    VE X (.ListComp elt [⟨tg, iter, ifs, 0⟩] scope pos) (eComp it g tt te (own.map (·.2))) where
  pe := by
    have q := pe_lc (X := X) (pos := pos) (wi := liftI X.K it) (g := liftG X.K ts g) (tt := liftT X.K tt) (te := lift X.K te) hc hN hi.pi ok (fun s H C cl fp => (hg s H C cl fp).pg) (fun s H C cl fp => (ht s H C cl fp).pts) (fun s H C cl fp => (he s H C cl fp).pe) hs
    exact PE.imp q (tLc_lift hi.mono (hg {} (fun _ => none) 0 [] []).mono (ht {} (fun _ => none) 0 [] []).mono (he {} (fun _ => none) 0 [] []).mono hts)
  mono := eComp_mono hi.mono
end
end VL
/-! VL: calls of defs, statements, the rule for a def. -/
namespace VL
open PySem L2

abbrev C1 := List D → (D → Prop) → Prop
/-- what a def promises of data: c; fr: the lists of what it hands back are new -/
def spOf (K : PySem.W.Frag) (fr : Bool) (c : C1) : Sp := fun vs H Q _ => ∃ (ds : List D) (sa : Option Addr) (N0 : Addr → Prop), (∀ b, N0 b → dom H b) ∧ SrcOk sa H ∧ Rvs K sa (fun b => N0 b ∨ sa = some b) H ds vs ∧
  c ds fun d => ∀ v H', Stb (fun b => sa = some b) H H' → SrcOk sa H' → Rv K sa (fun b => N0 b ∨ sa = some b) H' d v → (fr = true → Rv K sa (dom H) H' d v) → Q v H'
def mdOf (fr : Bool) (m : Md) : Md := cond fr .fr (cond m.isCl .cl .tn)
def eCall (fr : Bool) (dd : List D) (c : C1) (t : A1) : E1 := fun ρ Q => t ρ fun ds m => c (ds ++ dd) fun d => Q d (mdOf fr m)
def eCallK (fr : Bool) (n k : Nat) (c : C1) (t tk : A1) : E1 := fun ρ Q => t ρ fun ds m => tk ρ fun es m2 => ds.length = n ∧ es.length = k ∧ c (ds ++ es) fun d => Q d (mdOf fr (m.meet m2))
section
variable {X : Cx} {k n : Nat} {f : Addr} {fd : FuncData} {ps ks : List Str} {fr : Bool} {c : C1} {x : Str} {p pos : Pos} {e : Expr} {es : List Expr} {kws : List Keyword} {tr tk : A1} {dd : List D} {dvs : List V} {ds : List Value} {nm : Option Str} {kpos : Pos} {te : E1}
theorem sp_call {K : PySem.W.Frag} {G : Gh} {σ : L2.St} {H H1 : Hp} {ρ : Env} {Q : VK} {E : XK} {m : Md} {ds : List D} {vs : List V} (st : St K G σ H ρ) (g1 : Stb G.saN H H1) (s1 : SrcOk G.sa H1) (st1 : St K G σ H1 ρ) (r : Rvs K G.sa (excl G H m) H1 ds vs) (mc : MonoC c)
    (h : c ds fun d => ∀ v H', Stb G.saN H H' → SrcOk G.sa H' → Rv K G.sa (excl G H (mdOf fr m)) H' d v → Q v H') : spOf K fr c vs H1 Q E := by
  have hN : ∀ b, (if m.isCl = true then G.clN b else G.n0N b) → dom H1 b := fun b z => by
    split at z
    · exact st1.clD b z
    · exact st1.clD b (by rcases z with z | z; exact .inl z; exact .inr (.inr z))
  have hE : ∀ b, ((if m.isCl = true then G.clN b else G.n0N b) ∨ G.sa = some b) → excl G H m b := fun b z => by
    rcases z with z | z
    · split at z
      · rename_i hm; exact excl_cl st hm b z
      · exact excl_n0 st m b z
    · exact excl_sa st m b z
  refine ⟨ds, G.sa, fun b => if m.isCl = true then G.clN b else G.n0N b, hN, s1, r.mono hE, mc _ _ _ (fun d hq v H' g2 s2 r2 r3 => hq v H' (g1.trans g2) s2 ?_) h⟩
  cases fr with
  | true => exact (r3 rfl).mono fun b z => dom_grow st g1 s1 b z
  | false =>
    refine r2.mono fun b z => .inl ?_
    cases m with
    | tn => exact z
    | cl => exact z
    | nw => exact z
    | fr => exact z
theorem ve_call (F : FnOk X.prog X.w X.K X.mg X.base CX0 k f fd ps (spOf X.K fr c)) (mc : MonoC c) (hr : Room k X.A) (hg : Gl X x) (hm : X.mg x = some (.ref f)) (hk : PySem.W.keepIn X.K (.ref f) = true) (hb : Binds X.K fd ps ds) (hd : Vals dvs ds) (hdd : ∀ sa N H, Rvs X.K sa N H dd dvs)
    (ha : VA X (e :: es) tr) (hdb : (x == ("__debug__" : Str)) = false := by decide) (he : starEach (e :: es) X.env = (false, eval e X.env) :: starEach es X.env := by rfl) (hpl : (backTo pos (starEach es X.env)).any (·.1) = false := by rfl) :
    VE X (.Call (.Name x p) (e :: es) [] pos) (eCall fr dd c tr) where
  pe := PE.imp (pe_call F hr hg hm hk hb hd pass0 ha.pa hdb he hpl) fun σ H Q ⟨G, ρ, st, h⟩ =>
    liftA_of ha.mono st h fun ds m hc vs H1 g1 s1 st1 r => sp_call st g1 s1 st1 (r.append (hdd _ _ _)) mc hc
  mono := fun ρ Q Q' k h => ha.mono ρ _ _ (fun ds m h => mc _ _ _ (fun d q => k _ _ q) h) h
theorem ve_call0 (F : FnOk X.prog X.w X.K X.mg X.base CX0 k f fd ps (spOf X.K fr c)) (mc : MonoC c) (hr : Room k X.A) (hg : Gl X x) (hm : X.mg x = some (.ref f)) (hk : PySem.W.keepIn X.K (.ref f) = true) (hb : Binds X.K fd ps ds) (hd : Vals dvs ds) (hdd : ∀ sa N H, Rvs X.K sa N H dd dvs)
    (hdb : (x == ("__debug__" : Str)) = false := by decide) : VE X (.Call (.Name x p) [] [] pos) (eCall fr dd c aNil) where
  pe := PE.imp (pe_call0 F hr hg hm hk hb hd pass0 hdb) fun σ H Q ⟨G, ρ, st, h⟩ =>
    sp_call (m := .fr) (E := E0) st (Stb.refl _ _) st.src st (hdd _ _ _) mc h
  mono := fun ρ Q Q' k h => mc _ _ _ (fun d q => k _ _ q) h
/-- keywords -/
structure VKw (X : Cx) (kws : List Keyword) (t : A1) : Prop where
  pk : PK X kws (liftA X.K t)
  mono : ∀ ρ Q Q', (∀ d m, Q d m → Q' d m) → t ρ Q → t ρ Q'
theorem PK.imp {t t' : TA} (h : PK X kws t) (i : ∀ σ H Q, t' σ H Q → t σ H Q) : PK X kws t' := ⟨fun pos pins s σ H Q I q => h.run pos pins s σ H Q I (i σ H Q q)⟩
theorem vk_nil : VKw X [] aNil := ⟨PK.imp pk_nil fun σ H Q ⟨G, ρ, st, h⟩ => h [] H (Stb.refl _ _) st.src Rvs.nil, fun ρ Q Q' k h => k _ _ h⟩
theorem vk_cons (ha : VE X e te) (hr : VKw X kws tr) : VKw X (⟨nm, e, kpos⟩ :: kws) (aCons te tr) where
  pk := PK.imp (pk_cons ha.pe hr.pk) fun σ H Q ⟨G, ρ, st, h⟩ => by
    refine lift_of ha.mono st h fun d m h1 v H1 g1 s1 st1 r1 => ?_
    refine liftA_of hr.mono st1 h1 fun ds m' h2 vs H2 g2 s2 st2 r2 => ?_
    refine h2 _ H2 (g1.trans g2) s2 (Rvs.cons ?_ ?_)
    · exact Rv.mono (Rv.stb (g2.mono (excl_sa st m)) d v r1) (excl_meet1 st m m')
    · exact r2.mono fun b z => excl_back st g1 s1 m' b (excl_meet2 st m m' b z)
  mono := fun ρ Q Q' k h => ha.mono ρ _ _ (fun d m h => hr.mono ρ _ _ (fun ds m' h => k _ _ h) h) h
theorem ve_callK {g : List Value → List Value → List Value} (F : FnOk X.prog X.w X.K X.mg X.base CX0 k f fd ps (spOf X.K fr c)) (mc : MonoC c) (hr : Room k X.A) (hg : Gl X x) (hm : X.mg x = some (.ref f)) (hk : PySem.W.keepIn X.K (.ref f) = true) (hb : KBn X.K fd ps n ks g (fun vs zs => vs ++ zs))
    (ha : VA X (e :: es) tr) (hkw : VKw X kws tk) (hall : (backToKw pos (keywordEach kws X.env)).all (·.1.isSome) = true := by rfl) (hks : (backToKw pos (keywordEach kws X.env)).filterMap (·.1) = ks := by rfl)
    (hdb : (x == ("__debug__" : Str)) = false := by decide) (he : starEach (e :: es) X.env = (false, eval e X.env) :: starEach es X.env := by rfl)
    (hpl : ((backTo pos (starEach (e :: es) X.env)).any (·.1) || (backToKw pos (keywordEach kws X.env)).any (·.1.isNone)) = false := by rfl) :
    VE X (.Call (.Name x p) (e :: es) kws pos) (eCallK fr n ks.length c tr tk) where
  pe := PE.imp (pe_callN F hr hg hm hk hb pass0 ha.pa hkw.pk hall hks hdb he hpl) fun σ H Q ⟨G, ρ, st, h⟩ => by
    refine liftA_of ha.mono st h fun ds m h1 vs H1 g1 s1 st1 r1 => ?_
    refine liftA_of hkw.mono st1 h1 fun es m2 ⟨l1, l2, h2⟩ zs H2 g2 s2 st2 r2 => ?_
    refine ⟨by rw [← r1.length]; exact l1, by rw [← r2.length]; exact l2, ?_⟩
    refine sp_call (m := m.meet m2) st (g1.trans g2) s2 st2 (Rvs.append ?_ ?_) mc h2
    · exact Rvs.mono (Rvs.stb (g2.mono (excl_sa st m)) _ _ r1) (excl_meet1 st m m2)
    · exact r2.mono fun b z => excl_back st g1 s1 m2 b (excl_meet2 st m m2 b z)
  mono := fun ρ Q Q' k h => ha.mono ρ _ _ (fun ds m h => hkw.mono ρ _ _ (fun es m2 ⟨l1, l2, h⟩ => ⟨l1, l2, mc _ _ _ (fun d q => k _ _ q) h⟩) h) h
end

/-! ### statements -/
structure Ends1 where
  nx : Env → Prop
  rt : D → Md → Prop
  bk : Env → Prop := fun _ => False
  ct : Env → Prop := fun _ => False
abbrev S1 := Ends1 → Env → Prop
structure Fr (G G' : Gh) : Prop where
  lf : G'.lf = G.lf
  sae : G'.sae = G.sae
  n0 : G'.N0 = G.N0
  h0 : G'.H0 = G.H0
  kp : G'.KP = G.KP
theorem Fr.refl (G : Gh) : Fr G G := ⟨rfl, rfl, rfl, rfl, rfl⟩
theorem Fr.trans {G G1 G2 : Gh} (a : Fr G G1) (b : Fr G1 G2) : Fr G G2 := ⟨b.lf.trans a.lf, b.sae.trans a.sae, b.n0.trans a.n0, b.h0.trans a.h0, b.kp.trans a.kp⟩
theorem GOs.fr {G G' : Gh} (h : GOs G G') : Fr G G' := by
  obtain ⟨os, rfl, _⟩ := h
  exact ⟨rfl, rfl, rfl, rfl, rfl⟩
/-- what a returned value's lists are told of -/
def exclR (G : Gh) : Md → Addr → Prop
  | .tn => G.n0N
  | .cl => G.clN
  | _ => fun b => dom G.H0 b ∨ G.sa = some b
structure EndsOk (K : PySem.W.Frag) (G : Gh) (D1 : Ends1) (D : Ends) : Prop where
  nx : ∀ G' σ H ρ, Fr G G' → St K G' σ H ρ → D1.nx ρ → D.nx σ H
  bk : ∀ G' σ H ρ, Fr G G' → St K G' σ H ρ → D1.bk ρ → D.bk σ H
  ct : ∀ G' σ H ρ, Fr G G' → St K G' σ H ρ → D1.ct ρ → D.ct σ H
  rt : ∀ G' σ H ρ d m v, Fr G G' → St K G' σ H ρ → Rv K G'.sa (exclR G' m) H d v → D1.rt d m → D.rt v H
def liftS (lf : Bool) (K : PySem.W.Frag) (t : S1) : TS := fun D σ H => ∃ G ρ D1, G.lf = lf ∧ St K G σ H ρ ∧ t D1 ρ ∧ EndsOk K G D1 D
structure VS (lf : Bool) (X : Cx) (st : Stmt) (t : S1) : Prop where
  ps : PS X st (liftS lf X.K t)
structure VSs (lf : Bool) (X : Cx) (st : List Stmt) (t : S1) : Prop where
  pss : PSs X st (liftS lf X.K t)
theorem EndsOk.fr {K : PySem.W.Frag} {G G' : Gh} {D1 : Ends1} {D : Ends} (h : EndsOk K G D1 D) (f : Fr G G') : EndsOk K G' D1 D :=
  ⟨fun G2 σ H ρ g => h.nx G2 σ H ρ (f.trans g), fun G2 σ H ρ g => h.bk G2 σ H ρ (f.trans g), fun G2 σ H ρ g => h.ct G2 σ H ρ (f.trans g), fun G2 σ H ρ d m v g => h.rt G2 σ H ρ d m v (f.trans g)⟩
def sNext : S1 := fun D ρ => D.nx ρ
def sSeq (t u : S1) : S1 := fun D ρ => t { D with nx := u D } ρ
def sIf (tc : T1) (t u : S1) : S1 := fun D ρ => tc ρ fun b => if b = true then t D ρ else u D ρ
def sRet (te : E1) : S1 := fun D ρ => te ρ D.rt
def sBreak : S1 := fun D ρ => D.bk ρ
def sDrop (te : E1) : S1 := fun D ρ => te ρ fun _ _ => D.nx ρ
def sSet (i : Nat) (te : E1) : S1 := fun D ρ => te ρ fun d m => okSt d m ∧ D.nx (ρ.set i (.val d))
def sOwn (i : Nat) (te : E1) : S1 := fun D ρ => te ρ fun d m => m = .fr ∧ ∃ ds, d = .lst ds ∧ VL.D.flats ds = true ∧ D.nx (ρ.set i (.own ds))
def sAsg (te : E1) (g : G1) : S1 := fun D ρ => te ρ fun d m => g d m ρ D.nx
def sNever : S1 := fun _ _ => False
/-- an own list is held fast from here on -/
def frz1 (ρ : Env) (i : Nat) : Env := match ρ[i]? with
  | some (.own ds) => ρ.set i (.val (.lst ds))
  | _ => ρ
def frzE (ρ : Env) : List Nat → Env
  | [] => ρ
  | i :: is => frzE (frz1 ρ i) is
def sFrz (is : List Nat) (t : S1) : S1 := fun D ρ => t D (frzE ρ is)
section
variable {lf : Bool} {X : Cx} {st : Stmt} {rest : List Stmt} {t u : S1} {e : Expr} {te : E1} {pos : Pos} {tc : T1} {x : Str}
theorem vss_nil : VSs lf X [] sNext := ⟨PSs.imp pss_nil fun D σ H ⟨G, ρ, D1, hl, st, h, ok⟩ => ok.nx G σ H ρ (Fr.refl G) st h⟩
theorem seq_lift {K : PySem.W.Frag} : ∀ D σ H, liftS lf K (sSeq t u) D σ H → tSeq (liftS lf K t) (liftS lf K u) D σ H := fun D σ H ⟨G, ρ, D1, hl, st, h, ok⟩ =>
  ⟨G, ρ, { D1 with nx := u D1 }, hl, st, h, ⟨fun G' σ' H' ρ' f st' h' => ⟨G', ρ', D1, f.lf.trans hl, st', h', ok.fr f⟩, ok.bk, ok.ct, ok.rt⟩⟩
theorem vss_cons (h1 : VS lf X st t) (h2 : VSs lf X rest u) : VSs lf X (st :: rest) (sSeq t u) := ⟨PSs.imp (pss_cons h1.ps h2.pss) seq_lift⟩
theorem vss_one (h1 : VS lf X st t) : VSs lf X [st] t := ⟨pss_one h1.ps⟩
theorem vs_pass : VS lf X (.Pass pos) sNext := ⟨PS.imp ps_pass fun D σ H ⟨G, ρ, D1, hl, st, h, ok⟩ => ok.nx G σ H ρ (Fr.refl G) st h⟩
theorem vs_break : VS lf X (.Break pos) sBreak := ⟨PS.imp ps_break fun D σ H ⟨G, ρ, D1, hl, st, h, ok⟩ => ok.bk G σ H ρ (Fr.refl G) st h⟩
theorem vs_doc {x j pos'} : VS lf X (.Expr (.Constant (.str x) j pos) pos') sNext := ⟨PS.imp ps_doc fun D σ H ⟨G, ρ, D1, hl, st, h, ok⟩ => ok.nx G σ H ρ (Fr.refl G) st h⟩
theorem vs_never : VS lf X st sNever := ⟨PS.imp ps_never fun D σ H ⟨G, ρ, D1, hl, st, h, ok⟩ => h⟩
theorem vss_never {sts : List Stmt} : VSs lf X sts sNever := ⟨PSs.imp pss_never fun D σ H ⟨G, ρ, D1, hl, st, h, ok⟩ => h⟩
theorem vs_drop (he : VE X e te) (hs : swapsWith e none pos.line X.env = pure false := by rfl) : VS lf X (.Expr e pos) (sDrop te) :=
  ⟨PS.imp (ps_expr he.pe hs) fun D σ H ⟨G, ρ, D1, hl, st, h, ok⟩ => lift_of he.mono st h fun d m hq v H1 g1 s1 st1 r => ok.nx G σ H1 ρ (Fr.refl G) st1 hq⟩
theorem exclR_of {K : PySem.W.Frag} {G : Gh} {σ : L2.St} {H : Hp} {ρ : Env} (st : St K G σ H ρ) (m : Md) : ∀ b, exclR G m b → excl G H m b := fun b z => by
  cases m with
  | tn => exact z
  | cl => exact z
  | nw => exact z
  | fr => rcases z with z | z; exact st.h0 b z; exact st.saD z
theorem vs_ret (he : VE X e te) : VS lf X (.Return (some e) pos) (sRet te) :=
  ⟨PS.imp (ps_ret he.pe) fun D σ H ⟨G, ρ, D1, hl, st, h, ok⟩ => lift_of he.mono st h fun d m hq v H1 g1 s1 st1 r => ok.rt G σ H1 ρ d m v (Fr.refl G) st1 (r.mono (exclR_of st m)) hq⟩
theorem vs_if {c : Expr} {a b : List Stmt} (hc : VT X c tc) (ha : VSs lf X a t) (hb : VSs lf X b u) : VS lf X (.If c a b pos) (sIf tc t u) :=
  ⟨PS.imp (ps_if hc.pt ha.pss hb.pss) fun D σ H ⟨G, ρ, D1, hl, st, h, ok⟩ => liftT_of hc.mono st h fun k hk H1 g1 s1 st1 => by
    cases k with
    | true => exact ⟨G, ρ, D1, hl, st1, hk, ok⟩
    | false => exact ⟨G, ρ, D1, hl, st1, hk, ok⟩⟩
theorem vs_set {i : Nat} {p' : Pos} (hN : X.N.Nodup) (hi : X.N[i]? = some x) (hx : Loc X.env.scope x) (he : VE X e te) (hs : swapsWith e (some (.Name x p')) pos.line X.env = pure false := by rfl) (hf : X.fn x = true ∨ X.env.scope.names.lookup x = some .local := by first | exact .inl rfl | exact .inr rfl | assumption) :
    VS lf X (.Assign [.Name x p'] e pos) (sSet i te) :=
  ⟨PS.imp (ps_set hN hi hx he.pe hs hf) fun D σ H ⟨G, ρ, D1, hl, st, h, ok⟩ => lift_of he.mono st h fun d m ⟨hs, hq⟩ v H1 g1 s1 st1 r =>
    ok.nx _ _ H1 _ (gos_set G i).fr (st1.setVal (hs.rv r fun c => excl_cl st c)) hq⟩
/-- a new list of flat data comes to a slot of its own -/
theorem St.setOwn {K : PySem.W.Frag} {G : Gh} {σ : L2.St} {H H1 : Hp} {ρ : Env} (st : St K G σ H ρ) (g1 : Stb G.saN H H1) (s1 : SrcOk G.sa H1) (st1 : St K G σ H1 ρ) {i : Nat} {ds : List D} {v : V} (f : D.flats ds = true) (r : Rv K G.sa (dom H) H1 (.lst ds) v) :
    ∃ os, St K (G.withOs os) (σ.set i (some v)) H1 (ρ.set i (.own ds)) := by
  rw [rv_lst] at r
  obtain ⟨l, vs, rfl, hn, q, t⟩ := r
  refine ⟨G.os.set i (some l), ?_⟩
  have hl : H l = none := Classical.byContradiction fun z => hn z
  have memO : ∀ a, some a ∈ G.os.set i (some l) → some a ∈ G.os ∨ a = l := fun a h => by
    rcases List.mem_or_eq_of_mem_set h with h | h
    · exact .inl h
    · cases h; exact .inr rfl
  have osD : ∀ a, some a ∈ G.os → a ≠ l := fun a h z => by subst z; exact st.osD h hl
  refine ⟨by rw [List.length_set, List.length_set]; exact st1.lσ, by show (G.os.set i (some l)).length = _; rw [List.length_set, List.length_set]; exact st1.lo, st1.n0, st1.h0, st1.k0, st1.kp, st1.src, st1.sre, st1.sak, st1.sal, st1.sal2, fun j k a h1 h2 => ?_, fun a h => ?_, fun j s v o e1 e2 e3 => ?_⟩
  · have h1' : (G.os.set i (some l))[j]? = some (some a) := h1
    have h2' : (G.os.set i (some l))[k]? = some (some a) := h2
    rw [List.getElem?_set] at h1' h2'
    split at h1'
    · rename_i e1
      split at h2'
      · rename_i e2; omega
      · split at h1' <;> cases h1'
        exact absurd rfl (osD _ (mem_of_get? h2'))
    · split at h2'
      · split at h2' <;> cases h2'
        exact absurd rfl (osD _ (mem_of_get? h1'))
      · exact st.nd j k a h1' h2'
  · rcases memO a h with h | h
    · exact st.fr a h
    · subst h
      refine ⟨?_, fun z => st.saD z hl, fun o k => ?_⟩
      · cases e : G.H0 a with
        | none => exact e
        | some o => exact absurd hl (st.h0 a fun z => by rw [e] at z; cases z)
      · have z := st.kp a o k
        rw [hl] at z; cases z
  · have e3' : (G.os.set i (some l))[j]? = some o := e3
    rw [List.getElem?_set] at e1 e2 e3'
    by_cases hj : i = j
    · subst hj
      rw [if_pos rfl] at e1 e2 e3'
      split at e1 <;> cases e1
      split at e2 <;> cases e2
      split at e3' <;> cases e3'
      exact ⟨l, vs, rfl, rfl, q, f, Rvs.flat _ _ f t⟩
    · rw [if_neg hj] at e1 e2 e3'
      have q0 := st.slot j s v o e1 e2 e3'
      have q1 := st1.slot j s v o e1 e2 e3'
      cases s with
      | non => exact q1
      | val d =>
        obtain ⟨e, w, rfl, r0⟩ := q0
        refine ⟨e, w, rfl, ?_⟩
        have r1 : Rv K G.sa (G.withOs (G.os.set i (some l))).clN H d w := Rv.exc (fun b us z hb => by
          rcases z with z | z | z
          · exact .inl z
          · rcases memO b z with z | z
            · exact .inr (.inl z)
            · subst z; rw [hl] at hb; cases hb
          · exact .inr (.inr z)) d w r0
        exact Rv.stb (g1.mono fun b z => .inr (.inr z)) d w r1
      | own es =>
        obtain ⟨l', us, e, e', q', f', t'⟩ := q1
        exact ⟨l', us, e, e', q', f', Rvs.flat _ _ f' t'⟩
theorem vs_own {i : Nat} {p' : Pos} (hN : X.N.Nodup) (hi : X.N[i]? = some x) (hx : Loc X.env.scope x) (he : VE X e te) (hs : swapsWith e (some (.Name x p')) pos.line X.env = pure false := by rfl) (hf : X.fn x = true ∨ X.env.scope.names.lookup x = some .local := by first | exact .inl rfl | exact .inr rfl | assumption) :
    VS lf X (.Assign [.Name x p'] e pos) (sOwn i te) :=
  ⟨PS.imp (ps_set hN hi hx he.pe hs hf) fun D σ H ⟨G, ρ, D1, hl, st, h, ok⟩ => lift_of he.mono st h fun d m ⟨hm, ds, e, f, hq⟩ v H1 g1 s1 st1 r => by
    subst hm e
    obtain ⟨os, st2⟩ := st.setOwn (i := i) g1 s1 st1 f r
    exact ok.nx (G.withOs os) _ H1 _ ⟨rfl, rfl, rfl, rfl, rfl⟩ st2 hq⟩
theorem vs_asg {tg : Expr} {ts : List Nat} {g : G1} (he : VE X e te) (hg : VG X tg ts g) (hs : swapsWithSole [tg] e pos.line X.env = pure false := by rfl) (hw : swappedStores [tg] e X.env = pure none := by rfl)
    (h1 : (assignEach [tg] X.env).map (·.2) = [assign tg X.env] := by rfl) : VS lf X (.Assign [tg] e pos) (sAsg te g) :=
  ⟨PS.imp (ps_asg he.pe hg.pg hs hw h1) fun D σ H ⟨G, ρ, D1, hl, st, h, ok⟩ => lift_of he.mono st h fun d m hq v H1 g1 s1 st1 r =>
    ⟨G, ρ, d, m, _, st1, r, fun c => excl_cl st c, hg.mono _ _ _ _ _ (fun ρ' hq G' σ' go st' _ => ok.nx G' σ' H1 ρ' go.fr st' hq) hq⟩⟩
theorem St.frz1 {K : PySem.W.Frag} {G : Gh} {σ : L2.St} {H : Hp} {ρ : Env} (st : St K G σ H ρ) (i : Nat) : ∃ G', GOs G G' ∧ St K G' σ H (frz1 ρ i) := by
  unfold VL.frz1
  split
  · rename_i ds e
    obtain ⟨v, o, e1, e2, q⟩ := st.slot' e
    obtain ⟨l, vs, rfl, rfl, q, f, r⟩ := q
    refine ⟨_, gos_set G i, ?_⟩
    have hs : σ.set i (some (.ref l)) = σ := by
      apply List.ext_getElem?
      intro j
      rw [List.getElem?_set]
      split
      · rename_i z; subst z; rw [e1]; simp [(List.getElem?_eq_some_iff.mp e1).1]
      · rfl
    have st' := st.setSlot (i := i) (v := some (.ref l)) (s := .val (.lst ds)) ⟨rfl, .ref l, rfl, by
      rw [rv_lst]
      refine ⟨l, vs, rfl, fun z => ?_, q, Rvs.flat _ _ f r⟩
      rcases z with z | z | z
      · have := st.n0 l z
        exact this (st.fr l (mem_of_get? e2)).1
      · obtain ⟨j, hj, ej⟩ := List.getElem_of_mem (show some l ∈ G.os.set i none from z)
        have ej' : (G.os.set i none)[j]? = some (some l) := by rw [List.getElem?_eq_getElem hj, ej]
        rw [List.getElem?_set] at ej'
        split at ej'
        · split at ej' <;> cases ej'
        · rename_i hne; exact hne (st.nd i j l e2 ej')
      · exact (st.fr l (mem_of_get? e2)).2.1 z⟩
    rw [hs] at st'
    exact st'
  · exact ⟨G, GOs.refl G, st⟩
theorem St.frz {K : PySem.W.Frag} {G : Gh} {σ : L2.St} {H : Hp} {ρ : Env} (st : St K G σ H ρ) : ∀ is : List Nat, ∃ G', GOs G G' ∧ St K G' σ H (frzE ρ is)
  | [] => ⟨G, GOs.refl G, st⟩
  | i :: is => by
    obtain ⟨G1, g1, st1⟩ := st.frz1 i
    obtain ⟨G2, g2, st2⟩ := St.frz st1 is
    exact ⟨G2, g1.trans g2, st2⟩
theorem vs_frz (is : List Nat) (h : VS lf X st t) : VS lf X st (sFrz is t) := ⟨PS.imp h.ps fun D σ H ⟨G, ρ, D1, hl, st, h, ok⟩ => by
  obtain ⟨G', g, st'⟩ := st.frz is
  exact ⟨G', _, D1, g.fr.lf.trans hl, st', h, ok.fr g.fr⟩⟩
end
end VL
/-! VL: changes of one's own lists, the source, loops, the rule for a def. -/
namespace VL
open PySem L2

/-- an own list has another content -/
theorem St.mutOwn {K : PySem.W.Frag} {G : Gh} {σ : L2.St} {H : Hp} {ρ : Env} (st : St K G σ H ρ) {i : Nat} {ds ds' : List D} {l : Addr} {vs vs' : List V} (hi : ρ[i]? = some (.own ds)) (ho : G.os[i]? = some (some l)) (hl : H l = some (.lst vs)) (f : D.flats ds' = true) (N : Addr → Prop) (r : Rvs K G.sa N H ds' vs') :
    St K G σ (upd H l (.lst vs')) (ρ.set i (.own ds')) := by
  obtain ⟨f1, f2, f3⟩ := st.fr l (mem_of_get? ho)
  have sb : Stb (fun b => b = l) H (upd H l (.lst vs')) := fun b o e n => by
    by_cases z : b = l
    · subst z; rw [hl] at e; cases e; exact absurd rfl (n vs rfl)
    · rw [upd_ne z]; exact e
  refine ⟨by rw [List.length_set]; exact st.lσ, by rw [List.length_set]; exact st.lo, st.n0, fun b d => dom_stb sb (fun b z => by subst z; rw [upd_same]; exact fun q => nomatch q) b (st.h0 b d), st.k0, fun b o k => ?_, fun a e => ?_, fun a e => ?_, st.sak, st.sal, st.sal2, st.nd, st.fr, fun j s v o e1 e2 e3 => ?_⟩
  · by_cases z : b = l
    · subst z; exact absurd k (f3 o)
    · rw [upd_ne z]; exact st.kp b o k
  · obtain ⟨x, y, q⟩ := st.src a e
    exact ⟨x, y, by rw [upd_ne (fun z => f2 (by rw [← z]; exact e))]; exact q⟩
  · obtain ⟨x, y, q⟩ := st.sre a e
    have hne : a ≠ l := fun z => by
      subst z
      cases hf : G.lf with
      | false => exact f2 ((st.sal hf).trans e)
      | true => rw [st.sal2 hf] at e; cases e
    exact ⟨x, y, by rw [upd_ne hne]; exact q⟩
  · rw [List.getElem?_set] at e1
    by_cases hj : i = j
    · subst hj
      rw [if_pos rfl] at e1
      split at e1 <;> cases e1
      rw [ho] at e3
      cases e3
      obtain ⟨v', o', h1, h2, q⟩ := st.slot' hi
      rw [ho] at h2
      cases h2
      obtain ⟨l', us, e, e', q', _, _⟩ := q
      cases e
      rw [e2] at h1
      cases h1
      exact ⟨l, vs', rfl, e', upd_same, f, Rvs.flat _ _ f (Rvs.stb (N := fun b => b = l) (sa := G.sa) sb _ _ (Rvs.flat _ _ f r))⟩
    · rw [if_neg hj] at e1
      have q1 := st.slot j s v o e1 e2 e3
      cases s with
      | non => exact q1
      | val d =>
        obtain ⟨e, w, rfl, r1⟩ := q1
        exact ⟨e, w, rfl, Rv.stb (sb.mono fun b z => by subst z; exact .inr (.inl (mem_of_get? ho))) d w r1⟩
      | own es =>
        obtain ⟨l', us, rfl, rfl, q', f', t'⟩ := q1
        have hne : l' ≠ l := fun z => by subst z; exact hj (st.nd i j l' ho e3)
        exact ⟨l', us, rfl, rfl, by rw [upd_ne hne]; exact q', f', Rvs.flat _ _ f' (Rvs.stb (N := fun b => b = l) (sa := G.sa) sb _ _ (Rvs.flat _ _ f' t'))⟩
def sApp (i : Nat) (te : E1) : S1 := fun D ρ => ∃ ds, ρ[i]? = some (.own ds) ∧ te ρ fun d _ => d.flat = true ∧ ds.length ≤ 100000 ∧ D.nx (ρ.set i (.own (ds ++ [d])))
def sSetIx (i : Nat) (te ti : E1) : S1 := fun D ρ => ∃ ds, ρ[i]? = some (.own ds) ∧ te ρ fun d _ => d.flat = true ∧ ti ρ fun y _ => ∃ k j, y = .int k ∧ ixN ds.length k = some j ∧ D.nx (ρ.set i (.own (ds.set j d)))
def sSrc (i : Nat) (te ti : E1) : S1 := fun D ρ => ρ[i]? = some (.val .src) ∧ te ρ fun d _ => ∃ n, d = .int n ∧ ti ρ fun y _ => (y = .int 0 ∨ (y = .int 1 ∧ Sm n)) ∧ D.nx ρ
def eSrc (i : Nat) (tb : E1) : E1 := fun ρ Q => ρ[i]? = some (.val .src) ∧ tb ρ fun y _ => (y = .int 0 ∧ ∀ n : Int, Q (.int n) .fr) ∨ (y = .int 1 ∧ ∀ n : Int, Sm n → Q (.int n) .fr)
section
variable {lf : Bool} {X : Cx} {a b e : Expr} {te ti tb : E1} {pos px pa pb : Pos} {x : Str} {i : Nat}
theorem vs_app (hv : PE X (.Name x px) (tVar i)) (he : VE X e te)
    (hp : PE X (.Call (.Attribute (.Name x px) "append" pa) [e] [] pb) (tBM X.K "list" rAppend (tVar i) (tCons (lift X.K te) tNil))) (hs : swapsWith (.Call (.Attribute (.Name x px) "append" pa) [e] [] pb) none pos.line X.env = pure false := by rfl) :
    VS lf X (.Expr (.Call (.Attribute (.Name x px) "append" pa) [e] [] pb) pos) (sApp i te) :=
  ⟨PS.imp (ps_expr hp hs) fun D σ H ⟨G, ρ, D1, hlf, st, ⟨ds, hi, h⟩, ok⟩ => by
    obtain ⟨v, o, e1, e2, q⟩ := st.slot' hi
    obtain ⟨l, vs, rfl, rfl, hl, f, r⟩ := q
    obtain ⟨f1, f2, f3⟩ := st.fr l (mem_of_get? e2)
    refine ⟨.ref l, e1, .inl ⟨rfl, vs, SqL.of hl⟩, lift_of he.mono st h fun d m ⟨fd, hz, hq⟩ w H1 g1 s1 st1 r1 => ?_⟩
    have hl1 : H1 l = some (.lst vs) := g1 _ _ hl fun _ _ => f2
    have hz' : sizeLine = 16777216 := sizeLine_eq
    have hlen := r.length
    refine ⟨l, vs, w, rfl, rfl, hl1, by omega, ?_⟩
    have fl : VL.D.flats (ds ++ [d]) = true := by rw [flats_append, f, flats_cons, fd]; rfl
    refine ok.nx G σ _ _ (Fr.refl G) (st1.mutOwn hi e2 hl1 fl (fun _ => False) ?_) hq
    refine Rvs.append (Rvs.flat _ _ f (Rvs.stb (N := G.saN) (sa := G.sa) g1 _ _ (Rvs.flat _ _ f r))) (Rvs.cons (Rv.flat _ _ fd r1) Rvs.nil)⟩
theorem vs_setIx (hv : PE X a (tVar i)) (he : VE X e te) (hi : VE X b ti) (hg : PG X (.Subscript a b pa) (gSub (tVar i) (lift X.K ti) rSetL)) (hs : swapsWithSole [.Subscript a b pa] e pos.line X.env = pure false := by rfl) (hw : swappedStores [.Subscript a b pa] e X.env = pure none := by rfl)
    (h1 : (assignEach [.Subscript a b pa] X.env).map (·.2) = [assign (.Subscript a b pa) X.env] := by rfl) : VS lf X (.Assign [.Subscript a b pa] e pos) (sSetIx i te ti) :=
  ⟨PS.imp (ps_asg he.pe hg hs hw h1) fun D σ H ⟨G, ρ, D1, hlf, st, ⟨ds, hi', h⟩, ok⟩ => by
    obtain ⟨v, o, e1, e2, q⟩ := st.slot' hi'
    obtain ⟨l, vs, rfl, rfl, hl, f, r⟩ := q
    obtain ⟨f1, f2, f3⟩ := st.fr l (mem_of_get? e2)
    refine lift_of he.mono st h fun d m ⟨fd, h⟩ w H1 g1 s1 st1 r1 => ?_
    refine ⟨.ref l, e1, lift_of hi.mono st1 h fun y m2 ⟨k, j, e, hj, hq⟩ y' H2 g2 s2 st2 r2 => ?_⟩
    subst e
    rw [rv_int] at r2
    have hl2 : H2 l = some (.lst vs) := (g1.trans g2) _ _ hl fun _ _ => f2
    refine ⟨l, vs, k, j, rfl, r2, hl2, by rw [← r.length]; exact hj, ?_⟩
    have fl : VL.D.flats (ds.set j d) = true := flats_of fun z hz => by
      rcases List.mem_or_eq_of_mem_set hz with hz | hz
      · exact flats_mem f hz
      · rw [hz]; exact fd
    refine ok.nx G σ _ _ (Fr.refl G) (st2.mutOwn hi' e2 hl2 fl (fun _ => False) ?_) hq
    exact Rvs.set j (Rvs.flat _ _ f (Rvs.stb (N := G.saN) (sa := G.sa) (g1.trans g2) _ _ (Rvs.flat _ _ f r))) (Rv.flat _ _ fd (Rv.stb (N := G.saN) (sa := G.sa) g2 _ _ (Rv.flat _ _ fd r1)))⟩
theorem vs_src (hv : PE X a (tVar i)) (he : VE X e te) (hi : VE X b ti) (hg : PG X (.Subscript a b pa) (gSub (tVar i) (lift X.K ti) rSetL)) (hs : swapsWithSole [.Subscript a b pa] e pos.line X.env = pure false := by rfl) (hw : swappedStores [.Subscript a b pa] e X.env = pure none := by rfl)
    (h1 : (assignEach [.Subscript a b pa] X.env).map (·.2) = [assign (.Subscript a b pa) X.env] := by rfl) : VS lf X (.Assign [.Subscript a b pa] e pos) (sSrc i te ti) :=
  ⟨PS.imp (ps_asg he.pe hg hs hw h1) fun D σ H ⟨G, ρ, D1, hlf, st, ⟨hi', h⟩, ok⟩ => by
    obtain ⟨v, o, e1, e2, q⟩ := st.slot' hi'
    obtain ⟨_, w0, rfl, r0⟩ := q
    rw [rv_src] at r0
    obtain ⟨a, ha, rfl⟩ := r0
    refine lift_of he.mono st h fun d m ⟨n, e, h⟩ w H1 g1 s1 st1 r1 => ?_
    subst e
    rw [rv_int] at r1
    subst r1
    refine ⟨.ref a, e1, lift_of hi.mono st1 h fun y m2 ⟨hy, hq⟩ y' H2 g2 s2 st2 r2 => ?_⟩
    obtain ⟨x0, y0, q2⟩ := s2 a ha
    have fin : ∀ (x1 : Int) (y1 : { y : Int // Sm y }), D.nx σ (upd H2 a (.lst [.int x1, .int y1.1])) := fun x1 y1 => by
      refine ok.nx G σ _ ρ (Fr.refl G) (st2.grow (fun b o e n => ?_) fun b z => ?_) hq
      · have hb : b ≠ a := fun z => by subst z; rw [q2] at e; cases e; exact n _ rfl ha
        rw [upd_ne hb]; exact e
      · rw [ha] at z; cases z
        exact ⟨x1, y1, upd_same⟩
    rcases hy with e | ⟨e, hn⟩
    · subst e
      rw [rv_int] at r2
      exact ⟨a, _, 0, 0, rfl, r2, q2, rfl, fin n y0⟩
    · subst e
      rw [rv_int] at r2
      exact ⟨a, _, 1, 1, rfl, r2, q2, rfl, fin x0 ⟨n, hn⟩⟩⟩
theorem ve_src (hv : PE X a (tVar i)) (hb : VE X b tb) (hs : PlainIx b) : VE X (.Subscript a b pos) (eSrc i tb) where
  pe := PE.imp (pe_ix ix_list hv hb.pe hs) fun σ H Q ⟨G, ρ, st, hi', h⟩ => by
    obtain ⟨v, o, e1, e2, q⟩ := st.slot' hi'
    obtain ⟨_, w0, rfl, r0⟩ := q
    rw [rv_src] at r0
    obtain ⟨a, ha, rfl⟩ := r0
    refine ⟨.ref a, e1, lift_of hb.mono st h fun y m hy y' H1 g1 s1 st1 r1 => ?_⟩
    obtain ⟨x0, y0, q2⟩ := s1 a ha
    rcases hy with ⟨e, hq⟩ | ⟨e, hq⟩
    · subst e
      rw [rv_int] at r1
      exact ⟨a, _, 0, .int x0, rfl, r1, SqL.of q2, rfl, hq x0 _ H1 g1 s1 (by rw [rv_int])⟩
    · subst e
      rw [rv_int] at r1
      exact ⟨a, _, 1, .int y0.1, rfl, r1, SqL.of q2, rfl, hq y0.1 y0.2 _ H1 g1 s1 (by rw [rv_int])⟩
  mono := fun ρ Q Q' k ⟨h1, h2⟩ => ⟨h1, hb.mono ρ _ _ (fun y _ h => h.imp (fun ⟨h3, h4⟩ => ⟨h3, fun n => k _ _ (h4 n)⟩) fun ⟨h3, h4⟩ => ⟨h3, fun n z => k _ _ (h4 n z)⟩) h2⟩
end

/-! ### loops -/
def KPup (G : Gh) (H : Hp) : Addr → HO → Prop := fun b o => G.KP b o ∨ (H b = some o ∧ ∀ xs, o = .lst xs → ¬ G.clN b)
def Gh.withKP (G : Gh) (k : Addr → HO → Prop) : Gh := { G with KP := k }
theorem St.upKP {K : PySem.W.Frag} {G : Gh} {σ : L2.St} {H : Hp} {ρ : Env} (st : St K G σ H ρ) : St K (G.withKP (KPup G H)) σ H ρ where
  lσ := st.lσ
  lo := st.lo
  n0 := st.n0
  h0 := st.h0
  k0 := fun b o e n => .inl (st.k0 b o e n)
  kp := fun b o k => k.elim (st.kp b o) fun z => z.1
  src := st.src
  sre := st.sre
  sak := fun a o e k => by
    rcases k with k | ⟨k, n⟩
    · exact st.sak a o e k
    · obtain ⟨x, y, q⟩ := st.src a e
      rw [q] at k; cases k
      exact n _ rfl (.inr (.inr e))
  sal := st.sal
  sal2 := st.sal2
  nd := st.nd
  fr := fun l h => by
    obtain ⟨f1, f2, f3⟩ := st.fr l h
    refine ⟨f1, f2, fun o k => ?_⟩
    rcases k with k | ⟨k, n⟩
    · exact f3 o k
    · obtain ⟨i, hi, e⟩ := List.getElem_of_mem (show some l ∈ G.os from h)
      have e3 : G.os[i]? = some (some l) := by rw [List.getElem?_eq_getElem hi, e]
      have h1 : i < ρ.length := by rw [← st.lo]; exact hi
      obtain ⟨v, o', e1, e2, q⟩ := st.slot' (List.getElem?_eq_getElem h1)
      rw [e3] at e2
      cases e2
      cases hs : ρ[i] with
      | non => rw [hs] at q; cases (show some l = none from q)
      | val d => rw [hs] at q; cases q.1
      | own ds =>
        rw [hs] at q
        obtain ⟨l', vs, e, _, q, _⟩ := q
        cases e
        rw [q] at k; cases k
        exact n _ rfl (.inr (.inl h))
  slot := st.slot
theorem St.downKP {K : PySem.W.Frag} {G : Gh} {σ : L2.St} {H : Hp} {ρ : Env} {k : Addr → HO → Prop} (st : St K G σ H ρ) (h0 : ∀ b o, G.H0 b = some o → (∀ xs, o = .lst xs → G.sae ≠ some b) → k b o) (h : ∀ b o, k b o → G.KP b o) : St K (G.withKP k) σ H ρ where
  lσ := st.lσ
  lo := st.lo
  n0 := st.n0
  h0 := st.h0
  k0 := h0
  kp := fun b o z => st.kp b o (h b o z)
  src := st.src
  sre := st.sre
  sak := fun a o e z => st.sak a o e (h a o z)
  sal := st.sal
  sal2 := st.sal2
  nd := st.nd
  fr := fun l z => by
    obtain ⟨f1, f2, f3⟩ := st.fr l z
    exact ⟨f1, f2, fun o q => f3 o (h l o q)⟩
  slot := st.slot
/-- a loop's word P speaks of the slots but those of fs, which are forgotten ahead of each turn -/
def sFor (lf : Bool) (fs : List Nat) (it : I1) (g : G1) (body : S1) : S1 := fun D ρ => it ρ fun items m => m.isCl = true ∧ (lf = true → VL.D.flats items = true) ∧ ∃ P : Nat → Env → Prop, P 0 (wipeE ρ fs) ∧
  (∀ i x ρ', items[i]? = some x → P i ρ' → g x m ρ' fun ρ2 => body { D with nx := fun ρ3 => P (i + 1) (wipeE ρ3 fs), ct := fun ρ3 => P (i + 1) (wipeE ρ3 fs), bk := D.nx } ρ2) ∧ ∀ ρ', P items.length ρ' → D.nx ρ'
section
variable {lf : Bool} {X : Cx} {tg iter c : Expr} {it : I1} {g : G1} {tb : S1} {tc : T1} {body : List Stmt} {pos : Pos} {ts : List Nat}
theorem St.forget1 {K : PySem.W.Frag} {G : Gh} {σ : L2.St} {H : Hp} {ρ : Env} (st : St K G σ H ρ) (i : Nat) : St K (G.withOs (G.os.set i none)) σ H (ρ.set i .non) := by
  by_cases h : i < σ.length
  · have q := st.setSlot (i := i) (v := σ[i]) (s := .non) rfl
    rw [List.set_getElem_self] at q
    exact q
  · have q := st.setSlot (i := i) (v := none) (s := .non) rfl
    rw [List.set_eq_of_length_le (l := σ) (by omega)] at q
    exact q
theorem St.forget {K : PySem.W.Frag} {G : Gh} {σ : L2.St} {H : Hp} {ρ : Env} (st : St K G σ H ρ) : ∀ vs : List Nat, St K (G.withOs (wipeO G.os vs)) σ H (wipeE ρ vs)
  | [] => st
  | v :: vs => (St.forget st vs).forget1 v
theorem wipeO_gos (G : Gh) (vs : List Nat) : GOs G (G.withOs (wipeO G.os vs)) := ⟨_, rfl, fun _ h => wipeO_mem h⟩
theorem vs_for (fs : List Nat) (hp : PassesOwn (model X.prog X.w) X.A X.env X.xe) (hc : X.calm = true) (hi : VI X tg iter it) (hg : VG X tg ts g) (hb : VSs lf X body tb)
    (hs : ∀ x, foldedSetIterable iter X.env x = pure x := by intro _; rfl) : VS lf X (.For tg iter body [] pos) (sFor lf fs it g tb) :=
  ⟨PS.imp (ps_for hp hc hi.pi hg.pg hb.pss hs) fun D σ H ⟨G, ρ, D1, hlf, st, h, ok⟩ => by
    refine ⟨G, ρ, st, hi.mono _ _ _ (fun items m ⟨hm, hflat, P, p0, hs, hd⟩ J H1 g1 s1 im => ?_) h⟩
    have st1 := st.grow g1 s1
    have stK := st1.upKP
    -- what is told of the state at a turn
    have hKP : ∀ G', Fr (G.withKP (KPup G H1)) G' → ∀ σ' H2 ρ', St X.K G' σ' H2 ρ' → Stb (excl G H m) H1 H2 ∧ ∀ b, G'.clN b → (excl G H m b ∨ ¬ dom H1 b) := fun G' fr σ' H2 ρ' st' => by
      have kp' : ∀ b o, KPup G H1 b o → G'.KP b o := fun b o k => by rw [fr.kp]; exact k
      refine ⟨fun b o e n => st'.kp b o (kp' b o (.inr ⟨e, fun xs q z => n xs q (excl_cl st hm b z)⟩)), fun b z => ?_⟩
      have noKP : (∀ o, ¬ G'.KP b o) → excl G H m b ∨ ¬ dom H1 b := fun nk => by
        by_cases hd : dom H1 b
        · left
          cases e : H1 b with
          | none => exact absurd e hd
          | some o =>
            have : ¬ ∀ xs, o = .lst xs → ¬ G.clN b := fun w => nk o (kp' b o (.inr ⟨e, w⟩))
            exact excl_cl st hm b (Classical.byContradiction fun w => this fun xs _ => w)
        · exact .inr hd
      rcases z with z | z | z
      · left
        rw [show G'.N0 = G.N0 from fr.n0] at z
        exact excl_n0 st m b (.inl z)
      · exact noKP (st'.fr b z).2.2
      · exact noKP (fun o => st'.sak b o z)
    have back : ∀ G', Fr (G.withKP (KPup G H1)) G' → ∀ σ' H2 ρ', St X.K G' σ' H2 ρ' → Fr G (G'.withKP G.KP) ∧ St X.K (G'.withKP G.KP) σ' H2 ρ' := fun G' fr σ' H2 ρ' st' => by
      refine ⟨⟨fr.lf, fr.sae, fr.n0, fr.h0, rfl⟩, st'.downKP (fun b o e n => ?_) fun b o k => ?_⟩
      · rw [show G'.H0 = G.H0 from fr.h0] at e
        exact st1.k0 b o e fun xs q => by rw [← show G'.sae = G.sae from fr.sae]; exact n xs q
      · rw [show G'.KP = KPup G H1 from fr.kp]
        exact .inl k
    refine ⟨fun i k σ' H2 => k = items.length - i ∧ i ≤ items.length ∧ ∃ G' ρ', Fr (G.withKP (KPup G H1)) G' ∧ St X.K G' σ' H2 ρ' ∧ P i (wipeE ρ' fs), ⟨items.length, by simp, Nat.zero_le _, _, ρ, Fr.refl _, stK, p0⟩, ?_⟩
    rintro i k σ' H2 ⟨rfl, hi, G', ρ', fr, st', p⟩
    obtain ⟨sb, cl⟩ := hKP G' fr σ' H2 ρ' st'
    have stw := st'.forget fs
    have frw := fr.trans (wipeO_gos G' fs).fr
    by_cases hlt : i < items.length
    · refine .inr ⟨im.go i H2 hlt sb, fun σ3 H3 => i + 1 ≤ items.length ∧ ∃ G' ρ', Fr (G.withKP (KPup G H1)) G' ∧ St X.K G' σ3 H3 ρ' ∧ P (i + 1) (wipeE ρ' fs), fun σ3 H3 ⟨h1, h2⟩ => ⟨items.length - (i + 1), by omega, rfl, h1, h2⟩, fun x H3 y => ?_⟩
      obtain ⟨sm, d, ed, rd⟩ := im.yld i H2 x H3 hlt sb y
      have st3 := stw.grow (Stb.same sm) (stw.src.same sm)
      have rd' : Rv X.K G'.sa (fun b => excl G H m b ∨ ¬ dom H1 b) H3 d x := by
        cases hl : lf with
        | true =>
          exact Rv.flat d x (flats_mem (hflat hl) (mem_of_get? ed)) rd
        | false =>
          have e1 : G'.sa = G.sa := by
            rw [st'.sal (fr.lf.trans (hlf.trans hl)), st.sal (hlf.trans hl)]
            exact fr.sae
          rw [e1]
          exact rd
      refine ⟨_, _, d, m, _, st3, rd', fun _ b z => cl b ?_, hg.mono _ _ _ _ _ (fun ρ4 hq G4 σ4 go st4 _ => ?_) (hs i d _ ed p)⟩
      · rcases z with z | z | z
        · exact .inl z
        · exact .inr (.inl (wipeO_mem z))
        · exact .inr (.inr z)
      have fr4 := frw.trans go.fr
      refine ⟨G4, ρ4, _, fr4.lf.trans hlf, st4, hq, ⟨fun G5 σ5 H5 ρ5 f5 st5 p5 => ⟨hlt, G5, ρ5, fr4.trans f5, st5, p5⟩, fun G5 σ5 H5 ρ5 f5 st5 p5 => ?_, fun G5 σ5 H5 ρ5 f5 st5 p5 => ⟨hlt, G5, ρ5, fr4.trans f5, st5, p5⟩, fun G5 σ5 H5 ρ5 d5 m5 v5 f5 st5 r5 p5 => ?_⟩⟩
      · obtain ⟨f1, s1⟩ := back _ (fr4.trans f5) _ _ _ st5
        exact ok.nx _ _ _ _ f1 s1 p5
      · obtain ⟨f1, s1⟩ := back _ (fr4.trans f5) _ _ _ st5
        exact ok.rt _ _ _ _ d5 m5 v5 f1 s1 r5 p5
    · have e : i = items.length := by omega
      subst e
      obtain ⟨f1, s1⟩ := back _ frw _ _ _ stw
      exact .inl ⟨im.stop H2 sb, ok.nx _ _ _ _ f1 s1 (hd _ p)⟩⟩
end
end VL
/-! VL: while, stores of two and three names, the rule for a def, for the law. -/
namespace VL
open PySem L2 PyProof.Rows

def sWhile (fs : List Nat) (tc : T1) (body : S1) : S1 := fun D ρ => ∃ P : Nat → Env → Prop, (∃ m, P m (wipeE ρ fs)) ∧ ∀ m ρ', P m ρ' → tc ρ' fun b =>
  if b = true then body { D with nx := fun ρ3 => ∃ m', m' < m ∧ P m' (wipeE ρ3 fs), ct := fun ρ3 => ∃ m', m' < m ∧ P m' (wipeE ρ3 fs), bk := D.nx } ρ' else D.nx ρ'
def putOk (o : Bool) (d : D) (m : Md) : Prop := cond o (m = .fr ∧ ∃ ds, d = .lst ds ∧ D.flats ds = true) (d.flat = true ∨ m = .fr)
def slOf : Bool → D → Sl
  | true, .lst ds => .own ds
  | _, d => .val d
def sPar (oi oj : Bool) (i j : Nat) (ta tb : E1) : S1 := fun D ρ => ta ρ fun d m => tb ρ fun e m' => putOk oi d m ∧ putOk oj e m' ∧ D.nx ((ρ.set i (slOf oi d)).set j (slOf oj e))
def sPar3 (i j k : Nat) (t : A1) : S1 := fun D ρ => t ρ fun ds _ => ∃ d e f, ds = [d, e, f] ∧ d.flat = true ∧ e.flat = true ∧ f.flat = true ∧ D.nx (((ρ.set i (.val d)).set j (.val e)).set k (.val f))
def sAug (i : Nat) (te : E1) : S1 := fun D ρ => ∃ n : Int, ρ[i]? = some (.val (.int n)) ∧ te ρ fun d _ => ∃ k, d = .int k ∧ D.nx (ρ.set i (.val (.int (n + k))))
def Sl.flatS : Sl → Bool
  | .non => true
  | .val d => d.flat
  | .own _ => true
def sNewSrc (i : Nat) (te : E1) : S1 := fun D ρ => te ρ fun d m => m = .fr ∧ (∃ x y, d = .lst [.int x, .int y] ∧ Sm y) ∧ (ρ.set i .non).all Sl.flatS = true ∧ D.nx (ρ.set i (.val .src))
section
variable {lf : Bool} {X : Cx} {a b c e : Expr} {ta tb tcc te : E1} {tr : A1} {tc : T1} {body : List Stmt} {bd : S1} {pos px py pz pt : Pos} {x y z : Str} {i j k : Nat}
theorem vs_while (fs : List Nat) (hp : PassesOwn (model X.prog X.w) X.A X.env X.xe) (hc : VT X c tc) (hb : VSs lf X body bd) : VS lf X (.While c body [] pos) (sWhile fs tc bd) :=
  ⟨PS.imp (ps_while hp hc.pt hb.pss) fun D σ H ⟨G, ρ, D1, hlf, st, ⟨P, ⟨m0, p0⟩, hs⟩, ok⟩ => by
    refine ⟨fun m σ' H' => ∃ G' ρ', Fr G G' ∧ St X.K G' σ' H' ρ' ∧ P m (wipeE ρ' fs), ⟨m0, G, ρ, Fr.refl G, st, p0⟩, ?_⟩
    rintro m σ' H' ⟨G', ρ', fr, st', p⟩
    have stw := st'.forget fs
    have frw := fr.trans (wipeO_gos G' fs).fr
    refine liftT_of hc.mono stw (hs m _ p) fun b hb H1 g1 s1 st1 => ?_
    cases b with
    | true =>
      rw [if_pos rfl] at hb ⊢
      refine ⟨fun σ3 H3 => ∃ m', m' < m ∧ ∃ G' ρ', Fr G G' ∧ St X.K G' σ3 H3 ρ' ∧ P m' (wipeE ρ' fs), fun _ _ h => h, ?_⟩
      refine ⟨_, _, _, frw.lf.trans hlf, st1, hb, ⟨fun G5 σ5 H5 ρ5 f5 st5 ⟨m', hm, p5⟩ => ⟨m', hm, G5, ρ5, frw.trans f5, st5, p5⟩, fun G5 σ5 H5 ρ5 f5 => ok.nx G5 σ5 H5 ρ5 (frw.trans f5), fun G5 σ5 H5 ρ5 f5 st5 ⟨m', hm, p5⟩ => ⟨m', hm, G5, ρ5, frw.trans f5, st5, p5⟩, fun G5 σ5 H5 ρ5 d5 m5 v5 f5 => ok.rt G5 σ5 H5 ρ5 d5 m5 v5 (frw.trans f5)⟩⟩
    | false =>
      rw [if_neg Bool.false_ne_true] at hb ⊢
      exact ok.nx _ _ _ _ frw st1 hb⟩
theorem St.put {K : PySem.W.Frag} {G : Gh} {σ : L2.St} {H H1 : Hp} {ρ : Env} (st : St K G σ H ρ) (g1 : Stb G.saN H H1) (s1 : SrcOk G.sa H1) {o : Bool} {d : D} {m : Md} {v : V} {N : Addr → Prop} (h : putOk o d m) (r : Rv K G.sa N H1 d v) (hN : m = .fr → ∀ b, dom H b → N b) (i : Nat) :
    ∃ os, St K (G.withOs os) (σ.set i (some v)) H1 (ρ.set i (slOf o d)) := by
  have st1 := st.grow g1 s1
  have val : d.flat = true ∨ m = .fr → ∃ os, St K (G.withOs os) (σ.set i (some v)) H1 (ρ.set i (.val d)) := fun h => ⟨_, st1.setVal (by
    rcases h with h | h
    · exact Rv.flat d v h r
    · exact r.mono fun b z => hN h b (st.clD b z))⟩
  cases o with
  | true =>
    obtain ⟨hm, ds, rfl, f⟩ := h
    exact st.setOwn g1 s1 st1 f (r.mono (hN hm))
  | false =>
    have e : slOf false d = .val d := by cases d <;> rfl
    rw [e]
    exact val h
theorem vs_par (oi oj : Bool) {kt k2 pt2} (hc : X.calm = true) (hN : X.N.Nodup) (hi : X.N[i]? = some x) (hj : X.N[j]? = some y) (hij : i ≠ j)
    (hx : X.env.scope.names.lookup x = some .local) (hy : X.env.scope.names.lookup y = some .local) (ha : VE X a ta) (hb : VE X b tb)
    (hst : starEach [a, b] X.env = (false, eval a X.env) :: starEach [b] X.env) (hst2 : starEach [b] X.env = (false, eval b X.env) :: starEach [] X.env)
    (hw : swappedStores [.Tuple [.Name x px, .Name y py] kt pt] (.Tuple [a, b] k2 pt2) X.env = pure (some [x, y]))
    (hs : swapsWithSole [.Tuple [.Name x px, .Name y py] kt pt] (.Tuple [a, b] k2 pt2) pos.line X.env = pure false := by rfl) :
    VS lf X (.Assign [.Tuple [.Name x px, .Name y py] kt pt] (.Tuple [a, b] k2 pt2) pos) (sPar oi oj i j ta tb) :=
  ⟨PS.imp (ps_par hc hN hi hj hij hx hy (pa_cons ha.pe (pa_cons hb.pe pa_nil hst2) hst) hw hs) fun D σ H ⟨G, ρ, D1, hlf, st, h, ok⟩ => by
    refine lift_of ha.mono st h fun d m h1 v H1 g1 s1 st1 r1 => ?_
    refine lift_of hb.mono st1 h1 fun e m' ⟨p1, p2, hq⟩ w H2 g2 s2 st2 r2 => ?_
    obtain ⟨os, stA⟩ := st.put g1 s1 p1 r1 (fun hm b z => by subst hm; exact z) i
    obtain ⟨os2, stB⟩ := stA.put (H1 := H2) g2 s2 p2 (N := excl G H1 m') r2 (fun hm b z => by subst hm; exact z) j
    exact ⟨v, w, rfl, ok.nx ((G.withOs os).withOs os2) _ H2 _ ⟨rfl, rfl, rfl, rfl, rfl⟩ stB hq⟩⟩
theorem vs_par3 {kt k2 pt2} (hc : X.calm = true) (hN : X.N.Nodup) (hi : X.N[i]? = some x) (hj : X.N[j]? = some y) (hk : X.N[k]? = some z) (hij : i ≠ j) (hik : i ≠ k) (hjk : j ≠ k)
    (hx : X.env.scope.names.lookup x = some .local) (hy : X.env.scope.names.lookup y = some .local) (hz : X.env.scope.names.lookup z = some .local) (ha : VA X [a, b, c] tr)
    (hw : swappedStores [.Tuple [.Name x px, .Name y py, .Name z pz] kt pt] (.Tuple [a, b, c] k2 pt2) X.env = pure (some [x, y, z]))
    (hs : swapsWithSole [.Tuple [.Name x px, .Name y py, .Name z pz] kt pt] (.Tuple [a, b, c] k2 pt2) pos.line X.env = pure false := by rfl) :
    VS lf X (.Assign [.Tuple [.Name x px, .Name y py, .Name z pz] kt pt] (.Tuple [a, b, c] k2 pt2) pos) (sPar3 i j k tr) :=
  ⟨PS.imp (ps_par3 hc hN hi hj hk hij hik hjk hx hy hz ha.pa hw hs) fun D σ H ⟨G, ρ, D1, hlf, st, h, ok⟩ => by
    refine liftA_of ha.mono st h fun ds m ⟨d, e, f, e1, f1, f2, f3, hq⟩ vs H1 g1 s1 st1 r => ?_
    subst e1
    obtain ⟨u, v, w, rfl, r1, r2, r3⟩ := r.three
    refine ⟨u, v, w, rfl, ?_⟩
    have stA := st1.setVal (i := i) (Rv.flat d u f1 r1)
    have stB := stA.setVal (i := j) (Rv.flat e v f2 r2)
    have stC := stB.setVal (i := k) (Rv.flat f w f3 r3)
    exact ok.nx _ _ H1 _ (((gos_set G i).trans (gos_set _ j)).trans (gos_set _ k)).fr stC hq⟩
theorem vs_aug {p' : Pos} (hN : X.N.Nodup) (hi : X.N[i]? = some x) (hx : Loc X.env.scope x) (he : VE X e te) (hf : X.fn x = true ∨ X.env.scope.names.lookup x = some .local := by first | exact .inl rfl | exact .inr rfl | assumption) :
    VS lf X (.AugAssign (.Name x p') .Add e pos) (sAug i te) :=
  ⟨PS.imp (ps_aug hN hi hx he.pe ip_add hf) fun D σ H ⟨G, ρ, D1, hlf, st, ⟨n, hn, h⟩, ok⟩ => by
    obtain ⟨v, o, e1, e2, q⟩ := st.slot' hn
    obtain ⟨_, w, rfl, r⟩ := q
    rw [rv_int] at r
    subst r
    refine ⟨.int n, e1, lift_of he.mono st h fun d m ⟨k, e, hq⟩ w H1 g1 s1 st1 r1 => ?_⟩
    subst e
    rw [rv_int] at r1
    exact ⟨n, k, rfl, r1, ok.nx _ _ H1 _ (gos_set G i).fr (st1.setVal (by rw [rv_int])) hq⟩⟩
theorem vs_newSrc {p' : Pos} (hN : X.N.Nodup) (hi : X.N[i]? = some x) (hx : Loc X.env.scope x) (he : VE X e te) (hs : swapsWith e (some (.Name x p')) pos.line X.env = pure false := by rfl) (hf : X.fn x = true ∨ X.env.scope.names.lookup x = some .local := by first | exact .inl rfl | exact .inr rfl | assumption) :
    VS true X (.Assign [.Name x p'] e pos) (sNewSrc i te) :=
  ⟨PS.imp (ps_set hN hi hx he.pe hs hf) fun D σ H ⟨G, ρ, D1, hlf, st, h, ok⟩ => lift_of he.mono st h fun d m ⟨hm, ⟨x0, y0, e, hsm⟩, fl, hq⟩ v H1 g1 s1 st1 r => by
    subst hm e
    rw [rv_lst] at r
    obtain ⟨l, vs, rfl, hn, hl1, t⟩ := r
    have hl : H l = none := Classical.byContradiction fun z => hn z
    obtain ⟨u, w, rfl, t1, t2⟩ := t.two
    rw [rv_int] at t1 t2
    subst t1 t2
    have nkp : ∀ o, ¬ G.KP l o := fun o z => by
      have := st.kp l o z
      rw [hl] at this; cases this
    have st2 := st1.forget1 i
    let G' : Gh := { G with sa := some l, os := G.os.set i none }
    refine ok.nx G' _ H1 _ ⟨rfl, rfl, rfl, rfl, rfl⟩ (show St X.K G' (σ.set i (some (.ref l))) H1 (ρ.set i (.val .src)) from ?_) hq
    refine ⟨by rw [List.length_set, List.length_set]; exact st1.lσ, by show (G.os.set i none).length = _; rw [List.length_set, List.length_set]; exact st1.lo, st1.n0, st1.h0, st1.k0, st1.kp, fun a e => ?_, st1.sre, fun a o e => ?_, fun z => ?_, st1.sal2, st2.nd, fun a h => ?_, fun j s v o e1 e2 e3 => ?_⟩
    · cases e; exact ⟨x0, ⟨y0, hsm⟩, hl1⟩
    · cases e; exact nkp o
    · rw [show G'.lf = G.lf from rfl, hlf] at z; cases z
    · have h' : some a ∈ G.os := by
        rcases List.mem_or_eq_of_mem_set (show some a ∈ G.os.set i none from h) with h | h
        · exact h
        · cases h
      obtain ⟨f1, f2, f3⟩ := st.fr a h'
      exact ⟨f1, fun z => by cases z; exact st.osD h' hl, f3⟩
    · have e3' : (G.os.set i none)[j]? = some o := e3
      have e1' := e1
      rw [List.getElem?_set] at e1 e2 e3'
      by_cases hj : i = j
      · subst hj
        rw [if_pos rfl] at e1 e2 e3'
        split at e1 <;> cases e1
        split at e2 <;> cases e2
        split at e3' <;> cases e3'
        exact ⟨rfl, .ref l, rfl, by rw [rv_src]; exact ⟨l, rfl, rfl⟩⟩
      · rw [if_neg hj] at e1 e2 e3'
        have q := st1.slot j s v o e1 e2 e3'
        have fs : s.flatS = true := List.all_eq_true.mp fl s (List.mem_of_getElem? (i := j) (by rw [List.getElem?_set_ne hj]; exact e1))
        cases s with
        | non => exact q
        | val d => obtain ⟨e, w, e1, r⟩ := q; exact ⟨e, w, e1, Rv.flat d w fs r⟩
        | own ds => obtain ⟨l', us, e, e1, q, f, r⟩ := q; exact ⟨l', us, e, e1, q, f, Rvs.flat _ _ f r⟩⟩
end

/-! ### the rule for a def -/
def startE (n : Nat) (ds : List D) : Env := ds.map Sl.val ++ List.replicate (n - ds.length) Sl.non
theorem all_none {i n : Nat} {l : Addr} : ¬ (List.replicate n (none : Option Addr))[i]? = some (some l) := fun h => by
  rw [List.getElem?_replicate] at h
  split at h <;> cases h
theorem St.start {K : PySem.W.Frag} {H : Hp} {N : List Str} {lf : Bool} {sa : Option Addr} {N0 : Addr → Prop} {ds : List D} {vs : List V} (hl : lf = true → sa = none) (hn : ds.length ≤ N.length) (h0 : ∀ b, N0 b → dom H b) (so : SrcOk sa H) (r : Rvs K sa (fun b => N0 b ∨ sa = some b) H ds vs) :
    St K ⟨lf, sa, sa, N0, H, fun b o => H b = some o ∧ ∀ xs, o = .lst xs → sa ≠ some b, List.replicate N.length none⟩ (L2.start N vs) H (startE N.length ds) where
  lσ := by unfold L2.start startE; simp [r.length]
  lo := by unfold startE; simp; omega
  n0 := h0
  h0 := fun b z => z
  k0 := fun b o e n => ⟨e, n⟩
  kp := fun b o z => z.1
  src := so
  sre := so
  sak := fun a o e ⟨z, n⟩ => by
    obtain ⟨x, y, q⟩ := so a e
    rw [q] at z; cases z
    exact n _ rfl e
  sal := fun _ => rfl
  sal2 := hl
  nd := fun i j l h => absurd h all_none
  fr := fun l h => by
    have := List.eq_of_mem_replicate h
    cases this
  slot := fun i s v o e1 e2 e3 => by
    have ho : o = none := by
      have e3 : (List.replicate N.length (none : Option Addr))[i]? = some o := e3
      rw [List.getElem?_replicate] at e3
      split at e3
      · exact (Option.some.inj e3).symm
      · cases e3
    subst ho
    unfold startE at e1
    unfold L2.start at e2
    by_cases hi : i < ds.length
    · rw [List.getElem?_append_left (by simpa using hi), List.getElem?_map] at e1
      rw [List.getElem?_append_left (by rw [List.length_map, ← r.length]; exact hi), List.getElem?_map] at e2
      obtain ⟨d, hd, rfl⟩ := Option.map_eq_some_iff.mp e1
      obtain ⟨w, hw, rfl⟩ := Option.map_eq_some_iff.mp e2
      obtain ⟨w', hw', rr⟩ := r.get hd
      rw [hw] at hw'
      cases hw'
      refine ⟨rfl, w, rfl, rr.mono fun b z => ?_⟩
      rcases z with z | z | z
      · exact .inl z
      · have := List.eq_of_mem_replicate z
        cases this
      · exact .inr z
    · rw [List.getElem?_append_right (by simpa using hi), List.getElem?_replicate] at e1
      split at e1
      · cases e1; rfl
      · cases e1
section
variable {P : Program} {w : World} {K : PySem.W.Frag} {mg : Str → Option Value} {base : Heap}
abbrev cxB (P : Program) (w : World) (K : PySem.W.Frag) (mg : Str → Option Value) (base : Heap) (N : List Str) (qual : Str) (sc : Scope) (f : Addr) (cdv : Value) (A : Around) (outer : List PySem.Env) (s : Shared) (H : Hp) (E : XK) : Cx := (cxOf CX0 P w K mg base N qual sc f cdv A outer s H E).nox
/-- what a body is to reach -/
def endsF (fr : Bool) (q : D → Prop) : Ends1 := { nx := fun _ => q .non, rt := fun d m => (fr = true → m.isNw = true ∨ d.flat = true) ∧ q d }
theorem fn_body {N ps : List Str} {sc : Scope} {fr : Bool} {c : C1} (S : FnScope N ps sc) (len : ∀ ds q, c ds q → ds.length = ps.length) {t : S1} {vs : List V} {H : Hp} {Q : L2.VK} {E : XK}
    (hb : ∀ ds q, c ds q → t (endsF fr q) (startE N.length ds)) (h : spOf K fr c vs H Q E) : liftS false K t { nx := fun _ H' => Q .non H', rt := Q } (L2.start N vs) H := by
  obtain ⟨ds, sa, N0, h0, so, r, hc⟩ := h
  have hpl : ps.length ≤ N.length := by have := congrArg List.length S.pre; rw [List.length_take] at this; omega
  have hl := len _ _ hc
  have st := St.start (K := K) (N := N) (lf := false) (fun z => nomatch z) (by omega) h0 so r
  refine ⟨_, _, endsF fr _, rfl, st, hb ds _ hc, ⟨fun G' σ' H' ρ' fr' st' hq => ?_, fun _ _ _ _ _ _ z => z.elim, fun _ _ _ _ _ _ z => z.elim, fun G' σ' H' ρ' d m v fr' st' r' ⟨hm, hq⟩ => ?_⟩⟩
  · have sae : G'.sa = sa := (st'.sal fr'.lf).trans fr'.sae
    refine hq .non H' (fun b o e n => st'.kp b o (by rw [fr'.kp]; exact ⟨e, n⟩)) (by rw [← sae]; exact st'.src) (by rw [rv_non]) fun _ => by rw [rv_non]
  · have sae : G'.sa = sa := (st'.sal fr'.lf).trans fr'.sae
    have hn0 : G'.N0 = N0 := fr'.n0
    have hh0 : G'.H0 = H := fr'.h0
    refine hq v H' (fun b o e n => st'.kp b o (by rw [fr'.kp]; exact ⟨e, n⟩)) (by rw [← sae]; exact st'.src) ?_ fun hf => ?_
    · rw [← sae]
      refine r'.mono fun b z => ?_
      have z' : G'.N0 b ∨ G'.sa = some b := by rw [hn0]; exact z
      cases m with
      | tn => exact z'
      | cl => rcases z' with z' | z'; exact .inl z'; exact .inr (.inr z')
      | nw => rcases z' with z' | z'; exact .inl (st'.n0 b z'); exact .inr z'
      | fr => rcases z' with z' | z'; exact .inl (st'.n0 b z'); exact .inr z'
    · rw [← sae]
      rcases hm hf with hm | hm
      · refine r'.mono fun b z => ?_
        have z' : dom G'.H0 b := by rw [hh0]; exact z
        cases m with
        | tn => cases hm
        | cl => cases hm
        | nw => exact .inl z'
        | fr => exact .inl z'
      · exact Rv.flat d v hm r'
theorem fn_V {x qual : Str} {st : Stmt} {f : Addr} {fd : FuncData} {N ps : List Str} {k : Nat} {fr : Bool} {c : C1} (F : Fun K x qual st f fd) (S : FnScope N ps (defScope st)) (len : ∀ ds q, c ds q → ds.length = ps.length)
    (hbody : ∀ (cdv : Value) (A : Around) (outer : List PySem.Env) (s : Shared) (H : Hp) (E : XK), Room k (A.deeper (envOfC qual (defScope st) s.heap.objs.size f cdv)) →
      ∃ t, VSs false (cxB P w K mg base N qual (defScope st) f cdv A outer s H E) (defBody st) t ∧ ∀ ds q, c ds q → t (endsF fr q) (startE N.length ds)) : FnOk P w K mg base CX0 (k + 1) f fd ps (spOf K fr c) := by
  refine F.ok S (fun vs H Q E h => ?_) fun cdv A outer s H vs Q E hr h => ?_
  · obtain ⟨ds, sa, N0, _, _, r, hc⟩ := h
    rw [← r.length]
    exact len _ _ hc
  · obtain ⟨t, hv, hb⟩ := hbody cdv A outer s H E hr
    exact ⟨_, hv.pss, fn_body S len hb h⟩
/-- .. with keyword-only defaults -/
theorem fn_VD {x qual : Str} {st : Stmt} {dvs : List V} {kws : List (Str × V)} {f : Addr} {fd : FuncData} {N ps : List Str} {k : Nat} {fr : Bool} {c : C1} (F : FunD K x qual (defArgs st) (defBody st) (defScope st) dvs kws f fd) (S : FnScope N ps (defScope st)) (len : ∀ ds q, c ds q → ds.length = ps.length)
    (hbody : ∀ (cdv : Value) (A : Around) (outer : List PySem.Env) (s : Shared) (H : Hp) (E : XK), Room k (A.deeper (envOfC qual (defScope st) s.heap.objs.size f cdv)) →
      ∃ t, VSs false (cxB P w K mg base N qual (defScope st) f cdv A outer s H E) (defBody st) t ∧ ∀ ds q, c ds q → t (endsF fr q) (startE N.length ds)) : FnOk P w K mg base CX0 (k + 1) f fd ps (spOf K fr c) := by
  refine F.ok S (fun vs H Q E h => ?_) fun cdv A outer s H vs Q E hr h => ?_
  · obtain ⟨ds, sa, N0, _, _, r, hc⟩ := h
    rw [← r.length]
    exact len _ _ hc
  · obtain ⟨t, hv, hb⟩ := hbody cdv A outer s H E hr
    exact ⟨_, hv.pss.nox, fn_body S len hb h⟩
/-- the law -/
def spLaw (K : PySem.W.Frag) : Sp := fun vs H Q _ => ∃ (a : Addr) (ns : List Int), vs = [.ref a] ∧ ScrAt K H a ns ∧ ns.length ≤ 63 ∧ ∀ H', Q (.bl true) H'
theorem law_V {x qual : Str} {st : Stmt} {f : Addr} {fd : FuncData} {N ps : List Str} {k : Nat} (F : Fun K x qual st f fd) (S : FnScope N ps (defScope st)) (hps : ps.length = 1)
    (hbody : ∀ (cdv : Value) (A : Around) (outer : List PySem.Env) (s : Shared) (H : Hp) (E : XK), Room k (A.deeper (envOfC qual (defScope st) s.heap.objs.size f cdv)) →
      ∃ t, VSs true (cxB P w K mg base N qual (defScope st) f cdv A outer s H E) (defBody st) t ∧ ∀ ns : List Int, ns.length ≤ 63 → t { nx := fun _ => False, rt := fun d _ => d = .bl true } (startE N.length [.scr ns])) : FnOk P w K mg base CX0 (k + 1) f fd ps (spLaw K) := by
  refine F.ok S (fun vs H Q E h => ?_) fun cdv A outer s H vs Q E hr h => ?_
  · obtain ⟨a, ns, rfl, _⟩ := h
    exact hps.symm
  · obtain ⟨t, hv, hb⟩ := hbody cdv A outer s H E hr
    obtain ⟨a, ns, rfl, hs, hl, hq⟩ := h
    have hpl : ps.length ≤ N.length := by have := congrArg List.length S.pre; rw [List.length_take] at this; omega
    have st := St.start (K := K) (N := N) (H := H) (lf := true) (sa := none) (N0 := fun _ => False) (ds := [.scr ns]) (vs := [.ref a]) (fun _ => rfl) (by simp; omega) (fun _ z => z.elim) (fun _ z => nomatch z) (Rvs.cons (by rw [rv_scr]; exact ⟨a, rfl, hs⟩) Rvs.nil)
    refine ⟨_, hv.pss, _, _, _, rfl, st, hb ns hl, ⟨fun _ _ _ _ _ _ z => z.elim, fun _ _ _ _ _ _ z => z.elim, fun _ _ _ _ _ _ z => z.elim, fun G' σ' H' ρ' d m v fr' st' r' e => ?_⟩⟩
    subst e
    rw [rv_bl] at r'
    subst r'
    exact hq H'
end
end VL
/-! VL: small ends that the printer names. -/
namespace VL
open PySem L2
theorem rvs_nil0 {K : PySem.W.Frag} (sa : Option Addr) (N : Addr → Prop) (H : Hp) : Rvs K sa N H [] [] := Rvs.nil
theorem rvs_non1 {K : PySem.W.Frag} (sa : Option Addr) (N : Addr → Prop) (H : Hp) : Rvs K sa N H [.non] [V.non] := Rvs.cons (by rw [rv_non]) Rvs.nil
section
variable {lf : Bool} {X : Cx} {te : E1} {pos : Pos} {x : Str} {i : Nat}
theorem ve_ty {x : Str} {n : String} {pos : Pos} (hg : Gl X x) (hm : X.mg x = none) (hv : bootBuiltins x = some (.type n)) (hn : x ≠ "__name__" := by decide) (hd : (x == ("__debug__" : Str)) = false := by decide) : VE X (.Name x pos) (eC (.ty n)) :=
  ve_const (pe_bltn (v := .ty n) hg hm hv rfl hn hd) fun _ _ _ => by rw [rv_ty]
theorem vs_setP {st : Stmt} (mono : MonoE te) (h : PS X st (tAsg (lift X.K te) (gName i))) : VS lf X st (sSet i te) :=
  ⟨PS.imp h fun D σ H ⟨G, ρ, D1, hl, st, h, ok⟩ => lift_of mono st h fun d m ⟨hs, hq⟩ v H1 g1 s1 st1 r =>
    ok.nx _ _ H1 _ (gos_set G i).fr (st1.setVal (hs.rv r fun c => excl_cl st c)) hq⟩
theorem vs_ownP {st : Stmt} (mono : MonoE te) (h : PS X st (tAsg (lift X.K te) (gName i))) : VS lf X st (sOwn i te) :=
  ⟨PS.imp h fun D σ H ⟨G, ρ, D1, hl, st, h, ok⟩ => lift_of mono st h fun d m ⟨hm, ds, e, f, hq⟩ v H1 g1 s1 st1 r => by
    subst hm e
    obtain ⟨os, st2⟩ := st.setOwn (i := i) g1 s1 st1 f r
    exact ok.nx (G.withOs os) _ H1 _ ⟨rfl, rfl, rfl, rfl, rfl⟩ st2 hq⟩
theorem ps_lcV {y : Str} {py : Pos} {elt tg iter : Expr} {ifs : List Expr} {scope : Scope} {own : List (Str × Nat)} {pos spos : Pos} {it : I1} {ts : List Nat} {g : G1} {tt : T1} (hc : X.calm = true) (hN : X.N.Nodup) (hy : X.N[i]? = some y) (hyl : X.env.scope.names.lookup y = some .local)
    (hsw : swapsWith (.ListComp elt [⟨tg, iter, ifs, 0⟩] scope pos) (some (.Name y py)) spos.line X.env = pure true) (hi : VI X tg iter it) (ok : BlkOk X.N X.env.scope scope own)
    (hg : ∀ (s : Shared) (H : Hp) (C : Addr) (cl : List (Str × Addr)) (fp : List Addr), VG (X.blk s H scope (compEnvC scope cl C X.env) fp) tg ts g) (ht : ∀ (s : Shared) (H : Hp) (C : Addr) (cl : List (Str × Addr)) (fp : List Addr), VTs (X.blk s H scope (compEnvC scope cl C X.env) fp) ifs tt)
    (he : ∀ (s : Shared) (H : Hp) (C : Addr) (cl : List (Str × Addr)) (fp : List Addr), VE (X.blk s H scope (compEnvC scope cl C X.env) fp) elt te) (hts : ∀ i ∈ ts, i ∈ own.map (·.2)) (hs : ∀ x, foldedSetIterable iter X.env x = pure x := by intro _; rfl) :
    PS X (.Assign [.Name y py] (.ListComp elt [⟨tg, iter, ifs, 0⟩] scope pos) spos) (tAsg (lift X.K (eComp it g tt te (own.map (·.2)))) (gName i)) := by
  have q := ps_setLc (X := X) (pos := pos) (wi := liftI X.K it) (g := liftG X.K ts g) (tt := liftT X.K tt) (te := lift X.K te) hc hN hy hyl hsw hi.pi ok (fun s H C cl fp => (hg s H C cl fp).pg) (fun s H C cl fp => (ht s H C cl fp).pts) (fun s H C cl fp => (he s H C cl fp).pe) hs
  exact PS.imp q fun D σ H h => tLc_lift hi.mono (hg {} (fun _ => none) 0 [] []).mono (ht {} (fun _ => none) 0 [] []).mono (he {} (fun _ => none) 0 [] []).mono hts σ H _ h
theorem vs_setLc {y : Str} {py : Pos} {elt tg iter : Expr} {ifs : List Expr} {scope : Scope} {own : List (Str × Nat)} {pos spos : Pos} {it : I1} {ts : List Nat} {g : G1} {tt : T1} (hc : X.calm = true) (hN : X.N.Nodup) (hy : X.N[i]? = some y) (hyl : X.env.scope.names.lookup y = some .local)
    (hsw : swapsWith (.ListComp elt [⟨tg, iter, ifs, 0⟩] scope pos) (some (.Name y py)) spos.line X.env = pure true) (hi : VI X tg iter it) (ok : BlkOk X.N X.env.scope scope own)
    (hg : ∀ (s : Shared) (H : Hp) (C : Addr) (cl : List (Str × Addr)) (fp : List Addr), VG (X.blk s H scope (compEnvC scope cl C X.env) fp) tg ts g) (ht : ∀ (s : Shared) (H : Hp) (C : Addr) (cl : List (Str × Addr)) (fp : List Addr), VTs (X.blk s H scope (compEnvC scope cl C X.env) fp) ifs tt)
    (he : ∀ (s : Shared) (H : Hp) (C : Addr) (cl : List (Str × Addr)) (fp : List Addr), VE (X.blk s H scope (compEnvC scope cl C X.env) fp) elt te) (hts : ∀ i ∈ ts, i ∈ own.map (·.2)) (hs : ∀ x, foldedSetIterable iter X.env x = pure x := by intro _; rfl) :
    VS lf X (.Assign [.Name y py] (.ListComp elt [⟨tg, iter, ifs, 0⟩] scope pos) spos) (sSet i (eComp it g tt te (own.map (·.2)))) :=
  vs_setP (eComp_mono hi.mono) (ps_lcV hc hN hy hyl hsw hi ok hg ht he hts hs)
theorem vs_ownLc {y : Str} {py : Pos} {elt tg iter : Expr} {ifs : List Expr} {scope : Scope} {own : List (Str × Nat)} {pos spos : Pos} {it : I1} {ts : List Nat} {g : G1} {tt : T1} (hc : X.calm = true) (hN : X.N.Nodup) (hy : X.N[i]? = some y) (hyl : X.env.scope.names.lookup y = some .local)
    (hsw : swapsWith (.ListComp elt [⟨tg, iter, ifs, 0⟩] scope pos) (some (.Name y py)) spos.line X.env = pure true) (hi : VI X tg iter it) (ok : BlkOk X.N X.env.scope scope own)
    (hg : ∀ (s : Shared) (H : Hp) (C : Addr) (cl : List (Str × Addr)) (fp : List Addr), VG (X.blk s H scope (compEnvC scope cl C X.env) fp) tg ts g) (ht : ∀ (s : Shared) (H : Hp) (C : Addr) (cl : List (Str × Addr)) (fp : List Addr), VTs (X.blk s H scope (compEnvC scope cl C X.env) fp) ifs tt)
    (he : ∀ (s : Shared) (H : Hp) (C : Addr) (cl : List (Str × Addr)) (fp : List Addr), VE (X.blk s H scope (compEnvC scope cl C X.env) fp) elt te) (hts : ∀ i ∈ ts, i ∈ own.map (·.2)) (hs : ∀ x, foldedSetIterable iter X.env x = pure x := by intro _; rfl) :
    VS lf X (.Assign [.Name y py] (.ListComp elt [⟨tg, iter, ifs, 0⟩] scope pos) spos) (sOwn i (eComp it g tt te (own.map (·.2)))) :=
  vs_ownP (eComp_mono hi.mono) (ps_lcV hc hN hy hyl hsw hi ok hg ht he hts hs)
end
theorem scrAt_of {K : PySem.W.Frag} {H : Hp} {a : Addr} {ns : List Int} (h : Only H) (q : SqL K H a (ns.map V.int)) : ScrAt K H a ns := by
  rcases q with (q | ⟨o, q⟩) | q
  · rcases h a with z | ⟨o, xs, z⟩
    · rw [q] at z; cases z
    · rw [q] at z; cases z
  · exact .inl ⟨o, q⟩
  · exact .inr (.inr q)
end VL
/-! VL13: sorted(set(x)), x a tuple of ints. -/
namespace VL
open PySem L2
def rSetT (K : PySem.W.Frag) (w : World) : List V → Hp → VK → Prop := fun xs H Q => ∃ (l : Addr) (ns : List Int), xs = [.ref l] ∧ SqT K H l (ns.map V.int) ∧ ns.length ≤ 1000 ∧
  ∀ (p : Addr) (c : Nat), c ≤ ns.length → H p = none → Q (.ref p) (upd H p (SetO w p (fun j => decide (j ∈ ns)) c))
theorem cr_setT {X : Cx} (hc : X.calm = true) : CallR X (.type "set") (rSetT X.K X.w) := by
  intro pins s σ H xs us Q I r h
  obtain ⟨l, ns, rfl, hq, hl, q⟩ := h
  rw [Vals.ref1 r]
  obtain ⟨its, rv, pt, hz⟩ := I.tuple hq
  refine call_set_tupI ns (I.ok.hd hc) (show s.heap.IsTuple l its.toArray from pt) (ints_of_vals rv) (by unfold scanBound; omega) fun h' tk c R hcn k => ?_
  exact ⟨.ref s.heap.objs.size, upd H s.heap.objs.size (SetO X.w s.heap.objs.size (fun j => decide (j ∈ ns)) c), I.laid (t' := tk) k (Nat.le_refl _) (setO_new R), rfl, q _ c hcn (I.hok.fresh (Nat.le_refl _))⟩
/-- ms: the members of ns, rising -/
def SrtS (ns ms : List Int) : Prop := ms.Pairwise (· < ·) ∧ ∀ k, k ∈ ms ↔ k ∈ ns
def eSortSet (te : E1) : E1 := fun ρ Q => te ρ fun d _ => ∃ ns : List Int, d = .tup (ns.map .int) ∧ ns.length < 64 ∧ ∀ ms, SrtS ns ms → Q (.lst (ms.map .int)) .fr
theorem ve_sortSet {X : Cx} {e : Expr} {te : E1} {p p2 pos pos2 : Pos} (hg : Gl X "sorted") (hm : X.mg "sorted" = none) (hg2 : Gl X "set") (hm2 : X.mg "set" = none) (he : VE X e te) (hc : X.calm = true := by rfl)
    (na : starEach [e] X.env = (false, eval e X.env) :: starEach [] X.env := by rfl) (na2 : starEach [.Call (.Name "set" p2) [e] [] pos2] X.env = (false, eval (.Call (.Name "set" p2) [e] [] pos2) X.env) :: starEach [] X.env := by rfl) :
    VE X (.Call (.Name "sorted" p) [.Call (.Name "set" p2) [e] [] pos2] [] pos) (eSortSet te) where
  pe := by
    have inner := pe_callTy (X := X) (x := "set") (p := p2) (pos := pos2) (cr_setT hc) hg2 hm2 PyProof.Rows.boot_set (pa_cons he.pe pa_nil na) (by decide) (by decide) na (by rfl)
    refine PE.imp (pe_callB (X := X) (x := "sorted") (p := p) (pos := pos) (cr_sortedSet hc) hg hm (by decide +kernel) (pa_cons inner pa_nil na2) (by decide) (by decide) na2 (by rfl)) fun σ H Q ⟨G, ρ, st, h⟩ => ?_
    refine lift_of he.mono st h fun d m ⟨ns, e, hl, hq⟩ v H1 g1 s1 st1 r => ?_
    subst e
    rw [rv_tup] at r
    obtain ⟨a, vs, rfl, sq, t⟩ := r
    have e2 := t.ints
    subst e2
    refine ⟨a, ns, rfl, sq, by omega, fun p c hcn hp => ?_⟩
    refine ⟨p, _, c, rfl, upd_same, by omega, fun ms p' hs hk hlen hp' => ?_⟩
    have sm1 : Same H1 (upd H1 p (SetO X.w p (fun j => decide (j ∈ ns)) c)) := Same.new hp
    have sm2 : Same (upd H1 p (SetO X.w p (fun j => decide (j ∈ ns)) c)) (upd (upd H1 p (SetO X.w p (fun j => decide (j ∈ ns)) c)) p' (.lst (ms.map V.int))) := Same.new hp'
    refine hq ms ⟨hs, fun k => by rw [hk k, decide_eq_true_eq]⟩ _ _ ((g1.trans (Stb.same sm1)).trans (Stb.same sm2)) ((s1.same sm1).same sm2) ?_
    refine rv_newL hp' (flats_ints ms) (N := fun _ => False) rvs_ints fun z => ?_
    exact (dom_grow st (g1.trans (Stb.same sm1)) (s1.same sm1) _ z) hp'
  mono := fun ρ Q Q' k h => he.mono ρ _ _ (fun d m ⟨ns, e, l, h⟩ => ⟨ns, e, l, fun ms s => k _ _ (h ms s)⟩) h
end VL
/-! VW: words to walk a transformer with simp; typed data; contracts of the drawing defs. -/
namespace VL
open PySem L2
theorem k_var {i : Nat} {ρ ρ' : Env} {Q : D → Md → Prop} (h : ρ = ρ') : eVar i ρ Q = eVar i ρ' Q := by rw [h]
theorem k_while {fs : List Nat} {c : T1} {b : S1} {D : Ends1} {ρ ρ' : Env} (h : ρ = ρ') : sWhile fs c b D ρ = sWhile fs c b D ρ' := by rw [h]
theorem x_var0 {d : D} {ρ : Env} {Q : D → Md → Prop} : eVar 0 (.val d :: ρ) Q = Q d d.md := by simp [eVar]
theorem x_var0o {ds : List D} {ρ : Env} {Q : D → Md → Prop} : eVar 0 (.own ds :: ρ) Q = Q (.lst ds) .nw := by simp [eVar]
theorem x_varS {n : Nat} {s : Sl} {ρ : Env} {Q : D → Md → Prop} : eVar (n + 1) (s :: ρ) Q = eVar n ρ Q := by simp [eVar]
theorem all_nil {f : Sl → Bool} : ([] : List Sl).all f = true := rfl
theorem all_cons {f : Sl → Bool} {s : Sl} {ρ : List Sl} : (s :: ρ).all f = (f s && ρ.all f) := rfl
theorem x_start {n : Nat} {ds : List D} : startE n ds = ds.map Sl.val ++ List.replicate (n - ds.length) Sl.non := rfl
def callC (c : C1) (ds : List D) (q : D → Prop) : Prop := c ds q
theorem k_callC {c : C1} {ds ds' : List D} {q : D → Prop} (h : ds = ds') : callC c ds q = callC c ds' q := by rw [h]
theorem x_call {fr : Bool} {dd : List D} {c : C1} {t : A1} {ρ : Env} {Q : D → Md → Prop} : eCall fr dd c t ρ Q = t ρ fun ds m => callC c (ds ++ dd) fun d => Q d (mdOf fr m) := rfl
theorem x_callK {fr : Bool} {n k : Nat} {c : C1} {t tk : A1} {ρ : Env} {Q : D → Md → Prop} : eCallK fr n k c t tk ρ Q = t ρ fun ds m => tk ρ fun es m2 => ds.length = n ∧ es.length = k ∧ callC c (ds ++ es) fun d => Q d (mdOf fr (m.meet m2)) := rfl
/-! ### typed data -/
def dS (s : List Int) : D := .tup (s.map .int)
def dR (rs : List (List Int)) : D := .tup (rs.map dS)
def dQ : Option Int → D
  | none => .non
  | some i => .int i
theorem map_inj {α β : Type} {f : α → β} (h : ∀ a b, f a = f b → a = b) : ∀ {xs ys : List α}, xs.map f = ys.map f → xs = ys
  | [], [], _ => rfl
  | [], _ :: _, e => by simp at e
  | _ :: _, [], e => by simp at e
  | x :: xs, y :: ys, e => by
    simp only [List.map_cons, List.cons.injEq] at e
    rw [h _ _ e.1, map_inj h e.2]
theorem int_inj {a b : List Int} : (a.map D.int = b.map D.int) ↔ a = b := ⟨map_inj fun x y e => by cases e; rfl, fun e => by rw [e]⟩
theorem dS_inj {a b : List Int} : (dS a = dS b) ↔ a = b := ⟨fun e => by unfold dS at e; rw [D.tup.injEq] at e; exact int_inj.mp e, fun e => by rw [e]⟩
theorem dR_inj {a b : List (List Int)} : (dR a = dR b) ↔ a = b := ⟨fun e => by unfold dR at e; rw [D.tup.injEq] at e; exact map_inj (fun x y z => dS_inj.mp z) e, fun e => by rw [e]⟩
theorem dQ_non {s : Option Int} : (D.non = dQ s) ↔ none = s := by cases s <;> simp [dQ]
theorem dQ_int {s : Option Int} {i : Int} : (D.int i = dQ s) ↔ some i = s := by cases s <;> simp [dQ]
theorem dQ_inj {s t : Option Int} : (dQ s = dQ t) ↔ s = t := by cases s <;> cases t <;> simp [dQ]
theorem dS_flat {a : List Int} : (dS a).flat = true := by unfold dS; rw [flat_tup]; exact flats_ints a
theorem dR_flat {a : List (List Int)} : (dR a).flat = true := by unfold dR; rw [flat_tup]; exact flats_of fun d h => by obtain ⟨x, _, rfl⟩ := List.mem_map.mp h; exact dS_flat
theorem dQ_flat {s : Option Int} : (dQ s).flat = true := by cases s <;> rfl
theorem dS_items {a : List Int} : (dS a).items = some (a.map D.int) := rfl
theorem dR_items {a : List (List Int)} : (dR a).items = some (a.map dS) := rfl
theorem dS_isT {a : List Int} : (dS a).isT "tuple" = true := rfl
theorem dR_isT {a : List (List Int)} : (dR a).isT "tuple" = true := rfl
theorem dS_tyN {a : List Int} : (dS a).tyN = some "tuple" := rfl
theorem dR_tyN {a : List (List Int)} : (dR a).tyN = some "tuple" := rfl
theorem dQ_isNon {a : Option Int} : (dQ a).isNon = a.isNone := by cases a <;> rfl
theorem x_isi {x : D} {T : String} {q : D → Prop} : fIsi [x, .ty T] q = (x.tyN.isSome = true ∧ T ∈ isTs ∧ q (.bl (x.isT T))) := by
  refine propext ⟨fun ⟨x', T', e, h⟩ => ?_, fun h => ⟨x, T, rfl, h⟩⟩
  cases e
  exact h
theorem items_l {l : List D} : (D.lst l).items = some l := rfl
theorem items_t {l : List D} : (D.tup l).items = some l := rfl
theorem md_i {i : Int} : (D.int i).md = .fr := rfl
theorem md_b {i : Bool} : (D.bl i).md = .fr := rfl
theorem md_n : D.non.md = .fr := rfl
theorem md_s {i : Str} : (D.str i).md = .fr := rfl
theorem md_t {i : List D} : (D.tup i).md = .cl := rfl
theorem md_l {i : List D} : (D.lst i).md = .cl := rfl
theorem md_y {i : String} : (D.ty i).md = .cl := rfl
theorem isNon_i {i : Int} : (D.int i).isNon = false := rfl
theorem isNon_n : D.non.isNon = true := rfl
theorem atI_of {α : Type} {xs : List α} {i : Int} (h0 : 0 ≤ i) (h1 : i < xs.length) : atI xs i = xs[i.toNat]? := by
  unfold atI ixN
  rw [if_pos h0, if_pos h1]
  rfl
theorem atI_nat {α : Type} {xs : List α} {i : Nat} : atI xs (i : Int) = xs[i]? := by
  by_cases h : i < xs.length
  · rw [atI_of (by omega) (by omega)]; rfl
  · unfold atI ixN
    rw [if_pos (by omega), if_neg (by omega), List.getElem?_eq_none (by omega)]
    rfl
theorem atI_0 {α : Type} {xs : List α} : atI xs 0 = xs[0]? := atI_nat (i := 0)
theorem atI_1 {α : Type} {xs : List α} : atI xs 1 = xs[1]? := atI_nat (i := 1)
theorem atI_2 {α : Type} {xs : List α} : atI xs 2 = xs[2]? := atI_nat (i := 2)
theorem atI_m1 {α : Type} {xs : List α} : atI xs (-1) = xs.getLast? := by
  unfold atI ixN
  rw [if_neg (by decide), List.getLast?_eq_getElem?]
  by_cases h : xs.length = 0
  · rw [if_neg (by omega), h, List.length_eq_zero_iff.mp h]; rfl
  · rw [if_pos (by omega)]
    show xs[(-1 + (xs.length : Int)).toNat]? = _
    congr 1
    omega
theorem isT_ii {i : Int} : (D.int i).isT "int" = true := rfl
theorem isT_ib {i : Int} : (D.int i).isT "bool" = false := rfl
theorem isT_it {i : Int} : (D.int i).isT "tuple" = false := rfl
theorem isT_il {i : Int} : (D.int i).isT "list" = false := rfl
theorem isT_bi {i : Bool} : (D.bl i).isT "int" = true := rfl
theorem isT_bb {i : Bool} : (D.bl i).isT "bool" = true := rfl
theorem isT_tt {i : List D} : (D.tup i).isT "tuple" = true := rfl
theorem isT_ti {i : List D} : (D.tup i).isT "int" = false := rfl
theorem isT_lt {i : List D} : (D.lst i).isT "tuple" = false := rfl
theorem isT_ll {i : List D} : (D.lst i).isT "list" = true := rfl
theorem isT_nt : D.non.isT "tuple" = false := rfl
theorem isT_ni : D.non.isT "int" = false := rfl
theorem isT_nl : D.non.isT "list" = false := rfl
theorem tyN_i {i : Int} : (D.int i).tyN = some "int" := rfl
theorem tyN_b {i : Bool} : (D.bl i).tyN = some "bool" := rfl
theorem tyN_t {i : List D} : (D.tup i).tyN = some "tuple" := rfl
theorem tyN_l {i : List D} : (D.lst i).tyN = some "list" := rfl
theorem tyN_n : D.non.tyN = some "NoneType" := rfl
theorem x_lenL {l : List D} {q : D → Prop} : fLen [.lst l] q = q (.int l.length) := rfl
theorem x_lenT {l : List D} {q : D → Prop} : fLen [.tup l] q = q (.int l.length) := rfl
theorem x_lenC {l : List Int} {q : D → Prop} : fLen [.scr l] q = q (.int l.length) := rfl
theorem x_lenS {s : List Int} {q : D → Prop} : fLen [dS s] q = q (.int s.length) := by simp [fLen, dS]
theorem x_lenR {s : List (List Int)} {q : D → Prop} : fLen [dR s] q = q (.int s.length) := by simp [fLen, dR]
theorem dS_md {a : List Int} : (dS a).md = .cl := rfl
theorem dR_md {a : List (List Int)} : (dR a).md = .cl := rfl
theorem dQ_md {a : Option Int} : (dQ a).md = .fr := by cases a <;> rfl
theorem all_map {α : Type} {xs : List α} {p : α → Bool} {q : D → Prop} (h : q (.bl (xs.all p))) : fAll [.lst (xs.map fun x => D.bl (p x))] q := ⟨xs.map p, by rw [List.map_map]; rfl, by rw [List.all_map]; exact h⟩
theorem shp_i {n : Nat} {i : Int} : D.shp n (.int i) = true := by cases n <;> rfl
theorem shp_b {n : Nat} {i : Bool} : D.shp n (.bl i) = true := by cases n <;> rfl
theorem shp_n {n : Nat} : D.shp n .non = true := by cases n <;> rfl
theorem shp_l0 {n : Nat} : D.shp (n + 1) (.lst []) = true := by simp [D.shp]
theorem shp_li {n : Nat} {l : List Int} : D.shp (n + 1) (.lst (l.map .int)) = true := by simp [D.shp, shp_i]
theorem shp_S {n : Nat} {l : List Int} : D.shp (n + 1) (dS l) = true := by simp [dS, D.shp, shp_i]
theorem shp_R {n : Nat} {l : List (List Int)} : D.shp (n + 2) (dR l) = true := by simp [dR, D.shp, shp_S]
theorem shp_lS {n : Nat} {l : List (List Int)} : D.shp (n + 2) (.lst (l.map dS)) = true := by simp [D.shp, shp_S]
theorem shp_Q {n : Nat} {l : Option Int} : D.shp n (dQ l) = true := by cases l; exact shp_n; exact shp_i
theorem eqb_l {a b : List D} : D.eqb (.lst a) (.lst b) = D.eqbs a b := by simp [D.eqb]
theorem eqb_S {a b : List Int} : D.eqb (dS a) (dS b) = decide (a = b) := eqb_tupints a b
theorem eqbs_dS {a b : List (List Int)} : D.eqbs (a.map dS) (b.map dS) = decide (a = b) := eqbs_map _ (fun _ _ => eqb_S) a b
theorem shp_lli {n : Nat} {l : List (List Int)} : D.shp (n + 2) (.lst (l.map fun x => D.lst (x.map .int))) = true := by simp [D.shp, shp_i]
theorem eqbs_dL {a b : List (List Int)} : D.eqbs (a.map fun x => D.lst (x.map .int)) (b.map fun x => D.lst (x.map .int)) = decide (a = b) := eqbs_map _ (fun _ _ => by rw [eqb_l, eqbs_ints]) a b
theorem eqb_R {a b : List (List Int)} : D.eqb (dR a) (dR b) = decide (a = b) := by unfold dR; simp only [D.eqb]; exact eqbs_dS
theorem eqbs_nil0 : D.eqbs [] [] = true := by simp [D.eqbs]
theorem eqbs_nilR {a : List D} : D.eqbs a [] = a.isEmpty := by cases a <;> simp [D.eqbs]
theorem eqbs_nilL {a : List D} : D.eqbs [] a = a.isEmpty := by cases a <;> simp [D.eqbs]
theorem eqb_q {a b : Option Int} : D.eqb (dQ a) (dQ b) = decide (a = b) := by cases a <;> cases b <;> simp [dQ, D.eqb] <;> exact Bool.beq_eq_decide_eq _ _
theorem dR_lst {a : List (List Int)} {l : List D} : (dR a = .lst l) = False := by simp [dR]
theorem dR_tup {a : List (List Int)} {l : List D} : (dR a = .tup l) = (a.map dS = l) := by simp [dR]
theorem dS_lst {a : List Int} {l : List D} : (dS a = .lst l) = False := by simp [dS]
theorem dS_tup {a : List Int} {l : List D} : (dS a = .tup l) = (a.map D.int = l) := by simp [dS]
theorem flats_S {a : List (List Int)} : D.flats (a.map dS) = true := flats_of fun d h => by obtain ⟨x, _, rfl⟩ := List.mem_map.mp h; exact dS_flat
theorem dR_fold {a : List (List Int)} : D.tup (a.map dS) = dR a := rfl
theorem dS_fold {a : List Int} : D.tup (a.map D.int) = dS a := rfl
def cutL {α : Type} (xs : List α) (lo hi : Option Int) : List α := (xs.drop (HT.sIx xs.length 0 lo)).take (HT.sIx xs.length xs.length hi - HT.sIx xs.length 0 lo)
theorem cut_map {α : Type} {f : α → D} {xs : List α} {lo hi : Option Int} : cutD (xs.map f) lo hi = (cutL xs lo hi).map f := by
  unfold cutD cutL
  rw [List.length_map, List.map_take, List.map_drop]
theorem cut_lo {α : Type} {xs : List α} {n : Nat} : cutL xs (some (n : Int)) none = xs.drop n := by
  unfold cutL
  rw [HT.sIx_nat, HT.sIx_none, List.take_of_length_le (by rw [List.length_drop]; exact Nat.le_refl _)]
  by_cases h : n ≤ xs.length
  · rw [Nat.min_eq_left h]
  · rw [Nat.min_eq_right (by omega), List.drop_length, List.drop_of_length_le (by omega)]
theorem cut_1 {α : Type} {xs : List α} : cutL xs (some 1) none = xs.drop 1 := cut_lo (n := 1)
theorem in_any {i : Int} {is : List Int} : ((is.map D.int).any fun y => D.eqb y (.int i)) = decide (i ∈ is) := by
  rw [List.any_map]
  by_cases h : i ∈ is
  · rw [decide_eq_true h, List.any_eq_true]
    exact ⟨i, h, by show D.eqb (.int i) (.int i) = true; rw [eqb_int]; exact decide_eq_true rfl⟩
  · rw [decide_eq_false h, List.any_eq_false]
    intro x hx
    show ¬ D.eqb (.int x) (.int i) = true
    rw [eqb_int]
    exact fun z => h (by rw [← of_decide_eq_true z]; exact hx)
theorem all_scal {is : List Int} : (is.map D.int).all D.scal = true := by
  rw [List.all_map, List.all_eq_true]
  exact fun _ _ => rfl
theorem inI {neg : Bool} {i : Int} {is : List Int} {q : D → Prop} : fIn neg (.int i) (.lst (is.map .int)) q = q (.bl (neg != decide (i ∈ is))) := by
  refine propext ⟨fun ⟨ds, e, h1, h2, h⟩ => ?_, fun h => ⟨_, rfl, rfl, all_scal, ?_⟩⟩
  · cases e
    rw [in_any] at h
    exact h
  · rw [in_any]
    exact h
theorem inI_f {i : Int} {is : List Int} {q : D → Prop} : fIn false (.int i) (.lst (is.map .int)) q = q (.bl (decide (i ∈ is))) := by
  rw [inI, Bool.false_bne]
theorem inI_t {i : Int} {is : List Int} {q : D → Prop} : fIn true (.int i) (.lst (is.map .int)) q = q (.bl (!decide (i ∈ is))) := by
  rw [inI, Bool.true_bne]
theorem cpow_6 : CPow 10 6 = True := by unfold CPow; simp
theorem cpow_5 : CPow 10 5 = True := by unfold CPow; simp
theorem cpow_7 : CPow 10 7 = True := by unfold CPow; simp
theorem cpow_12 : CPow 10 12 = True := by unfold CPow; simp
theorem cpow_15 : CPow 10 15 = True := by unfold CPow; simp
theorem cpow_18 : CPow 10 18 = True := by unfold CPow; simp
theorem add_S {s : List Int} {i : Int} {q : D → Prop} : fAdd (dS s) (.tup [.int i]) q = (s.length + 1 ≤ 100000 ∧ q (dS (s ++ [i]))) := by
  unfold dS
  rw [List.map_append]
  simp [fAdd, flats_ints, flats_cons, flats_nil, D.flat]
theorem fMax_2 {i j : Int} {q : D → Prop} : fMax [.int i, .int j] q = q (.int (max i j)) := rfl
theorem fMax_3 {i j k : Int} {q : D → Prop} : fMax [.int i, .int j, .int k] q = q (.int (max (max i j) k)) := rfl
theorem fMin_2 {i j : Int} {q : D → Prop} : fMin [.int i, .int j] q = q (.int (min i j)) := rfl
theorem flat_non : D.non.flat = true := rfl
theorem flat_i {i : Int} : (D.int i).flat = true := rfl
section
variable {i j : Int} {a b : List D} {u v : Str} {q : D → Prop}
theorem fAdd_ii : fAdd (.int i) (.int j) q = q (.int (i + j)) := rfl
theorem fAdd_ll : fAdd (.lst a) (.lst b) q = (a.length + b.length ≤ 100000 ∧ D.flats a = true ∧ D.flats b = true ∧ q (.lst (a ++ b))) := rfl
theorem fAdd_tt : fAdd (.tup a) (.tup b) q = (a.length + b.length ≤ 100000 ∧ D.flats a = true ∧ D.flats b = true ∧ q (.tup (a ++ b))) := rfl
theorem fAdd_ss : fAdd (.str u) (.str v) q = (u.length + v.length ≤ 100000 ∧ q (.str (u ++ v))) := rfl
theorem fMul_ii : fMul (.int i) (.int j) q = (CMul i j ∧ q (.int (i * j))) := rfl
theorem fMul_li : fMul (.lst a) (.int j) q = (a.length * j.toNat ≤ 100000 ∧ -1000000 ≤ j ∧ j ≤ 1000000 ∧ D.flats a = true ∧ q (.lst (List.replicate j.toNat a).flatten)) := rfl
theorem fMul_ti : fMul (.tup a) (.int j) q = (a ≠ [] ∧ 2 ≤ j ∧ j ≤ 1000 ∧ a.length ≤ 1000 ∧ D.flats a = true ∧ q (.tup (List.replicate j.toNat a).flatten)) := rfl
theorem fSub_ii : fSub (.int i) (.int j) q = q (.int (i - j)) := by simp [fSub, fI]
theorem fDiv_ii : fDiv (.int i) (.int j) q = ((0 < j ∧ j < 18446744073709551616) ∧ q (.int (i / j))) := rfl
theorem fMod_ii : fMod (.int i) (.int j) q = (0 < j ∧ q (.int (i % j))) := rfl
theorem fPow_ii : fPow (.int i) (.int j) q = (CPow i j ∧ q (.int (i ^ j.toNat))) := rfl
theorem fLt_ii : fLt (.int i) (.int j) q = q (.bl (decide (i < j))) := by simp [fLt, fI]
theorem fLe_ii : fLe (.int i) (.int j) q = q (.bl (decide (i ≤ j))) := by simp [fLe, fI]
theorem fGt_ii : fGt (.int i) (.int j) q = q (.bl (decide (j < i))) := by simp [fGt, fI]
theorem fGe_ii : fGe (.int i) (.int j) q = q (.bl (decide (j ≤ i))) := by simp [fGe, fI]
theorem fAbs_i : fAbs [.int i] q = q (.int (i.natAbs : Int)) := rfl
theorem fInt_i : fInt [.int i] q = q (.int i) := rfl
theorem fInt_b {c : Bool} : fInt [.bl c] q = q (.int (if c then 1 else 0)) := rfl
theorem slOf_f {d : D} : slOf false d = .val d := by cases d <;> rfl
theorem slOf_t : slOf true (.lst a) = .own a := rfl
end
theorem fS_v {d : D} : (Sl.val d).flatS = d.flat := rfl
theorem fS_n : Sl.non.flatS = true := rfl
theorem fS_o {l : List D} : (Sl.own l).flatS = true := rfl
theorem fList_S {a : List Int} {q : D → Prop} : fList [dS a] q = q (.lst (a.map .int)) := by
  refine propext ⟨fun ⟨x, l, e, e2, f, h⟩ => ?_, fun h => ⟨dS a, a.map .int, rfl, rfl, flats_ints a, h⟩⟩
  cases e
  cases e2
  exact h
theorem fList_R {a : List (List Int)} {q : D → Prop} : fList [dR a] q = q (.lst (a.map dS)) := by
  refine propext ⟨fun ⟨x, l, e, e2, f, h⟩ => ?_, fun h => ⟨dR a, a.map dS, rfl, rfl, flats_S, h⟩⟩
  cases e
  cases e2
  exact h
theorem sum_li {a : List Int} {q : D → Prop} : fSum [.lst (a.map .int)] q = q (.int a.sum) := by
  refine propext ⟨fun ⟨ns, e, h⟩ => ?_, fun h => ⟨a, .inl rfl, h⟩⟩
  rcases e with e | e
  · simp only [List.cons.injEq, D.lst.injEq, and_true] at e
    rw [int_inj.mp e]; exact h
  · simp at e
theorem sum_S {a : List Int} {q : D → Prop} : fSum [dS a] q = q (.int a.sum) := by
  refine propext ⟨fun ⟨ns, e, h⟩ => ?_, fun h => ⟨a, .inr rfl, h⟩⟩
  unfold dS at e
  rcases e with e | e
  · simp at e
  · simp only [List.cons.injEq, D.tup.injEq, and_true] at e
    rw [int_inj.mp e]; exact h
theorem x_isTs : isTs = ["int", "bool", "tuple", "list"] := rfl
theorem x_consD {d e : D} {ds es : List D} : (d :: ds = e :: es) = (d = e ∧ ds = es) := List.cons.injEq ..
theorem x_consD0 {d : D} {ds : List D} : (d :: ds = []) = False := by simp
theorem x_consD1 {d : D} {ds : List D} : ([] = d :: ds) = False := by simp
/-! ### loops -/
def forK (lf : Bool) (fs : List Nat) (g : G1) (body : S1) (D : Ends1) (ρ : Env) (items : List VL.D) (m : Md) : Prop := m.isCl = true ∧ (lf = true → VL.D.flats items = true) ∧ ∃ P : Nat → Env → Prop, P 0 (wipeE ρ fs) ∧
  (∀ i x ρ', items[i]? = some x → P i ρ' → g x m ρ' fun ρ2 => body { D with nx := fun ρ3 => P (i + 1) (wipeE ρ3 fs), ct := fun ρ3 => P (i + 1) (wipeE ρ3 fs), bk := D.nx } ρ2) ∧ ∀ ρ', P items.length ρ' → D.nx ρ'
theorem u_for {lf : Bool} {fs : List Nat} {it : I1} {g : G1} {b : S1} {D : Ends1} {ρ : Env} : sFor lf fs it g b D ρ = it ρ fun items m => forK lf fs g b D ρ items m := rfl
def compK (g : G1) (tt : T1) (te : E1) (vs : List Nat) (ρ : Env) (Q : D → Md → Prop) (items : List D) (m : Md) : Prop := items.length ≤ 100000 ∧ ∃ P : Nat → List D → Prop, P 0 [] ∧
  (∀ i x acc, items[i]? = some x → P i acc → g x m (wipeE ρ vs) fun ρ2 => tt ρ2 fun b => if b = true then te ρ2 fun y my => (y.flat = true ∨ my = .fr) ∧ P (i + 1) (acc ++ [y]) else P (i + 1) acc) ∧
  ∀ acc, P items.length acc → Q (.lst acc) .fr
theorem u_comp {it : I1} {g : G1} {tt : T1} {te : E1} {vs : List Nat} {ρ : Env} {Q : D → Md → Prop} : eComp it g tt te vs ρ Q = it ρ fun items m => compK g tt te vs ρ Q items m := rfl
theorem for_st {lf : Bool} {fs : List Nat} {g : G1} {b : S1} {D : Ends1} {ρ : Env} {items : List VL.D} {m : Md} {α σ : Type} (xs : List α) (enc : α → VL.D) (env : σ → Env) (I : Nat → σ → Prop) (s0 : σ) (he : items = xs.map enc)
    (hm : m.isCl = true) (hf : lf = true → ∀ x ∈ xs, (enc x).flat = true) (h0 : wipeE ρ fs = env s0) (hI : I 0 s0)
    (hs : ∀ i x s, xs[i]? = some x → I i s → ∀ N : Env → Prop, (∀ s' ρ3, I (i + 1) s' → wipeE ρ3 fs = env s' → N ρ3) → g (enc x) m (env s) fun ρ2 => b { D with nx := N, ct := N, bk := D.nx } ρ2)
    (hd : ∀ s, I xs.length s → D.nx (env s)) : forK lf fs g b D ρ items m := by
  subst he
  refine ⟨hm, fun e => flats_of fun d hd => ?_, fun i ρ' => ∃ s', ρ' = env s' ∧ I i s', ⟨s0, h0, hI⟩, fun i x ρ' hx hp => ?_, fun ρ' hp => ?_⟩
  · obtain ⟨x, hx, rfl⟩ := List.mem_map.mp hd
    exact hf e x hx
  · obtain ⟨s, rfl, hI⟩ := hp
    rw [List.getElem?_map] at hx
    obtain ⟨x', hx', rfl⟩ := Option.map_eq_some_iff.mp hx
    exact hs i x' s hx' hI _ fun s' ρ3 h e => ⟨s', e, h⟩
  · obtain ⟨s, rfl, hI⟩ := hp
    rw [List.length_map] at hI
    exact hd s hI
theorem while_st {fs : List Nat} {tc : T1} {b : S1} {D : Ends1} {ρ : Env} {σ : Type} (env : σ → Env) (I : σ → Prop) (μ : σ → Nat) (s0 : σ) (h0 : wipeE ρ fs = env s0) (hI : I s0)
    (hs : ∀ s, I s → ∀ N : Env → Prop, (∀ s' ρ3, I s' → μ s' < μ s → wipeE ρ3 fs = env s' → N ρ3) → tc (env s) fun c => if c = true then b { D with nx := N, ct := N, bk := D.nx } (env s) else D.nx (env s)) : sWhile fs tc b D ρ := by
  refine ⟨fun m ρ' => ∃ s, ρ' = env s ∧ I s ∧ μ s = m, ⟨μ s0, s0, h0, hI, rfl⟩, fun m ρ' hp => ?_⟩
  obtain ⟨s, rfl, hI, rfl⟩ := hp
  exact hs s hI _ fun s' ρ3 h1 h2 h3 => ⟨μ s', h2, s', h3, h1, rfl⟩
theorem comp_st {g : G1} {tt : T1} {te : E1} {vs : List Nat} {ρ : Env} {Q : D → Md → Prop} {items : List D} {m : Md} {α β : Type} (xs : List α) (enc : α → D) (f : β → D) (I : Nat → List β → Prop) (he : items = xs.map enc) (hl : xs.length ≤ 100000) (hI : I 0 [])
    (hs : ∀ (i : Nat) (x : α) (acc : List β), xs[i]? = some x → I i acc → ∀ N : List D → Prop, (∀ acc', I (i + 1) acc' → N (acc'.map f)) → g (enc x) m (wipeE ρ vs) fun ρ2 => tt ρ2 fun b => if b = true then te ρ2 fun y my => (y.flat = true ∨ my = .fr) ∧ N (acc.map f ++ [y]) else N (acc.map f))
    (hd : ∀ acc, I xs.length acc → Q (.lst (acc.map f)) .fr) : compK g tt te vs ρ Q items m := by
  subst he
  refine ⟨by rw [List.length_map]; exact hl, fun i ds => ∃ acc, ds = acc.map f ∧ I i acc, ⟨[], rfl, hI⟩, fun i x ds hx hp => ?_, fun ds hp => ?_⟩
  · obtain ⟨acc, rfl, hI⟩ := hp
    rw [List.getElem?_map] at hx
    obtain ⟨x', hx', rfl⟩ := Option.map_eq_some_iff.mp hx
    exact hs i x' acc hx' hI (fun ds => ∃ acc, ds = acc.map f ∧ I (i + 1) acc) fun acc' h => ⟨acc', rfl, h⟩
  · obtain ⟨acc, rfl, hI⟩ := hp
    rw [List.length_map] at hI
    exact hd acc hI
theorem comp_map {g : G1} {tt : T1} {te : E1} {vs : List Nat} {ρ : Env} {Q : D → Md → Prop} {items : List D} {m : Md} {α : Type} (xs : List α) (enc : α → D) (f : α → D) (he : items = xs.map enc) (hl : xs.length ≤ 100000)
    (hs : ∀ (i : Nat) (x : α) (acc : List D), xs[i]? = some x → ∀ N : List D → Prop, N (acc ++ [f x]) → g (enc x) m (wipeE ρ vs) fun ρ2 => tt ρ2 fun b => if b = true then te ρ2 fun y my => (y.flat = true ∨ my = .fr) ∧ N (acc ++ [y]) else N acc)
    (hd : Q (.lst (xs.map f)) .fr) : compK g tt te vs ρ Q items m := by
  subst he
  refine ⟨by rw [List.length_map]; exact hl, fun i ds => ds = (xs.take i).map f, rfl, fun i x ds hx hp => ?_, fun ds hp => ?_⟩
  · rw [List.getElem?_map] at hx
    obtain ⟨x', hx', rfl⟩ := Option.map_eq_some_iff.mp hx
    refine hs i x' ds hx' (fun ds => ds = (xs.take (i + 1)).map f) ?_
    rw [hp, List.take_succ, hx', List.map_append]
    rfl
  · rw [hp, List.length_map, List.take_length]
    exact hd
theorem comp_filter {g : G1} {tt : T1} {te : E1} {vs : List Nat} {ρ : Env} {Q : D → Md → Prop} {items : List D} {m : Md} {α : Type} (xs : List α) (enc : α → D) (p : α → Bool) (f : α → D) (he : items = xs.map enc) (hl : xs.length ≤ 100000)
    (hs : ∀ (i : Nat) (x : α) (acc : List D), xs[i]? = some x → ∀ N : List D → Prop, N (acc ++ if p x = true then [f x] else []) → g (enc x) m (wipeE ρ vs) fun ρ2 => tt ρ2 fun b => if b = true then te ρ2 fun y my => (y.flat = true ∨ my = .fr) ∧ N (acc ++ [y]) else N acc)
    (hd : Q (.lst ((xs.filter p).map f)) .fr) : compK g tt te vs ρ Q items m := by
  subst he
  refine ⟨by rw [List.length_map]; exact hl, fun i ds => ds = ((xs.take i).filter p).map f, rfl, fun i x ds hx hp => ?_, fun ds hp => ?_⟩
  · rw [List.getElem?_map] at hx
    obtain ⟨x', hx', rfl⟩ := Option.map_eq_some_iff.mp hx
    refine hs i x' ds hx' (fun ds => ds = ((xs.take (i + 1)).filter p).map f) ?_
    rw [hp, List.take_succ, hx', List.filter_append, List.map_append]
    by_cases h : p x' = true
    · rw [if_pos h]; simp [h]
    · rw [if_neg h]; simp [h]
  · rw [hp, List.length_map, List.take_length]
    exact hd
/-! ### items as typed lists -/
theorem enumD_map {α : Type} (f : α → D) (xs : List α) : enumD (xs.map f) = (xs.mapIdx fun i x => (i, x)).map fun p => D.tup [.int (p.1 : Nat), f p.2] := by
  unfold enumD
  apply List.ext_getElem?
  intro i
  simp [List.getElem?_mapIdx, List.getElem?_map, Function.comp_def]
theorem zipD_map {α β : Type} (f : α → D) (g : β → D) (xs : List α) (ys : List β) : zipD (xs.map f) (ys.map g) = (xs.zip ys).map fun p => D.tup [f p.1, g p.2] := by
  unfold zipD
  rw [List.zip_map, List.map_map]
  rfl
theorem rg0 {n : Nat} : rgD 0 1 n = (List.range n).map fun i => D.int (i : Nat) := by
  unfold rgD
  exact congrArg (fun f => (List.range n).map f) (funext fun i => by rw [Int.zero_add, Int.mul_one])
theorem rgLo {lo : Int} {n : Nat} : rgD lo 1 n = (List.range n).map fun i => D.int (lo + (i : Nat)) := by
  unfold rgD
  exact congrArg (fun f => (List.range n).map f) (funext fun i => by rw [Int.mul_one])
theorem rgD_map (lo c : Int) (n : Nat) : rgD lo c n = (List.range n).map fun i => D.int (lo + (i : Nat) * c) := rfl
theorem get_enum {α : Type} {xs : List α} {i : Nat} {x : Nat × α} (h : (xs.mapIdx fun i x => (i, x))[i]? = some x) : xs[i]? = some x.2 ∧ x.1 = i := by
  rw [List.getElem?_mapIdx] at h
  obtain ⟨y, e, rfl⟩ := Option.map_eq_some_iff.mp h
  exact ⟨e, rfl⟩
theorem get_zip {α β : Type} {xs : List α} {ys : List β} {i : Nat} {x : α × β} (h : (xs.zip ys)[i]? = some x) : xs[i]? = some x.1 ∧ ys[i]? = some x.2 := List.getElem?_zip_eq_some.mp h
theorem get_range {n i x : Nat} (h : (List.range n)[i]? = some x) : x = i ∧ i < n := by
  obtain ⟨h1, h2⟩ := List.getElem?_eq_some_iff.mp h
  rw [List.getElem_range] at h2
  rw [List.length_range] at h1
  exact ⟨h2.symm, h1⟩
end VL
/-! VC1: what the samples' defs do. -/
namespace VL
open PySem L2
/-! ### the plain words -/
abbrev Row := List Int
def top0 (ns : List Int) : Int := ns.foldl max 0
def gaps (a b : Row) : List Int := (a.zip b).map fun p => ((p.1 - p.2).natAbs : Int)
def gap (a b : Row) : Int := top0 (gaps a b)
structure OkS (c : Nat) (r : Row) : Prop where
  len : r.length = c
  lo : ∀ x ∈ r, -1000000 ≤ x
  hi : ∀ x ∈ r, x ≤ 1000000
structure OkR (rs : List Row) : Prop where
  pos : 0 < rs.length
  most : rs.length ≤ 40
  ch : ∃ c, 1 ≤ c ∧ c ≤ 3 ∧ ∀ r ∈ rs, OkS c r
def OkQ (s : Option Int) : Prop := ∀ i, s = some i → 1 ≤ i ∧ i ≤ 60
theorem foldl_max_le {m : Int} : ∀ {ns : List Int} {a : Int}, a ≤ m → (∀ y ∈ ns, y ≤ m) → ns.foldl max a ≤ m
  | [], _, h, _ => h
  | n :: ns, a, h, k => foldl_max_le (ns := ns) (Int.max_le.mpr ⟨h, k n List.mem_cons_self⟩) fun y hy => k y (List.mem_cons_of_mem _ hy)
theorem le_foldl_max : ∀ {ns : List Int} {a : Int}, a ≤ ns.foldl max a ∧ ∀ y ∈ ns, y ≤ ns.foldl max a
  | [], _ => ⟨Int.le_refl _, fun _ h => nomatch h⟩
  | n :: ns, a => by
    obtain ⟨h1, h2⟩ := le_foldl_max (ns := ns) (a := max a n)
    refine ⟨Int.le_trans (Int.le_max_left a n) h1, fun y hy => ?_⟩
    rcases List.mem_cons.mp hy with rfl | hy
    · exact Int.le_trans (Int.le_max_right a y) h1
    · exact h2 y hy
theorem foldl_max_mem : ∀ {ns : List Int} {a : Int}, ns.foldl max a = a ∨ ns.foldl max a ∈ ns
  | [], _ => .inl rfl
  | n :: ns, a => by
    rcases foldl_max_mem (ns := ns) (a := max a n) with h | h
    · rcases Int.le_total a n with z | z
      · right; rw [List.foldl_cons, h, Int.max_eq_right z]; exact List.mem_cons_self
      · left; rw [List.foldl_cons, h, Int.max_eq_left z]
    · right; exact List.mem_cons_of_mem _ h
theorem top0_nonneg (ns : List Int) : 0 ≤ top0 ns := le_foldl_max.1
theorem top0_eq {ns : List Int} {m : Int} (h : Top ns m) (h0 : ∀ y ∈ ns, 0 ≤ y) : m = top0 ns := by
  refine Int.le_antisymm (le_foldl_max.2 m h.1) (foldl_max_le (h0 m h.1) h.2)
theorem gaps_nonneg {a b : Row} : ∀ y ∈ gaps a b, 0 ≤ y := fun y hy => by
  obtain ⟨p, _, rfl⟩ := List.mem_map.mp hy
  omega
theorem gap_nonneg (a b : Row) : 0 ≤ gap a b := top0_nonneg _
theorem gap_le {c : Nat} {a b : Row} (ha : OkS c a) (hb : OkS c b) : gap a b ≤ 2000000 := by
  refine foldl_max_le (by decide) fun y hy => ?_
  obtain ⟨p, hp, rfl⟩ := List.mem_map.mp hy
  obtain ⟨h1, h2⟩ := List.of_mem_zip (a := p.1) (b := p.2) hp
  have := ha.lo _ h1; have := ha.hi _ h1; have := hb.lo _ h2; have := hb.hi _ h2
  omega
def late (last index : Int) (s : Option Int) : Bool := match s with
  | none => false
  | some k => decide (k ≤ index - last)
/-! ### the defs -/
def t_is_between : S1 := (sRet (eAndV (eCB fIsi (aCons (eVar 0) (aCons (eC (.ty "int")) aNil))) (eAndV (eNotV (eCB fIsi (aCons (eVar 0) (aCons (eC (.ty "bool")) aNil)))) (eChain fLe fLe (eVar 1) (eVar 0) (eVar 2)))))
def c_is_between : C1 := fun ds q => ∃ v a b : Int, ds = [.int v, .int a, .int b] ∧ q (.bl (decide (a ≤ v ∧ v ≤ b)))
theorem m_is_between : MonoC c_is_between := fun ds q q' k ⟨v, a, b, e, h⟩ => ⟨v, a, b, e, k _ h⟩
theorem x_is_between {v a b : Int} {q : D → Prop} : callC c_is_between [.int v, .int a, .int b] q = q (.bl (decide (a ≤ v ∧ v ≤ b))) := by
  simp only [callC, c_is_between, ↓sSeq, ↓sRet, ↓sIf, ↓sSet, ↓sOwn, ↓sAsg, ↓sDrop, ↓sNext, ↓sBreak, ↓sNever, ↓sFrz, ↓sApp, ↓sSetIx, ↓sSrc, ↓sPar, ↓sPar3, ↓sAug, ↓sNewSrc, ↓eC, ↓eTest, ↓eAnd, ↓eOr, ↓eNot, ↓eAndV, ↓eOrV, ↓eNotV, ↓eIf, ↓eChain, ↓eNeg, ↓eIx, ↓eIxS, ↓eSl, ↓oNone, ↓oSome, ↓aNil, ↓aCons, ↓eTup, ↓eLst, ↓eTupM, ↓eLstM, ↓eCB, ↓eBin, ↓x_call, ↓x_callK, ↓eSrc, ↓iSeqD, ↓iRg1, ↓iRg2, ↓iRg3, ↓iEnumD, ↓iZipD, ↓gNm, ↓gTp, ↓gsC, ↓gsN, ↓eYes, x_var0, x_var0o, x_varS, fAdd_ii, fAdd_ll, fAdd_tt, fAdd_ss, fMul_ii, fMul_li, fMul_ti, fSub_ii, fDiv_ii, fMod_ii, fPow_ii, fLt_ii, fLe_ii, fGt_ii, fGe_ii, ↓fEq, ↓fNe, ↓fIsN, ↓fNotN, x_lenL, x_lenT, x_lenS, x_lenR, x_lenC, fAbs_i, fInt_i, fInt_b, x_isi, List.set_cons_zero, List.set_cons_succ, List.getElem?_cons_zero, List.getElem?_cons_succ, items_l, items_t, okSt, mdOf, md_i, md_b, md_n, md_s, md_t, md_l, md_y, Md.isCl, Md.isNw, Md.meet, atI_0, atI_m1, atI_1, atI_2, atI_nat, cond_true, cond_false, isNon_i, isNon_n, isT_ii, isT_ib, isT_it, isT_il, isT_bi, isT_bb, isT_tt, isT_ti, isT_lt, isT_ll, isT_nt, isT_ni, isT_nl, tyN_i, tyN_b, tyN_t, tyN_l, tyN_n, dS_isT, dR_isT, dS_tyN, dR_tyN, dQ_isNon, D.flat, D.flats, flats_cons, flats_nil, flats_ints, flat_tup, putOk, slOf_f, slOf_t, Option.some.injEq, D.int.injEq, D.bl.injEq, D.lst.injEq, D.tup.injEq, D.str.injEq, D.scr.injEq, D.ty.injEq, x_consD, x_consD0, x_consD1, and_assoc, reduceCtorEq, exists_eq, exists_eq', exists_eq_left, exists_eq_left', exists_eq_right, exists_eq_right', exists_and_left, exists_and_right, and_true, true_and, and_self, and_false, false_and, or_true, true_or, or_false, false_or, if_true, if_false, ite_true, ite_false, decide_eq_true_eq, decide_eq_false_iff_not, Bool.not_eq_true, Bool.not_eq_true', Bool.not_true, Bool.not_false, Bool.true_eq_false, Bool.false_eq_true, not_true_eq_false, not_false_eq_true, eq_self_iff_true, forall_const, imp_self, List.length_cons, List.length_nil, List.append_nil, List.nil_append, List.cons_append, cpow_6, cpow_18, cpow_5, cpow_7, cpow_15, cpow_12, CMul, Nat.reduceAdd, Nat.reduceLeDiff, Nat.reduceLT, Int.reducePow, Int.reduceNeg, Int.reduceLT, Int.reduceLE, Int.reduceToNat, Int.reduceMul, Int.reduceAdd, Int.reduceSub, frzE, frz1, wipeE, all_nil, all_cons, endsF, x_start, List.map_cons, List.map_nil, List.replicate_succ, List.replicate_zero, Nat.reduceSub, Int.reduceEq, Nat.reduceEqDiff, List.mem_cons, List.not_mem_nil, x_isTs, or_self, Option.isSome_some, Option.isSome_none, String.reduceEq, dS_inj, dR_inj, dQ_inj, dQ_non, dQ_int, dS_md, dR_md, dQ_md, dS_flat, dR_flat, dQ_flat, dS_items, dR_items, List.getElem?_map, Option.map_some, Option.map_none, shp_i, shp_n, shp_b, shp_li, shp_S, shp_R, shp_lS, shp_Q, shp_l0, eqb_int, eqb_l, eqb_S, eqb_R, eqbs_ints, eqbs_dS, eqbs_nil0, eqbs_nilL, eqbs_nilR, Sl.own.injEq, Sl.val.injEq, List.length_map, dR_lst, dR_tup, dS_lst, dS_tup, flats_S, cut_map, cut_1, dR_fold, dS_fold, inI_t, inI_f, Bool.or_false, List.getLast?_map, exists_false, exists_const, Bool.and_self, Bool.and_true, Bool.true_and, Bool.and_false, Bool.false_and, add_S, List.isEmpty_map, fMax_2, fMax_3, fMin_2, flat_non, flat_i, ↓u_for, ↓u_comp, fS_v, fS_n, fS_o, shp_lli, eqbs_dL, ↓eSortSet, int_inj, fList_S, fList_R, sum_S, sum_li]
theorem w_is_between (ds : List D) (q : D → Prop) (h : c_is_between ds q) : t_is_between (endsF true q) (startE 3 ds) := by
  obtain ⟨v, a, b, rfl, h⟩ := h
  simp only [x_start, List.map_cons, List.map_nil, List.length_cons, List.length_nil, List.replicate_succ, List.replicate_zero, List.cons_append, List.nil_append, Nat.reduceSub, Nat.reduceAdd]
  simp only [t_is_between, ↓sSeq, ↓sRet, ↓sIf, ↓sSet, ↓sOwn, ↓sAsg, ↓sDrop, ↓sNext, ↓sBreak, ↓sNever, ↓sFrz, ↓sApp, ↓sSetIx, ↓sSrc, ↓sPar, ↓sPar3, ↓sAug, ↓sNewSrc, ↓eC, ↓eTest, ↓eAnd, ↓eOr, ↓eNot, ↓eAndV, ↓eOrV, ↓eNotV, ↓eIf, ↓eChain, ↓eNeg, ↓eIx, ↓eIxS, ↓eSl, ↓oNone, ↓oSome, ↓aNil, ↓aCons, ↓eTup, ↓eLst, ↓eTupM, ↓eLstM, ↓eCB, ↓eBin, ↓x_call, ↓x_callK, ↓eSrc, ↓iSeqD, ↓iRg1, ↓iRg2, ↓iRg3, ↓iEnumD, ↓iZipD, ↓gNm, ↓gTp, ↓gsC, ↓gsN, ↓eYes, x_var0, x_var0o, x_varS, fAdd_ii, fAdd_ll, fAdd_tt, fAdd_ss, fMul_ii, fMul_li, fMul_ti, fSub_ii, fDiv_ii, fMod_ii, fPow_ii, fLt_ii, fLe_ii, fGt_ii, fGe_ii, ↓fEq, ↓fNe, ↓fIsN, ↓fNotN, x_lenL, x_lenT, x_lenS, x_lenR, x_lenC, fAbs_i, fInt_i, fInt_b, x_isi, List.set_cons_zero, List.set_cons_succ, List.getElem?_cons_zero, List.getElem?_cons_succ, items_l, items_t, okSt, mdOf, md_i, md_b, md_n, md_s, md_t, md_l, md_y, Md.isCl, Md.isNw, Md.meet, atI_0, atI_m1, atI_1, atI_2, atI_nat, cond_true, cond_false, isNon_i, isNon_n, isT_ii, isT_ib, isT_it, isT_il, isT_bi, isT_bb, isT_tt, isT_ti, isT_lt, isT_ll, isT_nt, isT_ni, isT_nl, tyN_i, tyN_b, tyN_t, tyN_l, tyN_n, dS_isT, dR_isT, dS_tyN, dR_tyN, dQ_isNon, D.flat, D.flats, flats_cons, flats_nil, flats_ints, flat_tup, putOk, slOf_f, slOf_t, Option.some.injEq, D.int.injEq, D.bl.injEq, D.lst.injEq, D.tup.injEq, D.str.injEq, D.scr.injEq, D.ty.injEq, x_consD, x_consD0, x_consD1, and_assoc, reduceCtorEq, exists_eq, exists_eq', exists_eq_left, exists_eq_left', exists_eq_right, exists_eq_right', exists_and_left, exists_and_right, and_true, true_and, and_self, and_false, false_and, or_true, true_or, or_false, false_or, if_true, if_false, ite_true, ite_false, decide_eq_true_eq, decide_eq_false_iff_not, Bool.not_eq_true, Bool.not_eq_true', Bool.not_true, Bool.not_false, Bool.true_eq_false, Bool.false_eq_true, not_true_eq_false, not_false_eq_true, eq_self_iff_true, forall_const, imp_self, List.length_cons, List.length_nil, List.append_nil, List.nil_append, List.cons_append, cpow_6, cpow_18, cpow_5, cpow_7, cpow_15, cpow_12, CMul, Nat.reduceAdd, Nat.reduceLeDiff, Nat.reduceLT, Int.reducePow, Int.reduceNeg, Int.reduceLT, Int.reduceLE, Int.reduceToNat, Int.reduceMul, Int.reduceAdd, Int.reduceSub, frzE, frz1, wipeE, all_nil, all_cons, endsF, x_start, List.map_cons, List.map_nil, List.replicate_succ, List.replicate_zero, Nat.reduceSub, Int.reduceEq, Nat.reduceEqDiff, List.mem_cons, List.not_mem_nil, x_isTs, or_self, Option.isSome_some, Option.isSome_none, String.reduceEq, dS_inj, dR_inj, dQ_inj, dQ_non, dQ_int, dS_md, dR_md, dQ_md, dS_flat, dR_flat, dQ_flat, dS_items, dR_items, List.getElem?_map, Option.map_some, Option.map_none, shp_i, shp_n, shp_b, shp_li, shp_S, shp_R, shp_lS, shp_Q, shp_l0, eqb_int, eqb_l, eqb_S, eqb_R, eqbs_ints, eqbs_dS, eqbs_nil0, eqbs_nilL, eqbs_nilR, Sl.own.injEq, Sl.val.injEq, List.length_map, dR_lst, dR_tup, dS_lst, dS_tup, flats_S, cut_map, cut_1, dR_fold, dS_fold, inI_t, inI_f, Bool.or_false, List.getLast?_map, exists_false, exists_const, Bool.and_self, Bool.and_true, Bool.true_and, Bool.and_false, Bool.false_and, add_S, List.isEmpty_map, fMax_2, fMax_3, fMin_2, flat_non, flat_i, ↓u_for, ↓u_comp, fS_v, fS_n, fS_o, shp_lli, eqbs_dL, ↓eSortSet, int_inj, fList_S, fList_R, sum_S, sum_li, x_is_between]
  split
  · rename_i h1
    rw [decide_eq_decide.mpr (Iff.intro (fun z => ⟨h1, z⟩) And.right)]
    exact h
  · rename_i h1
    rw [decide_eq_false (fun z => h1 z.1)] at h
    exact h
def t_is_sample : S1 := (sSeq (sIf (eOr (eNot (eTest (eCB fIsi (aCons (eVar 0) (aCons (eC (.ty "tuple")) aNil))))) (eNot (eTest (eChain fLe fLe (eC (.int 1)) (eCB fLen (aCons (eVar 0) aNil)) (eC (.int 3)))))) (sRet (eC (.bl false))) sNext) (sRet (eCB fAll (aCons (eComp (iSeqD (eVar 0)) (gNm 1) eYes (eCall true [] c_is_between (aCons (eVar 1) (aCons (eBin fSub (eC (.int 0)) (eC (.int 1000000))) (aCons (eC (.int 1000000)) aNil)))) [1]) aNil))))
def OkS1 (s : Row) : Prop := ∃ c, 1 ≤ c ∧ c ≤ 3 ∧ OkS c s
def c_is_sample : C1 := fun ds q => ∃ (s : Row), ds = [dS s] ∧ OkS1 s ∧ q (.bl true)
theorem m_is_sample : MonoC c_is_sample := fun ds q q' k ⟨s, e, h1, h⟩ => ⟨s, e, h1, k _ h⟩
theorem x_is_sample {s : Row} {q : D → Prop} : callC c_is_sample [dS s] q = (OkS1 s ∧ q (.bl true)) := by
  simp only [callC, c_is_sample, ↓sSeq, ↓sRet, ↓sIf, ↓sSet, ↓sOwn, ↓sAsg, ↓sDrop, ↓sNext, ↓sBreak, ↓sNever, ↓sFrz, ↓sApp, ↓sSetIx, ↓sSrc, ↓sPar, ↓sPar3, ↓sAug, ↓sNewSrc, ↓eC, ↓eTest, ↓eAnd, ↓eOr, ↓eNot, ↓eAndV, ↓eOrV, ↓eNotV, ↓eIf, ↓eChain, ↓eNeg, ↓eIx, ↓eIxS, ↓eSl, ↓oNone, ↓oSome, ↓aNil, ↓aCons, ↓eTup, ↓eLst, ↓eTupM, ↓eLstM, ↓eCB, ↓eBin, ↓x_call, ↓x_callK, ↓eSrc, ↓iSeqD, ↓iRg1, ↓iRg2, ↓iRg3, ↓iEnumD, ↓iZipD, ↓gNm, ↓gTp, ↓gsC, ↓gsN, ↓eYes, x_var0, x_var0o, x_varS, fAdd_ii, fAdd_ll, fAdd_tt, fAdd_ss, fMul_ii, fMul_li, fMul_ti, fSub_ii, fDiv_ii, fMod_ii, fPow_ii, fLt_ii, fLe_ii, fGt_ii, fGe_ii, ↓fEq, ↓fNe, ↓fIsN, ↓fNotN, x_lenL, x_lenT, x_lenS, x_lenR, x_lenC, fAbs_i, fInt_i, fInt_b, x_isi, List.set_cons_zero, List.set_cons_succ, List.getElem?_cons_zero, List.getElem?_cons_succ, items_l, items_t, okSt, mdOf, md_i, md_b, md_n, md_s, md_t, md_l, md_y, Md.isCl, Md.isNw, Md.meet, atI_0, atI_m1, atI_1, atI_2, atI_nat, cond_true, cond_false, isNon_i, isNon_n, isT_ii, isT_ib, isT_it, isT_il, isT_bi, isT_bb, isT_tt, isT_ti, isT_lt, isT_ll, isT_nt, isT_ni, isT_nl, tyN_i, tyN_b, tyN_t, tyN_l, tyN_n, dS_isT, dR_isT, dS_tyN, dR_tyN, dQ_isNon, D.flat, D.flats, flats_cons, flats_nil, flats_ints, flat_tup, putOk, slOf_f, slOf_t, Option.some.injEq, D.int.injEq, D.bl.injEq, D.lst.injEq, D.tup.injEq, D.str.injEq, D.scr.injEq, D.ty.injEq, x_consD, x_consD0, x_consD1, and_assoc, reduceCtorEq, exists_eq, exists_eq', exists_eq_left, exists_eq_left', exists_eq_right, exists_eq_right', exists_and_left, exists_and_right, and_true, true_and, and_self, and_false, false_and, or_true, true_or, or_false, false_or, if_true, if_false, ite_true, ite_false, decide_eq_true_eq, decide_eq_false_iff_not, Bool.not_eq_true, Bool.not_eq_true', Bool.not_true, Bool.not_false, Bool.true_eq_false, Bool.false_eq_true, not_true_eq_false, not_false_eq_true, eq_self_iff_true, forall_const, imp_self, List.length_cons, List.length_nil, List.append_nil, List.nil_append, List.cons_append, cpow_6, cpow_18, cpow_5, cpow_7, cpow_15, cpow_12, CMul, Nat.reduceAdd, Nat.reduceLeDiff, Nat.reduceLT, Int.reducePow, Int.reduceNeg, Int.reduceLT, Int.reduceLE, Int.reduceToNat, Int.reduceMul, Int.reduceAdd, Int.reduceSub, frzE, frz1, wipeE, all_nil, all_cons, endsF, x_start, List.map_cons, List.map_nil, List.replicate_succ, List.replicate_zero, Nat.reduceSub, Int.reduceEq, Nat.reduceEqDiff, List.mem_cons, List.not_mem_nil, x_isTs, or_self, Option.isSome_some, Option.isSome_none, String.reduceEq, dS_inj, dR_inj, dQ_inj, dQ_non, dQ_int, dS_md, dR_md, dQ_md, dS_flat, dR_flat, dQ_flat, dS_items, dR_items, List.getElem?_map, Option.map_some, Option.map_none, shp_i, shp_n, shp_b, shp_li, shp_S, shp_R, shp_lS, shp_Q, shp_l0, eqb_int, eqb_l, eqb_S, eqb_R, eqbs_ints, eqbs_dS, eqbs_nil0, eqbs_nilL, eqbs_nilR, Sl.own.injEq, Sl.val.injEq, List.length_map, dR_lst, dR_tup, dS_lst, dS_tup, flats_S, cut_map, cut_1, dR_fold, dS_fold, inI_t, inI_f, Bool.or_false, List.getLast?_map, exists_false, exists_const, Bool.and_self, Bool.and_true, Bool.true_and, Bool.and_false, Bool.false_and, add_S, List.isEmpty_map, fMax_2, fMax_3, fMin_2, flat_non, flat_i, ↓u_for, ↓u_comp, fS_v, fS_n, fS_o, shp_lli, eqbs_dL, ↓eSortSet, int_inj, fList_S, fList_R, sum_S, sum_li, x_is_between]
theorem w_is_sample (ds : List D) (q : D → Prop) (h : c_is_sample ds q) : t_is_sample (endsF true q) (startE 2 ds) := by
  obtain ⟨s, rfl, ⟨c, h1, h2, hs⟩, h⟩ := h
  have hl := hs.len
  simp only [x_start, List.map_cons, List.map_nil, List.length_cons, List.length_nil, List.replicate_succ, List.replicate_zero, List.cons_append, List.nil_append, Nat.reduceSub, Nat.reduceAdd]
  simp only [t_is_sample, ↓sSeq, ↓sRet, ↓sIf, ↓sSet, ↓sOwn, ↓sAsg, ↓sDrop, ↓sNext, ↓sBreak, ↓sNever, ↓sFrz, ↓sApp, ↓sSetIx, ↓sSrc, ↓sPar, ↓sPar3, ↓sAug, ↓sNewSrc, ↓eC, ↓eTest, ↓eAnd, ↓eOr, ↓eNot, ↓eAndV, ↓eOrV, ↓eNotV, ↓eIf, ↓eChain, ↓eNeg, ↓eIx, ↓eIxS, ↓eSl, ↓oNone, ↓oSome, ↓aNil, ↓aCons, ↓eTup, ↓eLst, ↓eTupM, ↓eLstM, ↓eCB, ↓eBin, ↓x_call, ↓x_callK, ↓eSrc, ↓iSeqD, ↓iRg1, ↓iRg2, ↓iRg3, ↓iEnumD, ↓iZipD, ↓gNm, ↓gTp, ↓gsC, ↓gsN, ↓eYes, x_var0, x_var0o, x_varS, fAdd_ii, fAdd_ll, fAdd_tt, fAdd_ss, fMul_ii, fMul_li, fMul_ti, fSub_ii, fDiv_ii, fMod_ii, fPow_ii, fLt_ii, fLe_ii, fGt_ii, fGe_ii, ↓fEq, ↓fNe, ↓fIsN, ↓fNotN, x_lenL, x_lenT, x_lenS, x_lenR, x_lenC, fAbs_i, fInt_i, fInt_b, x_isi, List.set_cons_zero, List.set_cons_succ, List.getElem?_cons_zero, List.getElem?_cons_succ, items_l, items_t, okSt, mdOf, md_i, md_b, md_n, md_s, md_t, md_l, md_y, Md.isCl, Md.isNw, Md.meet, atI_0, atI_m1, atI_1, atI_2, atI_nat, cond_true, cond_false, isNon_i, isNon_n, isT_ii, isT_ib, isT_it, isT_il, isT_bi, isT_bb, isT_tt, isT_ti, isT_lt, isT_ll, isT_nt, isT_ni, isT_nl, tyN_i, tyN_b, tyN_t, tyN_l, tyN_n, dS_isT, dR_isT, dS_tyN, dR_tyN, dQ_isNon, D.flat, D.flats, flats_cons, flats_nil, flats_ints, flat_tup, putOk, slOf_f, slOf_t, Option.some.injEq, D.int.injEq, D.bl.injEq, D.lst.injEq, D.tup.injEq, D.str.injEq, D.scr.injEq, D.ty.injEq, x_consD, x_consD0, x_consD1, and_assoc, reduceCtorEq, exists_eq, exists_eq', exists_eq_left, exists_eq_left', exists_eq_right, exists_eq_right', exists_and_left, exists_and_right, and_true, true_and, and_self, and_false, false_and, or_true, true_or, or_false, false_or, if_true, if_false, ite_true, ite_false, decide_eq_true_eq, decide_eq_false_iff_not, Bool.not_eq_true, Bool.not_eq_true', Bool.not_true, Bool.not_false, Bool.true_eq_false, Bool.false_eq_true, not_true_eq_false, not_false_eq_true, eq_self_iff_true, forall_const, imp_self, List.length_cons, List.length_nil, List.append_nil, List.nil_append, List.cons_append, cpow_6, cpow_18, cpow_5, cpow_7, cpow_15, cpow_12, CMul, Nat.reduceAdd, Nat.reduceLeDiff, Nat.reduceLT, Int.reducePow, Int.reduceNeg, Int.reduceLT, Int.reduceLE, Int.reduceToNat, Int.reduceMul, Int.reduceAdd, Int.reduceSub, frzE, frz1, wipeE, all_nil, all_cons, endsF, x_start, List.map_cons, List.map_nil, List.replicate_succ, List.replicate_zero, Nat.reduceSub, Int.reduceEq, Nat.reduceEqDiff, List.mem_cons, List.not_mem_nil, x_isTs, or_self, Option.isSome_some, Option.isSome_none, String.reduceEq, dS_inj, dR_inj, dQ_inj, dQ_non, dQ_int, dS_md, dR_md, dQ_md, dS_flat, dR_flat, dQ_flat, dS_items, dR_items, List.getElem?_map, Option.map_some, Option.map_none, shp_i, shp_n, shp_b, shp_li, shp_S, shp_R, shp_lS, shp_Q, shp_l0, eqb_int, eqb_l, eqb_S, eqb_R, eqbs_ints, eqbs_dS, eqbs_nil0, eqbs_nilL, eqbs_nilR, Sl.own.injEq, Sl.val.injEq, List.length_map, dR_lst, dR_tup, dS_lst, dS_tup, flats_S, cut_map, cut_1, dR_fold, dS_fold, inI_t, inI_f, Bool.or_false, List.getLast?_map, exists_false, exists_const, Bool.and_self, Bool.and_true, Bool.true_and, Bool.and_false, Bool.false_and, add_S, List.isEmpty_map, fMax_2, fMax_3, fMin_2, flat_non, flat_i, ↓u_for, ↓u_comp, fS_v, fS_n, fS_o, shp_lli, eqbs_dL, ↓eSortSet, int_inj, fList_S, fList_R, sum_S, sum_li, x_is_between, x_is_sample]
  rw [if_pos (by omega), if_neg (by omega)]
  refine comp_map s D.int (fun x => .bl true) rfl (by omega) ?_ ?_
  · intro i x acc hx N hN
    have hm := List.mem_of_getElem? hx
    simp only [↓sSeq, ↓sRet, ↓sIf, ↓sSet, ↓sOwn, ↓sAsg, ↓sDrop, ↓sNext, ↓sBreak, ↓sNever, ↓sFrz, ↓sApp, ↓sSetIx, ↓sSrc, ↓sPar, ↓sPar3, ↓sAug, ↓sNewSrc, ↓eC, ↓eTest, ↓eAnd, ↓eOr, ↓eNot, ↓eAndV, ↓eOrV, ↓eNotV, ↓eIf, ↓eChain, ↓eNeg, ↓eIx, ↓eIxS, ↓eSl, ↓oNone, ↓oSome, ↓aNil, ↓aCons, ↓eTup, ↓eLst, ↓eTupM, ↓eLstM, ↓eCB, ↓eBin, ↓x_call, ↓x_callK, ↓eSrc, ↓iSeqD, ↓iRg1, ↓iRg2, ↓iRg3, ↓iEnumD, ↓iZipD, ↓gNm, ↓gTp, ↓gsC, ↓gsN, ↓eYes, x_var0, x_var0o, x_varS, fAdd_ii, fAdd_ll, fAdd_tt, fAdd_ss, fMul_ii, fMul_li, fMul_ti, fSub_ii, fDiv_ii, fMod_ii, fPow_ii, fLt_ii, fLe_ii, fGt_ii, fGe_ii, ↓fEq, ↓fNe, ↓fIsN, ↓fNotN, x_lenL, x_lenT, x_lenS, x_lenR, x_lenC, fAbs_i, fInt_i, fInt_b, x_isi, List.set_cons_zero, List.set_cons_succ, List.getElem?_cons_zero, List.getElem?_cons_succ, items_l, items_t, okSt, mdOf, md_i, md_b, md_n, md_s, md_t, md_l, md_y, Md.isCl, Md.isNw, Md.meet, atI_0, atI_m1, atI_1, atI_2, atI_nat, cond_true, cond_false, isNon_i, isNon_n, isT_ii, isT_ib, isT_it, isT_il, isT_bi, isT_bb, isT_tt, isT_ti, isT_lt, isT_ll, isT_nt, isT_ni, isT_nl, tyN_i, tyN_b, tyN_t, tyN_l, tyN_n, dS_isT, dR_isT, dS_tyN, dR_tyN, dQ_isNon, D.flat, D.flats, flats_cons, flats_nil, flats_ints, flat_tup, putOk, slOf_f, slOf_t, Option.some.injEq, D.int.injEq, D.bl.injEq, D.lst.injEq, D.tup.injEq, D.str.injEq, D.scr.injEq, D.ty.injEq, x_consD, x_consD0, x_consD1, and_assoc, reduceCtorEq, exists_eq, exists_eq', exists_eq_left, exists_eq_left', exists_eq_right, exists_eq_right', exists_and_left, exists_and_right, and_true, true_and, and_self, and_false, false_and, or_true, true_or, or_false, false_or, if_true, if_false, ite_true, ite_false, decide_eq_true_eq, decide_eq_false_iff_not, Bool.not_eq_true, Bool.not_eq_true', Bool.not_true, Bool.not_false, Bool.true_eq_false, Bool.false_eq_true, not_true_eq_false, not_false_eq_true, eq_self_iff_true, forall_const, imp_self, List.length_cons, List.length_nil, List.append_nil, List.nil_append, List.cons_append, cpow_6, cpow_18, cpow_5, cpow_7, cpow_15, cpow_12, CMul, Nat.reduceAdd, Nat.reduceLeDiff, Nat.reduceLT, Int.reducePow, Int.reduceNeg, Int.reduceLT, Int.reduceLE, Int.reduceToNat, Int.reduceMul, Int.reduceAdd, Int.reduceSub, frzE, frz1, wipeE, all_nil, all_cons, endsF, x_start, List.map_cons, List.map_nil, List.replicate_succ, List.replicate_zero, Nat.reduceSub, Int.reduceEq, Nat.reduceEqDiff, List.mem_cons, List.not_mem_nil, x_isTs, or_self, Option.isSome_some, Option.isSome_none, String.reduceEq, dS_inj, dR_inj, dQ_inj, dQ_non, dQ_int, dS_md, dR_md, dQ_md, dS_flat, dR_flat, dQ_flat, dS_items, dR_items, List.getElem?_map, Option.map_some, Option.map_none, shp_i, shp_n, shp_b, shp_li, shp_S, shp_R, shp_lS, shp_Q, shp_l0, eqb_int, eqb_l, eqb_S, eqb_R, eqbs_ints, eqbs_dS, eqbs_nil0, eqbs_nilL, eqbs_nilR, Sl.own.injEq, Sl.val.injEq, List.length_map, dR_lst, dR_tup, dS_lst, dS_tup, flats_S, cut_map, cut_1, dR_fold, dS_fold, inI_t, inI_f, Bool.or_false, List.getLast?_map, exists_false, exists_const, Bool.and_self, Bool.and_true, Bool.true_and, Bool.and_false, Bool.false_and, add_S, List.isEmpty_map, fMax_2, fMax_3, fMin_2, flat_non, flat_i, ↓u_for, ↓u_comp, fS_v, fS_n, fS_o, shp_lli, eqbs_dL, ↓eSortSet, int_inj, fList_S, fList_R, sum_S, sum_li, x_is_between, x_is_sample]
    rw [decide_eq_true ⟨hs.lo x hm, hs.hi x hm⟩]
    exact hN
  · exact all_map (p := fun _ => true) (by rw [List.all_eq_true.mpr fun _ _ => rfl]; exact h)
def t_is_samples : S1 := (sSeq (sIf (eOr (eNot (eTest (eCB fIsi (aCons (eVar 0) (aCons (eC (.ty "tuple")) aNil))))) (eNot (eTest (eChain fLe fLe (eC (.int 1)) (eCB fLen (aCons (eVar 0) aNil)) (eC (.int 40)))))) (sRet (eC (.bl false))) sNext) (sSeq (sIf (eNot (eTest (eCB fAll (aCons (eComp (iSeqD (eVar 0)) (gNm 1) eYes (eCall true [] c_is_sample (aCons (eVar 1) aNil)) [1]) aNil)))) (sRet (eC (.bl false))) sNext) (sRet (eCB fAll (aCons (eComp (iSeqD (eVar 0)) (gNm 1) eYes (eBin fEq (eCB fLen (aCons (eVar 1) aNil)) (eCB fLen (aCons (eIx (eVar 0) (eC (.int 0))) aNil))) [1]) aNil)))))
def c_is_samples : C1 := fun ds q => ∃ (s : List Row), ds = [dR s] ∧ OkR s ∧ q (.bl true)
theorem m_is_samples : MonoC c_is_samples := fun ds q q' k ⟨s, e, h1, h⟩ => ⟨s, e, h1, k _ h⟩
theorem x_is_samples {s : List Row} {q : D → Prop} : callC c_is_samples [dR s] q = (OkR s ∧ q (.bl true)) := by
  simp only [callC, c_is_samples, ↓sSeq, ↓sRet, ↓sIf, ↓sSet, ↓sOwn, ↓sAsg, ↓sDrop, ↓sNext, ↓sBreak, ↓sNever, ↓sFrz, ↓sApp, ↓sSetIx, ↓sSrc, ↓sPar, ↓sPar3, ↓sAug, ↓sNewSrc, ↓eC, ↓eTest, ↓eAnd, ↓eOr, ↓eNot, ↓eAndV, ↓eOrV, ↓eNotV, ↓eIf, ↓eChain, ↓eNeg, ↓eIx, ↓eIxS, ↓eSl, ↓oNone, ↓oSome, ↓aNil, ↓aCons, ↓eTup, ↓eLst, ↓eTupM, ↓eLstM, ↓eCB, ↓eBin, ↓x_call, ↓x_callK, ↓eSrc, ↓iSeqD, ↓iRg1, ↓iRg2, ↓iRg3, ↓iEnumD, ↓iZipD, ↓gNm, ↓gTp, ↓gsC, ↓gsN, ↓eYes, x_var0, x_var0o, x_varS, fAdd_ii, fAdd_ll, fAdd_tt, fAdd_ss, fMul_ii, fMul_li, fMul_ti, fSub_ii, fDiv_ii, fMod_ii, fPow_ii, fLt_ii, fLe_ii, fGt_ii, fGe_ii, ↓fEq, ↓fNe, ↓fIsN, ↓fNotN, x_lenL, x_lenT, x_lenS, x_lenR, x_lenC, fAbs_i, fInt_i, fInt_b, x_isi, List.set_cons_zero, List.set_cons_succ, List.getElem?_cons_zero, List.getElem?_cons_succ, items_l, items_t, okSt, mdOf, md_i, md_b, md_n, md_s, md_t, md_l, md_y, Md.isCl, Md.isNw, Md.meet, atI_0, atI_m1, atI_1, atI_2, atI_nat, cond_true, cond_false, isNon_i, isNon_n, isT_ii, isT_ib, isT_it, isT_il, isT_bi, isT_bb, isT_tt, isT_ti, isT_lt, isT_ll, isT_nt, isT_ni, isT_nl, tyN_i, tyN_b, tyN_t, tyN_l, tyN_n, dS_isT, dR_isT, dS_tyN, dR_tyN, dQ_isNon, D.flat, D.flats, flats_cons, flats_nil, flats_ints, flat_tup, putOk, slOf_f, slOf_t, Option.some.injEq, D.int.injEq, D.bl.injEq, D.lst.injEq, D.tup.injEq, D.str.injEq, D.scr.injEq, D.ty.injEq, x_consD, x_consD0, x_consD1, and_assoc, reduceCtorEq, exists_eq, exists_eq', exists_eq_left, exists_eq_left', exists_eq_right, exists_eq_right', exists_and_left, exists_and_right, and_true, true_and, and_self, and_false, false_and, or_true, true_or, or_false, false_or, if_true, if_false, ite_true, ite_false, decide_eq_true_eq, decide_eq_false_iff_not, Bool.not_eq_true, Bool.not_eq_true', Bool.not_true, Bool.not_false, Bool.true_eq_false, Bool.false_eq_true, not_true_eq_false, not_false_eq_true, eq_self_iff_true, forall_const, imp_self, List.length_cons, List.length_nil, List.append_nil, List.nil_append, List.cons_append, cpow_6, cpow_18, cpow_5, cpow_7, cpow_15, cpow_12, CMul, Nat.reduceAdd, Nat.reduceLeDiff, Nat.reduceLT, Int.reducePow, Int.reduceNeg, Int.reduceLT, Int.reduceLE, Int.reduceToNat, Int.reduceMul, Int.reduceAdd, Int.reduceSub, frzE, frz1, wipeE, all_nil, all_cons, endsF, x_start, List.map_cons, List.map_nil, List.replicate_succ, List.replicate_zero, Nat.reduceSub, Int.reduceEq, Nat.reduceEqDiff, List.mem_cons, List.not_mem_nil, x_isTs, or_self, Option.isSome_some, Option.isSome_none, String.reduceEq, dS_inj, dR_inj, dQ_inj, dQ_non, dQ_int, dS_md, dR_md, dQ_md, dS_flat, dR_flat, dQ_flat, dS_items, dR_items, List.getElem?_map, Option.map_some, Option.map_none, shp_i, shp_n, shp_b, shp_li, shp_S, shp_R, shp_lS, shp_Q, shp_l0, eqb_int, eqb_l, eqb_S, eqb_R, eqbs_ints, eqbs_dS, eqbs_nil0, eqbs_nilL, eqbs_nilR, Sl.own.injEq, Sl.val.injEq, List.length_map, dR_lst, dR_tup, dS_lst, dS_tup, flats_S, cut_map, cut_1, dR_fold, dS_fold, inI_t, inI_f, Bool.or_false, List.getLast?_map, exists_false, exists_const, Bool.and_self, Bool.and_true, Bool.true_and, Bool.and_false, Bool.false_and, add_S, List.isEmpty_map, fMax_2, fMax_3, fMin_2, flat_non, flat_i, ↓u_for, ↓u_comp, fS_v, fS_n, fS_o, shp_lli, eqbs_dL, ↓eSortSet, int_inj, fList_S, fList_R, sum_S, sum_li, x_is_between, x_is_sample]
theorem w_is_samples (ds : List D) (q : D → Prop) (h : c_is_samples ds q) : t_is_samples (endsF true q) (startE 2 ds) := by
  obtain ⟨s, rfl, ok, h⟩ := h
  obtain ⟨c, h1, h2, hs⟩ := ok.ch
  have hp := ok.pos
  have hm := ok.most
  simp only [x_start, List.map_cons, List.map_nil, List.length_cons, List.length_nil, List.replicate_succ, List.replicate_zero, List.cons_append, List.nil_append, Nat.reduceSub, Nat.reduceAdd]
  simp only [t_is_samples, ↓sSeq, ↓sRet, ↓sIf, ↓sSet, ↓sOwn, ↓sAsg, ↓sDrop, ↓sNext, ↓sBreak, ↓sNever, ↓sFrz, ↓sApp, ↓sSetIx, ↓sSrc, ↓sPar, ↓sPar3, ↓sAug, ↓sNewSrc, ↓eC, ↓eTest, ↓eAnd, ↓eOr, ↓eNot, ↓eAndV, ↓eOrV, ↓eNotV, ↓eIf, ↓eChain, ↓eNeg, ↓eIx, ↓eIxS, ↓eSl, ↓oNone, ↓oSome, ↓aNil, ↓aCons, ↓eTup, ↓eLst, ↓eTupM, ↓eLstM, ↓eCB, ↓eBin, ↓x_call, ↓x_callK, ↓eSrc, ↓iSeqD, ↓iRg1, ↓iRg2, ↓iRg3, ↓iEnumD, ↓iZipD, ↓gNm, ↓gTp, ↓gsC, ↓gsN, ↓eYes, x_var0, x_var0o, x_varS, fAdd_ii, fAdd_ll, fAdd_tt, fAdd_ss, fMul_ii, fMul_li, fMul_ti, fSub_ii, fDiv_ii, fMod_ii, fPow_ii, fLt_ii, fLe_ii, fGt_ii, fGe_ii, ↓fEq, ↓fNe, ↓fIsN, ↓fNotN, x_lenL, x_lenT, x_lenS, x_lenR, x_lenC, fAbs_i, fInt_i, fInt_b, x_isi, List.set_cons_zero, List.set_cons_succ, List.getElem?_cons_zero, List.getElem?_cons_succ, items_l, items_t, okSt, mdOf, md_i, md_b, md_n, md_s, md_t, md_l, md_y, Md.isCl, Md.isNw, Md.meet, atI_0, atI_m1, atI_1, atI_2, atI_nat, cond_true, cond_false, isNon_i, isNon_n, isT_ii, isT_ib, isT_it, isT_il, isT_bi, isT_bb, isT_tt, isT_ti, isT_lt, isT_ll, isT_nt, isT_ni, isT_nl, tyN_i, tyN_b, tyN_t, tyN_l, tyN_n, dS_isT, dR_isT, dS_tyN, dR_tyN, dQ_isNon, D.flat, D.flats, flats_cons, flats_nil, flats_ints, flat_tup, putOk, slOf_f, slOf_t, Option.some.injEq, D.int.injEq, D.bl.injEq, D.lst.injEq, D.tup.injEq, D.str.injEq, D.scr.injEq, D.ty.injEq, x_consD, x_consD0, x_consD1, and_assoc, reduceCtorEq, exists_eq, exists_eq', exists_eq_left, exists_eq_left', exists_eq_right, exists_eq_right', exists_and_left, exists_and_right, and_true, true_and, and_self, and_false, false_and, or_true, true_or, or_false, false_or, if_true, if_false, ite_true, ite_false, decide_eq_true_eq, decide_eq_false_iff_not, Bool.not_eq_true, Bool.not_eq_true', Bool.not_true, Bool.not_false, Bool.true_eq_false, Bool.false_eq_true, not_true_eq_false, not_false_eq_true, eq_self_iff_true, forall_const, imp_self, List.length_cons, List.length_nil, List.append_nil, List.nil_append, List.cons_append, cpow_6, cpow_18, cpow_5, cpow_7, cpow_15, cpow_12, CMul, Nat.reduceAdd, Nat.reduceLeDiff, Nat.reduceLT, Int.reducePow, Int.reduceNeg, Int.reduceLT, Int.reduceLE, Int.reduceToNat, Int.reduceMul, Int.reduceAdd, Int.reduceSub, frzE, frz1, wipeE, all_nil, all_cons, endsF, x_start, List.map_cons, List.map_nil, List.replicate_succ, List.replicate_zero, Nat.reduceSub, Int.reduceEq, Nat.reduceEqDiff, List.mem_cons, List.not_mem_nil, x_isTs, or_self, Option.isSome_some, Option.isSome_none, String.reduceEq, dS_inj, dR_inj, dQ_inj, dQ_non, dQ_int, dS_md, dR_md, dQ_md, dS_flat, dR_flat, dQ_flat, dS_items, dR_items, List.getElem?_map, Option.map_some, Option.map_none, shp_i, shp_n, shp_b, shp_li, shp_S, shp_R, shp_lS, shp_Q, shp_l0, eqb_int, eqb_l, eqb_S, eqb_R, eqbs_ints, eqbs_dS, eqbs_nil0, eqbs_nilL, eqbs_nilR, Sl.own.injEq, Sl.val.injEq, List.length_map, dR_lst, dR_tup, dS_lst, dS_tup, flats_S, cut_map, cut_1, dR_fold, dS_fold, inI_t, inI_f, Bool.or_false, List.getLast?_map, exists_false, exists_const, Bool.and_self, Bool.and_true, Bool.true_and, Bool.and_false, Bool.false_and, add_S, List.isEmpty_map, fMax_2, fMax_3, fMin_2, flat_non, flat_i, ↓u_for, ↓u_comp, fS_v, fS_n, fS_o, shp_lli, eqbs_dL, ↓eSortSet, int_inj, fList_S, fList_R, sum_S, sum_li, x_is_between, x_is_sample, x_is_samples]
  rw [if_pos (by omega), if_neg (by omega)]
  refine comp_map s dS (fun x => .bl true) rfl (by omega) ?_ ?_
  · intro i x acc hx N hN
    have hm := List.mem_of_getElem? hx
    simp only [↓sSeq, ↓sRet, ↓sIf, ↓sSet, ↓sOwn, ↓sAsg, ↓sDrop, ↓sNext, ↓sBreak, ↓sNever, ↓sFrz, ↓sApp, ↓sSetIx, ↓sSrc, ↓sPar, ↓sPar3, ↓sAug, ↓sNewSrc, ↓eC, ↓eTest, ↓eAnd, ↓eOr, ↓eNot, ↓eAndV, ↓eOrV, ↓eNotV, ↓eIf, ↓eChain, ↓eNeg, ↓eIx, ↓eIxS, ↓eSl, ↓oNone, ↓oSome, ↓aNil, ↓aCons, ↓eTup, ↓eLst, ↓eTupM, ↓eLstM, ↓eCB, ↓eBin, ↓x_call, ↓x_callK, ↓eSrc, ↓iSeqD, ↓iRg1, ↓iRg2, ↓iRg3, ↓iEnumD, ↓iZipD, ↓gNm, ↓gTp, ↓gsC, ↓gsN, ↓eYes, x_var0, x_var0o, x_varS, fAdd_ii, fAdd_ll, fAdd_tt, fAdd_ss, fMul_ii, fMul_li, fMul_ti, fSub_ii, fDiv_ii, fMod_ii, fPow_ii, fLt_ii, fLe_ii, fGt_ii, fGe_ii, ↓fEq, ↓fNe, ↓fIsN, ↓fNotN, x_lenL, x_lenT, x_lenS, x_lenR, x_lenC, fAbs_i, fInt_i, fInt_b, x_isi, List.set_cons_zero, List.set_cons_succ, List.getElem?_cons_zero, List.getElem?_cons_succ, items_l, items_t, okSt, mdOf, md_i, md_b, md_n, md_s, md_t, md_l, md_y, Md.isCl, Md.isNw, Md.meet, atI_0, atI_m1, atI_1, atI_2, atI_nat, cond_true, cond_false, isNon_i, isNon_n, isT_ii, isT_ib, isT_it, isT_il, isT_bi, isT_bb, isT_tt, isT_ti, isT_lt, isT_ll, isT_nt, isT_ni, isT_nl, tyN_i, tyN_b, tyN_t, tyN_l, tyN_n, dS_isT, dR_isT, dS_tyN, dR_tyN, dQ_isNon, D.flat, D.flats, flats_cons, flats_nil, flats_ints, flat_tup, putOk, slOf_f, slOf_t, Option.some.injEq, D.int.injEq, D.bl.injEq, D.lst.injEq, D.tup.injEq, D.str.injEq, D.scr.injEq, D.ty.injEq, x_consD, x_consD0, x_consD1, and_assoc, reduceCtorEq, exists_eq, exists_eq', exists_eq_left, exists_eq_left', exists_eq_right, exists_eq_right', exists_and_left, exists_and_right, and_true, true_and, and_self, and_false, false_and, or_true, true_or, or_false, false_or, if_true, if_false, ite_true, ite_false, decide_eq_true_eq, decide_eq_false_iff_not, Bool.not_eq_true, Bool.not_eq_true', Bool.not_true, Bool.not_false, Bool.true_eq_false, Bool.false_eq_true, not_true_eq_false, not_false_eq_true, eq_self_iff_true, forall_const, imp_self, List.length_cons, List.length_nil, List.append_nil, List.nil_append, List.cons_append, cpow_6, cpow_18, cpow_5, cpow_7, cpow_15, cpow_12, CMul, Nat.reduceAdd, Nat.reduceLeDiff, Nat.reduceLT, Int.reducePow, Int.reduceNeg, Int.reduceLT, Int.reduceLE, Int.reduceToNat, Int.reduceMul, Int.reduceAdd, Int.reduceSub, frzE, frz1, wipeE, all_nil, all_cons, endsF, x_start, List.map_cons, List.map_nil, List.replicate_succ, List.replicate_zero, Nat.reduceSub, Int.reduceEq, Nat.reduceEqDiff, List.mem_cons, List.not_mem_nil, x_isTs, or_self, Option.isSome_some, Option.isSome_none, String.reduceEq, dS_inj, dR_inj, dQ_inj, dQ_non, dQ_int, dS_md, dR_md, dQ_md, dS_flat, dR_flat, dQ_flat, dS_items, dR_items, List.getElem?_map, Option.map_some, Option.map_none, shp_i, shp_n, shp_b, shp_li, shp_S, shp_R, shp_lS, shp_Q, shp_l0, eqb_int, eqb_l, eqb_S, eqb_R, eqbs_ints, eqbs_dS, eqbs_nil0, eqbs_nilL, eqbs_nilR, Sl.own.injEq, Sl.val.injEq, List.length_map, dR_lst, dR_tup, dS_lst, dS_tup, flats_S, cut_map, cut_1, dR_fold, dS_fold, inI_t, inI_f, Bool.or_false, List.getLast?_map, exists_false, exists_const, Bool.and_self, Bool.and_true, Bool.true_and, Bool.and_false, Bool.false_and, add_S, List.isEmpty_map, fMax_2, fMax_3, fMin_2, flat_non, flat_i, ↓u_for, ↓u_comp, fS_v, fS_n, fS_o, shp_lli, eqbs_dL, ↓eSortSet, int_inj, fList_S, fList_R, sum_S, sum_li, x_is_between, x_is_sample, x_is_samples]
    exact ⟨⟨c, h1, h2, hs x hm⟩, hN⟩
  · refine all_map (p := fun _ => true) ?_
    simp only [↓sSeq, ↓sRet, ↓sIf, ↓sSet, ↓sOwn, ↓sAsg, ↓sDrop, ↓sNext, ↓sBreak, ↓sNever, ↓sFrz, ↓sApp, ↓sSetIx, ↓sSrc, ↓sPar, ↓sPar3, ↓sAug, ↓sNewSrc, ↓eC, ↓eTest, ↓eAnd, ↓eOr, ↓eNot, ↓eAndV, ↓eOrV, ↓eNotV, ↓eIf, ↓eChain, ↓eNeg, ↓eIx, ↓eIxS, ↓eSl, ↓oNone, ↓oSome, ↓aNil, ↓aCons, ↓eTup, ↓eLst, ↓eTupM, ↓eLstM, ↓eCB, ↓eBin, ↓x_call, ↓x_callK, ↓eSrc, ↓iSeqD, ↓iRg1, ↓iRg2, ↓iRg3, ↓iEnumD, ↓iZipD, ↓gNm, ↓gTp, ↓gsC, ↓gsN, ↓eYes, x_var0, x_var0o, x_varS, fAdd_ii, fAdd_ll, fAdd_tt, fAdd_ss, fMul_ii, fMul_li, fMul_ti, fSub_ii, fDiv_ii, fMod_ii, fPow_ii, fLt_ii, fLe_ii, fGt_ii, fGe_ii, ↓fEq, ↓fNe, ↓fIsN, ↓fNotN, x_lenL, x_lenT, x_lenS, x_lenR, x_lenC, fAbs_i, fInt_i, fInt_b, x_isi, List.set_cons_zero, List.set_cons_succ, List.getElem?_cons_zero, List.getElem?_cons_succ, items_l, items_t, okSt, mdOf, md_i, md_b, md_n, md_s, md_t, md_l, md_y, Md.isCl, Md.isNw, Md.meet, atI_0, atI_m1, atI_1, atI_2, atI_nat, cond_true, cond_false, isNon_i, isNon_n, isT_ii, isT_ib, isT_it, isT_il, isT_bi, isT_bb, isT_tt, isT_ti, isT_lt, isT_ll, isT_nt, isT_ni, isT_nl, tyN_i, tyN_b, tyN_t, tyN_l, tyN_n, dS_isT, dR_isT, dS_tyN, dR_tyN, dQ_isNon, D.flat, D.flats, flats_cons, flats_nil, flats_ints, flat_tup, putOk, slOf_f, slOf_t, Option.some.injEq, D.int.injEq, D.bl.injEq, D.lst.injEq, D.tup.injEq, D.str.injEq, D.scr.injEq, D.ty.injEq, x_consD, x_consD0, x_consD1, and_assoc, reduceCtorEq, exists_eq, exists_eq', exists_eq_left, exists_eq_left', exists_eq_right, exists_eq_right', exists_and_left, exists_and_right, and_true, true_and, and_self, and_false, false_and, or_true, true_or, or_false, false_or, if_true, if_false, ite_true, ite_false, decide_eq_true_eq, decide_eq_false_iff_not, Bool.not_eq_true, Bool.not_eq_true', Bool.not_true, Bool.not_false, Bool.true_eq_false, Bool.false_eq_true, not_true_eq_false, not_false_eq_true, eq_self_iff_true, forall_const, imp_self, List.length_cons, List.length_nil, List.append_nil, List.nil_append, List.cons_append, cpow_6, cpow_18, cpow_5, cpow_7, cpow_15, cpow_12, CMul, Nat.reduceAdd, Nat.reduceLeDiff, Nat.reduceLT, Int.reducePow, Int.reduceNeg, Int.reduceLT, Int.reduceLE, Int.reduceToNat, Int.reduceMul, Int.reduceAdd, Int.reduceSub, frzE, frz1, wipeE, all_nil, all_cons, endsF, x_start, List.map_cons, List.map_nil, List.replicate_succ, List.replicate_zero, Nat.reduceSub, Int.reduceEq, Nat.reduceEqDiff, List.mem_cons, List.not_mem_nil, x_isTs, or_self, Option.isSome_some, Option.isSome_none, String.reduceEq, dS_inj, dR_inj, dQ_inj, dQ_non, dQ_int, dS_md, dR_md, dQ_md, dS_flat, dR_flat, dQ_flat, dS_items, dR_items, List.getElem?_map, Option.map_some, Option.map_none, shp_i, shp_n, shp_b, shp_li, shp_S, shp_R, shp_lS, shp_Q, shp_l0, eqb_int, eqb_l, eqb_S, eqb_R, eqbs_ints, eqbs_dS, eqbs_nil0, eqbs_nilL, eqbs_nilR, Sl.own.injEq, Sl.val.injEq, List.length_map, dR_lst, dR_tup, dS_lst, dS_tup, flats_S, cut_map, cut_1, dR_fold, dS_fold, inI_t, inI_f, Bool.or_false, List.getLast?_map, exists_false, exists_const, Bool.and_self, Bool.and_true, Bool.true_and, Bool.and_false, Bool.false_and, add_S, List.isEmpty_map, fMax_2, fMax_3, fMin_2, flat_non, flat_i, ↓u_for, ↓u_comp, fS_v, fS_n, fS_o, shp_lli, eqbs_dL, ↓eSortSet, int_inj, fList_S, fList_R, sum_S, sum_li, x_is_between, x_is_sample, x_is_samples]
    rw [List.all_eq_true.mpr fun _ _ => rfl]
    simp only [↓sSeq, ↓sRet, ↓sIf, ↓sSet, ↓sOwn, ↓sAsg, ↓sDrop, ↓sNext, ↓sBreak, ↓sNever, ↓sFrz, ↓sApp, ↓sSetIx, ↓sSrc, ↓sPar, ↓sPar3, ↓sAug, ↓sNewSrc, ↓eC, ↓eTest, ↓eAnd, ↓eOr, ↓eNot, ↓eAndV, ↓eOrV, ↓eNotV, ↓eIf, ↓eChain, ↓eNeg, ↓eIx, ↓eIxS, ↓eSl, ↓oNone, ↓oSome, ↓aNil, ↓aCons, ↓eTup, ↓eLst, ↓eTupM, ↓eLstM, ↓eCB, ↓eBin, ↓x_call, ↓x_callK, ↓eSrc, ↓iSeqD, ↓iRg1, ↓iRg2, ↓iRg3, ↓iEnumD, ↓iZipD, ↓gNm, ↓gTp, ↓gsC, ↓gsN, ↓eYes, x_var0, x_var0o, x_varS, fAdd_ii, fAdd_ll, fAdd_tt, fAdd_ss, fMul_ii, fMul_li, fMul_ti, fSub_ii, fDiv_ii, fMod_ii, fPow_ii, fLt_ii, fLe_ii, fGt_ii, fGe_ii, ↓fEq, ↓fNe, ↓fIsN, ↓fNotN, x_lenL, x_lenT, x_lenS, x_lenR, x_lenC, fAbs_i, fInt_i, fInt_b, x_isi, List.set_cons_zero, List.set_cons_succ, List.getElem?_cons_zero, List.getElem?_cons_succ, items_l, items_t, okSt, mdOf, md_i, md_b, md_n, md_s, md_t, md_l, md_y, Md.isCl, Md.isNw, Md.meet, atI_0, atI_m1, atI_1, atI_2, atI_nat, cond_true, cond_false, isNon_i, isNon_n, isT_ii, isT_ib, isT_it, isT_il, isT_bi, isT_bb, isT_tt, isT_ti, isT_lt, isT_ll, isT_nt, isT_ni, isT_nl, tyN_i, tyN_b, tyN_t, tyN_l, tyN_n, dS_isT, dR_isT, dS_tyN, dR_tyN, dQ_isNon, D.flat, D.flats, flats_cons, flats_nil, flats_ints, flat_tup, putOk, slOf_f, slOf_t, Option.some.injEq, D.int.injEq, D.bl.injEq, D.lst.injEq, D.tup.injEq, D.str.injEq, D.scr.injEq, D.ty.injEq, x_consD, x_consD0, x_consD1, and_assoc, reduceCtorEq, exists_eq, exists_eq', exists_eq_left, exists_eq_left', exists_eq_right, exists_eq_right', exists_and_left, exists_and_right, and_true, true_and, and_self, and_false, false_and, or_true, true_or, or_false, false_or, if_true, if_false, ite_true, ite_false, decide_eq_true_eq, decide_eq_false_iff_not, Bool.not_eq_true, Bool.not_eq_true', Bool.not_true, Bool.not_false, Bool.true_eq_false, Bool.false_eq_true, not_true_eq_false, not_false_eq_true, eq_self_iff_true, forall_const, imp_self, List.length_cons, List.length_nil, List.append_nil, List.nil_append, List.cons_append, cpow_6, cpow_18, cpow_5, cpow_7, cpow_15, cpow_12, CMul, Nat.reduceAdd, Nat.reduceLeDiff, Nat.reduceLT, Int.reducePow, Int.reduceNeg, Int.reduceLT, Int.reduceLE, Int.reduceToNat, Int.reduceMul, Int.reduceAdd, Int.reduceSub, frzE, frz1, wipeE, all_nil, all_cons, endsF, x_start, List.map_cons, List.map_nil, List.replicate_succ, List.replicate_zero, Nat.reduceSub, Int.reduceEq, Nat.reduceEqDiff, List.mem_cons, List.not_mem_nil, x_isTs, or_self, Option.isSome_some, Option.isSome_none, String.reduceEq, dS_inj, dR_inj, dQ_inj, dQ_non, dQ_int, dS_md, dR_md, dQ_md, dS_flat, dR_flat, dQ_flat, dS_items, dR_items, List.getElem?_map, Option.map_some, Option.map_none, shp_i, shp_n, shp_b, shp_li, shp_S, shp_R, shp_lS, shp_Q, shp_l0, eqb_int, eqb_l, eqb_S, eqb_R, eqbs_ints, eqbs_dS, eqbs_nil0, eqbs_nilL, eqbs_nilR, Sl.own.injEq, Sl.val.injEq, List.length_map, dR_lst, dR_tup, dS_lst, dS_tup, flats_S, cut_map, cut_1, dR_fold, dS_fold, inI_t, inI_f, Bool.or_false, List.getLast?_map, exists_false, exists_const, Bool.and_self, Bool.and_true, Bool.true_and, Bool.and_false, Bool.false_and, add_S, List.isEmpty_map, fMax_2, fMax_3, fMin_2, flat_non, flat_i, ↓u_for, ↓u_comp, fS_v, fS_n, fS_o, shp_lli, eqbs_dL, ↓eSortSet, int_inj, fList_S, fList_R, sum_S, sum_li, x_is_between, x_is_sample, x_is_samples]
    refine comp_map s dS (fun x => .bl true) rfl (by omega) ?_ ?_
    · intro i x acc hx N hN
      have hm := List.mem_of_getElem? hx
      obtain ⟨r0, e0⟩ : ∃ r0, s[0]? = some r0 := ⟨_, List.getElem?_eq_getElem hp⟩
      simp only [↓sSeq, ↓sRet, ↓sIf, ↓sSet, ↓sOwn, ↓sAsg, ↓sDrop, ↓sNext, ↓sBreak, ↓sNever, ↓sFrz, ↓sApp, ↓sSetIx, ↓sSrc, ↓sPar, ↓sPar3, ↓sAug, ↓sNewSrc, ↓eC, ↓eTest, ↓eAnd, ↓eOr, ↓eNot, ↓eAndV, ↓eOrV, ↓eNotV, ↓eIf, ↓eChain, ↓eNeg, ↓eIx, ↓eIxS, ↓eSl, ↓oNone, ↓oSome, ↓aNil, ↓aCons, ↓eTup, ↓eLst, ↓eTupM, ↓eLstM, ↓eCB, ↓eBin, ↓x_call, ↓x_callK, ↓eSrc, ↓iSeqD, ↓iRg1, ↓iRg2, ↓iRg3, ↓iEnumD, ↓iZipD, ↓gNm, ↓gTp, ↓gsC, ↓gsN, ↓eYes, x_var0, x_var0o, x_varS, fAdd_ii, fAdd_ll, fAdd_tt, fAdd_ss, fMul_ii, fMul_li, fMul_ti, fSub_ii, fDiv_ii, fMod_ii, fPow_ii, fLt_ii, fLe_ii, fGt_ii, fGe_ii, ↓fEq, ↓fNe, ↓fIsN, ↓fNotN, x_lenL, x_lenT, x_lenS, x_lenR, x_lenC, fAbs_i, fInt_i, fInt_b, x_isi, List.set_cons_zero, List.set_cons_succ, List.getElem?_cons_zero, List.getElem?_cons_succ, items_l, items_t, okSt, mdOf, md_i, md_b, md_n, md_s, md_t, md_l, md_y, Md.isCl, Md.isNw, Md.meet, atI_0, atI_m1, atI_1, atI_2, atI_nat, cond_true, cond_false, isNon_i, isNon_n, isT_ii, isT_ib, isT_it, isT_il, isT_bi, isT_bb, isT_tt, isT_ti, isT_lt, isT_ll, isT_nt, isT_ni, isT_nl, tyN_i, tyN_b, tyN_t, tyN_l, tyN_n, dS_isT, dR_isT, dS_tyN, dR_tyN, dQ_isNon, D.flat, D.flats, flats_cons, flats_nil, flats_ints, flat_tup, putOk, slOf_f, slOf_t, Option.some.injEq, D.int.injEq, D.bl.injEq, D.lst.injEq, D.tup.injEq, D.str.injEq, D.scr.injEq, D.ty.injEq, x_consD, x_consD0, x_consD1, and_assoc, reduceCtorEq, exists_eq, exists_eq', exists_eq_left, exists_eq_left', exists_eq_right, exists_eq_right', exists_and_left, exists_and_right, and_true, true_and, and_self, and_false, false_and, or_true, true_or, or_false, false_or, if_true, if_false, ite_true, ite_false, decide_eq_true_eq, decide_eq_false_iff_not, Bool.not_eq_true, Bool.not_eq_true', Bool.not_true, Bool.not_false, Bool.true_eq_false, Bool.false_eq_true, not_true_eq_false, not_false_eq_true, eq_self_iff_true, forall_const, imp_self, List.length_cons, List.length_nil, List.append_nil, List.nil_append, List.cons_append, cpow_6, cpow_18, cpow_5, cpow_7, cpow_15, cpow_12, CMul, Nat.reduceAdd, Nat.reduceLeDiff, Nat.reduceLT, Int.reducePow, Int.reduceNeg, Int.reduceLT, Int.reduceLE, Int.reduceToNat, Int.reduceMul, Int.reduceAdd, Int.reduceSub, frzE, frz1, wipeE, all_nil, all_cons, endsF, x_start, List.map_cons, List.map_nil, List.replicate_succ, List.replicate_zero, Nat.reduceSub, Int.reduceEq, Nat.reduceEqDiff, List.mem_cons, List.not_mem_nil, x_isTs, or_self, Option.isSome_some, Option.isSome_none, String.reduceEq, dS_inj, dR_inj, dQ_inj, dQ_non, dQ_int, dS_md, dR_md, dQ_md, dS_flat, dR_flat, dQ_flat, dS_items, dR_items, List.getElem?_map, Option.map_some, Option.map_none, shp_i, shp_n, shp_b, shp_li, shp_S, shp_R, shp_lS, shp_Q, shp_l0, eqb_int, eqb_l, eqb_S, eqb_R, eqbs_ints, eqbs_dS, eqbs_nil0, eqbs_nilL, eqbs_nilR, Sl.own.injEq, Sl.val.injEq, List.length_map, dR_lst, dR_tup, dS_lst, dS_tup, flats_S, cut_map, cut_1, dR_fold, dS_fold, inI_t, inI_f, Bool.or_false, List.getLast?_map, exists_false, exists_const, Bool.and_self, Bool.and_true, Bool.true_and, Bool.and_false, Bool.false_and, add_S, List.isEmpty_map, fMax_2, fMax_3, fMin_2, flat_non, flat_i, ↓u_for, ↓u_comp, fS_v, fS_n, fS_o, shp_lli, eqbs_dL, ↓eSortSet, int_inj, fList_S, fList_R, sum_S, sum_li, x_is_between, x_is_sample, x_is_samples, e0]
      rw [decide_eq_true (by rw [(hs x hm).len, (hs r0 (List.mem_of_getElem? e0)).len])]
      exact hN
    · exact all_map (p := fun _ => true) (by rw [List.all_eq_true.mpr fun _ _ => rfl]; exact h)
def t_distance : S1 := (sRet (eCB fMax (aCons (eComp (iZipD (aCons (eVar 0) (aCons (eVar 1) aNil))) (gTp 2 (gsC (gNm 2) (gsC (gNm 3) gsN))) eYes (eCB fAbs (aCons (eBin fSub (eVar 2) (eVar 3)) aNil)) [2, 3]) aNil)))
def Same2 (a b : Row) : Prop := 0 < a.length ∧ a.length = b.length ∧ a.length ≤ 1000
def c_distance : C1 := fun ds q => ∃ (a b : Row), ds = [dS a, dS b] ∧ Same2 a b ∧ q (.int (gap a b))
theorem m_distance : MonoC c_distance := fun ds q q' k ⟨a, b, e, h1, h⟩ => ⟨a, b, e, h1, k _ h⟩
theorem x_distance {a b : Row} {q : D → Prop} : callC c_distance [dS a, dS b] q = (Same2 a b ∧ q (.int (gap a b))) := by
  simp only [callC, c_distance, ↓sSeq, ↓sRet, ↓sIf, ↓sSet, ↓sOwn, ↓sAsg, ↓sDrop, ↓sNext, ↓sBreak, ↓sNever, ↓sFrz, ↓sApp, ↓sSetIx, ↓sSrc, ↓sPar, ↓sPar3, ↓sAug, ↓sNewSrc, ↓eC, ↓eTest, ↓eAnd, ↓eOr, ↓eNot, ↓eAndV, ↓eOrV, ↓eNotV, ↓eIf, ↓eChain, ↓eNeg, ↓eIx, ↓eIxS, ↓eSl, ↓oNone, ↓oSome, ↓aNil, ↓aCons, ↓eTup, ↓eLst, ↓eTupM, ↓eLstM, ↓eCB, ↓eBin, ↓x_call, ↓x_callK, ↓eSrc, ↓iSeqD, ↓iRg1, ↓iRg2, ↓iRg3, ↓iEnumD, ↓iZipD, ↓gNm, ↓gTp, ↓gsC, ↓gsN, ↓eYes, x_var0, x_var0o, x_varS, fAdd_ii, fAdd_ll, fAdd_tt, fAdd_ss, fMul_ii, fMul_li, fMul_ti, fSub_ii, fDiv_ii, fMod_ii, fPow_ii, fLt_ii, fLe_ii, fGt_ii, fGe_ii, ↓fEq, ↓fNe, ↓fIsN, ↓fNotN, x_lenL, x_lenT, x_lenS, x_lenR, x_lenC, fAbs_i, fInt_i, fInt_b, x_isi, List.set_cons_zero, List.set_cons_succ, List.getElem?_cons_zero, List.getElem?_cons_succ, items_l, items_t, okSt, mdOf, md_i, md_b, md_n, md_s, md_t, md_l, md_y, Md.isCl, Md.isNw, Md.meet, atI_0, atI_m1, atI_1, atI_2, atI_nat, cond_true, cond_false, isNon_i, isNon_n, isT_ii, isT_ib, isT_it, isT_il, isT_bi, isT_bb, isT_tt, isT_ti, isT_lt, isT_ll, isT_nt, isT_ni, isT_nl, tyN_i, tyN_b, tyN_t, tyN_l, tyN_n, dS_isT, dR_isT, dS_tyN, dR_tyN, dQ_isNon, D.flat, D.flats, flats_cons, flats_nil, flats_ints, flat_tup, putOk, slOf_f, slOf_t, Option.some.injEq, D.int.injEq, D.bl.injEq, D.lst.injEq, D.tup.injEq, D.str.injEq, D.scr.injEq, D.ty.injEq, x_consD, x_consD0, x_consD1, and_assoc, reduceCtorEq, exists_eq, exists_eq', exists_eq_left, exists_eq_left', exists_eq_right, exists_eq_right', exists_and_left, exists_and_right, and_true, true_and, and_self, and_false, false_and, or_true, true_or, or_false, false_or, if_true, if_false, ite_true, ite_false, decide_eq_true_eq, decide_eq_false_iff_not, Bool.not_eq_true, Bool.not_eq_true', Bool.not_true, Bool.not_false, Bool.true_eq_false, Bool.false_eq_true, not_true_eq_false, not_false_eq_true, eq_self_iff_true, forall_const, imp_self, List.length_cons, List.length_nil, List.append_nil, List.nil_append, List.cons_append, cpow_6, cpow_18, cpow_5, cpow_7, cpow_15, cpow_12, CMul, Nat.reduceAdd, Nat.reduceLeDiff, Nat.reduceLT, Int.reducePow, Int.reduceNeg, Int.reduceLT, Int.reduceLE, Int.reduceToNat, Int.reduceMul, Int.reduceAdd, Int.reduceSub, frzE, frz1, wipeE, all_nil, all_cons, endsF, x_start, List.map_cons, List.map_nil, List.replicate_succ, List.replicate_zero, Nat.reduceSub, Int.reduceEq, Nat.reduceEqDiff, List.mem_cons, List.not_mem_nil, x_isTs, or_self, Option.isSome_some, Option.isSome_none, String.reduceEq, dS_inj, dR_inj, dQ_inj, dQ_non, dQ_int, dS_md, dR_md, dQ_md, dS_flat, dR_flat, dQ_flat, dS_items, dR_items, List.getElem?_map, Option.map_some, Option.map_none, shp_i, shp_n, shp_b, shp_li, shp_S, shp_R, shp_lS, shp_Q, shp_l0, eqb_int, eqb_l, eqb_S, eqb_R, eqbs_ints, eqbs_dS, eqbs_nil0, eqbs_nilL, eqbs_nilR, Sl.own.injEq, Sl.val.injEq, List.length_map, dR_lst, dR_tup, dS_lst, dS_tup, flats_S, cut_map, cut_1, dR_fold, dS_fold, inI_t, inI_f, Bool.or_false, List.getLast?_map, exists_false, exists_const, Bool.and_self, Bool.and_true, Bool.true_and, Bool.and_false, Bool.false_and, add_S, List.isEmpty_map, fMax_2, fMax_3, fMin_2, flat_non, flat_i, ↓u_for, ↓u_comp, fS_v, fS_n, fS_o, shp_lli, eqbs_dL, ↓eSortSet, int_inj, fList_S, fList_R, sum_S, sum_li, x_is_between, x_is_sample, x_is_samples]
theorem w_distance (ds : List D) (q : D → Prop) (h : c_distance ds q) : t_distance (endsF true q) (startE 4 ds) := by
  obtain ⟨a, b, rfl, ⟨h0, h1, h2⟩, h⟩ := h
  simp only [x_start, List.map_cons, List.map_nil, List.length_cons, List.length_nil, List.replicate_succ, List.replicate_zero, List.cons_append, List.nil_append, Nat.reduceSub, Nat.reduceAdd]
  simp only [t_distance, ↓sSeq, ↓sRet, ↓sIf, ↓sSet, ↓sOwn, ↓sAsg, ↓sDrop, ↓sNext, ↓sBreak, ↓sNever, ↓sFrz, ↓sApp, ↓sSetIx, ↓sSrc, ↓sPar, ↓sPar3, ↓sAug, ↓sNewSrc, ↓eC, ↓eTest, ↓eAnd, ↓eOr, ↓eNot, ↓eAndV, ↓eOrV, ↓eNotV, ↓eIf, ↓eChain, ↓eNeg, ↓eIx, ↓eIxS, ↓eSl, ↓oNone, ↓oSome, ↓aNil, ↓aCons, ↓eTup, ↓eLst, ↓eTupM, ↓eLstM, ↓eCB, ↓eBin, ↓x_call, ↓x_callK, ↓eSrc, ↓iSeqD, ↓iRg1, ↓iRg2, ↓iRg3, ↓iEnumD, ↓iZipD, ↓gNm, ↓gTp, ↓gsC, ↓gsN, ↓eYes, x_var0, x_var0o, x_varS, fAdd_ii, fAdd_ll, fAdd_tt, fAdd_ss, fMul_ii, fMul_li, fMul_ti, fSub_ii, fDiv_ii, fMod_ii, fPow_ii, fLt_ii, fLe_ii, fGt_ii, fGe_ii, ↓fEq, ↓fNe, ↓fIsN, ↓fNotN, x_lenL, x_lenT, x_lenS, x_lenR, x_lenC, fAbs_i, fInt_i, fInt_b, x_isi, List.set_cons_zero, List.set_cons_succ, List.getElem?_cons_zero, List.getElem?_cons_succ, items_l, items_t, okSt, mdOf, md_i, md_b, md_n, md_s, md_t, md_l, md_y, Md.isCl, Md.isNw, Md.meet, atI_0, atI_m1, atI_1, atI_2, atI_nat, cond_true, cond_false, isNon_i, isNon_n, isT_ii, isT_ib, isT_it, isT_il, isT_bi, isT_bb, isT_tt, isT_ti, isT_lt, isT_ll, isT_nt, isT_ni, isT_nl, tyN_i, tyN_b, tyN_t, tyN_l, tyN_n, dS_isT, dR_isT, dS_tyN, dR_tyN, dQ_isNon, D.flat, D.flats, flats_cons, flats_nil, flats_ints, flat_tup, putOk, slOf_f, slOf_t, Option.some.injEq, D.int.injEq, D.bl.injEq, D.lst.injEq, D.tup.injEq, D.str.injEq, D.scr.injEq, D.ty.injEq, x_consD, x_consD0, x_consD1, and_assoc, reduceCtorEq, exists_eq, exists_eq', exists_eq_left, exists_eq_left', exists_eq_right, exists_eq_right', exists_and_left, exists_and_right, and_true, true_and, and_self, and_false, false_and, or_true, true_or, or_false, false_or, if_true, if_false, ite_true, ite_false, decide_eq_true_eq, decide_eq_false_iff_not, Bool.not_eq_true, Bool.not_eq_true', Bool.not_true, Bool.not_false, Bool.true_eq_false, Bool.false_eq_true, not_true_eq_false, not_false_eq_true, eq_self_iff_true, forall_const, imp_self, List.length_cons, List.length_nil, List.append_nil, List.nil_append, List.cons_append, cpow_6, cpow_18, cpow_5, cpow_7, cpow_15, cpow_12, CMul, Nat.reduceAdd, Nat.reduceLeDiff, Nat.reduceLT, Int.reducePow, Int.reduceNeg, Int.reduceLT, Int.reduceLE, Int.reduceToNat, Int.reduceMul, Int.reduceAdd, Int.reduceSub, frzE, frz1, wipeE, all_nil, all_cons, endsF, x_start, List.map_cons, List.map_nil, List.replicate_succ, List.replicate_zero, Nat.reduceSub, Int.reduceEq, Nat.reduceEqDiff, List.mem_cons, List.not_mem_nil, x_isTs, or_self, Option.isSome_some, Option.isSome_none, String.reduceEq, dS_inj, dR_inj, dQ_inj, dQ_non, dQ_int, dS_md, dR_md, dQ_md, dS_flat, dR_flat, dQ_flat, dS_items, dR_items, List.getElem?_map, Option.map_some, Option.map_none, shp_i, shp_n, shp_b, shp_li, shp_S, shp_R, shp_lS, shp_Q, shp_l0, eqb_int, eqb_l, eqb_S, eqb_R, eqbs_ints, eqbs_dS, eqbs_nil0, eqbs_nilL, eqbs_nilR, Sl.own.injEq, Sl.val.injEq, List.length_map, dR_lst, dR_tup, dS_lst, dS_tup, flats_S, cut_map, cut_1, dR_fold, dS_fold, inI_t, inI_f, Bool.or_false, List.getLast?_map, exists_false, exists_const, Bool.and_self, Bool.and_true, Bool.true_and, Bool.and_false, Bool.false_and, add_S, List.isEmpty_map, fMax_2, fMax_3, fMin_2, flat_non, flat_i, ↓u_for, ↓u_comp, fS_v, fS_n, fS_o, shp_lli, eqbs_dL, ↓eSortSet, int_inj, fList_S, fList_R, sum_S, sum_li, x_is_between, x_is_sample, x_is_samples, x_distance]
  refine comp_map (a.zip b) (fun p => .tup [.int p.1, .int p.2]) (fun p => .int ((p.1 - p.2).natAbs : Int)) (zipD_map ..) (by rw [List.length_zip]; omega) ?_ ?_
  · intro i x acc hx N hN
    simp only [↓sSeq, ↓sRet, ↓sIf, ↓sSet, ↓sOwn, ↓sAsg, ↓sDrop, ↓sNext, ↓sBreak, ↓sNever, ↓sFrz, ↓sApp, ↓sSetIx, ↓sSrc, ↓sPar, ↓sPar3, ↓sAug, ↓sNewSrc, ↓eC, ↓eTest, ↓eAnd, ↓eOr, ↓eNot, ↓eAndV, ↓eOrV, ↓eNotV, ↓eIf, ↓eChain, ↓eNeg, ↓eIx, ↓eIxS, ↓eSl, ↓oNone, ↓oSome, ↓aNil, ↓aCons, ↓eTup, ↓eLst, ↓eTupM, ↓eLstM, ↓eCB, ↓eBin, ↓x_call, ↓x_callK, ↓eSrc, ↓iSeqD, ↓iRg1, ↓iRg2, ↓iRg3, ↓iEnumD, ↓iZipD, ↓gNm, ↓gTp, ↓gsC, ↓gsN, ↓eYes, x_var0, x_var0o, x_varS, fAdd_ii, fAdd_ll, fAdd_tt, fAdd_ss, fMul_ii, fMul_li, fMul_ti, fSub_ii, fDiv_ii, fMod_ii, fPow_ii, fLt_ii, fLe_ii, fGt_ii, fGe_ii, ↓fEq, ↓fNe, ↓fIsN, ↓fNotN, x_lenL, x_lenT, x_lenS, x_lenR, x_lenC, fAbs_i, fInt_i, fInt_b, x_isi, List.set_cons_zero, List.set_cons_succ, List.getElem?_cons_zero, List.getElem?_cons_succ, items_l, items_t, okSt, mdOf, md_i, md_b, md_n, md_s, md_t, md_l, md_y, Md.isCl, Md.isNw, Md.meet, atI_0, atI_m1, atI_1, atI_2, atI_nat, cond_true, cond_false, isNon_i, isNon_n, isT_ii, isT_ib, isT_it, isT_il, isT_bi, isT_bb, isT_tt, isT_ti, isT_lt, isT_ll, isT_nt, isT_ni, isT_nl, tyN_i, tyN_b, tyN_t, tyN_l, tyN_n, dS_isT, dR_isT, dS_tyN, dR_tyN, dQ_isNon, D.flat, D.flats, flats_cons, flats_nil, flats_ints, flat_tup, putOk, slOf_f, slOf_t, Option.some.injEq, D.int.injEq, D.bl.injEq, D.lst.injEq, D.tup.injEq, D.str.injEq, D.scr.injEq, D.ty.injEq, x_consD, x_consD0, x_consD1, and_assoc, reduceCtorEq, exists_eq, exists_eq', exists_eq_left, exists_eq_left', exists_eq_right, exists_eq_right', exists_and_left, exists_and_right, and_true, true_and, and_self, and_false, false_and, or_true, true_or, or_false, false_or, if_true, if_false, ite_true, ite_false, decide_eq_true_eq, decide_eq_false_iff_not, Bool.not_eq_true, Bool.not_eq_true', Bool.not_true, Bool.not_false, Bool.true_eq_false, Bool.false_eq_true, not_true_eq_false, not_false_eq_true, eq_self_iff_true, forall_const, imp_self, List.length_cons, List.length_nil, List.append_nil, List.nil_append, List.cons_append, cpow_6, cpow_18, cpow_5, cpow_7, cpow_15, cpow_12, CMul, Nat.reduceAdd, Nat.reduceLeDiff, Nat.reduceLT, Int.reducePow, Int.reduceNeg, Int.reduceLT, Int.reduceLE, Int.reduceToNat, Int.reduceMul, Int.reduceAdd, Int.reduceSub, frzE, frz1, wipeE, all_nil, all_cons, endsF, x_start, List.map_cons, List.map_nil, List.replicate_succ, List.replicate_zero, Nat.reduceSub, Int.reduceEq, Nat.reduceEqDiff, List.mem_cons, List.not_mem_nil, x_isTs, or_self, Option.isSome_some, Option.isSome_none, String.reduceEq, dS_inj, dR_inj, dQ_inj, dQ_non, dQ_int, dS_md, dR_md, dQ_md, dS_flat, dR_flat, dQ_flat, dS_items, dR_items, List.getElem?_map, Option.map_some, Option.map_none, shp_i, shp_n, shp_b, shp_li, shp_S, shp_R, shp_lS, shp_Q, shp_l0, eqb_int, eqb_l, eqb_S, eqb_R, eqbs_ints, eqbs_dS, eqbs_nil0, eqbs_nilL, eqbs_nilR, Sl.own.injEq, Sl.val.injEq, List.length_map, dR_lst, dR_tup, dS_lst, dS_tup, flats_S, cut_map, cut_1, dR_fold, dS_fold, inI_t, inI_f, Bool.or_false, List.getLast?_map, exists_false, exists_const, Bool.and_self, Bool.and_true, Bool.true_and, Bool.and_false, Bool.false_and, add_S, List.isEmpty_map, fMax_2, fMax_3, fMin_2, flat_non, flat_i, ↓u_for, ↓u_comp, fS_v, fS_n, fS_o, shp_lli, eqbs_dL, ↓eSortSet, int_inj, fList_S, fList_R, sum_S, sum_li, x_is_between, x_is_sample, x_is_samples, x_distance]
    exact hN
  · refine ⟨gaps a b, by unfold gaps; rw [List.map_map]; rfl, ?_, fun m hm => ?_⟩
    · intro z
      have : (gaps a b).length = 0 := by rw [z]; rfl
      unfold gaps at this
      rw [List.length_map, List.length_zip] at this
      omega
    · rw [top0_eq hm gaps_nonneg]
      exact h
def t_need_samples : S1 := (sIf (eNot (eTest (eCall true [] c_is_samples (aCons (eVar 0) aNil)))) sNever sNext)
def c_need_samples : C1 := fun ds q => ∃ (s : List Row), ds = [dR s] ∧ OkR s ∧ q .non
theorem m_need_samples : MonoC c_need_samples := fun ds q q' k ⟨s, e, h1, h⟩ => ⟨s, e, h1, k _ h⟩
theorem x_need_samples {s : List Row} {q : D → Prop} : callC c_need_samples [dR s] q = (OkR s ∧ q .non) := by
  simp only [callC, c_need_samples, ↓sSeq, ↓sRet, ↓sIf, ↓sSet, ↓sOwn, ↓sAsg, ↓sDrop, ↓sNext, ↓sBreak, ↓sNever, ↓sFrz, ↓sApp, ↓sSetIx, ↓sSrc, ↓sPar, ↓sPar3, ↓sAug, ↓sNewSrc, ↓eC, ↓eTest, ↓eAnd, ↓eOr, ↓eNot, ↓eAndV, ↓eOrV, ↓eNotV, ↓eIf, ↓eChain, ↓eNeg, ↓eIx, ↓eIxS, ↓eSl, ↓oNone, ↓oSome, ↓aNil, ↓aCons, ↓eTup, ↓eLst, ↓eTupM, ↓eLstM, ↓eCB, ↓eBin, ↓x_call, ↓x_callK, ↓eSrc, ↓iSeqD, ↓iRg1, ↓iRg2, ↓iRg3, ↓iEnumD, ↓iZipD, ↓gNm, ↓gTp, ↓gsC, ↓gsN, ↓eYes, x_var0, x_var0o, x_varS, fAdd_ii, fAdd_ll, fAdd_tt, fAdd_ss, fMul_ii, fMul_li, fMul_ti, fSub_ii, fDiv_ii, fMod_ii, fPow_ii, fLt_ii, fLe_ii, fGt_ii, fGe_ii, ↓fEq, ↓fNe, ↓fIsN, ↓fNotN, x_lenL, x_lenT, x_lenS, x_lenR, x_lenC, fAbs_i, fInt_i, fInt_b, x_isi, List.set_cons_zero, List.set_cons_succ, List.getElem?_cons_zero, List.getElem?_cons_succ, items_l, items_t, okSt, mdOf, md_i, md_b, md_n, md_s, md_t, md_l, md_y, Md.isCl, Md.isNw, Md.meet, atI_0, atI_m1, atI_1, atI_2, atI_nat, cond_true, cond_false, isNon_i, isNon_n, isT_ii, isT_ib, isT_it, isT_il, isT_bi, isT_bb, isT_tt, isT_ti, isT_lt, isT_ll, isT_nt, isT_ni, isT_nl, tyN_i, tyN_b, tyN_t, tyN_l, tyN_n, dS_isT, dR_isT, dS_tyN, dR_tyN, dQ_isNon, D.flat, D.flats, flats_cons, flats_nil, flats_ints, flat_tup, putOk, slOf_f, slOf_t, Option.some.injEq, D.int.injEq, D.bl.injEq, D.lst.injEq, D.tup.injEq, D.str.injEq, D.scr.injEq, D.ty.injEq, x_consD, x_consD0, x_consD1, and_assoc, reduceCtorEq, exists_eq, exists_eq', exists_eq_left, exists_eq_left', exists_eq_right, exists_eq_right', exists_and_left, exists_and_right, and_true, true_and, and_self, and_false, false_and, or_true, true_or, or_false, false_or, if_true, if_false, ite_true, ite_false, decide_eq_true_eq, decide_eq_false_iff_not, Bool.not_eq_true, Bool.not_eq_true', Bool.not_true, Bool.not_false, Bool.true_eq_false, Bool.false_eq_true, not_true_eq_false, not_false_eq_true, eq_self_iff_true, forall_const, imp_self, List.length_cons, List.length_nil, List.append_nil, List.nil_append, List.cons_append, cpow_6, cpow_18, cpow_5, cpow_7, cpow_15, cpow_12, CMul, Nat.reduceAdd, Nat.reduceLeDiff, Nat.reduceLT, Int.reducePow, Int.reduceNeg, Int.reduceLT, Int.reduceLE, Int.reduceToNat, Int.reduceMul, Int.reduceAdd, Int.reduceSub, frzE, frz1, wipeE, all_nil, all_cons, endsF, x_start, List.map_cons, List.map_nil, List.replicate_succ, List.replicate_zero, Nat.reduceSub, Int.reduceEq, Nat.reduceEqDiff, List.mem_cons, List.not_mem_nil, x_isTs, or_self, Option.isSome_some, Option.isSome_none, String.reduceEq, dS_inj, dR_inj, dQ_inj, dQ_non, dQ_int, dS_md, dR_md, dQ_md, dS_flat, dR_flat, dQ_flat, dS_items, dR_items, List.getElem?_map, Option.map_some, Option.map_none, shp_i, shp_n, shp_b, shp_li, shp_S, shp_R, shp_lS, shp_Q, shp_l0, eqb_int, eqb_l, eqb_S, eqb_R, eqbs_ints, eqbs_dS, eqbs_nil0, eqbs_nilL, eqbs_nilR, Sl.own.injEq, Sl.val.injEq, List.length_map, dR_lst, dR_tup, dS_lst, dS_tup, flats_S, cut_map, cut_1, dR_fold, dS_fold, inI_t, inI_f, Bool.or_false, List.getLast?_map, exists_false, exists_const, Bool.and_self, Bool.and_true, Bool.true_and, Bool.and_false, Bool.false_and, add_S, List.isEmpty_map, fMax_2, fMax_3, fMin_2, flat_non, flat_i, ↓u_for, ↓u_comp, fS_v, fS_n, fS_o, shp_lli, eqbs_dL, ↓eSortSet, int_inj, fList_S, fList_R, sum_S, sum_li, x_is_between, x_is_sample, x_is_samples, x_distance]
theorem w_need_samples (ds : List D) (q : D → Prop) (h : c_need_samples ds q) : t_need_samples (endsF true q) (startE 1 ds) := by
  obtain ⟨s, rfl, ok, h⟩ := h
  simp only [x_start, List.map_cons, List.map_nil, List.length_cons, List.length_nil, List.replicate_succ, List.replicate_zero, List.cons_append, List.nil_append, Nat.reduceSub, Nat.reduceAdd]
  simp only [t_need_samples, ↓sSeq, ↓sRet, ↓sIf, ↓sSet, ↓sOwn, ↓sAsg, ↓sDrop, ↓sNext, ↓sBreak, ↓sNever, ↓sFrz, ↓sApp, ↓sSetIx, ↓sSrc, ↓sPar, ↓sPar3, ↓sAug, ↓sNewSrc, ↓eC, ↓eTest, ↓eAnd, ↓eOr, ↓eNot, ↓eAndV, ↓eOrV, ↓eNotV, ↓eIf, ↓eChain, ↓eNeg, ↓eIx, ↓eIxS, ↓eSl, ↓oNone, ↓oSome, ↓aNil, ↓aCons, ↓eTup, ↓eLst, ↓eTupM, ↓eLstM, ↓eCB, ↓eBin, ↓x_call, ↓x_callK, ↓eSrc, ↓iSeqD, ↓iRg1, ↓iRg2, ↓iRg3, ↓iEnumD, ↓iZipD, ↓gNm, ↓gTp, ↓gsC, ↓gsN, ↓eYes, x_var0, x_var0o, x_varS, fAdd_ii, fAdd_ll, fAdd_tt, fAdd_ss, fMul_ii, fMul_li, fMul_ti, fSub_ii, fDiv_ii, fMod_ii, fPow_ii, fLt_ii, fLe_ii, fGt_ii, fGe_ii, ↓fEq, ↓fNe, ↓fIsN, ↓fNotN, x_lenL, x_lenT, x_lenS, x_lenR, x_lenC, fAbs_i, fInt_i, fInt_b, x_isi, List.set_cons_zero, List.set_cons_succ, List.getElem?_cons_zero, List.getElem?_cons_succ, items_l, items_t, okSt, mdOf, md_i, md_b, md_n, md_s, md_t, md_l, md_y, Md.isCl, Md.isNw, Md.meet, atI_0, atI_m1, atI_1, atI_2, atI_nat, cond_true, cond_false, isNon_i, isNon_n, isT_ii, isT_ib, isT_it, isT_il, isT_bi, isT_bb, isT_tt, isT_ti, isT_lt, isT_ll, isT_nt, isT_ni, isT_nl, tyN_i, tyN_b, tyN_t, tyN_l, tyN_n, dS_isT, dR_isT, dS_tyN, dR_tyN, dQ_isNon, D.flat, D.flats, flats_cons, flats_nil, flats_ints, flat_tup, putOk, slOf_f, slOf_t, Option.some.injEq, D.int.injEq, D.bl.injEq, D.lst.injEq, D.tup.injEq, D.str.injEq, D.scr.injEq, D.ty.injEq, x_consD, x_consD0, x_consD1, and_assoc, reduceCtorEq, exists_eq, exists_eq', exists_eq_left, exists_eq_left', exists_eq_right, exists_eq_right', exists_and_left, exists_and_right, and_true, true_and, and_self, and_false, false_and, or_true, true_or, or_false, false_or, if_true, if_false, ite_true, ite_false, decide_eq_true_eq, decide_eq_false_iff_not, Bool.not_eq_true, Bool.not_eq_true', Bool.not_true, Bool.not_false, Bool.true_eq_false, Bool.false_eq_true, not_true_eq_false, not_false_eq_true, eq_self_iff_true, forall_const, imp_self, List.length_cons, List.length_nil, List.append_nil, List.nil_append, List.cons_append, cpow_6, cpow_18, cpow_5, cpow_7, cpow_15, cpow_12, CMul, Nat.reduceAdd, Nat.reduceLeDiff, Nat.reduceLT, Int.reducePow, Int.reduceNeg, Int.reduceLT, Int.reduceLE, Int.reduceToNat, Int.reduceMul, Int.reduceAdd, Int.reduceSub, frzE, frz1, wipeE, all_nil, all_cons, endsF, x_start, List.map_cons, List.map_nil, List.replicate_succ, List.replicate_zero, Nat.reduceSub, Int.reduceEq, Nat.reduceEqDiff, List.mem_cons, List.not_mem_nil, x_isTs, or_self, Option.isSome_some, Option.isSome_none, String.reduceEq, dS_inj, dR_inj, dQ_inj, dQ_non, dQ_int, dS_md, dR_md, dQ_md, dS_flat, dR_flat, dQ_flat, dS_items, dR_items, List.getElem?_map, Option.map_some, Option.map_none, shp_i, shp_n, shp_b, shp_li, shp_S, shp_R, shp_lS, shp_Q, shp_l0, eqb_int, eqb_l, eqb_S, eqb_R, eqbs_ints, eqbs_dS, eqbs_nil0, eqbs_nilL, eqbs_nilR, Sl.own.injEq, Sl.val.injEq, List.length_map, dR_lst, dR_tup, dS_lst, dS_tup, flats_S, cut_map, cut_1, dR_fold, dS_fold, inI_t, inI_f, Bool.or_false, List.getLast?_map, exists_false, exists_const, Bool.and_self, Bool.and_true, Bool.true_and, Bool.and_false, Bool.false_and, add_S, List.isEmpty_map, fMax_2, fMax_3, fMin_2, flat_non, flat_i, ↓u_for, ↓u_comp, fS_v, fS_n, fS_o, shp_lli, eqbs_dL, ↓eSortSet, int_inj, fList_S, fList_R, sum_S, sum_li, x_is_between, x_is_sample, x_is_samples, x_distance, x_need_samples]
  exact ⟨ok, h⟩
def t_need_threshold : S1 := (sIf (eNot (eTest (eCall true [] c_is_between (aCons (eVar 0) (aCons (eC (.int 0)) (aCons (eC (.int 10000000)) aNil)))))) sNever sNext)
def OkT (t : Int) : Prop := 0 ≤ t ∧ t ≤ 10000000
def c_need_threshold : C1 := fun ds q => ∃ (t : Int), ds = [.int t] ∧ OkT t ∧ q .non
theorem m_need_threshold : MonoC c_need_threshold := fun ds q q' k ⟨s, e, h1, h⟩ => ⟨s, e, h1, k _ h⟩
theorem x_need_threshold {t : Int} {q : D → Prop} : callC c_need_threshold [.int t] q = (OkT t ∧ q .non) := by
  simp only [callC, c_need_threshold, ↓sSeq, ↓sRet, ↓sIf, ↓sSet, ↓sOwn, ↓sAsg, ↓sDrop, ↓sNext, ↓sBreak, ↓sNever, ↓sFrz, ↓sApp, ↓sSetIx, ↓sSrc, ↓sPar, ↓sPar3, ↓sAug, ↓sNewSrc, ↓eC, ↓eTest, ↓eAnd, ↓eOr, ↓eNot, ↓eAndV, ↓eOrV, ↓eNotV, ↓eIf, ↓eChain, ↓eNeg, ↓eIx, ↓eIxS, ↓eSl, ↓oNone, ↓oSome, ↓aNil, ↓aCons, ↓eTup, ↓eLst, ↓eTupM, ↓eLstM, ↓eCB, ↓eBin, ↓x_call, ↓x_callK, ↓eSrc, ↓iSeqD, ↓iRg1, ↓iRg2, ↓iRg3, ↓iEnumD, ↓iZipD, ↓gNm, ↓gTp, ↓gsC, ↓gsN, ↓eYes, x_var0, x_var0o, x_varS, fAdd_ii, fAdd_ll, fAdd_tt, fAdd_ss, fMul_ii, fMul_li, fMul_ti, fSub_ii, fDiv_ii, fMod_ii, fPow_ii, fLt_ii, fLe_ii, fGt_ii, fGe_ii, ↓fEq, ↓fNe, ↓fIsN, ↓fNotN, x_lenL, x_lenT, x_lenS, x_lenR, x_lenC, fAbs_i, fInt_i, fInt_b, x_isi, List.set_cons_zero, List.set_cons_succ, List.getElem?_cons_zero, List.getElem?_cons_succ, items_l, items_t, okSt, mdOf, md_i, md_b, md_n, md_s, md_t, md_l, md_y, Md.isCl, Md.isNw, Md.meet, atI_0, atI_m1, atI_1, atI_2, atI_nat, cond_true, cond_false, isNon_i, isNon_n, isT_ii, isT_ib, isT_it, isT_il, isT_bi, isT_bb, isT_tt, isT_ti, isT_lt, isT_ll, isT_nt, isT_ni, isT_nl, tyN_i, tyN_b, tyN_t, tyN_l, tyN_n, dS_isT, dR_isT, dS_tyN, dR_tyN, dQ_isNon, D.flat, D.flats, flats_cons, flats_nil, flats_ints, flat_tup, putOk, slOf_f, slOf_t, Option.some.injEq, D.int.injEq, D.bl.injEq, D.lst.injEq, D.tup.injEq, D.str.injEq, D.scr.injEq, D.ty.injEq, x_consD, x_consD0, x_consD1, and_assoc, reduceCtorEq, exists_eq, exists_eq', exists_eq_left, exists_eq_left', exists_eq_right, exists_eq_right', exists_and_left, exists_and_right, and_true, true_and, and_self, and_false, false_and, or_true, true_or, or_false, false_or, if_true, if_false, ite_true, ite_false, decide_eq_true_eq, decide_eq_false_iff_not, Bool.not_eq_true, Bool.not_eq_true', Bool.not_true, Bool.not_false, Bool.true_eq_false, Bool.false_eq_true, not_true_eq_false, not_false_eq_true, eq_self_iff_true, forall_const, imp_self, List.length_cons, List.length_nil, List.append_nil, List.nil_append, List.cons_append, cpow_6, cpow_18, cpow_5, cpow_7, cpow_15, cpow_12, CMul, Nat.reduceAdd, Nat.reduceLeDiff, Nat.reduceLT, Int.reducePow, Int.reduceNeg, Int.reduceLT, Int.reduceLE, Int.reduceToNat, Int.reduceMul, Int.reduceAdd, Int.reduceSub, frzE, frz1, wipeE, all_nil, all_cons, endsF, x_start, List.map_cons, List.map_nil, List.replicate_succ, List.replicate_zero, Nat.reduceSub, Int.reduceEq, Nat.reduceEqDiff, List.mem_cons, List.not_mem_nil, x_isTs, or_self, Option.isSome_some, Option.isSome_none, String.reduceEq, dS_inj, dR_inj, dQ_inj, dQ_non, dQ_int, dS_md, dR_md, dQ_md, dS_flat, dR_flat, dQ_flat, dS_items, dR_items, List.getElem?_map, Option.map_some, Option.map_none, shp_i, shp_n, shp_b, shp_li, shp_S, shp_R, shp_lS, shp_Q, shp_l0, eqb_int, eqb_l, eqb_S, eqb_R, eqbs_ints, eqbs_dS, eqbs_nil0, eqbs_nilL, eqbs_nilR, Sl.own.injEq, Sl.val.injEq, List.length_map, dR_lst, dR_tup, dS_lst, dS_tup, flats_S, cut_map, cut_1, dR_fold, dS_fold, inI_t, inI_f, Bool.or_false, List.getLast?_map, exists_false, exists_const, Bool.and_self, Bool.and_true, Bool.true_and, Bool.and_false, Bool.false_and, add_S, List.isEmpty_map, fMax_2, fMax_3, fMin_2, flat_non, flat_i, ↓u_for, ↓u_comp, fS_v, fS_n, fS_o, shp_lli, eqbs_dL, ↓eSortSet, int_inj, fList_S, fList_R, sum_S, sum_li, x_is_between, x_is_sample, x_is_samples, x_distance, x_need_samples]
theorem w_need_threshold (ds : List D) (q : D → Prop) (h : c_need_threshold ds q) : t_need_threshold (endsF true q) (startE 1 ds) := by
  obtain ⟨s, rfl, ok, h⟩ := h
  simp only [x_start, List.map_cons, List.map_nil, List.length_cons, List.length_nil, List.replicate_succ, List.replicate_zero, List.cons_append, List.nil_append, Nat.reduceSub, Nat.reduceAdd]
  simp only [t_need_threshold, ↓sSeq, ↓sRet, ↓sIf, ↓sSet, ↓sOwn, ↓sAsg, ↓sDrop, ↓sNext, ↓sBreak, ↓sNever, ↓sFrz, ↓sApp, ↓sSetIx, ↓sSrc, ↓sPar, ↓sPar3, ↓sAug, ↓sNewSrc, ↓eC, ↓eTest, ↓eAnd, ↓eOr, ↓eNot, ↓eAndV, ↓eOrV, ↓eNotV, ↓eIf, ↓eChain, ↓eNeg, ↓eIx, ↓eIxS, ↓eSl, ↓oNone, ↓oSome, ↓aNil, ↓aCons, ↓eTup, ↓eLst, ↓eTupM, ↓eLstM, ↓eCB, ↓eBin, ↓x_call, ↓x_callK, ↓eSrc, ↓iSeqD, ↓iRg1, ↓iRg2, ↓iRg3, ↓iEnumD, ↓iZipD, ↓gNm, ↓gTp, ↓gsC, ↓gsN, ↓eYes, x_var0, x_var0o, x_varS, fAdd_ii, fAdd_ll, fAdd_tt, fAdd_ss, fMul_ii, fMul_li, fMul_ti, fSub_ii, fDiv_ii, fMod_ii, fPow_ii, fLt_ii, fLe_ii, fGt_ii, fGe_ii, ↓fEq, ↓fNe, ↓fIsN, ↓fNotN, x_lenL, x_lenT, x_lenS, x_lenR, x_lenC, fAbs_i, fInt_i, fInt_b, x_isi, List.set_cons_zero, List.set_cons_succ, List.getElem?_cons_zero, List.getElem?_cons_succ, items_l, items_t, okSt, mdOf, md_i, md_b, md_n, md_s, md_t, md_l, md_y, Md.isCl, Md.isNw, Md.meet, atI_0, atI_m1, atI_1, atI_2, atI_nat, cond_true, cond_false, isNon_i, isNon_n, isT_ii, isT_ib, isT_it, isT_il, isT_bi, isT_bb, isT_tt, isT_ti, isT_lt, isT_ll, isT_nt, isT_ni, isT_nl, tyN_i, tyN_b, tyN_t, tyN_l, tyN_n, dS_isT, dR_isT, dS_tyN, dR_tyN, dQ_isNon, D.flat, D.flats, flats_cons, flats_nil, flats_ints, flat_tup, putOk, slOf_f, slOf_t, Option.some.injEq, D.int.injEq, D.bl.injEq, D.lst.injEq, D.tup.injEq, D.str.injEq, D.scr.injEq, D.ty.injEq, x_consD, x_consD0, x_consD1, and_assoc, reduceCtorEq, exists_eq, exists_eq', exists_eq_left, exists_eq_left', exists_eq_right, exists_eq_right', exists_and_left, exists_and_right, and_true, true_and, and_self, and_false, false_and, or_true, true_or, or_false, false_or, if_true, if_false, ite_true, ite_false, decide_eq_true_eq, decide_eq_false_iff_not, Bool.not_eq_true, Bool.not_eq_true', Bool.not_true, Bool.not_false, Bool.true_eq_false, Bool.false_eq_true, not_true_eq_false, not_false_eq_true, eq_self_iff_true, forall_const, imp_self, List.length_cons, List.length_nil, List.append_nil, List.nil_append, List.cons_append, cpow_6, cpow_18, cpow_5, cpow_7, cpow_15, cpow_12, CMul, Nat.reduceAdd, Nat.reduceLeDiff, Nat.reduceLT, Int.reducePow, Int.reduceNeg, Int.reduceLT, Int.reduceLE, Int.reduceToNat, Int.reduceMul, Int.reduceAdd, Int.reduceSub, frzE, frz1, wipeE, all_nil, all_cons, endsF, x_start, List.map_cons, List.map_nil, List.replicate_succ, List.replicate_zero, Nat.reduceSub, Int.reduceEq, Nat.reduceEqDiff, List.mem_cons, List.not_mem_nil, x_isTs, or_self, Option.isSome_some, Option.isSome_none, String.reduceEq, dS_inj, dR_inj, dQ_inj, dQ_non, dQ_int, dS_md, dR_md, dQ_md, dS_flat, dR_flat, dQ_flat, dS_items, dR_items, List.getElem?_map, Option.map_some, Option.map_none, shp_i, shp_n, shp_b, shp_li, shp_S, shp_R, shp_lS, shp_Q, shp_l0, eqb_int, eqb_l, eqb_S, eqb_R, eqbs_ints, eqbs_dS, eqbs_nil0, eqbs_nilL, eqbs_nilR, Sl.own.injEq, Sl.val.injEq, List.length_map, dR_lst, dR_tup, dS_lst, dS_tup, flats_S, cut_map, cut_1, dR_fold, dS_fold, inI_t, inI_f, Bool.or_false, List.getLast?_map, exists_false, exists_const, Bool.and_self, Bool.and_true, Bool.true_and, Bool.and_false, Bool.false_and, add_S, List.isEmpty_map, fMax_2, fMax_3, fMin_2, flat_non, flat_i, ↓u_for, ↓u_comp, fS_v, fS_n, fS_o, shp_lli, eqbs_dL, ↓eSortSet, int_inj, fList_S, fList_R, sum_S, sum_li, x_is_between, x_is_sample, x_is_samples, x_distance, x_need_samples, x_need_threshold]
  rw [if_neg (fun z => z ok)]
  exact h
def t_need_silence : S1 := (sIf (eAnd (eTest (eBin fNotN (eVar 0) (eC .non))) (eNot (eTest (eCall true [] c_is_between (aCons (eVar 0) (aCons (eC (.int 1)) (aCons (eC (.int 60)) aNil))))))) sNever sNext)
def c_need_silence : C1 := fun ds q => ∃ (s : Option Int), ds = [dQ s] ∧ OkQ s ∧ q .non
theorem m_need_silence : MonoC c_need_silence := fun ds q q' k ⟨s, e, h1, h⟩ => ⟨s, e, h1, k _ h⟩
theorem x_need_silence {s : Option Int} {q : D → Prop} : callC c_need_silence [dQ s] q = (OkQ s ∧ q .non) := by
  simp only [callC, c_need_silence, ↓sSeq, ↓sRet, ↓sIf, ↓sSet, ↓sOwn, ↓sAsg, ↓sDrop, ↓sNext, ↓sBreak, ↓sNever, ↓sFrz, ↓sApp, ↓sSetIx, ↓sSrc, ↓sPar, ↓sPar3, ↓sAug, ↓sNewSrc, ↓eC, ↓eTest, ↓eAnd, ↓eOr, ↓eNot, ↓eAndV, ↓eOrV, ↓eNotV, ↓eIf, ↓eChain, ↓eNeg, ↓eIx, ↓eIxS, ↓eSl, ↓oNone, ↓oSome, ↓aNil, ↓aCons, ↓eTup, ↓eLst, ↓eTupM, ↓eLstM, ↓eCB, ↓eBin, ↓x_call, ↓x_callK, ↓eSrc, ↓iSeqD, ↓iRg1, ↓iRg2, ↓iRg3, ↓iEnumD, ↓iZipD, ↓gNm, ↓gTp, ↓gsC, ↓gsN, ↓eYes, x_var0, x_var0o, x_varS, fAdd_ii, fAdd_ll, fAdd_tt, fAdd_ss, fMul_ii, fMul_li, fMul_ti, fSub_ii, fDiv_ii, fMod_ii, fPow_ii, fLt_ii, fLe_ii, fGt_ii, fGe_ii, ↓fEq, ↓fNe, ↓fIsN, ↓fNotN, x_lenL, x_lenT, x_lenS, x_lenR, x_lenC, fAbs_i, fInt_i, fInt_b, x_isi, List.set_cons_zero, List.set_cons_succ, List.getElem?_cons_zero, List.getElem?_cons_succ, items_l, items_t, okSt, mdOf, md_i, md_b, md_n, md_s, md_t, md_l, md_y, Md.isCl, Md.isNw, Md.meet, atI_0, atI_m1, atI_1, atI_2, atI_nat, cond_true, cond_false, isNon_i, isNon_n, isT_ii, isT_ib, isT_it, isT_il, isT_bi, isT_bb, isT_tt, isT_ti, isT_lt, isT_ll, isT_nt, isT_ni, isT_nl, tyN_i, tyN_b, tyN_t, tyN_l, tyN_n, dS_isT, dR_isT, dS_tyN, dR_tyN, dQ_isNon, D.flat, D.flats, flats_cons, flats_nil, flats_ints, flat_tup, putOk, slOf_f, slOf_t, Option.some.injEq, D.int.injEq, D.bl.injEq, D.lst.injEq, D.tup.injEq, D.str.injEq, D.scr.injEq, D.ty.injEq, x_consD, x_consD0, x_consD1, and_assoc, reduceCtorEq, exists_eq, exists_eq', exists_eq_left, exists_eq_left', exists_eq_right, exists_eq_right', exists_and_left, exists_and_right, and_true, true_and, and_self, and_false, false_and, or_true, true_or, or_false, false_or, if_true, if_false, ite_true, ite_false, decide_eq_true_eq, decide_eq_false_iff_not, Bool.not_eq_true, Bool.not_eq_true', Bool.not_true, Bool.not_false, Bool.true_eq_false, Bool.false_eq_true, not_true_eq_false, not_false_eq_true, eq_self_iff_true, forall_const, imp_self, List.length_cons, List.length_nil, List.append_nil, List.nil_append, List.cons_append, cpow_6, cpow_18, cpow_5, cpow_7, cpow_15, cpow_12, CMul, Nat.reduceAdd, Nat.reduceLeDiff, Nat.reduceLT, Int.reducePow, Int.reduceNeg, Int.reduceLT, Int.reduceLE, Int.reduceToNat, Int.reduceMul, Int.reduceAdd, Int.reduceSub, frzE, frz1, wipeE, all_nil, all_cons, endsF, x_start, List.map_cons, List.map_nil, List.replicate_succ, List.replicate_zero, Nat.reduceSub, Int.reduceEq, Nat.reduceEqDiff, List.mem_cons, List.not_mem_nil, x_isTs, or_self, Option.isSome_some, Option.isSome_none, String.reduceEq, dS_inj, dR_inj, dQ_inj, dQ_non, dQ_int, dS_md, dR_md, dQ_md, dS_flat, dR_flat, dQ_flat, dS_items, dR_items, List.getElem?_map, Option.map_some, Option.map_none, shp_i, shp_n, shp_b, shp_li, shp_S, shp_R, shp_lS, shp_Q, shp_l0, eqb_int, eqb_l, eqb_S, eqb_R, eqbs_ints, eqbs_dS, eqbs_nil0, eqbs_nilL, eqbs_nilR, Sl.own.injEq, Sl.val.injEq, List.length_map, dR_lst, dR_tup, dS_lst, dS_tup, flats_S, cut_map, cut_1, dR_fold, dS_fold, inI_t, inI_f, Bool.or_false, List.getLast?_map, exists_false, exists_const, Bool.and_self, Bool.and_true, Bool.true_and, Bool.and_false, Bool.false_and, add_S, List.isEmpty_map, fMax_2, fMax_3, fMin_2, flat_non, flat_i, ↓u_for, ↓u_comp, fS_v, fS_n, fS_o, shp_lli, eqbs_dL, ↓eSortSet, int_inj, fList_S, fList_R, sum_S, sum_li, x_is_between, x_is_sample, x_is_samples, x_distance, x_need_samples, x_need_threshold]
theorem w_need_silence (ds : List D) (q : D → Prop) (h : c_need_silence ds q) : t_need_silence (endsF true q) (startE 1 ds) := by
  obtain ⟨s, rfl, ok, h⟩ := h
  simp only [x_start, List.map_cons, List.map_nil, List.length_cons, List.length_nil, List.replicate_succ, List.replicate_zero, List.cons_append, List.nil_append, Nat.reduceSub, Nat.reduceAdd]
  cases s with
  | none =>
    simp only [t_need_silence, dQ, ↓sSeq, ↓sRet, ↓sIf, ↓sSet, ↓sOwn, ↓sAsg, ↓sDrop, ↓sNext, ↓sBreak, ↓sNever, ↓sFrz, ↓sApp, ↓sSetIx, ↓sSrc, ↓sPar, ↓sPar3, ↓sAug, ↓sNewSrc, ↓eC, ↓eTest, ↓eAnd, ↓eOr, ↓eNot, ↓eAndV, ↓eOrV, ↓eNotV, ↓eIf, ↓eChain, ↓eNeg, ↓eIx, ↓eIxS, ↓eSl, ↓oNone, ↓oSome, ↓aNil, ↓aCons, ↓eTup, ↓eLst, ↓eTupM, ↓eLstM, ↓eCB, ↓eBin, ↓x_call, ↓x_callK, ↓eSrc, ↓iSeqD, ↓iRg1, ↓iRg2, ↓iRg3, ↓iEnumD, ↓iZipD, ↓gNm, ↓gTp, ↓gsC, ↓gsN, ↓eYes, x_var0, x_var0o, x_varS, fAdd_ii, fAdd_ll, fAdd_tt, fAdd_ss, fMul_ii, fMul_li, fMul_ti, fSub_ii, fDiv_ii, fMod_ii, fPow_ii, fLt_ii, fLe_ii, fGt_ii, fGe_ii, ↓fEq, ↓fNe, ↓fIsN, ↓fNotN, x_lenL, x_lenT, x_lenS, x_lenR, x_lenC, fAbs_i, fInt_i, fInt_b, x_isi, List.set_cons_zero, List.set_cons_succ, List.getElem?_cons_zero, List.getElem?_cons_succ, items_l, items_t, okSt, mdOf, md_i, md_b, md_n, md_s, md_t, md_l, md_y, Md.isCl, Md.isNw, Md.meet, atI_0, atI_m1, atI_1, atI_2, atI_nat, cond_true, cond_false, isNon_i, isNon_n, isT_ii, isT_ib, isT_it, isT_il, isT_bi, isT_bb, isT_tt, isT_ti, isT_lt, isT_ll, isT_nt, isT_ni, isT_nl, tyN_i, tyN_b, tyN_t, tyN_l, tyN_n, dS_isT, dR_isT, dS_tyN, dR_tyN, dQ_isNon, D.flat, D.flats, flats_cons, flats_nil, flats_ints, flat_tup, putOk, slOf_f, slOf_t, Option.some.injEq, D.int.injEq, D.bl.injEq, D.lst.injEq, D.tup.injEq, D.str.injEq, D.scr.injEq, D.ty.injEq, x_consD, x_consD0, x_consD1, and_assoc, reduceCtorEq, exists_eq, exists_eq', exists_eq_left, exists_eq_left', exists_eq_right, exists_eq_right', exists_and_left, exists_and_right, and_true, true_and, and_self, and_false, false_and, or_true, true_or, or_false, false_or, if_true, if_false, ite_true, ite_false, decide_eq_true_eq, decide_eq_false_iff_not, Bool.not_eq_true, Bool.not_eq_true', Bool.not_true, Bool.not_false, Bool.true_eq_false, Bool.false_eq_true, not_true_eq_false, not_false_eq_true, eq_self_iff_true, forall_const, imp_self, List.length_cons, List.length_nil, List.append_nil, List.nil_append, List.cons_append, cpow_6, cpow_18, cpow_5, cpow_7, cpow_15, cpow_12, CMul, Nat.reduceAdd, Nat.reduceLeDiff, Nat.reduceLT, Int.reducePow, Int.reduceNeg, Int.reduceLT, Int.reduceLE, Int.reduceToNat, Int.reduceMul, Int.reduceAdd, Int.reduceSub, frzE, frz1, wipeE, all_nil, all_cons, endsF, x_start, List.map_cons, List.map_nil, List.replicate_succ, List.replicate_zero, Nat.reduceSub, Int.reduceEq, Nat.reduceEqDiff, List.mem_cons, List.not_mem_nil, x_isTs, or_self, Option.isSome_some, Option.isSome_none, String.reduceEq, dS_inj, dR_inj, dQ_inj, dQ_non, dQ_int, dS_md, dR_md, dQ_md, dS_flat, dR_flat, dQ_flat, dS_items, dR_items, List.getElem?_map, Option.map_some, Option.map_none, shp_i, shp_n, shp_b, shp_li, shp_S, shp_R, shp_lS, shp_Q, shp_l0, eqb_int, eqb_l, eqb_S, eqb_R, eqbs_ints, eqbs_dS, eqbs_nil0, eqbs_nilL, eqbs_nilR, Sl.own.injEq, Sl.val.injEq, List.length_map, dR_lst, dR_tup, dS_lst, dS_tup, flats_S, cut_map, cut_1, dR_fold, dS_fold, inI_t, inI_f, Bool.or_false, List.getLast?_map, exists_false, exists_const, Bool.and_self, Bool.and_true, Bool.true_and, Bool.and_false, Bool.false_and, add_S, List.isEmpty_map, fMax_2, fMax_3, fMin_2, flat_non, flat_i, ↓u_for, ↓u_comp, fS_v, fS_n, fS_o, shp_lli, eqbs_dL, ↓eSortSet, int_inj, fList_S, fList_R, sum_S, sum_li, x_is_between, x_is_sample, x_is_samples, x_distance, x_need_samples, x_need_threshold, x_need_silence]
    exact h
  | some k =>
    have := ok k rfl
    simp only [t_need_silence, dQ, ↓sSeq, ↓sRet, ↓sIf, ↓sSet, ↓sOwn, ↓sAsg, ↓sDrop, ↓sNext, ↓sBreak, ↓sNever, ↓sFrz, ↓sApp, ↓sSetIx, ↓sSrc, ↓sPar, ↓sPar3, ↓sAug, ↓sNewSrc, ↓eC, ↓eTest, ↓eAnd, ↓eOr, ↓eNot, ↓eAndV, ↓eOrV, ↓eNotV, ↓eIf, ↓eChain, ↓eNeg, ↓eIx, ↓eIxS, ↓eSl, ↓oNone, ↓oSome, ↓aNil, ↓aCons, ↓eTup, ↓eLst, ↓eTupM, ↓eLstM, ↓eCB, ↓eBin, ↓x_call, ↓x_callK, ↓eSrc, ↓iSeqD, ↓iRg1, ↓iRg2, ↓iRg3, ↓iEnumD, ↓iZipD, ↓gNm, ↓gTp, ↓gsC, ↓gsN, ↓eYes, x_var0, x_var0o, x_varS, fAdd_ii, fAdd_ll, fAdd_tt, fAdd_ss, fMul_ii, fMul_li, fMul_ti, fSub_ii, fDiv_ii, fMod_ii, fPow_ii, fLt_ii, fLe_ii, fGt_ii, fGe_ii, ↓fEq, ↓fNe, ↓fIsN, ↓fNotN, x_lenL, x_lenT, x_lenS, x_lenR, x_lenC, fAbs_i, fInt_i, fInt_b, x_isi, List.set_cons_zero, List.set_cons_succ, List.getElem?_cons_zero, List.getElem?_cons_succ, items_l, items_t, okSt, mdOf, md_i, md_b, md_n, md_s, md_t, md_l, md_y, Md.isCl, Md.isNw, Md.meet, atI_0, atI_m1, atI_1, atI_2, atI_nat, cond_true, cond_false, isNon_i, isNon_n, isT_ii, isT_ib, isT_it, isT_il, isT_bi, isT_bb, isT_tt, isT_ti, isT_lt, isT_ll, isT_nt, isT_ni, isT_nl, tyN_i, tyN_b, tyN_t, tyN_l, tyN_n, dS_isT, dR_isT, dS_tyN, dR_tyN, dQ_isNon, D.flat, D.flats, flats_cons, flats_nil, flats_ints, flat_tup, putOk, slOf_f, slOf_t, Option.some.injEq, D.int.injEq, D.bl.injEq, D.lst.injEq, D.tup.injEq, D.str.injEq, D.scr.injEq, D.ty.injEq, x_consD, x_consD0, x_consD1, and_assoc, reduceCtorEq, exists_eq, exists_eq', exists_eq_left, exists_eq_left', exists_eq_right, exists_eq_right', exists_and_left, exists_and_right, and_true, true_and, and_self, and_false, false_and, or_true, true_or, or_false, false_or, if_true, if_false, ite_true, ite_false, decide_eq_true_eq, decide_eq_false_iff_not, Bool.not_eq_true, Bool.not_eq_true', Bool.not_true, Bool.not_false, Bool.true_eq_false, Bool.false_eq_true, not_true_eq_false, not_false_eq_true, eq_self_iff_true, forall_const, imp_self, List.length_cons, List.length_nil, List.append_nil, List.nil_append, List.cons_append, cpow_6, cpow_18, cpow_5, cpow_7, cpow_15, cpow_12, CMul, Nat.reduceAdd, Nat.reduceLeDiff, Nat.reduceLT, Int.reducePow, Int.reduceNeg, Int.reduceLT, Int.reduceLE, Int.reduceToNat, Int.reduceMul, Int.reduceAdd, Int.reduceSub, frzE, frz1, wipeE, all_nil, all_cons, endsF, x_start, List.map_cons, List.map_nil, List.replicate_succ, List.replicate_zero, Nat.reduceSub, Int.reduceEq, Nat.reduceEqDiff, List.mem_cons, List.not_mem_nil, x_isTs, or_self, Option.isSome_some, Option.isSome_none, String.reduceEq, dS_inj, dR_inj, dQ_inj, dQ_non, dQ_int, dS_md, dR_md, dQ_md, dS_flat, dR_flat, dQ_flat, dS_items, dR_items, List.getElem?_map, Option.map_some, Option.map_none, shp_i, shp_n, shp_b, shp_li, shp_S, shp_R, shp_lS, shp_Q, shp_l0, eqb_int, eqb_l, eqb_S, eqb_R, eqbs_ints, eqbs_dS, eqbs_nil0, eqbs_nilL, eqbs_nilR, Sl.own.injEq, Sl.val.injEq, List.length_map, dR_lst, dR_tup, dS_lst, dS_tup, flats_S, cut_map, cut_1, dR_fold, dS_fold, inI_t, inI_f, Bool.or_false, List.getLast?_map, exists_false, exists_const, Bool.and_self, Bool.and_true, Bool.true_and, Bool.and_false, Bool.false_and, add_S, List.isEmpty_map, fMax_2, fMax_3, fMin_2, flat_non, flat_i, ↓u_for, ↓u_comp, fS_v, fS_n, fS_o, shp_lli, eqbs_dL, ↓eSortSet, int_inj, fList_S, fList_R, sum_S, sum_li, x_is_between, x_is_sample, x_is_samples, x_distance, x_need_samples, x_need_threshold, x_need_silence]
    rw [if_neg (fun z => z this)]
    exact h
def t_is_late : S1 := (sRet (eAndV (eBin fNotN (eVar 2) (eC .non)) (eBin fGe (eBin fSub (eVar 1) (eVar 0)) (eVar 2))))
def c_is_late : C1 := fun ds q => ∃ (l i : Int) (s : Option Int), ds = [.int l, .int i, dQ s] ∧ q (.bl (late l i s))
theorem m_is_late : MonoC c_is_late := fun ds q q' k ⟨s, a, b, e, h⟩ => ⟨s, a, b, e, k _ h⟩
theorem x_is_late {l i : Int} {s : Option Int} {q : D → Prop} : callC c_is_late [.int l, .int i, dQ s] q = (q (.bl (late l i s))) := by
  simp only [callC, c_is_late, ↓sSeq, ↓sRet, ↓sIf, ↓sSet, ↓sOwn, ↓sAsg, ↓sDrop, ↓sNext, ↓sBreak, ↓sNever, ↓sFrz, ↓sApp, ↓sSetIx, ↓sSrc, ↓sPar, ↓sPar3, ↓sAug, ↓sNewSrc, ↓eC, ↓eTest, ↓eAnd, ↓eOr, ↓eNot, ↓eAndV, ↓eOrV, ↓eNotV, ↓eIf, ↓eChain, ↓eNeg, ↓eIx, ↓eIxS, ↓eSl, ↓oNone, ↓oSome, ↓aNil, ↓aCons, ↓eTup, ↓eLst, ↓eTupM, ↓eLstM, ↓eCB, ↓eBin, ↓x_call, ↓x_callK, ↓eSrc, ↓iSeqD, ↓iRg1, ↓iRg2, ↓iRg3, ↓iEnumD, ↓iZipD, ↓gNm, ↓gTp, ↓gsC, ↓gsN, ↓eYes, x_var0, x_var0o, x_varS, fAdd_ii, fAdd_ll, fAdd_tt, fAdd_ss, fMul_ii, fMul_li, fMul_ti, fSub_ii, fDiv_ii, fMod_ii, fPow_ii, fLt_ii, fLe_ii, fGt_ii, fGe_ii, ↓fEq, ↓fNe, ↓fIsN, ↓fNotN, x_lenL, x_lenT, x_lenS, x_lenR, x_lenC, fAbs_i, fInt_i, fInt_b, x_isi, List.set_cons_zero, List.set_cons_succ, List.getElem?_cons_zero, List.getElem?_cons_succ, items_l, items_t, okSt, mdOf, md_i, md_b, md_n, md_s, md_t, md_l, md_y, Md.isCl, Md.isNw, Md.meet, atI_0, atI_m1, atI_1, atI_2, atI_nat, cond_true, cond_false, isNon_i, isNon_n, isT_ii, isT_ib, isT_it, isT_il, isT_bi, isT_bb, isT_tt, isT_ti, isT_lt, isT_ll, isT_nt, isT_ni, isT_nl, tyN_i, tyN_b, tyN_t, tyN_l, tyN_n, dS_isT, dR_isT, dS_tyN, dR_tyN, dQ_isNon, D.flat, D.flats, flats_cons, flats_nil, flats_ints, flat_tup, putOk, slOf_f, slOf_t, Option.some.injEq, D.int.injEq, D.bl.injEq, D.lst.injEq, D.tup.injEq, D.str.injEq, D.scr.injEq, D.ty.injEq, x_consD, x_consD0, x_consD1, and_assoc, reduceCtorEq, exists_eq, exists_eq', exists_eq_left, exists_eq_left', exists_eq_right, exists_eq_right', exists_and_left, exists_and_right, and_true, true_and, and_self, and_false, false_and, or_true, true_or, or_false, false_or, if_true, if_false, ite_true, ite_false, decide_eq_true_eq, decide_eq_false_iff_not, Bool.not_eq_true, Bool.not_eq_true', Bool.not_true, Bool.not_false, Bool.true_eq_false, Bool.false_eq_true, not_true_eq_false, not_false_eq_true, eq_self_iff_true, forall_const, imp_self, List.length_cons, List.length_nil, List.append_nil, List.nil_append, List.cons_append, cpow_6, cpow_18, cpow_5, cpow_7, cpow_15, cpow_12, CMul, Nat.reduceAdd, Nat.reduceLeDiff, Nat.reduceLT, Int.reducePow, Int.reduceNeg, Int.reduceLT, Int.reduceLE, Int.reduceToNat, Int.reduceMul, Int.reduceAdd, Int.reduceSub, frzE, frz1, wipeE, all_nil, all_cons, endsF, x_start, List.map_cons, List.map_nil, List.replicate_succ, List.replicate_zero, Nat.reduceSub, Int.reduceEq, Nat.reduceEqDiff, List.mem_cons, List.not_mem_nil, x_isTs, or_self, Option.isSome_some, Option.isSome_none, String.reduceEq, dS_inj, dR_inj, dQ_inj, dQ_non, dQ_int, dS_md, dR_md, dQ_md, dS_flat, dR_flat, dQ_flat, dS_items, dR_items, List.getElem?_map, Option.map_some, Option.map_none, shp_i, shp_n, shp_b, shp_li, shp_S, shp_R, shp_lS, shp_Q, shp_l0, eqb_int, eqb_l, eqb_S, eqb_R, eqbs_ints, eqbs_dS, eqbs_nil0, eqbs_nilL, eqbs_nilR, Sl.own.injEq, Sl.val.injEq, List.length_map, dR_lst, dR_tup, dS_lst, dS_tup, flats_S, cut_map, cut_1, dR_fold, dS_fold, inI_t, inI_f, Bool.or_false, List.getLast?_map, exists_false, exists_const, Bool.and_self, Bool.and_true, Bool.true_and, Bool.and_false, Bool.false_and, add_S, List.isEmpty_map, fMax_2, fMax_3, fMin_2, flat_non, flat_i, ↓u_for, ↓u_comp, fS_v, fS_n, fS_o, shp_lli, eqbs_dL, ↓eSortSet, int_inj, fList_S, fList_R, sum_S, sum_li, x_is_between, x_is_sample, x_is_samples, x_distance, x_need_samples, x_need_threshold, x_need_silence]
theorem w_is_late (ds : List D) (q : D → Prop) (h : c_is_late ds q) : t_is_late (endsF true q) (startE 3 ds) := by
  obtain ⟨l, i, s, rfl, h⟩ := h
  simp only [x_start, List.map_cons, List.map_nil, List.length_cons, List.length_nil, List.replicate_succ, List.replicate_zero, List.cons_append, List.nil_append, Nat.reduceSub, Nat.reduceAdd]
  cases s with
  | none =>
    simp only [t_is_late, dQ, ↓sSeq, ↓sRet, ↓sIf, ↓sSet, ↓sOwn, ↓sAsg, ↓sDrop, ↓sNext, ↓sBreak, ↓sNever, ↓sFrz, ↓sApp, ↓sSetIx, ↓sSrc, ↓sPar, ↓sPar3, ↓sAug, ↓sNewSrc, ↓eC, ↓eTest, ↓eAnd, ↓eOr, ↓eNot, ↓eAndV, ↓eOrV, ↓eNotV, ↓eIf, ↓eChain, ↓eNeg, ↓eIx, ↓eIxS, ↓eSl, ↓oNone, ↓oSome, ↓aNil, ↓aCons, ↓eTup, ↓eLst, ↓eTupM, ↓eLstM, ↓eCB, ↓eBin, ↓x_call, ↓x_callK, ↓eSrc, ↓iSeqD, ↓iRg1, ↓iRg2, ↓iRg3, ↓iEnumD, ↓iZipD, ↓gNm, ↓gTp, ↓gsC, ↓gsN, ↓eYes, x_var0, x_var0o, x_varS, fAdd_ii, fAdd_ll, fAdd_tt, fAdd_ss, fMul_ii, fMul_li, fMul_ti, fSub_ii, fDiv_ii, fMod_ii, fPow_ii, fLt_ii, fLe_ii, fGt_ii, fGe_ii, ↓fEq, ↓fNe, ↓fIsN, ↓fNotN, x_lenL, x_lenT, x_lenS, x_lenR, x_lenC, fAbs_i, fInt_i, fInt_b, x_isi, List.set_cons_zero, List.set_cons_succ, List.getElem?_cons_zero, List.getElem?_cons_succ, items_l, items_t, okSt, mdOf, md_i, md_b, md_n, md_s, md_t, md_l, md_y, Md.isCl, Md.isNw, Md.meet, atI_0, atI_m1, atI_1, atI_2, atI_nat, cond_true, cond_false, isNon_i, isNon_n, isT_ii, isT_ib, isT_it, isT_il, isT_bi, isT_bb, isT_tt, isT_ti, isT_lt, isT_ll, isT_nt, isT_ni, isT_nl, tyN_i, tyN_b, tyN_t, tyN_l, tyN_n, dS_isT, dR_isT, dS_tyN, dR_tyN, dQ_isNon, D.flat, D.flats, flats_cons, flats_nil, flats_ints, flat_tup, putOk, slOf_f, slOf_t, Option.some.injEq, D.int.injEq, D.bl.injEq, D.lst.injEq, D.tup.injEq, D.str.injEq, D.scr.injEq, D.ty.injEq, x_consD, x_consD0, x_consD1, and_assoc, reduceCtorEq, exists_eq, exists_eq', exists_eq_left, exists_eq_left', exists_eq_right, exists_eq_right', exists_and_left, exists_and_right, and_true, true_and, and_self, and_false, false_and, or_true, true_or, or_false, false_or, if_true, if_false, ite_true, ite_false, decide_eq_true_eq, decide_eq_false_iff_not, Bool.not_eq_true, Bool.not_eq_true', Bool.not_true, Bool.not_false, Bool.true_eq_false, Bool.false_eq_true, not_true_eq_false, not_false_eq_true, eq_self_iff_true, forall_const, imp_self, List.length_cons, List.length_nil, List.append_nil, List.nil_append, List.cons_append, cpow_6, cpow_18, cpow_5, cpow_7, cpow_15, cpow_12, CMul, Nat.reduceAdd, Nat.reduceLeDiff, Nat.reduceLT, Int.reducePow, Int.reduceNeg, Int.reduceLT, Int.reduceLE, Int.reduceToNat, Int.reduceMul, Int.reduceAdd, Int.reduceSub, frzE, frz1, wipeE, all_nil, all_cons, endsF, x_start, List.map_cons, List.map_nil, List.replicate_succ, List.replicate_zero, Nat.reduceSub, Int.reduceEq, Nat.reduceEqDiff, List.mem_cons, List.not_mem_nil, x_isTs, or_self, Option.isSome_some, Option.isSome_none, String.reduceEq, dS_inj, dR_inj, dQ_inj, dQ_non, dQ_int, dS_md, dR_md, dQ_md, dS_flat, dR_flat, dQ_flat, dS_items, dR_items, List.getElem?_map, Option.map_some, Option.map_none, shp_i, shp_n, shp_b, shp_li, shp_S, shp_R, shp_lS, shp_Q, shp_l0, eqb_int, eqb_l, eqb_S, eqb_R, eqbs_ints, eqbs_dS, eqbs_nil0, eqbs_nilL, eqbs_nilR, Sl.own.injEq, Sl.val.injEq, List.length_map, dR_lst, dR_tup, dS_lst, dS_tup, flats_S, cut_map, cut_1, dR_fold, dS_fold, inI_t, inI_f, Bool.or_false, List.getLast?_map, exists_false, exists_const, Bool.and_self, Bool.and_true, Bool.true_and, Bool.and_false, Bool.false_and, add_S, List.isEmpty_map, fMax_2, fMax_3, fMin_2, flat_non, flat_i, ↓u_for, ↓u_comp, fS_v, fS_n, fS_o, shp_lli, eqbs_dL, ↓eSortSet, int_inj, fList_S, fList_R, sum_S, sum_li, x_is_between, x_is_sample, x_is_samples, x_distance, x_need_samples, x_need_threshold, x_need_silence, x_is_late]
    exact h
  | some k =>
    simp only [t_is_late, dQ, ↓sSeq, ↓sRet, ↓sIf, ↓sSet, ↓sOwn, ↓sAsg, ↓sDrop, ↓sNext, ↓sBreak, ↓sNever, ↓sFrz, ↓sApp, ↓sSetIx, ↓sSrc, ↓sPar, ↓sPar3, ↓sAug, ↓sNewSrc, ↓eC, ↓eTest, ↓eAnd, ↓eOr, ↓eNot, ↓eAndV, ↓eOrV, ↓eNotV, ↓eIf, ↓eChain, ↓eNeg, ↓eIx, ↓eIxS, ↓eSl, ↓oNone, ↓oSome, ↓aNil, ↓aCons, ↓eTup, ↓eLst, ↓eTupM, ↓eLstM, ↓eCB, ↓eBin, ↓x_call, ↓x_callK, ↓eSrc, ↓iSeqD, ↓iRg1, ↓iRg2, ↓iRg3, ↓iEnumD, ↓iZipD, ↓gNm, ↓gTp, ↓gsC, ↓gsN, ↓eYes, x_var0, x_var0o, x_varS, fAdd_ii, fAdd_ll, fAdd_tt, fAdd_ss, fMul_ii, fMul_li, fMul_ti, fSub_ii, fDiv_ii, fMod_ii, fPow_ii, fLt_ii, fLe_ii, fGt_ii, fGe_ii, ↓fEq, ↓fNe, ↓fIsN, ↓fNotN, x_lenL, x_lenT, x_lenS, x_lenR, x_lenC, fAbs_i, fInt_i, fInt_b, x_isi, List.set_cons_zero, List.set_cons_succ, List.getElem?_cons_zero, List.getElem?_cons_succ, items_l, items_t, okSt, mdOf, md_i, md_b, md_n, md_s, md_t, md_l, md_y, Md.isCl, Md.isNw, Md.meet, atI_0, atI_m1, atI_1, atI_2, atI_nat, cond_true, cond_false, isNon_i, isNon_n, isT_ii, isT_ib, isT_it, isT_il, isT_bi, isT_bb, isT_tt, isT_ti, isT_lt, isT_ll, isT_nt, isT_ni, isT_nl, tyN_i, tyN_b, tyN_t, tyN_l, tyN_n, dS_isT, dR_isT, dS_tyN, dR_tyN, dQ_isNon, D.flat, D.flats, flats_cons, flats_nil, flats_ints, flat_tup, putOk, slOf_f, slOf_t, Option.some.injEq, D.int.injEq, D.bl.injEq, D.lst.injEq, D.tup.injEq, D.str.injEq, D.scr.injEq, D.ty.injEq, x_consD, x_consD0, x_consD1, and_assoc, reduceCtorEq, exists_eq, exists_eq', exists_eq_left, exists_eq_left', exists_eq_right, exists_eq_right', exists_and_left, exists_and_right, and_true, true_and, and_self, and_false, false_and, or_true, true_or, or_false, false_or, if_true, if_false, ite_true, ite_false, decide_eq_true_eq, decide_eq_false_iff_not, Bool.not_eq_true, Bool.not_eq_true', Bool.not_true, Bool.not_false, Bool.true_eq_false, Bool.false_eq_true, not_true_eq_false, not_false_eq_true, eq_self_iff_true, forall_const, imp_self, List.length_cons, List.length_nil, List.append_nil, List.nil_append, List.cons_append, cpow_6, cpow_18, cpow_5, cpow_7, cpow_15, cpow_12, CMul, Nat.reduceAdd, Nat.reduceLeDiff, Nat.reduceLT, Int.reducePow, Int.reduceNeg, Int.reduceLT, Int.reduceLE, Int.reduceToNat, Int.reduceMul, Int.reduceAdd, Int.reduceSub, frzE, frz1, wipeE, all_nil, all_cons, endsF, x_start, List.map_cons, List.map_nil, List.replicate_succ, List.replicate_zero, Nat.reduceSub, Int.reduceEq, Nat.reduceEqDiff, List.mem_cons, List.not_mem_nil, x_isTs, or_self, Option.isSome_some, Option.isSome_none, String.reduceEq, dS_inj, dR_inj, dQ_inj, dQ_non, dQ_int, dS_md, dR_md, dQ_md, dS_flat, dR_flat, dQ_flat, dS_items, dR_items, List.getElem?_map, Option.map_some, Option.map_none, shp_i, shp_n, shp_b, shp_li, shp_S, shp_R, shp_lS, shp_Q, shp_l0, eqb_int, eqb_l, eqb_S, eqb_R, eqbs_ints, eqbs_dS, eqbs_nil0, eqbs_nilL, eqbs_nilR, Sl.own.injEq, Sl.val.injEq, List.length_map, dR_lst, dR_tup, dS_lst, dS_tup, flats_S, cut_map, cut_1, dR_fold, dS_fold, inI_t, inI_f, Bool.or_false, List.getLast?_map, exists_false, exists_const, Bool.and_self, Bool.and_true, Bool.true_and, Bool.and_false, Bool.false_and, add_S, List.isEmpty_map, fMax_2, fMax_3, fMin_2, flat_non, flat_i, ↓u_for, ↓u_comp, fS_v, fS_n, fS_o, shp_lli, eqbs_dL, ↓eSortSet, int_inj, fList_S, fList_R, sum_S, sum_li, x_is_between, x_is_sample, x_is_samples, x_distance, x_need_samples, x_need_threshold, x_need_silence, x_is_late]
    exact h
end VL
/-! VC0: what the law's own drawing defs do. -/
namespace VL
open PySem L2
def t__law_source : S1 := (sSeq (sSet 2 (eC (.int 0))) (sSeq (sIf (eTest (eBin fLt (eVar 1) (eCB fLen (aCons (eVar 0) aNil)))) (sSet 2 (eCB fAbs (aCons (eIxS (eVar 0) (eVar 1)) aNil))) sNext) (sSeq (sIf (eTest (eBin fLt (eVar 2) (eBin fPow (eC (.int 10)) (eC (.int 18))))) (sRet (eLst (aCons (eC (.int 0)) (aCons (eBin fAdd (eC (.int 1)) (eBin fMod (eCB fInt (aCons (eBin fAdd (eBin fMul (eVar 2) (eC (.int 7919))) (eBin fMul (eC (.int 104729)) (eVar 1))) aNil)) (eC (.int 2147483646)))) aNil)))) sNext) (sRet (eLst (aCons (eVar 2) (aCons (eBin fAdd (eC (.int 1)) (eBin fMod (eCB fInt (aCons (eBin fAdd (eVar 2) (eVar 1)) aNil)) (eC (.int 2147483646)))) aNil)))))))
def c__law_source : C1 := fun ds q => ∃ (ns : List Int) (k : Int), ds = [.scr ns, .int k] ∧ 0 ≤ k ∧ ∀ a b : Int, Sm b → q (.lst [.int a, .int b])
theorem m__law_source : MonoC c__law_source := fun ds q q' k ⟨ns, i, e, h1, h⟩ => ⟨ns, i, e, h1, fun a b s => k _ (h a b s)⟩
theorem x_source {ns : List Int} {k : Int} {q : D → Prop} : callC c__law_source [.scr ns, .int k] q = (0 ≤ k ∧ ∀ a b : Int, Sm b → q (.lst [.int a, .int b])) := by
  simp only [callC, c__law_source, ↓sSeq, ↓sRet, ↓sIf, ↓sSet, ↓sOwn, ↓sAsg, ↓sDrop, ↓sNext, ↓sBreak, ↓sNever, ↓sFrz, ↓sApp, ↓sSetIx, ↓sSrc, ↓sPar, ↓sPar3, ↓sAug, ↓sNewSrc, ↓eC, ↓eTest, ↓eAnd, ↓eOr, ↓eNot, ↓eAndV, ↓eOrV, ↓eNotV, ↓eIf, ↓eChain, ↓eNeg, ↓eIx, ↓eIxS, ↓eSl, ↓oNone, ↓oSome, ↓aNil, ↓aCons, ↓eTup, ↓eLst, ↓eTupM, ↓eLstM, ↓eCB, ↓eBin, ↓x_call, ↓x_callK, ↓eSrc, ↓iSeqD, ↓iRg1, ↓iRg2, ↓iRg3, ↓iEnumD, ↓iZipD, ↓gNm, ↓gTp, ↓gsC, ↓gsN, ↓eYes, x_var0, x_var0o, x_varS, fAdd_ii, fAdd_ll, fAdd_tt, fAdd_ss, fMul_ii, fMul_li, fMul_ti, fSub_ii, fDiv_ii, fMod_ii, fPow_ii, fLt_ii, fLe_ii, fGt_ii, fGe_ii, ↓fEq, ↓fNe, ↓fIsN, ↓fNotN, x_lenL, x_lenT, x_lenS, x_lenR, x_lenC, fAbs_i, fInt_i, fInt_b, x_isi, List.set_cons_zero, List.set_cons_succ, List.getElem?_cons_zero, List.getElem?_cons_succ, items_l, items_t, okSt, mdOf, md_i, md_b, md_n, md_s, md_t, md_l, md_y, Md.isCl, Md.isNw, Md.meet, atI_0, atI_m1, atI_1, atI_2, atI_nat, cond_true, cond_false, isNon_i, isNon_n, isT_ii, isT_ib, isT_it, isT_il, isT_bi, isT_bb, isT_tt, isT_ti, isT_lt, isT_ll, isT_nt, isT_ni, isT_nl, tyN_i, tyN_b, tyN_t, tyN_l, tyN_n, dS_isT, dR_isT, dS_tyN, dR_tyN, dQ_isNon, D.flat, D.flats, flats_cons, flats_nil, flats_ints, flat_tup, putOk, slOf_f, slOf_t, Option.some.injEq, D.int.injEq, D.bl.injEq, D.lst.injEq, D.tup.injEq, D.str.injEq, D.scr.injEq, D.ty.injEq, x_consD, x_consD0, x_consD1, and_assoc, reduceCtorEq, exists_eq, exists_eq', exists_eq_left, exists_eq_left', exists_eq_right, exists_eq_right', exists_and_left, exists_and_right, and_true, true_and, and_self, and_false, false_and, or_true, true_or, or_false, false_or, if_true, if_false, ite_true, ite_false, decide_eq_true_eq, decide_eq_false_iff_not, Bool.not_eq_true, Bool.not_eq_true', Bool.not_true, Bool.not_false, Bool.true_eq_false, Bool.false_eq_true, not_true_eq_false, not_false_eq_true, eq_self_iff_true, forall_const, imp_self, List.length_cons, List.length_nil, List.append_nil, List.nil_append, List.cons_append, cpow_6, cpow_18, cpow_5, cpow_7, cpow_15, cpow_12, CMul, Nat.reduceAdd, Nat.reduceLeDiff, Nat.reduceLT, Int.reducePow, Int.reduceNeg, Int.reduceLT, Int.reduceLE, Int.reduceToNat, Int.reduceMul, Int.reduceAdd, Int.reduceSub, frzE, frz1, wipeE, all_nil, all_cons, endsF, x_start, List.map_cons, List.map_nil, List.replicate_succ, List.replicate_zero, Nat.reduceSub, Int.reduceEq, Nat.reduceEqDiff, List.mem_cons, List.not_mem_nil, x_isTs, or_self, Option.isSome_some, Option.isSome_none, String.reduceEq, dS_inj, dR_inj, dQ_inj, dQ_non, dQ_int, dS_md, dR_md, dQ_md, dS_flat, dR_flat, dQ_flat, dS_items, dR_items, List.getElem?_map, Option.map_some, Option.map_none, shp_i, shp_n, shp_b, shp_li, shp_S, shp_R, shp_lS, shp_Q, shp_l0, eqb_int, eqb_l, eqb_S, eqb_R, eqbs_ints, eqbs_dS, eqbs_nil0, eqbs_nilL, eqbs_nilR, Sl.own.injEq, Sl.val.injEq, List.length_map, dR_lst, dR_tup, dS_lst, dS_tup, flats_S, cut_map, cut_1, dR_fold, dS_fold, inI_t, inI_f, Bool.or_false, List.getLast?_map, exists_false, exists_const, Bool.and_self, Bool.and_true, Bool.true_and, Bool.and_false, Bool.false_and, add_S, List.isEmpty_map, fMax_2, fMax_3, fMin_2, flat_non, flat_i, ↓u_for, ↓u_comp, fS_v, fS_n, fS_o, shp_lli, eqbs_dL, ↓eSortSet, int_inj, fList_S, fList_R, sum_S, sum_li, x_is_between, x_is_sample, x_is_samples, x_distance, x_need_samples, x_need_threshold, x_need_silence, x_is_late]
theorem w__law_source (ds : List D) (q : D → Prop) (h : c__law_source ds q) : t__law_source (endsF true q) (startE 3 ds) := by
  obtain ⟨ns, k, rfl, hk, h⟩ := h
  have sm : ∀ x : Int, Sm (1 + x % 2147483646) := fun x => by
    have := Int.emod_nonneg x (b := 2147483646) (by decide)
    have := Int.emod_lt_of_pos x (b := 2147483646) (by decide)
    exact ⟨by omega, by omega⟩
  simp only [x_start, List.map_cons, List.map_nil, List.length_cons, List.length_nil, List.replicate_succ, List.replicate_zero, List.cons_append, List.nil_append, Nat.reduceSub, Nat.reduceAdd]
  simp only [t__law_source, ↓sSeq, ↓sRet, ↓sIf, ↓sSet, ↓sOwn, ↓sAsg, ↓sDrop, ↓sNext, ↓sBreak, ↓sNever, ↓sFrz, ↓sApp, ↓sSetIx, ↓sSrc, ↓sPar, ↓sPar3, ↓sAug, ↓sNewSrc, ↓eC, ↓eTest, ↓eAnd, ↓eOr, ↓eNot, ↓eAndV, ↓eOrV, ↓eNotV, ↓eIf, ↓eChain, ↓eNeg, ↓eIx, ↓eIxS, ↓eSl, ↓oNone, ↓oSome, ↓aNil, ↓aCons, ↓eTup, ↓eLst, ↓eTupM, ↓eLstM, ↓eCB, ↓eBin, ↓x_call, ↓x_callK, ↓eSrc, ↓iSeqD, ↓iRg1, ↓iRg2, ↓iRg3, ↓iEnumD, ↓iZipD, ↓gNm, ↓gTp, ↓gsC, ↓gsN, ↓eYes, x_var0, x_var0o, x_varS, fAdd_ii, fAdd_ll, fAdd_tt, fAdd_ss, fMul_ii, fMul_li, fMul_ti, fSub_ii, fDiv_ii, fMod_ii, fPow_ii, fLt_ii, fLe_ii, fGt_ii, fGe_ii, ↓fEq, ↓fNe, ↓fIsN, ↓fNotN, x_lenL, x_lenT, x_lenS, x_lenR, x_lenC, fAbs_i, fInt_i, fInt_b, x_isi, List.set_cons_zero, List.set_cons_succ, List.getElem?_cons_zero, List.getElem?_cons_succ, items_l, items_t, okSt, mdOf, md_i, md_b, md_n, md_s, md_t, md_l, md_y, Md.isCl, Md.isNw, Md.meet, atI_0, atI_m1, atI_1, atI_2, atI_nat, cond_true, cond_false, isNon_i, isNon_n, isT_ii, isT_ib, isT_it, isT_il, isT_bi, isT_bb, isT_tt, isT_ti, isT_lt, isT_ll, isT_nt, isT_ni, isT_nl, tyN_i, tyN_b, tyN_t, tyN_l, tyN_n, dS_isT, dR_isT, dS_tyN, dR_tyN, dQ_isNon, D.flat, D.flats, flats_cons, flats_nil, flats_ints, flat_tup, putOk, slOf_f, slOf_t, Option.some.injEq, D.int.injEq, D.bl.injEq, D.lst.injEq, D.tup.injEq, D.str.injEq, D.scr.injEq, D.ty.injEq, x_consD, x_consD0, x_consD1, and_assoc, reduceCtorEq, exists_eq, exists_eq', exists_eq_left, exists_eq_left', exists_eq_right, exists_eq_right', exists_and_left, exists_and_right, and_true, true_and, and_self, and_false, false_and, or_true, true_or, or_false, false_or, if_true, if_false, ite_true, ite_false, decide_eq_true_eq, decide_eq_false_iff_not, Bool.not_eq_true, Bool.not_eq_true', Bool.not_true, Bool.not_false, Bool.true_eq_false, Bool.false_eq_true, not_true_eq_false, not_false_eq_true, eq_self_iff_true, forall_const, imp_self, List.length_cons, List.length_nil, List.append_nil, List.nil_append, List.cons_append, cpow_6, cpow_18, cpow_5, cpow_7, cpow_15, cpow_12, CMul, Nat.reduceAdd, Nat.reduceLeDiff, Nat.reduceLT, Int.reducePow, Int.reduceNeg, Int.reduceLT, Int.reduceLE, Int.reduceToNat, Int.reduceMul, Int.reduceAdd, Int.reduceSub, frzE, frz1, wipeE, all_nil, all_cons, endsF, x_start, List.map_cons, List.map_nil, List.replicate_succ, List.replicate_zero, Nat.reduceSub, Int.reduceEq, Nat.reduceEqDiff, List.mem_cons, List.not_mem_nil, x_isTs, or_self, Option.isSome_some, Option.isSome_none, String.reduceEq, dS_inj, dR_inj, dQ_inj, dQ_non, dQ_int, dS_md, dR_md, dQ_md, dS_flat, dR_flat, dQ_flat, dS_items, dR_items, List.getElem?_map, Option.map_some, Option.map_none, shp_i, shp_n, shp_b, shp_li, shp_S, shp_R, shp_lS, shp_Q, shp_l0, eqb_int, eqb_l, eqb_S, eqb_R, eqbs_ints, eqbs_dS, eqbs_nil0, eqbs_nilL, eqbs_nilR, Sl.own.injEq, Sl.val.injEq, List.length_map, dR_lst, dR_tup, dS_lst, dS_tup, flats_S, cut_map, cut_1, dR_fold, dS_fold, inI_t, inI_f, Bool.or_false, List.getLast?_map, exists_false, exists_const, Bool.and_self, Bool.and_true, Bool.true_and, Bool.and_false, Bool.false_and, add_S, List.isEmpty_map, fMax_2, fMax_3, fMin_2, flat_non, flat_i, ↓u_for, ↓u_comp, fS_v, fS_n, fS_o, shp_lli, eqbs_dL, ↓eSortSet, int_inj, fList_S, fList_R, sum_S, sum_li, x_is_between, x_is_sample, x_is_samples, x_distance, x_need_samples, x_need_threshold, x_need_silence, x_is_late, x_source]
  split
  · rename_i hl
    obtain ⟨n, hn⟩ : ∃ n, atI ns k = some n := ⟨_, by rw [atI_of hk hl]; exact List.getElem?_eq_getElem (by omega)⟩
    refine ⟨n, hn, ?_⟩
    generalize (n.natAbs : Int) = m
    split <;> exact h _ _ (sm _)
  · exact h _ _ (sm _)
def t__law_draw : S1 := (sSeq (sIf (eTest (eBin fGt (eSrc 0 (eC (.int 0))) (eC (.int 0)))) (sSeq (sSet 2 (eBin fMod (eCB fInt (aCons (eSrc 0 (eC (.int 0))) aNil)) (eVar 1))) (sSeq (sSrc 0 (eBin fDiv (eSrc 0 (eC (.int 0))) (eVar 1)) (eC (.int 0))) (sRet (eVar 2)))) sNext) (sSeq (sSrc 0 (eBin fMod (eCB fInt (aCons (eBin fMul (eSrc 0 (eC (.int 1))) (eC (.int 48271))) aNil)) (eC (.int 2147483647))) (eC (.int 1))) (sRet (eBin fMod (eCB fInt (aCons (eBin fDiv (eBin fMod (eCB fInt (aCons (eBin fMul (eSrc 0 (eC (.int 1))) (eSrc 0 (eC (.int 1)))) aNil)) (eC (.int 2147483629))) (eC (.int 64))) aNil)) (eVar 1)))))
def c__law_draw : C1 := fun ds q => ∃ n : Int, ds = [.src, .int n] ∧ (0 < n ∧ n < 18446744073709551616) ∧ ∀ k, 0 ≤ k ∧ k < n → q (.int k)
theorem m__law_draw : MonoC c__law_draw := fun ds q q' k ⟨n, e, h1, h⟩ => ⟨n, e, h1, fun a s => k _ (h a s)⟩
theorem x_draw {n : Int} {q : D → Prop} : callC c__law_draw [.src, .int n] q = ((0 < n ∧ n < 18446744073709551616) ∧ ∀ k, 0 ≤ k ∧ k < n → q (.int k)) := by
  simp only [callC, c__law_draw, ↓sSeq, ↓sRet, ↓sIf, ↓sSet, ↓sOwn, ↓sAsg, ↓sDrop, ↓sNext, ↓sBreak, ↓sNever, ↓sFrz, ↓sApp, ↓sSetIx, ↓sSrc, ↓sPar, ↓sPar3, ↓sAug, ↓sNewSrc, ↓eC, ↓eTest, ↓eAnd, ↓eOr, ↓eNot, ↓eAndV, ↓eOrV, ↓eNotV, ↓eIf, ↓eChain, ↓eNeg, ↓eIx, ↓eIxS, ↓eSl, ↓oNone, ↓oSome, ↓aNil, ↓aCons, ↓eTup, ↓eLst, ↓eTupM, ↓eLstM, ↓eCB, ↓eBin, ↓x_call, ↓x_callK, ↓eSrc, ↓iSeqD, ↓iRg1, ↓iRg2, ↓iRg3, ↓iEnumD, ↓iZipD, ↓gNm, ↓gTp, ↓gsC, ↓gsN, ↓eYes, x_var0, x_var0o, x_varS, fAdd_ii, fAdd_ll, fAdd_tt, fAdd_ss, fMul_ii, fMul_li, fMul_ti, fSub_ii, fDiv_ii, fMod_ii, fPow_ii, fLt_ii, fLe_ii, fGt_ii, fGe_ii, ↓fEq, ↓fNe, ↓fIsN, ↓fNotN, x_lenL, x_lenT, x_lenS, x_lenR, x_lenC, fAbs_i, fInt_i, fInt_b, x_isi, List.set_cons_zero, List.set_cons_succ, List.getElem?_cons_zero, List.getElem?_cons_succ, items_l, items_t, okSt, mdOf, md_i, md_b, md_n, md_s, md_t, md_l, md_y, Md.isCl, Md.isNw, Md.meet, atI_0, atI_m1, atI_1, atI_2, atI_nat, cond_true, cond_false, isNon_i, isNon_n, isT_ii, isT_ib, isT_it, isT_il, isT_bi, isT_bb, isT_tt, isT_ti, isT_lt, isT_ll, isT_nt, isT_ni, isT_nl, tyN_i, tyN_b, tyN_t, tyN_l, tyN_n, dS_isT, dR_isT, dS_tyN, dR_tyN, dQ_isNon, D.flat, D.flats, flats_cons, flats_nil, flats_ints, flat_tup, putOk, slOf_f, slOf_t, Option.some.injEq, D.int.injEq, D.bl.injEq, D.lst.injEq, D.tup.injEq, D.str.injEq, D.scr.injEq, D.ty.injEq, x_consD, x_consD0, x_consD1, and_assoc, reduceCtorEq, exists_eq, exists_eq', exists_eq_left, exists_eq_left', exists_eq_right, exists_eq_right', exists_and_left, exists_and_right, and_true, true_and, and_self, and_false, false_and, or_true, true_or, or_false, false_or, if_true, if_false, ite_true, ite_false, decide_eq_true_eq, decide_eq_false_iff_not, Bool.not_eq_true, Bool.not_eq_true', Bool.not_true, Bool.not_false, Bool.true_eq_false, Bool.false_eq_true, not_true_eq_false, not_false_eq_true, eq_self_iff_true, forall_const, imp_self, List.length_cons, List.length_nil, List.append_nil, List.nil_append, List.cons_append, cpow_6, cpow_18, cpow_5, cpow_7, cpow_15, cpow_12, CMul, Nat.reduceAdd, Nat.reduceLeDiff, Nat.reduceLT, Int.reducePow, Int.reduceNeg, Int.reduceLT, Int.reduceLE, Int.reduceToNat, Int.reduceMul, Int.reduceAdd, Int.reduceSub, frzE, frz1, wipeE, all_nil, all_cons, endsF, x_start, List.map_cons, List.map_nil, List.replicate_succ, List.replicate_zero, Nat.reduceSub, Int.reduceEq, Nat.reduceEqDiff, List.mem_cons, List.not_mem_nil, x_isTs, or_self, Option.isSome_some, Option.isSome_none, String.reduceEq, dS_inj, dR_inj, dQ_inj, dQ_non, dQ_int, dS_md, dR_md, dQ_md, dS_flat, dR_flat, dQ_flat, dS_items, dR_items, List.getElem?_map, Option.map_some, Option.map_none, shp_i, shp_n, shp_b, shp_li, shp_S, shp_R, shp_lS, shp_Q, shp_l0, eqb_int, eqb_l, eqb_S, eqb_R, eqbs_ints, eqbs_dS, eqbs_nil0, eqbs_nilL, eqbs_nilR, Sl.own.injEq, Sl.val.injEq, List.length_map, dR_lst, dR_tup, dS_lst, dS_tup, flats_S, cut_map, cut_1, dR_fold, dS_fold, inI_t, inI_f, Bool.or_false, List.getLast?_map, exists_false, exists_const, Bool.and_self, Bool.and_true, Bool.true_and, Bool.and_false, Bool.false_and, add_S, List.isEmpty_map, fMax_2, fMax_3, fMin_2, flat_non, flat_i, ↓u_for, ↓u_comp, fS_v, fS_n, fS_o, shp_lli, eqbs_dL, ↓eSortSet, int_inj, fList_S, fList_R, sum_S, sum_li, x_is_between, x_is_sample, x_is_samples, x_distance, x_need_samples, x_need_threshold, x_need_silence, x_is_late, x_source]
theorem w__law_draw (ds : List D) (q : D → Prop) (h : c__law_draw ds q) : t__law_draw (endsF true q) (startE 3 ds) := by
  obtain ⟨n, rfl, ⟨h0, h1⟩, h⟩ := h
  have fin : ∀ x : Int, q (.int (x % n)) := fun x => h _ ⟨Int.emod_nonneg x (by omega), Int.emod_lt_of_pos x h0⟩
  have sm : ∀ x : Int, Sm (x % 2147483647) := fun x => by
    have := Int.emod_nonneg x (b := 2147483647) (by decide)
    have := Int.emod_lt_of_pos x (b := 2147483647) (by decide)
    exact ⟨by omega, by omega⟩
  simp only [x_start, List.map_cons, List.map_nil, List.length_cons, List.length_nil, List.replicate_succ, List.replicate_zero, List.cons_append, List.nil_append, Nat.reduceSub, Nat.reduceAdd]
  simp only [t__law_draw, ↓sSeq, ↓sRet, ↓sIf, ↓sSet, ↓sOwn, ↓sAsg, ↓sDrop, ↓sNext, ↓sBreak, ↓sNever, ↓sFrz, ↓sApp, ↓sSetIx, ↓sSrc, ↓sPar, ↓sPar3, ↓sAug, ↓sNewSrc, ↓eC, ↓eTest, ↓eAnd, ↓eOr, ↓eNot, ↓eAndV, ↓eOrV, ↓eNotV, ↓eIf, ↓eChain, ↓eNeg, ↓eIx, ↓eIxS, ↓eSl, ↓oNone, ↓oSome, ↓aNil, ↓aCons, ↓eTup, ↓eLst, ↓eTupM, ↓eLstM, ↓eCB, ↓eBin, ↓x_call, ↓x_callK, ↓eSrc, ↓iSeqD, ↓iRg1, ↓iRg2, ↓iRg3, ↓iEnumD, ↓iZipD, ↓gNm, ↓gTp, ↓gsC, ↓gsN, ↓eYes, x_var0, x_var0o, x_varS, fAdd_ii, fAdd_ll, fAdd_tt, fAdd_ss, fMul_ii, fMul_li, fMul_ti, fSub_ii, fDiv_ii, fMod_ii, fPow_ii, fLt_ii, fLe_ii, fGt_ii, fGe_ii, ↓fEq, ↓fNe, ↓fIsN, ↓fNotN, x_lenL, x_lenT, x_lenS, x_lenR, x_lenC, fAbs_i, fInt_i, fInt_b, x_isi, List.set_cons_zero, List.set_cons_succ, List.getElem?_cons_zero, List.getElem?_cons_succ, items_l, items_t, okSt, mdOf, md_i, md_b, md_n, md_s, md_t, md_l, md_y, Md.isCl, Md.isNw, Md.meet, atI_0, atI_m1, atI_1, atI_2, atI_nat, cond_true, cond_false, isNon_i, isNon_n, isT_ii, isT_ib, isT_it, isT_il, isT_bi, isT_bb, isT_tt, isT_ti, isT_lt, isT_ll, isT_nt, isT_ni, isT_nl, tyN_i, tyN_b, tyN_t, tyN_l, tyN_n, dS_isT, dR_isT, dS_tyN, dR_tyN, dQ_isNon, D.flat, D.flats, flats_cons, flats_nil, flats_ints, flat_tup, putOk, slOf_f, slOf_t, Option.some.injEq, D.int.injEq, D.bl.injEq, D.lst.injEq, D.tup.injEq, D.str.injEq, D.scr.injEq, D.ty.injEq, x_consD, x_consD0, x_consD1, and_assoc, reduceCtorEq, exists_eq, exists_eq', exists_eq_left, exists_eq_left', exists_eq_right, exists_eq_right', exists_and_left, exists_and_right, and_true, true_and, and_self, and_false, false_and, or_true, true_or, or_false, false_or, if_true, if_false, ite_true, ite_false, decide_eq_true_eq, decide_eq_false_iff_not, Bool.not_eq_true, Bool.not_eq_true', Bool.not_true, Bool.not_false, Bool.true_eq_false, Bool.false_eq_true, not_true_eq_false, not_false_eq_true, eq_self_iff_true, forall_const, imp_self, List.length_cons, List.length_nil, List.append_nil, List.nil_append, List.cons_append, cpow_6, cpow_18, cpow_5, cpow_7, cpow_15, cpow_12, CMul, Nat.reduceAdd, Nat.reduceLeDiff, Nat.reduceLT, Int.reducePow, Int.reduceNeg, Int.reduceLT, Int.reduceLE, Int.reduceToNat, Int.reduceMul, Int.reduceAdd, Int.reduceSub, frzE, frz1, wipeE, all_nil, all_cons, endsF, x_start, List.map_cons, List.map_nil, List.replicate_succ, List.replicate_zero, Nat.reduceSub, Int.reduceEq, Nat.reduceEqDiff, List.mem_cons, List.not_mem_nil, x_isTs, or_self, Option.isSome_some, Option.isSome_none, String.reduceEq, dS_inj, dR_inj, dQ_inj, dQ_non, dQ_int, dS_md, dR_md, dQ_md, dS_flat, dR_flat, dQ_flat, dS_items, dR_items, List.getElem?_map, Option.map_some, Option.map_none, shp_i, shp_n, shp_b, shp_li, shp_S, shp_R, shp_lS, shp_Q, shp_l0, eqb_int, eqb_l, eqb_S, eqb_R, eqbs_ints, eqbs_dS, eqbs_nil0, eqbs_nilL, eqbs_nilR, Sl.own.injEq, Sl.val.injEq, List.length_map, dR_lst, dR_tup, dS_lst, dS_tup, flats_S, cut_map, cut_1, dR_fold, dS_fold, inI_t, inI_f, Bool.or_false, List.getLast?_map, exists_false, exists_const, Bool.and_self, Bool.and_true, Bool.true_and, Bool.and_false, Bool.false_and, add_S, List.isEmpty_map, fMax_2, fMax_3, fMin_2, flat_non, flat_i, ↓u_for, ↓u_comp, fS_v, fS_n, fS_o, shp_lli, eqbs_dL, ↓eSortSet, int_inj, fList_S, fList_R, sum_S, sum_li, x_is_between, x_is_sample, x_is_samples, x_distance, x_need_samples, x_need_threshold, x_need_silence, x_is_late, x_source, x_draw]
  intro a
  split
  · exact fun b => ⟨h0, h0, h1, fin _⟩
  · exact fun b hb => ⟨sm _, fun c hc d hd => ⟨.inl hc, h0, fin _⟩⟩
def t__law_choice : S1 := (sRet (eIx (eVar 1) (eCall true [] c__law_draw (aCons (eVar 0) (aCons (eCB fLen (aCons (eVar 1) aNil)) aNil)))))
def c__law_choice : C1 := fun ds q => ∃ x L, ds = [.src, x] ∧ x.items = some L ∧ (0 < L.length ∧ L.length ≤ 1000) ∧ D.flats L = true ∧ ∀ d ∈ L, q d
theorem m__law_choice : MonoC c__law_choice := fun ds q q' k ⟨x, L, e, h1, h2, h3, h⟩ => ⟨x, L, e, h1, h2, h3, fun d hd => k _ (h d hd)⟩
theorem w__law_choice (ds : List D) (q : D → Prop) (h : c__law_choice ds q) : t__law_choice (endsF true q) (startE 2 ds) := by
  obtain ⟨x, L, rfl, hx, ⟨h0, h1⟩, hf, h⟩ := h
  have hlen : ∀ q' : D → Prop, q' (.int L.length) → fLen [x] q' := fun q' hq => by
    cases x with
    | lst l => cases hx; exact hq
    | tup l => cases hx; exact hq
    | _ => cases hx
  simp only [x_start, List.map_cons, List.map_nil, List.length_cons, List.length_nil, List.replicate_succ, List.replicate_zero, List.cons_append, List.nil_append, Nat.reduceSub, Nat.reduceAdd]
  simp only [t__law_choice, ↓sSeq, ↓sRet, ↓sIf, ↓sSet, ↓sOwn, ↓sAsg, ↓sDrop, ↓sNext, ↓sBreak, ↓sNever, ↓sFrz, ↓sApp, ↓sSetIx, ↓sSrc, ↓sPar, ↓sPar3, ↓sAug, ↓sNewSrc, ↓eC, ↓eTest, ↓eAnd, ↓eOr, ↓eNot, ↓eAndV, ↓eOrV, ↓eNotV, ↓eIf, ↓eChain, ↓eNeg, ↓eIx, ↓eIxS, ↓eSl, ↓oNone, ↓oSome, ↓aNil, ↓aCons, ↓eTup, ↓eLst, ↓eTupM, ↓eLstM, ↓eCB, ↓eBin, ↓x_call, ↓x_callK, ↓eSrc, ↓iSeqD, ↓iRg1, ↓iRg2, ↓iRg3, ↓iEnumD, ↓iZipD, ↓gNm, ↓gTp, ↓gsC, ↓gsN, ↓eYes, x_var0, x_var0o, x_varS, fAdd_ii, fAdd_ll, fAdd_tt, fAdd_ss, fMul_ii, fMul_li, fMul_ti, fSub_ii, fDiv_ii, fMod_ii, fPow_ii, fLt_ii, fLe_ii, fGt_ii, fGe_ii, ↓fEq, ↓fNe, ↓fIsN, ↓fNotN, x_lenL, x_lenT, x_lenS, x_lenR, x_lenC, fAbs_i, fInt_i, fInt_b, x_isi, List.set_cons_zero, List.set_cons_succ, List.getElem?_cons_zero, List.getElem?_cons_succ, items_l, items_t, okSt, mdOf, md_i, md_b, md_n, md_s, md_t, md_l, md_y, Md.isCl, Md.isNw, Md.meet, atI_0, atI_m1, atI_1, atI_2, atI_nat, cond_true, cond_false, isNon_i, isNon_n, isT_ii, isT_ib, isT_it, isT_il, isT_bi, isT_bb, isT_tt, isT_ti, isT_lt, isT_ll, isT_nt, isT_ni, isT_nl, tyN_i, tyN_b, tyN_t, tyN_l, tyN_n, dS_isT, dR_isT, dS_tyN, dR_tyN, dQ_isNon, D.flat, D.flats, flats_cons, flats_nil, flats_ints, flat_tup, putOk, slOf_f, slOf_t, Option.some.injEq, D.int.injEq, D.bl.injEq, D.lst.injEq, D.tup.injEq, D.str.injEq, D.scr.injEq, D.ty.injEq, x_consD, x_consD0, x_consD1, and_assoc, reduceCtorEq, exists_eq, exists_eq', exists_eq_left, exists_eq_left', exists_eq_right, exists_eq_right', exists_and_left, exists_and_right, and_true, true_and, and_self, and_false, false_and, or_true, true_or, or_false, false_or, if_true, if_false, ite_true, ite_false, decide_eq_true_eq, decide_eq_false_iff_not, Bool.not_eq_true, Bool.not_eq_true', Bool.not_true, Bool.not_false, Bool.true_eq_false, Bool.false_eq_true, not_true_eq_false, not_false_eq_true, eq_self_iff_true, forall_const, imp_self, List.length_cons, List.length_nil, List.append_nil, List.nil_append, List.cons_append, cpow_6, cpow_18, cpow_5, cpow_7, cpow_15, cpow_12, CMul, Nat.reduceAdd, Nat.reduceLeDiff, Nat.reduceLT, Int.reducePow, Int.reduceNeg, Int.reduceLT, Int.reduceLE, Int.reduceToNat, Int.reduceMul, Int.reduceAdd, Int.reduceSub, frzE, frz1, wipeE, all_nil, all_cons, endsF, x_start, List.map_cons, List.map_nil, List.replicate_succ, List.replicate_zero, Nat.reduceSub, Int.reduceEq, Nat.reduceEqDiff, List.mem_cons, List.not_mem_nil, x_isTs, or_self, Option.isSome_some, Option.isSome_none, String.reduceEq, dS_inj, dR_inj, dQ_inj, dQ_non, dQ_int, dS_md, dR_md, dQ_md, dS_flat, dR_flat, dQ_flat, dS_items, dR_items, List.getElem?_map, Option.map_some, Option.map_none, shp_i, shp_n, shp_b, shp_li, shp_S, shp_R, shp_lS, shp_Q, shp_l0, eqb_int, eqb_l, eqb_S, eqb_R, eqbs_ints, eqbs_dS, eqbs_nil0, eqbs_nilL, eqbs_nilR, Sl.own.injEq, Sl.val.injEq, List.length_map, dR_lst, dR_tup, dS_lst, dS_tup, flats_S, cut_map, cut_1, dR_fold, dS_fold, inI_t, inI_f, Bool.or_false, List.getLast?_map, exists_false, exists_const, Bool.and_self, Bool.and_true, Bool.true_and, Bool.and_false, Bool.false_and, add_S, List.isEmpty_map, fMax_2, fMax_3, fMin_2, flat_non, flat_i, ↓u_for, ↓u_comp, fS_v, fS_n, fS_o, shp_lli, eqbs_dL, ↓eSortSet, int_inj, fList_S, fList_R, sum_S, sum_li, x_is_between, x_is_sample, x_is_samples, x_distance, x_need_samples, x_need_threshold, x_need_silence, x_is_late, x_source, x_draw]
  refine hlen _ ?_
  simp only [x_draw]
  refine ⟨⟨by omega, by omega⟩, fun k hk => ?_⟩
  obtain ⟨d, hd⟩ : ∃ d, atI L k = some d := ⟨_, by rw [atI_of hk.1 hk.2]; exact List.getElem?_eq_getElem (by omega)⟩
  have hm : d ∈ L := by
    rw [atI_of hk.1 hk.2] at hd
    exact List.mem_of_getElem? hd
  exact ⟨L, hx, k, rfl, d, hd, .inr (flats_mem hf hm), h d hm⟩
theorem choice_row {rs : List Row} {q : D → Prop} (h0 : 0 < rs.length) (h1 : rs.length ≤ 1000) (h : ∀ r ∈ rs, q (dS r)) : callC c__law_choice [.src, dR rs] q :=
  ⟨dR rs, rs.map dS, rfl, rfl, by rw [List.length_map]; exact ⟨h0, h1⟩, flats_S, fun d hd => by obtain ⟨r, hr, rfl⟩ := List.mem_map.mp hd; exact h r hr⟩
theorem choice_int {ns : List Int} {q : D → Prop} (P : Int → Prop) (h : ∀ k, P k → q (.int k)) (h0 : 0 < ns.length ∧ ns.length ≤ 1000 := by decide) (h1 : ∀ k ∈ ns, P k := by decide) : callC c__law_choice [.src, .lst (ns.map .int)] q :=
  ⟨_, ns.map .int, rfl, rfl, by rw [List.length_map]; exact h0, flats_ints ns, fun d hd => by obtain ⟨r, hr, rfl⟩ := List.mem_map.mp hd; exact h r (h1 r hr)⟩
theorem choice_q {ns : List (Option Int)} {q : D → Prop} (h0 : 0 < ns.length ∧ ns.length ≤ 1000) (h : ∀ k ∈ ns, q (dQ k)) : callC c__law_choice [.src, .lst (ns.map dQ)] q :=
  ⟨_, ns.map dQ, rfl, rfl, by rw [List.length_map]; exact h0, flats_of fun d hd => by obtain ⟨r, hr, rfl⟩ := List.mem_map.mp hd; exact dQ_flat, fun d hd => by obtain ⟨r, hr, rfl⟩ := List.mem_map.mp hd; exact h r hr⟩
end VL
/-! VC3: the law's samples, gap, limit, quiet. -/
namespace VL
open PySem L2
def t__law_samples : S1 := (sSeq (sSet 2 (eCall true [] c__law_choice (aCons (eVar 0) (aCons (eLst (aCons (eC (.int 2)) (aCons (eC (.int 5)) (aCons (eC (.int 12)) (aCons (eC (.int 12)) (aCons (eC (.int 60)) (aCons (eBin fPow (eC (.int 10)) (eC (.int 6))) aNil))))))) aNil)))) (sSeq (sPar false true 3 4 (eCall true [] c__law_choice (aCons (eVar 0) (aCons (eLst (aCons (eC (.int 1)) (aCons (eC (.int 1)) (aCons (eC (.int 1)) (aCons (eC (.int 2)) (aCons (eC (.int 3)) aNil)))))) aNil))) (eLst aNil)) (sSeq (sFor false [5, 6, 7, 8] (iRg1 (aCons (eBin fAdd (eC (.int 1)) (eCall true [] c__law_draw (aCons (eVar 0) (aCons (eVar 1) aNil)))) aNil)) (gNm 5) (sSeq (sSet 6 (eTup aNil)) (sSeq (sFor false [7, 8] (iRg1 (aCons (eVar 3) aNil)) (gNm 7) (sSeq (sSet 8 (eBin fSub (eCall true [] c__law_draw (aCons (eVar 0) (aCons (eBin fAdd (eBin fMul (eC (.int 2)) (eVar 2)) (eC (.int 1))) aNil))) (eVar 2))) (sSeq (sIf (eAnd (eTest (eBin fNe (eVar 4) (eLst aNil))) (eTest (eBin fEq (eCall true [] c__law_draw (aCons (eVar 0) (aCons (eC (.int 2)) aNil))) (eC (.int 0))))) (sSet 8 (eBin fSub (eBin fAdd (eIx (eIx (eVar 4) (eNeg (eC (.int 1)))) (eVar 7)) (eCall true [] c__law_draw (aCons (eVar 0) (aCons (eC (.int 7)) aNil)))) (eC (.int 3)))) sNext) (sSet 6 (eBin fAdd (eVar 6) (eTup (aCons (eCB fMax (aCons (eNeg (eBin fPow (eC (.int 10)) (eC (.int 6)))) (aCons (eCB fMin (aCons (eBin fPow (eC (.int 10)) (eC (.int 6))) (aCons (eVar 8) aNil))) aNil))) aNil))))))) (sApp 4 (eVar 6))))) (sRet (eCB fTuple (aCons (eVar 4) aNil))))))
def c__law_samples : C1 := fun ds q => ∃ n : Int, ds = [.src, .int n] ∧ (1 ≤ n ∧ n ≤ 40) ∧ ∀ rs : List Row, OkR rs → (rs.length : Int) ≤ n → q (dR rs)
theorem m__law_samples : MonoC c__law_samples := fun ds q q' k ⟨n, e, h1, h⟩ => ⟨n, e, h1, fun a s l => k _ (h a s l)⟩
theorem x_samples {n : Int} {q : D → Prop} : callC c__law_samples [.src, .int n] q = ((1 ≤ n ∧ n ≤ 40) ∧ ∀ rs : List Row, OkR rs → (rs.length : Int) ≤ n → q (dR rs)) := by
  simp only [callC, c__law_samples, ↓sSeq, ↓sRet, ↓sIf, ↓sSet, ↓sOwn, ↓sAsg, ↓sDrop, ↓sNext, ↓sBreak, ↓sNever, ↓sFrz, ↓sApp, ↓sSetIx, ↓sSrc, ↓sPar, ↓sPar3, ↓sAug, ↓sNewSrc, ↓eC, ↓eTest, ↓eAnd, ↓eOr, ↓eNot, ↓eAndV, ↓eOrV, ↓eNotV, ↓eIf, ↓eChain, ↓eNeg, ↓eIx, ↓eIxS, ↓eSl, ↓oNone, ↓oSome, ↓aNil, ↓aCons, ↓eTup, ↓eLst, ↓eTupM, ↓eLstM, ↓eCB, ↓eBin, ↓x_call, ↓x_callK, ↓eSrc, ↓iSeqD, ↓iRg1, ↓iRg2, ↓iRg3, ↓iEnumD, ↓iZipD, ↓gNm, ↓gTp, ↓gsC, ↓gsN, ↓eYes, x_var0, x_var0o, x_varS, fAdd_ii, fAdd_ll, fAdd_tt, fAdd_ss, fMul_ii, fMul_li, fMul_ti, fSub_ii, fDiv_ii, fMod_ii, fPow_ii, fLt_ii, fLe_ii, fGt_ii, fGe_ii, ↓fEq, ↓fNe, ↓fIsN, ↓fNotN, x_lenL, x_lenT, x_lenS, x_lenR, x_lenC, fAbs_i, fInt_i, fInt_b, x_isi, List.set_cons_zero, List.set_cons_succ, List.getElem?_cons_zero, List.getElem?_cons_succ, items_l, items_t, okSt, mdOf, md_i, md_b, md_n, md_s, md_t, md_l, md_y, Md.isCl, Md.isNw, Md.meet, atI_0, atI_m1, atI_1, atI_2, atI_nat, cond_true, cond_false, isNon_i, isNon_n, isT_ii, isT_ib, isT_it, isT_il, isT_bi, isT_bb, isT_tt, isT_ti, isT_lt, isT_ll, isT_nt, isT_ni, isT_nl, tyN_i, tyN_b, tyN_t, tyN_l, tyN_n, dS_isT, dR_isT, dS_tyN, dR_tyN, dQ_isNon, D.flat, D.flats, flats_cons, flats_nil, flats_ints, flat_tup, putOk, slOf_f, slOf_t, Option.some.injEq, D.int.injEq, D.bl.injEq, D.lst.injEq, D.tup.injEq, D.str.injEq, D.scr.injEq, D.ty.injEq, x_consD, x_consD0, x_consD1, and_assoc, reduceCtorEq, exists_eq, exists_eq', exists_eq_left, exists_eq_left', exists_eq_right, exists_eq_right', exists_and_left, exists_and_right, and_true, true_and, and_self, and_false, false_and, or_true, true_or, or_false, false_or, if_true, if_false, ite_true, ite_false, decide_eq_true_eq, decide_eq_false_iff_not, Bool.not_eq_true, Bool.not_eq_true', Bool.not_true, Bool.not_false, Bool.true_eq_false, Bool.false_eq_true, not_true_eq_false, not_false_eq_true, eq_self_iff_true, forall_const, imp_self, List.length_cons, List.length_nil, List.append_nil, List.nil_append, List.cons_append, cpow_6, cpow_18, cpow_5, cpow_7, cpow_15, cpow_12, CMul, Nat.reduceAdd, Nat.reduceLeDiff, Nat.reduceLT, Int.reducePow, Int.reduceNeg, Int.reduceLT, Int.reduceLE, Int.reduceToNat, Int.reduceMul, Int.reduceAdd, Int.reduceSub, frzE, frz1, wipeE, all_nil, all_cons, endsF, x_start, List.map_cons, List.map_nil, List.replicate_succ, List.replicate_zero, Nat.reduceSub, Int.reduceEq, Nat.reduceEqDiff, List.mem_cons, List.not_mem_nil, x_isTs, or_self, Option.isSome_some, Option.isSome_none, String.reduceEq, dS_inj, dR_inj, dQ_inj, dQ_non, dQ_int, dS_md, dR_md, dQ_md, dS_flat, dR_flat, dQ_flat, dS_items, dR_items, List.getElem?_map, Option.map_some, Option.map_none, shp_i, shp_n, shp_b, shp_li, shp_S, shp_R, shp_lS, shp_Q, shp_l0, eqb_int, eqb_l, eqb_S, eqb_R, eqbs_ints, eqbs_dS, eqbs_nil0, eqbs_nilL, eqbs_nilR, Sl.own.injEq, Sl.val.injEq, List.length_map, dR_lst, dR_tup, dS_lst, dS_tup, flats_S, cut_map, cut_1, dR_fold, dS_fold, inI_t, inI_f, Bool.or_false, List.getLast?_map, exists_false, exists_const, Bool.and_self, Bool.and_true, Bool.true_and, Bool.and_false, Bool.false_and, add_S, List.isEmpty_map, fMax_2, fMax_3, fMin_2, flat_non, flat_i, ↓u_for, ↓u_comp, fS_v, fS_n, fS_o, shp_lli, eqbs_dL, ↓eSortSet, int_inj, fList_S, fList_R, sum_S, sum_li, x_is_between, x_is_sample, x_is_samples, x_distance, x_need_samples, x_need_threshold, x_need_silence, x_is_late, x_source, x_draw]
theorem tuple_R {rs : List Row} {q : D → Prop} (h : q (dR rs)) : fTuple [.lst (rs.map dS)] q := ⟨_, rs.map dS, rfl, rfl, flats_S, h⟩
theorem tuple_I {is : List Int} {q : D → Prop} (h : q (dS is)) : fTuple [.lst (is.map .int)] q := ⟨_, is.map .int, rfl, rfl, flats_ints _, h⟩
theorem add_R {v : Row} {rs : List Row} {q : D → Prop} : fAdd (.tup [dS v]) (dR rs) q = (rs.length + 1 ≤ 100000 ∧ q (dR (v :: rs))) := by
  unfold dR
  simp [fAdd, flats_S, flats_cons, flats_nil, dS_flat, Nat.add_comm]
theorem clamp_ok (v : Int) : -1000000 ≤ max (-1000000) (min 1000000 v) ∧ max (-1000000) (min 1000000 v) ≤ 1000000 := by omega
theorem w__law_samples (ds : List D) (q : D → Prop) (h : c__law_samples ds q) : t__law_samples (endsF true q) (startE 9 ds) := by
  obtain ⟨n, rfl, ⟨h0, h1⟩, h⟩ := h
  simp only [x_start, List.map_cons, List.map_nil, List.length_cons, List.length_nil, List.replicate_succ, List.replicate_zero, List.cons_append, List.nil_append, Nat.reduceSub, Nat.reduceAdd]
  simp only [t__law_samples, ↓sSeq, ↓sRet, ↓sIf, ↓sSet, ↓sOwn, ↓sAsg, ↓sDrop, ↓sNext, ↓sBreak, ↓sNever, ↓sFrz, ↓sApp, ↓sSetIx, ↓sSrc, ↓sPar, ↓sPar3, ↓sAug, ↓sNewSrc, ↓eC, ↓eTest, ↓eAnd, ↓eOr, ↓eNot, ↓eAndV, ↓eOrV, ↓eNotV, ↓eIf, ↓eChain, ↓eNeg, ↓eIx, ↓eIxS, ↓eSl, ↓oNone, ↓oSome, ↓aNil, ↓aCons, ↓eTup, ↓eLst, ↓eTupM, ↓eLstM, ↓eCB, ↓eBin, ↓x_call, ↓x_callK, ↓eSrc, ↓iSeqD, ↓iRg1, ↓iRg2, ↓iRg3, ↓iEnumD, ↓iZipD, ↓gNm, ↓gTp, ↓gsC, ↓gsN, ↓eYes, x_var0, x_var0o, x_varS, fAdd_ii, fAdd_ll, fAdd_tt, fAdd_ss, fMul_ii, fMul_li, fMul_ti, fSub_ii, fDiv_ii, fMod_ii, fPow_ii, fLt_ii, fLe_ii, fGt_ii, fGe_ii, ↓fEq, ↓fNe, ↓fIsN, ↓fNotN, x_lenL, x_lenT, x_lenS, x_lenR, x_lenC, fAbs_i, fInt_i, fInt_b, x_isi, List.set_cons_zero, List.set_cons_succ, List.getElem?_cons_zero, List.getElem?_cons_succ, items_l, items_t, okSt, mdOf, md_i, md_b, md_n, md_s, md_t, md_l, md_y, Md.isCl, Md.isNw, Md.meet, atI_0, atI_m1, atI_1, atI_2, atI_nat, cond_true, cond_false, isNon_i, isNon_n, isT_ii, isT_ib, isT_it, isT_il, isT_bi, isT_bb, isT_tt, isT_ti, isT_lt, isT_ll, isT_nt, isT_ni, isT_nl, tyN_i, tyN_b, tyN_t, tyN_l, tyN_n, dS_isT, dR_isT, dS_tyN, dR_tyN, dQ_isNon, D.flat, D.flats, flats_cons, flats_nil, flats_ints, flat_tup, putOk, slOf_f, slOf_t, Option.some.injEq, D.int.injEq, D.bl.injEq, D.lst.injEq, D.tup.injEq, D.str.injEq, D.scr.injEq, D.ty.injEq, x_consD, x_consD0, x_consD1, and_assoc, reduceCtorEq, exists_eq, exists_eq', exists_eq_left, exists_eq_left', exists_eq_right, exists_eq_right', exists_and_left, exists_and_right, and_true, true_and, and_self, and_false, false_and, or_true, true_or, or_false, false_or, if_true, if_false, ite_true, ite_false, decide_eq_true_eq, decide_eq_false_iff_not, Bool.not_eq_true, Bool.not_eq_true', Bool.not_true, Bool.not_false, Bool.true_eq_false, Bool.false_eq_true, not_true_eq_false, not_false_eq_true, eq_self_iff_true, forall_const, imp_self, List.length_cons, List.length_nil, List.append_nil, List.nil_append, List.cons_append, cpow_6, cpow_18, cpow_5, cpow_7, cpow_15, cpow_12, CMul, Nat.reduceAdd, Nat.reduceLeDiff, Nat.reduceLT, Int.reducePow, Int.reduceNeg, Int.reduceLT, Int.reduceLE, Int.reduceToNat, Int.reduceMul, Int.reduceAdd, Int.reduceSub, frzE, frz1, wipeE, all_nil, all_cons, endsF, x_start, List.map_cons, List.map_nil, List.replicate_succ, List.replicate_zero, Nat.reduceSub, Int.reduceEq, Nat.reduceEqDiff, List.mem_cons, List.not_mem_nil, x_isTs, or_self, Option.isSome_some, Option.isSome_none, String.reduceEq, dS_inj, dR_inj, dQ_inj, dQ_non, dQ_int, dS_md, dR_md, dQ_md, dS_flat, dR_flat, dQ_flat, dS_items, dR_items, List.getElem?_map, Option.map_some, Option.map_none, shp_i, shp_n, shp_b, shp_li, shp_S, shp_R, shp_lS, shp_Q, shp_l0, eqb_int, eqb_l, eqb_S, eqb_R, eqbs_ints, eqbs_dS, eqbs_nil0, eqbs_nilL, eqbs_nilR, Sl.own.injEq, Sl.val.injEq, List.length_map, dR_lst, dR_tup, dS_lst, dS_tup, flats_S, cut_map, cut_1, dR_fold, dS_fold, inI_t, inI_f, Bool.or_false, List.getLast?_map, exists_false, exists_const, Bool.and_self, Bool.and_true, Bool.true_and, Bool.and_false, Bool.false_and, add_S, List.isEmpty_map, fMax_2, fMax_3, fMin_2, flat_non, flat_i, ↓u_for, ↓u_comp, fS_v, fS_n, fS_o, shp_lli, eqbs_dL, ↓eSortSet, int_inj, fList_S, fList_R, sum_S, sum_li, x_is_between, x_is_sample, x_is_samples, x_distance, x_need_samples, x_need_threshold, x_need_silence, x_is_late, x_source, x_draw, x_samples]
  refine choice_int (ns := [2, 5, 12, 12, 60, 1000000]) (fun k => 0 < k ∧ k ≤ 1000000) fun wide hw => ?_
  try simp only [↓sSeq, ↓sRet, ↓sIf, ↓sSet, ↓sOwn, ↓sAsg, ↓sDrop, ↓sNext, ↓sBreak, ↓sNever, ↓sFrz, ↓sApp, ↓sSetIx, ↓sSrc, ↓sPar, ↓sPar3, ↓sAug, ↓sNewSrc, ↓eC, ↓eTest, ↓eAnd, ↓eOr, ↓eNot, ↓eAndV, ↓eOrV, ↓eNotV, ↓eIf, ↓eChain, ↓eNeg, ↓eIx, ↓eIxS, ↓eSl, ↓oNone, ↓oSome, ↓aNil, ↓aCons, ↓eTup, ↓eLst, ↓eTupM, ↓eLstM, ↓eCB, ↓eBin, ↓x_call, ↓x_callK, ↓eSrc, ↓iSeqD, ↓iRg1, ↓iRg2, ↓iRg3, ↓iEnumD, ↓iZipD, ↓gNm, ↓gTp, ↓gsC, ↓gsN, ↓eYes, x_var0, x_var0o, x_varS, fAdd_ii, fAdd_ll, fAdd_tt, fAdd_ss, fMul_ii, fMul_li, fMul_ti, fSub_ii, fDiv_ii, fMod_ii, fPow_ii, fLt_ii, fLe_ii, fGt_ii, fGe_ii, ↓fEq, ↓fNe, ↓fIsN, ↓fNotN, x_lenL, x_lenT, x_lenS, x_lenR, x_lenC, fAbs_i, fInt_i, fInt_b, x_isi, List.set_cons_zero, List.set_cons_succ, List.getElem?_cons_zero, List.getElem?_cons_succ, items_l, items_t, okSt, mdOf, md_i, md_b, md_n, md_s, md_t, md_l, md_y, Md.isCl, Md.isNw, Md.meet, atI_0, atI_m1, atI_1, atI_2, atI_nat, cond_true, cond_false, isNon_i, isNon_n, isT_ii, isT_ib, isT_it, isT_il, isT_bi, isT_bb, isT_tt, isT_ti, isT_lt, isT_ll, isT_nt, isT_ni, isT_nl, tyN_i, tyN_b, tyN_t, tyN_l, tyN_n, dS_isT, dR_isT, dS_tyN, dR_tyN, dQ_isNon, D.flat, D.flats, flats_cons, flats_nil, flats_ints, flat_tup, putOk, slOf_f, slOf_t, Option.some.injEq, D.int.injEq, D.bl.injEq, D.lst.injEq, D.tup.injEq, D.str.injEq, D.scr.injEq, D.ty.injEq, x_consD, x_consD0, x_consD1, and_assoc, reduceCtorEq, exists_eq, exists_eq', exists_eq_left, exists_eq_left', exists_eq_right, exists_eq_right', exists_and_left, exists_and_right, and_true, true_and, and_self, and_false, false_and, or_true, true_or, or_false, false_or, if_true, if_false, ite_true, ite_false, decide_eq_true_eq, decide_eq_false_iff_not, Bool.not_eq_true, Bool.not_eq_true', Bool.not_true, Bool.not_false, Bool.true_eq_false, Bool.false_eq_true, not_true_eq_false, not_false_eq_true, eq_self_iff_true, forall_const, imp_self, List.length_cons, List.length_nil, List.append_nil, List.nil_append, List.cons_append, cpow_6, cpow_18, cpow_5, cpow_7, cpow_15, cpow_12, CMul, Nat.reduceAdd, Nat.reduceLeDiff, Nat.reduceLT, Int.reducePow, Int.reduceNeg, Int.reduceLT, Int.reduceLE, Int.reduceToNat, Int.reduceMul, Int.reduceAdd, Int.reduceSub, frzE, frz1, wipeE, all_nil, all_cons, endsF, x_start, List.map_cons, List.map_nil, List.replicate_succ, List.replicate_zero, Nat.reduceSub, Int.reduceEq, Nat.reduceEqDiff, List.mem_cons, List.not_mem_nil, x_isTs, or_self, Option.isSome_some, Option.isSome_none, String.reduceEq, dS_inj, dR_inj, dQ_inj, dQ_non, dQ_int, dS_md, dR_md, dQ_md, dS_flat, dR_flat, dQ_flat, dS_items, dR_items, List.getElem?_map, Option.map_some, Option.map_none, shp_i, shp_n, shp_b, shp_li, shp_S, shp_R, shp_lS, shp_Q, shp_l0, eqb_int, eqb_l, eqb_S, eqb_R, eqbs_ints, eqbs_dS, eqbs_nil0, eqbs_nilL, eqbs_nilR, Sl.own.injEq, Sl.val.injEq, List.length_map, dR_lst, dR_tup, dS_lst, dS_tup, flats_S, cut_map, cut_1, dR_fold, dS_fold, inI_t, inI_f, Bool.or_false, List.getLast?_map, exists_false, exists_const, Bool.and_self, Bool.and_true, Bool.true_and, Bool.and_false, Bool.false_and, add_S, List.isEmpty_map, fMax_2, fMax_3, fMin_2, flat_non, flat_i, ↓u_for, ↓u_comp, fS_v, fS_n, fS_o, shp_lli, eqbs_dL, ↓eSortSet, int_inj, fList_S, fList_R, sum_S, sum_li, x_is_between, x_is_sample, x_is_samples, x_distance, x_need_samples, x_need_threshold, x_need_silence, x_is_late, x_source, x_draw, x_samples]
  refine choice_int (ns := [1, 1, 1, 2, 3]) (fun k => 1 ≤ k ∧ k ≤ 3) fun ch hc => ?_
  obtain ⟨c, rfl⟩ : ∃ c : Nat, ch = c := ⟨ch.toNat, by omega⟩
  try simp only [↓sSeq, ↓sRet, ↓sIf, ↓sSet, ↓sOwn, ↓sAsg, ↓sDrop, ↓sNext, ↓sBreak, ↓sNever, ↓sFrz, ↓sApp, ↓sSetIx, ↓sSrc, ↓sPar, ↓sPar3, ↓sAug, ↓sNewSrc, ↓eC, ↓eTest, ↓eAnd, ↓eOr, ↓eNot, ↓eAndV, ↓eOrV, ↓eNotV, ↓eIf, ↓eChain, ↓eNeg, ↓eIx, ↓eIxS, ↓eSl, ↓oNone, ↓oSome, ↓aNil, ↓aCons, ↓eTup, ↓eLst, ↓eTupM, ↓eLstM, ↓eCB, ↓eBin, ↓x_call, ↓x_callK, ↓eSrc, ↓iSeqD, ↓iRg1, ↓iRg2, ↓iRg3, ↓iEnumD, ↓iZipD, ↓gNm, ↓gTp, ↓gsC, ↓gsN, ↓eYes, x_var0, x_var0o, x_varS, fAdd_ii, fAdd_ll, fAdd_tt, fAdd_ss, fMul_ii, fMul_li, fMul_ti, fSub_ii, fDiv_ii, fMod_ii, fPow_ii, fLt_ii, fLe_ii, fGt_ii, fGe_ii, ↓fEq, ↓fNe, ↓fIsN, ↓fNotN, x_lenL, x_lenT, x_lenS, x_lenR, x_lenC, fAbs_i, fInt_i, fInt_b, x_isi, List.set_cons_zero, List.set_cons_succ, List.getElem?_cons_zero, List.getElem?_cons_succ, items_l, items_t, okSt, mdOf, md_i, md_b, md_n, md_s, md_t, md_l, md_y, Md.isCl, Md.isNw, Md.meet, atI_0, atI_m1, atI_1, atI_2, atI_nat, cond_true, cond_false, isNon_i, isNon_n, isT_ii, isT_ib, isT_it, isT_il, isT_bi, isT_bb, isT_tt, isT_ti, isT_lt, isT_ll, isT_nt, isT_ni, isT_nl, tyN_i, tyN_b, tyN_t, tyN_l, tyN_n, dS_isT, dR_isT, dS_tyN, dR_tyN, dQ_isNon, D.flat, D.flats, flats_cons, flats_nil, flats_ints, flat_tup, putOk, slOf_f, slOf_t, Option.some.injEq, D.int.injEq, D.bl.injEq, D.lst.injEq, D.tup.injEq, D.str.injEq, D.scr.injEq, D.ty.injEq, x_consD, x_consD0, x_consD1, and_assoc, reduceCtorEq, exists_eq, exists_eq', exists_eq_left, exists_eq_left', exists_eq_right, exists_eq_right', exists_and_left, exists_and_right, and_true, true_and, and_self, and_false, false_and, or_true, true_or, or_false, false_or, if_true, if_false, ite_true, ite_false, decide_eq_true_eq, decide_eq_false_iff_not, Bool.not_eq_true, Bool.not_eq_true', Bool.not_true, Bool.not_false, Bool.true_eq_false, Bool.false_eq_true, not_true_eq_false, not_false_eq_true, eq_self_iff_true, forall_const, imp_self, List.length_cons, List.length_nil, List.append_nil, List.nil_append, List.cons_append, cpow_6, cpow_18, cpow_5, cpow_7, cpow_15, cpow_12, CMul, Nat.reduceAdd, Nat.reduceLeDiff, Nat.reduceLT, Int.reducePow, Int.reduceNeg, Int.reduceLT, Int.reduceLE, Int.reduceToNat, Int.reduceMul, Int.reduceAdd, Int.reduceSub, frzE, frz1, wipeE, all_nil, all_cons, endsF, x_start, List.map_cons, List.map_nil, List.replicate_succ, List.replicate_zero, Nat.reduceSub, Int.reduceEq, Nat.reduceEqDiff, List.mem_cons, List.not_mem_nil, x_isTs, or_self, Option.isSome_some, Option.isSome_none, String.reduceEq, dS_inj, dR_inj, dQ_inj, dQ_non, dQ_int, dS_md, dR_md, dQ_md, dS_flat, dR_flat, dQ_flat, dS_items, dR_items, List.getElem?_map, Option.map_some, Option.map_none, shp_i, shp_n, shp_b, shp_li, shp_S, shp_R, shp_lS, shp_Q, shp_l0, eqb_int, eqb_l, eqb_S, eqb_R, eqbs_ints, eqbs_dS, eqbs_nil0, eqbs_nilL, eqbs_nilR, Sl.own.injEq, Sl.val.injEq, List.length_map, dR_lst, dR_tup, dS_lst, dS_tup, flats_S, cut_map, cut_1, dR_fold, dS_fold, inI_t, inI_f, Bool.or_false, List.getLast?_map, exists_false, exists_const, Bool.and_self, Bool.and_true, Bool.true_and, Bool.and_false, Bool.false_and, add_S, List.isEmpty_map, fMax_2, fMax_3, fMin_2, flat_non, flat_i, ↓u_for, ↓u_comp, fS_v, fS_n, fS_o, shp_lli, eqbs_dL, ↓eSortSet, int_inj, fList_S, fList_R, sum_S, sum_li, x_is_between, x_is_sample, x_is_samples, x_distance, x_need_samples, x_need_threshold, x_need_silence, x_is_late, x_source, x_draw, x_samples]
  refine ⟨by omega, by omega, fun k hk => ⟨by omega, by omega, ?_⟩⟩
  try simp only [↓sSeq, ↓sRet, ↓sIf, ↓sSet, ↓sOwn, ↓sAsg, ↓sDrop, ↓sNext, ↓sBreak, ↓sNever, ↓sFrz, ↓sApp, ↓sSetIx, ↓sSrc, ↓sPar, ↓sPar3, ↓sAug, ↓sNewSrc, ↓eC, ↓eTest, ↓eAnd, ↓eOr, ↓eNot, ↓eAndV, ↓eOrV, ↓eNotV, ↓eIf, ↓eChain, ↓eNeg, ↓eIx, ↓eIxS, ↓eSl, ↓oNone, ↓oSome, ↓aNil, ↓aCons, ↓eTup, ↓eLst, ↓eTupM, ↓eLstM, ↓eCB, ↓eBin, ↓x_call, ↓x_callK, ↓eSrc, ↓iSeqD, ↓iRg1, ↓iRg2, ↓iRg3, ↓iEnumD, ↓iZipD, ↓gNm, ↓gTp, ↓gsC, ↓gsN, ↓eYes, x_var0, x_var0o, x_varS, fAdd_ii, fAdd_ll, fAdd_tt, fAdd_ss, fMul_ii, fMul_li, fMul_ti, fSub_ii, fDiv_ii, fMod_ii, fPow_ii, fLt_ii, fLe_ii, fGt_ii, fGe_ii, ↓fEq, ↓fNe, ↓fIsN, ↓fNotN, x_lenL, x_lenT, x_lenS, x_lenR, x_lenC, fAbs_i, fInt_i, fInt_b, x_isi, List.set_cons_zero, List.set_cons_succ, List.getElem?_cons_zero, List.getElem?_cons_succ, items_l, items_t, okSt, mdOf, md_i, md_b, md_n, md_s, md_t, md_l, md_y, Md.isCl, Md.isNw, Md.meet, atI_0, atI_m1, atI_1, atI_2, atI_nat, cond_true, cond_false, isNon_i, isNon_n, isT_ii, isT_ib, isT_it, isT_il, isT_bi, isT_bb, isT_tt, isT_ti, isT_lt, isT_ll, isT_nt, isT_ni, isT_nl, tyN_i, tyN_b, tyN_t, tyN_l, tyN_n, dS_isT, dR_isT, dS_tyN, dR_tyN, dQ_isNon, D.flat, D.flats, flats_cons, flats_nil, flats_ints, flat_tup, putOk, slOf_f, slOf_t, Option.some.injEq, D.int.injEq, D.bl.injEq, D.lst.injEq, D.tup.injEq, D.str.injEq, D.scr.injEq, D.ty.injEq, x_consD, x_consD0, x_consD1, and_assoc, reduceCtorEq, exists_eq, exists_eq', exists_eq_left, exists_eq_left', exists_eq_right, exists_eq_right', exists_and_left, exists_and_right, and_true, true_and, and_self, and_false, false_and, or_true, true_or, or_false, false_or, if_true, if_false, ite_true, ite_false, decide_eq_true_eq, decide_eq_false_iff_not, Bool.not_eq_true, Bool.not_eq_true', Bool.not_true, Bool.not_false, Bool.true_eq_false, Bool.false_eq_true, not_true_eq_false, not_false_eq_true, eq_self_iff_true, forall_const, imp_self, List.length_cons, List.length_nil, List.append_nil, List.nil_append, List.cons_append, cpow_6, cpow_18, cpow_5, cpow_7, cpow_15, cpow_12, CMul, Nat.reduceAdd, Nat.reduceLeDiff, Nat.reduceLT, Int.reducePow, Int.reduceNeg, Int.reduceLT, Int.reduceLE, Int.reduceToNat, Int.reduceMul, Int.reduceAdd, Int.reduceSub, frzE, frz1, wipeE, all_nil, all_cons, endsF, x_start, List.map_cons, List.map_nil, List.replicate_succ, List.replicate_zero, Nat.reduceSub, Int.reduceEq, Nat.reduceEqDiff, List.mem_cons, List.not_mem_nil, x_isTs, or_self, Option.isSome_some, Option.isSome_none, String.reduceEq, dS_inj, dR_inj, dQ_inj, dQ_non, dQ_int, dS_md, dR_md, dQ_md, dS_flat, dR_flat, dQ_flat, dS_items, dR_items, List.getElem?_map, Option.map_some, Option.map_none, shp_i, shp_n, shp_b, shp_li, shp_S, shp_R, shp_lS, shp_Q, shp_l0, eqb_int, eqb_l, eqb_S, eqb_R, eqbs_ints, eqbs_dS, eqbs_nil0, eqbs_nilL, eqbs_nilR, Sl.own.injEq, Sl.val.injEq, List.length_map, dR_lst, dR_tup, dS_lst, dS_tup, flats_S, cut_map, cut_1, dR_fold, dS_fold, inI_t, inI_f, Bool.or_false, List.getLast?_map, exists_false, exists_const, Bool.and_self, Bool.and_true, Bool.true_and, Bool.and_false, Bool.false_and, add_S, List.isEmpty_map, fMax_2, fMax_3, fMin_2, flat_non, flat_i, ↓u_for, ↓u_comp, fS_v, fS_n, fS_o, shp_lli, eqbs_dL, ↓eSortSet, int_inj, fList_S, fList_R, sum_S, sum_li, x_is_between, x_is_sample, x_is_samples, x_distance, x_need_samples, x_need_threshold, x_need_silence, x_is_late, x_source, x_draw, x_samples]
  refine for_st (σ := List Row) (List.range (1 + k).toNat) (fun i => .int (i : Nat))
    (fun z => [.val .src, .val (.int n), .val (.int wide), .val (.int c), .own (z.map dS), .non, .non, .non, .non])
    (fun i z => z.length = i ∧ ∀ r ∈ z, OkS c r) [] rg0 rfl (fun z => nomatch z) rfl ⟨rfl, fun _ h => nomatch h⟩ ?_ ?_
  · rintro i m z hx ⟨hl, hz⟩ N hN
    obtain ⟨rfl, hi⟩ := get_range hx
    try simp only [↓sSeq, ↓sRet, ↓sIf, ↓sSet, ↓sOwn, ↓sAsg, ↓sDrop, ↓sNext, ↓sBreak, ↓sNever, ↓sFrz, ↓sApp, ↓sSetIx, ↓sSrc, ↓sPar, ↓sPar3, ↓sAug, ↓sNewSrc, ↓eC, ↓eTest, ↓eAnd, ↓eOr, ↓eNot, ↓eAndV, ↓eOrV, ↓eNotV, ↓eIf, ↓eChain, ↓eNeg, ↓eIx, ↓eIxS, ↓eSl, ↓oNone, ↓oSome, ↓aNil, ↓aCons, ↓eTup, ↓eLst, ↓eTupM, ↓eLstM, ↓eCB, ↓eBin, ↓x_call, ↓x_callK, ↓eSrc, ↓iSeqD, ↓iRg1, ↓iRg2, ↓iRg3, ↓iEnumD, ↓iZipD, ↓gNm, ↓gTp, ↓gsC, ↓gsN, ↓eYes, x_var0, x_var0o, x_varS, fAdd_ii, fAdd_ll, fAdd_tt, fAdd_ss, fMul_ii, fMul_li, fMul_ti, fSub_ii, fDiv_ii, fMod_ii, fPow_ii, fLt_ii, fLe_ii, fGt_ii, fGe_ii, ↓fEq, ↓fNe, ↓fIsN, ↓fNotN, x_lenL, x_lenT, x_lenS, x_lenR, x_lenC, fAbs_i, fInt_i, fInt_b, x_isi, List.set_cons_zero, List.set_cons_succ, List.getElem?_cons_zero, List.getElem?_cons_succ, items_l, items_t, okSt, mdOf, md_i, md_b, md_n, md_s, md_t, md_l, md_y, Md.isCl, Md.isNw, Md.meet, atI_0, atI_m1, atI_1, atI_2, atI_nat, cond_true, cond_false, isNon_i, isNon_n, isT_ii, isT_ib, isT_it, isT_il, isT_bi, isT_bb, isT_tt, isT_ti, isT_lt, isT_ll, isT_nt, isT_ni, isT_nl, tyN_i, tyN_b, tyN_t, tyN_l, tyN_n, dS_isT, dR_isT, dS_tyN, dR_tyN, dQ_isNon, D.flat, D.flats, flats_cons, flats_nil, flats_ints, flat_tup, putOk, slOf_f, slOf_t, Option.some.injEq, D.int.injEq, D.bl.injEq, D.lst.injEq, D.tup.injEq, D.str.injEq, D.scr.injEq, D.ty.injEq, x_consD, x_consD0, x_consD1, and_assoc, reduceCtorEq, exists_eq, exists_eq', exists_eq_left, exists_eq_left', exists_eq_right, exists_eq_right', exists_and_left, exists_and_right, and_true, true_and, and_self, and_false, false_and, or_true, true_or, or_false, false_or, if_true, if_false, ite_true, ite_false, decide_eq_true_eq, decide_eq_false_iff_not, Bool.not_eq_true, Bool.not_eq_true', Bool.not_true, Bool.not_false, Bool.true_eq_false, Bool.false_eq_true, not_true_eq_false, not_false_eq_true, eq_self_iff_true, forall_const, imp_self, List.length_cons, List.length_nil, List.append_nil, List.nil_append, List.cons_append, cpow_6, cpow_18, cpow_5, cpow_7, cpow_15, cpow_12, CMul, Nat.reduceAdd, Nat.reduceLeDiff, Nat.reduceLT, Int.reducePow, Int.reduceNeg, Int.reduceLT, Int.reduceLE, Int.reduceToNat, Int.reduceMul, Int.reduceAdd, Int.reduceSub, frzE, frz1, wipeE, all_nil, all_cons, endsF, x_start, List.map_cons, List.map_nil, List.replicate_succ, List.replicate_zero, Nat.reduceSub, Int.reduceEq, Nat.reduceEqDiff, List.mem_cons, List.not_mem_nil, x_isTs, or_self, Option.isSome_some, Option.isSome_none, String.reduceEq, dS_inj, dR_inj, dQ_inj, dQ_non, dQ_int, dS_md, dR_md, dQ_md, dS_flat, dR_flat, dQ_flat, dS_items, dR_items, List.getElem?_map, Option.map_some, Option.map_none, shp_i, shp_n, shp_b, shp_li, shp_S, shp_R, shp_lS, shp_Q, shp_l0, eqb_int, eqb_l, eqb_S, eqb_R, eqbs_ints, eqbs_dS, eqbs_nil0, eqbs_nilL, eqbs_nilR, Sl.own.injEq, Sl.val.injEq, List.length_map, dR_lst, dR_tup, dS_lst, dS_tup, flats_S, cut_map, cut_1, dR_fold, dS_fold, inI_t, inI_f, Bool.or_false, List.getLast?_map, exists_false, exists_const, Bool.and_self, Bool.and_true, Bool.true_and, Bool.and_false, Bool.false_and, add_S, List.isEmpty_map, fMax_2, fMax_3, fMin_2, flat_non, flat_i, ↓u_for, ↓u_comp, fS_v, fS_n, fS_o, shp_lli, eqbs_dL, ↓eSortSet, int_inj, fList_S, fList_R, sum_S, sum_li, x_is_between, x_is_sample, x_is_samples, x_distance, x_need_samples, x_need_threshold, x_need_silence, x_is_late, x_source, x_draw, x_samples]
    refine ⟨by omega, by omega, ?_⟩
    refine for_st (σ := Row) (List.range c) (fun i => .int (i : Nat))
      (fun s => [.val .src, .val (.int n), .val (.int wide), .val (.int c), .own (z.map dS), .val (.int (m : Nat)), .val (dS s), .non, .non])
      (fun i s => OkS i s) [] rg0 rfl (fun z => nomatch z) rfl ⟨rfl, (fun _ h => nomatch h), (fun _ h => nomatch h)⟩ ?_ ?_
    · rintro j j' s hx hs N2 hN2
      obtain ⟨rfl, hj⟩ := get_range hx
      have next : ∀ v : Int, OkS (j' + 1) (s ++ [max (-1000000) (min 1000000 v)]) := fun v => by
        have := clamp_ok v
        refine ⟨by rw [List.length_append, hs.len]; rfl, fun x hx => ?_, fun x hx => ?_⟩
        · rcases List.mem_append.mp hx with hx | hx
          · exact hs.lo x hx
          · rw [List.mem_singleton.mp hx]; exact this.1
        · rcases List.mem_append.mp hx with hx | hx
          · exact hs.hi x hx
          · rw [List.mem_singleton.mp hx]; exact this.2
      have hsl := hs.len
      cases hz0 : z.getLast? with
      | none =>
        have e : z = [] := List.getLast?_eq_none_iff.mp hz0
        subst e
        try simp only [↓sSeq, ↓sRet, ↓sIf, ↓sSet, ↓sOwn, ↓sAsg, ↓sDrop, ↓sNext, ↓sBreak, ↓sNever, ↓sFrz, ↓sApp, ↓sSetIx, ↓sSrc, ↓sPar, ↓sPar3, ↓sAug, ↓sNewSrc, ↓eC, ↓eTest, ↓eAnd, ↓eOr, ↓eNot, ↓eAndV, ↓eOrV, ↓eNotV, ↓eIf, ↓eChain, ↓eNeg, ↓eIx, ↓eIxS, ↓eSl, ↓oNone, ↓oSome, ↓aNil, ↓aCons, ↓eTup, ↓eLst, ↓eTupM, ↓eLstM, ↓eCB, ↓eBin, ↓x_call, ↓x_callK, ↓eSrc, ↓iSeqD, ↓iRg1, ↓iRg2, ↓iRg3, ↓iEnumD, ↓iZipD, ↓gNm, ↓gTp, ↓gsC, ↓gsN, ↓eYes, x_var0, x_var0o, x_varS, fAdd_ii, fAdd_ll, fAdd_tt, fAdd_ss, fMul_ii, fMul_li, fMul_ti, fSub_ii, fDiv_ii, fMod_ii, fPow_ii, fLt_ii, fLe_ii, fGt_ii, fGe_ii, ↓fEq, ↓fNe, ↓fIsN, ↓fNotN, x_lenL, x_lenT, x_lenS, x_lenR, x_lenC, fAbs_i, fInt_i, fInt_b, x_isi, List.set_cons_zero, List.set_cons_succ, List.getElem?_cons_zero, List.getElem?_cons_succ, items_l, items_t, okSt, mdOf, md_i, md_b, md_n, md_s, md_t, md_l, md_y, Md.isCl, Md.isNw, Md.meet, atI_0, atI_m1, atI_1, atI_2, atI_nat, cond_true, cond_false, isNon_i, isNon_n, isT_ii, isT_ib, isT_it, isT_il, isT_bi, isT_bb, isT_tt, isT_ti, isT_lt, isT_ll, isT_nt, isT_ni, isT_nl, tyN_i, tyN_b, tyN_t, tyN_l, tyN_n, dS_isT, dR_isT, dS_tyN, dR_tyN, dQ_isNon, D.flat, D.flats, flats_cons, flats_nil, flats_ints, flat_tup, putOk, slOf_f, slOf_t, Option.some.injEq, D.int.injEq, D.bl.injEq, D.lst.injEq, D.tup.injEq, D.str.injEq, D.scr.injEq, D.ty.injEq, x_consD, x_consD0, x_consD1, and_assoc, reduceCtorEq, exists_eq, exists_eq', exists_eq_left, exists_eq_left', exists_eq_right, exists_eq_right', exists_and_left, exists_and_right, and_true, true_and, and_self, and_false, false_and, or_true, true_or, or_false, false_or, if_true, if_false, ite_true, ite_false, decide_eq_true_eq, decide_eq_false_iff_not, Bool.not_eq_true, Bool.not_eq_true', Bool.not_true, Bool.not_false, Bool.true_eq_false, Bool.false_eq_true, not_true_eq_false, not_false_eq_true, eq_self_iff_true, forall_const, imp_self, List.length_cons, List.length_nil, List.append_nil, List.nil_append, List.cons_append, cpow_6, cpow_18, cpow_5, cpow_7, cpow_15, cpow_12, CMul, Nat.reduceAdd, Nat.reduceLeDiff, Nat.reduceLT, Int.reducePow, Int.reduceNeg, Int.reduceLT, Int.reduceLE, Int.reduceToNat, Int.reduceMul, Int.reduceAdd, Int.reduceSub, frzE, frz1, wipeE, all_nil, all_cons, endsF, x_start, List.map_cons, List.map_nil, List.replicate_succ, List.replicate_zero, Nat.reduceSub, Int.reduceEq, Nat.reduceEqDiff, List.mem_cons, List.not_mem_nil, x_isTs, or_self, Option.isSome_some, Option.isSome_none, String.reduceEq, dS_inj, dR_inj, dQ_inj, dQ_non, dQ_int, dS_md, dR_md, dQ_md, dS_flat, dR_flat, dQ_flat, dS_items, dR_items, List.getElem?_map, Option.map_some, Option.map_none, shp_i, shp_n, shp_b, shp_li, shp_S, shp_R, shp_lS, shp_Q, shp_l0, eqb_int, eqb_l, eqb_S, eqb_R, eqbs_ints, eqbs_dS, eqbs_nil0, eqbs_nilL, eqbs_nilR, Sl.own.injEq, Sl.val.injEq, List.length_map, dR_lst, dR_tup, dS_lst, dS_tup, flats_S, cut_map, cut_1, dR_fold, dS_fold, inI_t, inI_f, Bool.or_false, List.getLast?_map, exists_false, exists_const, Bool.and_self, Bool.and_true, Bool.true_and, Bool.and_false, Bool.false_and, add_S, List.isEmpty_map, fMax_2, fMax_3, fMin_2, flat_non, flat_i, ↓u_for, ↓u_comp, fS_v, fS_n, fS_o, shp_lli, eqbs_dL, ↓eSortSet, int_inj, fList_S, fList_R, sum_S, sum_li, x_is_between, x_is_sample, x_is_samples, x_distance, x_need_samples, x_need_threshold, x_need_silence, x_is_late, x_source, x_draw, x_samples, List.isEmpty_nil]
        exact ⟨by omega, by omega, fun v hv => ⟨by omega, hN2 (s ++ [_]) _ (next _) rfl⟩⟩
      | some r =>
        have hr := hz r (List.mem_of_getLast? hz0)
        have e : z.isEmpty = false := by
          cases z with
          | nil => cases hz0
          | cons _ _ => rfl
        obtain ⟨x, hx⟩ : ∃ x, r[j']? = some x := ⟨_, List.getElem?_eq_getElem (by rw [hr.len]; exact hj)⟩
        try simp only [↓sSeq, ↓sRet, ↓sIf, ↓sSet, ↓sOwn, ↓sAsg, ↓sDrop, ↓sNext, ↓sBreak, ↓sNever, ↓sFrz, ↓sApp, ↓sSetIx, ↓sSrc, ↓sPar, ↓sPar3, ↓sAug, ↓sNewSrc, ↓eC, ↓eTest, ↓eAnd, ↓eOr, ↓eNot, ↓eAndV, ↓eOrV, ↓eNotV, ↓eIf, ↓eChain, ↓eNeg, ↓eIx, ↓eIxS, ↓eSl, ↓oNone, ↓oSome, ↓aNil, ↓aCons, ↓eTup, ↓eLst, ↓eTupM, ↓eLstM, ↓eCB, ↓eBin, ↓x_call, ↓x_callK, ↓eSrc, ↓iSeqD, ↓iRg1, ↓iRg2, ↓iRg3, ↓iEnumD, ↓iZipD, ↓gNm, ↓gTp, ↓gsC, ↓gsN, ↓eYes, x_var0, x_var0o, x_varS, fAdd_ii, fAdd_ll, fAdd_tt, fAdd_ss, fMul_ii, fMul_li, fMul_ti, fSub_ii, fDiv_ii, fMod_ii, fPow_ii, fLt_ii, fLe_ii, fGt_ii, fGe_ii, ↓fEq, ↓fNe, ↓fIsN, ↓fNotN, x_lenL, x_lenT, x_lenS, x_lenR, x_lenC, fAbs_i, fInt_i, fInt_b, x_isi, List.set_cons_zero, List.set_cons_succ, List.getElem?_cons_zero, List.getElem?_cons_succ, items_l, items_t, okSt, mdOf, md_i, md_b, md_n, md_s, md_t, md_l, md_y, Md.isCl, Md.isNw, Md.meet, atI_0, atI_m1, atI_1, atI_2, atI_nat, cond_true, cond_false, isNon_i, isNon_n, isT_ii, isT_ib, isT_it, isT_il, isT_bi, isT_bb, isT_tt, isT_ti, isT_lt, isT_ll, isT_nt, isT_ni, isT_nl, tyN_i, tyN_b, tyN_t, tyN_l, tyN_n, dS_isT, dR_isT, dS_tyN, dR_tyN, dQ_isNon, D.flat, D.flats, flats_cons, flats_nil, flats_ints, flat_tup, putOk, slOf_f, slOf_t, Option.some.injEq, D.int.injEq, D.bl.injEq, D.lst.injEq, D.tup.injEq, D.str.injEq, D.scr.injEq, D.ty.injEq, x_consD, x_consD0, x_consD1, and_assoc, reduceCtorEq, exists_eq, exists_eq', exists_eq_left, exists_eq_left', exists_eq_right, exists_eq_right', exists_and_left, exists_and_right, and_true, true_and, and_self, and_false, false_and, or_true, true_or, or_false, false_or, if_true, if_false, ite_true, ite_false, decide_eq_true_eq, decide_eq_false_iff_not, Bool.not_eq_true, Bool.not_eq_true', Bool.not_true, Bool.not_false, Bool.true_eq_false, Bool.false_eq_true, not_true_eq_false, not_false_eq_true, eq_self_iff_true, forall_const, imp_self, List.length_cons, List.length_nil, List.append_nil, List.nil_append, List.cons_append, cpow_6, cpow_18, cpow_5, cpow_7, cpow_15, cpow_12, CMul, Nat.reduceAdd, Nat.reduceLeDiff, Nat.reduceLT, Int.reducePow, Int.reduceNeg, Int.reduceLT, Int.reduceLE, Int.reduceToNat, Int.reduceMul, Int.reduceAdd, Int.reduceSub, frzE, frz1, wipeE, all_nil, all_cons, endsF, x_start, List.map_cons, List.map_nil, List.replicate_succ, List.replicate_zero, Nat.reduceSub, Int.reduceEq, Nat.reduceEqDiff, List.mem_cons, List.not_mem_nil, x_isTs, or_self, Option.isSome_some, Option.isSome_none, String.reduceEq, dS_inj, dR_inj, dQ_inj, dQ_non, dQ_int, dS_md, dR_md, dQ_md, dS_flat, dR_flat, dQ_flat, dS_items, dR_items, List.getElem?_map, Option.map_some, Option.map_none, shp_i, shp_n, shp_b, shp_li, shp_S, shp_R, shp_lS, shp_Q, shp_l0, eqb_int, eqb_l, eqb_S, eqb_R, eqbs_ints, eqbs_dS, eqbs_nil0, eqbs_nilL, eqbs_nilR, Sl.own.injEq, Sl.val.injEq, List.length_map, dR_lst, dR_tup, dS_lst, dS_tup, flats_S, cut_map, cut_1, dR_fold, dS_fold, inI_t, inI_f, Bool.or_false, List.getLast?_map, exists_false, exists_const, Bool.and_self, Bool.and_true, Bool.true_and, Bool.and_false, Bool.false_and, add_S, List.isEmpty_map, fMax_2, fMax_3, fMin_2, flat_non, flat_i, ↓u_for, ↓u_comp, fS_v, fS_n, fS_o, shp_lli, eqbs_dL, ↓eSortSet, int_inj, fList_S, fList_R, sum_S, sum_li, x_is_between, x_is_sample, x_is_samples, x_distance, x_need_samples, x_need_threshold, x_need_silence, x_is_late, x_source, x_draw, x_samples, e, hz0, hx]
        refine ⟨by omega, by omega, fun v hv u hu => ?_⟩
        split
        · exact fun w hw => ⟨by omega, hN2 (s ++ [_]) _ (next _) rfl⟩
        · exact ⟨by omega, hN2 (s ++ [_]) _ (next _) rfl⟩
    · rintro s hs
      rw [List.length_range] at hs
      try simp only [↓sSeq, ↓sRet, ↓sIf, ↓sSet, ↓sOwn, ↓sAsg, ↓sDrop, ↓sNext, ↓sBreak, ↓sNever, ↓sFrz, ↓sApp, ↓sSetIx, ↓sSrc, ↓sPar, ↓sPar3, ↓sAug, ↓sNewSrc, ↓eC, ↓eTest, ↓eAnd, ↓eOr, ↓eNot, ↓eAndV, ↓eOrV, ↓eNotV, ↓eIf, ↓eChain, ↓eNeg, ↓eIx, ↓eIxS, ↓eSl, ↓oNone, ↓oSome, ↓aNil, ↓aCons, ↓eTup, ↓eLst, ↓eTupM, ↓eLstM, ↓eCB, ↓eBin, ↓x_call, ↓x_callK, ↓eSrc, ↓iSeqD, ↓iRg1, ↓iRg2, ↓iRg3, ↓iEnumD, ↓iZipD, ↓gNm, ↓gTp, ↓gsC, ↓gsN, ↓eYes, x_var0, x_var0o, x_varS, fAdd_ii, fAdd_ll, fAdd_tt, fAdd_ss, fMul_ii, fMul_li, fMul_ti, fSub_ii, fDiv_ii, fMod_ii, fPow_ii, fLt_ii, fLe_ii, fGt_ii, fGe_ii, ↓fEq, ↓fNe, ↓fIsN, ↓fNotN, x_lenL, x_lenT, x_lenS, x_lenR, x_lenC, fAbs_i, fInt_i, fInt_b, x_isi, List.set_cons_zero, List.set_cons_succ, List.getElem?_cons_zero, List.getElem?_cons_succ, items_l, items_t, okSt, mdOf, md_i, md_b, md_n, md_s, md_t, md_l, md_y, Md.isCl, Md.isNw, Md.meet, atI_0, atI_m1, atI_1, atI_2, atI_nat, cond_true, cond_false, isNon_i, isNon_n, isT_ii, isT_ib, isT_it, isT_il, isT_bi, isT_bb, isT_tt, isT_ti, isT_lt, isT_ll, isT_nt, isT_ni, isT_nl, tyN_i, tyN_b, tyN_t, tyN_l, tyN_n, dS_isT, dR_isT, dS_tyN, dR_tyN, dQ_isNon, D.flat, D.flats, flats_cons, flats_nil, flats_ints, flat_tup, putOk, slOf_f, slOf_t, Option.some.injEq, D.int.injEq, D.bl.injEq, D.lst.injEq, D.tup.injEq, D.str.injEq, D.scr.injEq, D.ty.injEq, x_consD, x_consD0, x_consD1, and_assoc, reduceCtorEq, exists_eq, exists_eq', exists_eq_left, exists_eq_left', exists_eq_right, exists_eq_right', exists_and_left, exists_and_right, and_true, true_and, and_self, and_false, false_and, or_true, true_or, or_false, false_or, if_true, if_false, ite_true, ite_false, decide_eq_true_eq, decide_eq_false_iff_not, Bool.not_eq_true, Bool.not_eq_true', Bool.not_true, Bool.not_false, Bool.true_eq_false, Bool.false_eq_true, not_true_eq_false, not_false_eq_true, eq_self_iff_true, forall_const, imp_self, List.length_cons, List.length_nil, List.append_nil, List.nil_append, List.cons_append, cpow_6, cpow_18, cpow_5, cpow_7, cpow_15, cpow_12, CMul, Nat.reduceAdd, Nat.reduceLeDiff, Nat.reduceLT, Int.reducePow, Int.reduceNeg, Int.reduceLT, Int.reduceLE, Int.reduceToNat, Int.reduceMul, Int.reduceAdd, Int.reduceSub, frzE, frz1, wipeE, all_nil, all_cons, endsF, x_start, List.map_cons, List.map_nil, List.replicate_succ, List.replicate_zero, Nat.reduceSub, Int.reduceEq, Nat.reduceEqDiff, List.mem_cons, List.not_mem_nil, x_isTs, or_self, Option.isSome_some, Option.isSome_none, String.reduceEq, dS_inj, dR_inj, dQ_inj, dQ_non, dQ_int, dS_md, dR_md, dQ_md, dS_flat, dR_flat, dQ_flat, dS_items, dR_items, List.getElem?_map, Option.map_some, Option.map_none, shp_i, shp_n, shp_b, shp_li, shp_S, shp_R, shp_lS, shp_Q, shp_l0, eqb_int, eqb_l, eqb_S, eqb_R, eqbs_ints, eqbs_dS, eqbs_nil0, eqbs_nilL, eqbs_nilR, Sl.own.injEq, Sl.val.injEq, List.length_map, dR_lst, dR_tup, dS_lst, dS_tup, flats_S, cut_map, cut_1, dR_fold, dS_fold, inI_t, inI_f, Bool.or_false, List.getLast?_map, exists_false, exists_const, Bool.and_self, Bool.and_true, Bool.true_and, Bool.and_false, Bool.false_and, add_S, List.isEmpty_map, fMax_2, fMax_3, fMin_2, flat_non, flat_i, ↓u_for, ↓u_comp, fS_v, fS_n, fS_o, shp_lli, eqbs_dL, ↓eSortSet, int_inj, fList_S, fList_R, sum_S, sum_li, x_is_between, x_is_sample, x_is_samples, x_distance, x_need_samples, x_need_threshold, x_need_silence, x_is_late, x_source, x_draw, x_samples]
      refine ⟨by omega, hN (z ++ [s]) _ ⟨by rw [List.length_append, hl]; rfl, fun r hr => ?_⟩ (by simp [wipeE])⟩
      rcases List.mem_append.mp hr with hr | hr
      · exact hz r hr
      · rw [List.mem_singleton.mp hr]; exact hs
  · rintro z ⟨hl, hz⟩
    rw [List.length_range] at hl
    try simp only [↓sSeq, ↓sRet, ↓sIf, ↓sSet, ↓sOwn, ↓sAsg, ↓sDrop, ↓sNext, ↓sBreak, ↓sNever, ↓sFrz, ↓sApp, ↓sSetIx, ↓sSrc, ↓sPar, ↓sPar3, ↓sAug, ↓sNewSrc, ↓eC, ↓eTest, ↓eAnd, ↓eOr, ↓eNot, ↓eAndV, ↓eOrV, ↓eNotV, ↓eIf, ↓eChain, ↓eNeg, ↓eIx, ↓eIxS, ↓eSl, ↓oNone, ↓oSome, ↓aNil, ↓aCons, ↓eTup, ↓eLst, ↓eTupM, ↓eLstM, ↓eCB, ↓eBin, ↓x_call, ↓x_callK, ↓eSrc, ↓iSeqD, ↓iRg1, ↓iRg2, ↓iRg3, ↓iEnumD, ↓iZipD, ↓gNm, ↓gTp, ↓gsC, ↓gsN, ↓eYes, x_var0, x_var0o, x_varS, fAdd_ii, fAdd_ll, fAdd_tt, fAdd_ss, fMul_ii, fMul_li, fMul_ti, fSub_ii, fDiv_ii, fMod_ii, fPow_ii, fLt_ii, fLe_ii, fGt_ii, fGe_ii, ↓fEq, ↓fNe, ↓fIsN, ↓fNotN, x_lenL, x_lenT, x_lenS, x_lenR, x_lenC, fAbs_i, fInt_i, fInt_b, x_isi, List.set_cons_zero, List.set_cons_succ, List.getElem?_cons_zero, List.getElem?_cons_succ, items_l, items_t, okSt, mdOf, md_i, md_b, md_n, md_s, md_t, md_l, md_y, Md.isCl, Md.isNw, Md.meet, atI_0, atI_m1, atI_1, atI_2, atI_nat, cond_true, cond_false, isNon_i, isNon_n, isT_ii, isT_ib, isT_it, isT_il, isT_bi, isT_bb, isT_tt, isT_ti, isT_lt, isT_ll, isT_nt, isT_ni, isT_nl, tyN_i, tyN_b, tyN_t, tyN_l, tyN_n, dS_isT, dR_isT, dS_tyN, dR_tyN, dQ_isNon, D.flat, D.flats, flats_cons, flats_nil, flats_ints, flat_tup, putOk, slOf_f, slOf_t, Option.some.injEq, D.int.injEq, D.bl.injEq, D.lst.injEq, D.tup.injEq, D.str.injEq, D.scr.injEq, D.ty.injEq, x_consD, x_consD0, x_consD1, and_assoc, reduceCtorEq, exists_eq, exists_eq', exists_eq_left, exists_eq_left', exists_eq_right, exists_eq_right', exists_and_left, exists_and_right, and_true, true_and, and_self, and_false, false_and, or_true, true_or, or_false, false_or, if_true, if_false, ite_true, ite_false, decide_eq_true_eq, decide_eq_false_iff_not, Bool.not_eq_true, Bool.not_eq_true', Bool.not_true, Bool.not_false, Bool.true_eq_false, Bool.false_eq_true, not_true_eq_false, not_false_eq_true, eq_self_iff_true, forall_const, imp_self, List.length_cons, List.length_nil, List.append_nil, List.nil_append, List.cons_append, cpow_6, cpow_18, cpow_5, cpow_7, cpow_15, cpow_12, CMul, Nat.reduceAdd, Nat.reduceLeDiff, Nat.reduceLT, Int.reducePow, Int.reduceNeg, Int.reduceLT, Int.reduceLE, Int.reduceToNat, Int.reduceMul, Int.reduceAdd, Int.reduceSub, frzE, frz1, wipeE, all_nil, all_cons, endsF, x_start, List.map_cons, List.map_nil, List.replicate_succ, List.replicate_zero, Nat.reduceSub, Int.reduceEq, Nat.reduceEqDiff, List.mem_cons, List.not_mem_nil, x_isTs, or_self, Option.isSome_some, Option.isSome_none, String.reduceEq, dS_inj, dR_inj, dQ_inj, dQ_non, dQ_int, dS_md, dR_md, dQ_md, dS_flat, dR_flat, dQ_flat, dS_items, dR_items, List.getElem?_map, Option.map_some, Option.map_none, shp_i, shp_n, shp_b, shp_li, shp_S, shp_R, shp_lS, shp_Q, shp_l0, eqb_int, eqb_l, eqb_S, eqb_R, eqbs_ints, eqbs_dS, eqbs_nil0, eqbs_nilL, eqbs_nilR, Sl.own.injEq, Sl.val.injEq, List.length_map, dR_lst, dR_tup, dS_lst, dS_tup, flats_S, cut_map, cut_1, dR_fold, dS_fold, inI_t, inI_f, Bool.or_false, List.getLast?_map, exists_false, exists_const, Bool.and_self, Bool.and_true, Bool.true_and, Bool.and_false, Bool.false_and, add_S, List.isEmpty_map, fMax_2, fMax_3, fMin_2, flat_non, flat_i, ↓u_for, ↓u_comp, fS_v, fS_n, fS_o, shp_lli, eqbs_dL, ↓eSortSet, int_inj, fList_S, fList_R, sum_S, sum_li, x_is_between, x_is_sample, x_is_samples, x_distance, x_need_samples, x_need_threshold, x_need_silence, x_is_late, x_source, x_draw, x_samples]
    refine tuple_R ?_
    try simp only [↓sSeq, ↓sRet, ↓sIf, ↓sSet, ↓sOwn, ↓sAsg, ↓sDrop, ↓sNext, ↓sBreak, ↓sNever, ↓sFrz, ↓sApp, ↓sSetIx, ↓sSrc, ↓sPar, ↓sPar3, ↓sAug, ↓sNewSrc, ↓eC, ↓eTest, ↓eAnd, ↓eOr, ↓eNot, ↓eAndV, ↓eOrV, ↓eNotV, ↓eIf, ↓eChain, ↓eNeg, ↓eIx, ↓eIxS, ↓eSl, ↓oNone, ↓oSome, ↓aNil, ↓aCons, ↓eTup, ↓eLst, ↓eTupM, ↓eLstM, ↓eCB, ↓eBin, ↓x_call, ↓x_callK, ↓eSrc, ↓iSeqD, ↓iRg1, ↓iRg2, ↓iRg3, ↓iEnumD, ↓iZipD, ↓gNm, ↓gTp, ↓gsC, ↓gsN, ↓eYes, x_var0, x_var0o, x_varS, fAdd_ii, fAdd_ll, fAdd_tt, fAdd_ss, fMul_ii, fMul_li, fMul_ti, fSub_ii, fDiv_ii, fMod_ii, fPow_ii, fLt_ii, fLe_ii, fGt_ii, fGe_ii, ↓fEq, ↓fNe, ↓fIsN, ↓fNotN, x_lenL, x_lenT, x_lenS, x_lenR, x_lenC, fAbs_i, fInt_i, fInt_b, x_isi, List.set_cons_zero, List.set_cons_succ, List.getElem?_cons_zero, List.getElem?_cons_succ, items_l, items_t, okSt, mdOf, md_i, md_b, md_n, md_s, md_t, md_l, md_y, Md.isCl, Md.isNw, Md.meet, atI_0, atI_m1, atI_1, atI_2, atI_nat, cond_true, cond_false, isNon_i, isNon_n, isT_ii, isT_ib, isT_it, isT_il, isT_bi, isT_bb, isT_tt, isT_ti, isT_lt, isT_ll, isT_nt, isT_ni, isT_nl, tyN_i, tyN_b, tyN_t, tyN_l, tyN_n, dS_isT, dR_isT, dS_tyN, dR_tyN, dQ_isNon, D.flat, D.flats, flats_cons, flats_nil, flats_ints, flat_tup, putOk, slOf_f, slOf_t, Option.some.injEq, D.int.injEq, D.bl.injEq, D.lst.injEq, D.tup.injEq, D.str.injEq, D.scr.injEq, D.ty.injEq, x_consD, x_consD0, x_consD1, and_assoc, reduceCtorEq, exists_eq, exists_eq', exists_eq_left, exists_eq_left', exists_eq_right, exists_eq_right', exists_and_left, exists_and_right, and_true, true_and, and_self, and_false, false_and, or_true, true_or, or_false, false_or, if_true, if_false, ite_true, ite_false, decide_eq_true_eq, decide_eq_false_iff_not, Bool.not_eq_true, Bool.not_eq_true', Bool.not_true, Bool.not_false, Bool.true_eq_false, Bool.false_eq_true, not_true_eq_false, not_false_eq_true, eq_self_iff_true, forall_const, imp_self, List.length_cons, List.length_nil, List.append_nil, List.nil_append, List.cons_append, cpow_6, cpow_18, cpow_5, cpow_7, cpow_15, cpow_12, CMul, Nat.reduceAdd, Nat.reduceLeDiff, Nat.reduceLT, Int.reducePow, Int.reduceNeg, Int.reduceLT, Int.reduceLE, Int.reduceToNat, Int.reduceMul, Int.reduceAdd, Int.reduceSub, frzE, frz1, wipeE, all_nil, all_cons, endsF, x_start, List.map_cons, List.map_nil, List.replicate_succ, List.replicate_zero, Nat.reduceSub, Int.reduceEq, Nat.reduceEqDiff, List.mem_cons, List.not_mem_nil, x_isTs, or_self, Option.isSome_some, Option.isSome_none, String.reduceEq, dS_inj, dR_inj, dQ_inj, dQ_non, dQ_int, dS_md, dR_md, dQ_md, dS_flat, dR_flat, dQ_flat, dS_items, dR_items, List.getElem?_map, Option.map_some, Option.map_none, shp_i, shp_n, shp_b, shp_li, shp_S, shp_R, shp_lS, shp_Q, shp_l0, eqb_int, eqb_l, eqb_S, eqb_R, eqbs_ints, eqbs_dS, eqbs_nil0, eqbs_nilL, eqbs_nilR, Sl.own.injEq, Sl.val.injEq, List.length_map, dR_lst, dR_tup, dS_lst, dS_tup, flats_S, cut_map, cut_1, dR_fold, dS_fold, inI_t, inI_f, Bool.or_false, List.getLast?_map, exists_false, exists_const, Bool.and_self, Bool.and_true, Bool.true_and, Bool.and_false, Bool.false_and, add_S, List.isEmpty_map, fMax_2, fMax_3, fMin_2, flat_non, flat_i, ↓u_for, ↓u_comp, fS_v, fS_n, fS_o, shp_lli, eqbs_dL, ↓eSortSet, int_inj, fList_S, fList_R, sum_S, sum_li, x_is_between, x_is_sample, x_is_samples, x_distance, x_need_samples, x_need_threshold, x_need_silence, x_is_late, x_source, x_draw, x_samples]
    exact h z ⟨by omega, by omega, c, by omega, by omega, hz⟩ (by omega)
def t__law_gap : S1 := (sSeq (sSet 2 (eC (.int 0))) (sSeq (sFor false [3, 4] (iZipD (aCons (eVar 0) (aCons (eVar 1) aNil))) (gTp 2 (gsC (gNm 3) (gsC (gNm 4) gsN))) (sSet 2 (eCB fMax (aCons (eVar 2) (aCons (eBin fSub (eVar 3) (eVar 4)) (aCons (eBin fSub (eVar 4) (eVar 3)) aNil)))))) (sRet (eVar 2))))
def c__law_gap : C1 := fun ds q => ∃ (a b : Row), ds = [dS a, dS b] ∧ q (.int (gap a b))
theorem m__law_gap : MonoC c__law_gap := fun ds q q' k ⟨a, b, e, h⟩ => ⟨a, b, e, k _ h⟩
theorem x_gap {a b : Row} {q : D → Prop} : callC c__law_gap [dS a, dS b] q = (q (.int (gap a b))) := by
  simp only [callC, c__law_gap, ↓sSeq, ↓sRet, ↓sIf, ↓sSet, ↓sOwn, ↓sAsg, ↓sDrop, ↓sNext, ↓sBreak, ↓sNever, ↓sFrz, ↓sApp, ↓sSetIx, ↓sSrc, ↓sPar, ↓sPar3, ↓sAug, ↓sNewSrc, ↓eC, ↓eTest, ↓eAnd, ↓eOr, ↓eNot, ↓eAndV, ↓eOrV, ↓eNotV, ↓eIf, ↓eChain, ↓eNeg, ↓eIx, ↓eIxS, ↓eSl, ↓oNone, ↓oSome, ↓aNil, ↓aCons, ↓eTup, ↓eLst, ↓eTupM, ↓eLstM, ↓eCB, ↓eBin, ↓x_call, ↓x_callK, ↓eSrc, ↓iSeqD, ↓iRg1, ↓iRg2, ↓iRg3, ↓iEnumD, ↓iZipD, ↓gNm, ↓gTp, ↓gsC, ↓gsN, ↓eYes, x_var0, x_var0o, x_varS, fAdd_ii, fAdd_ll, fAdd_tt, fAdd_ss, fMul_ii, fMul_li, fMul_ti, fSub_ii, fDiv_ii, fMod_ii, fPow_ii, fLt_ii, fLe_ii, fGt_ii, fGe_ii, ↓fEq, ↓fNe, ↓fIsN, ↓fNotN, x_lenL, x_lenT, x_lenS, x_lenR, x_lenC, fAbs_i, fInt_i, fInt_b, x_isi, List.set_cons_zero, List.set_cons_succ, List.getElem?_cons_zero, List.getElem?_cons_succ, items_l, items_t, okSt, mdOf, md_i, md_b, md_n, md_s, md_t, md_l, md_y, Md.isCl, Md.isNw, Md.meet, atI_0, atI_m1, atI_1, atI_2, atI_nat, cond_true, cond_false, isNon_i, isNon_n, isT_ii, isT_ib, isT_it, isT_il, isT_bi, isT_bb, isT_tt, isT_ti, isT_lt, isT_ll, isT_nt, isT_ni, isT_nl, tyN_i, tyN_b, tyN_t, tyN_l, tyN_n, dS_isT, dR_isT, dS_tyN, dR_tyN, dQ_isNon, D.flat, D.flats, flats_cons, flats_nil, flats_ints, flat_tup, putOk, slOf_f, slOf_t, Option.some.injEq, D.int.injEq, D.bl.injEq, D.lst.injEq, D.tup.injEq, D.str.injEq, D.scr.injEq, D.ty.injEq, x_consD, x_consD0, x_consD1, and_assoc, reduceCtorEq, exists_eq, exists_eq', exists_eq_left, exists_eq_left', exists_eq_right, exists_eq_right', exists_and_left, exists_and_right, and_true, true_and, and_self, and_false, false_and, or_true, true_or, or_false, false_or, if_true, if_false, ite_true, ite_false, decide_eq_true_eq, decide_eq_false_iff_not, Bool.not_eq_true, Bool.not_eq_true', Bool.not_true, Bool.not_false, Bool.true_eq_false, Bool.false_eq_true, not_true_eq_false, not_false_eq_true, eq_self_iff_true, forall_const, imp_self, List.length_cons, List.length_nil, List.append_nil, List.nil_append, List.cons_append, cpow_6, cpow_18, cpow_5, cpow_7, cpow_15, cpow_12, CMul, Nat.reduceAdd, Nat.reduceLeDiff, Nat.reduceLT, Int.reducePow, Int.reduceNeg, Int.reduceLT, Int.reduceLE, Int.reduceToNat, Int.reduceMul, Int.reduceAdd, Int.reduceSub, frzE, frz1, wipeE, all_nil, all_cons, endsF, x_start, List.map_cons, List.map_nil, List.replicate_succ, List.replicate_zero, Nat.reduceSub, Int.reduceEq, Nat.reduceEqDiff, List.mem_cons, List.not_mem_nil, x_isTs, or_self, Option.isSome_some, Option.isSome_none, String.reduceEq, dS_inj, dR_inj, dQ_inj, dQ_non, dQ_int, dS_md, dR_md, dQ_md, dS_flat, dR_flat, dQ_flat, dS_items, dR_items, List.getElem?_map, Option.map_some, Option.map_none, shp_i, shp_n, shp_b, shp_li, shp_S, shp_R, shp_lS, shp_Q, shp_l0, eqb_int, eqb_l, eqb_S, eqb_R, eqbs_ints, eqbs_dS, eqbs_nil0, eqbs_nilL, eqbs_nilR, Sl.own.injEq, Sl.val.injEq, List.length_map, dR_lst, dR_tup, dS_lst, dS_tup, flats_S, cut_map, cut_1, dR_fold, dS_fold, inI_t, inI_f, Bool.or_false, List.getLast?_map, exists_false, exists_const, Bool.and_self, Bool.and_true, Bool.true_and, Bool.and_false, Bool.false_and, add_S, List.isEmpty_map, fMax_2, fMax_3, fMin_2, flat_non, flat_i, ↓u_for, ↓u_comp, fS_v, fS_n, fS_o, shp_lli, eqbs_dL, ↓eSortSet, int_inj, fList_S, fList_R, sum_S, sum_li, x_is_between, x_is_sample, x_is_samples, x_distance, x_need_samples, x_need_threshold, x_need_silence, x_is_late, x_source, x_draw, x_samples]
theorem w__law_gap (ds : List D) (q : D → Prop) (h : c__law_gap ds q) : t__law_gap (endsF true q) (startE 5 ds) := by
  obtain ⟨a, b, rfl, h⟩ := h
  simp only [x_start, List.map_cons, List.map_nil, List.length_cons, List.length_nil, List.replicate_succ, List.replicate_zero, List.cons_append, List.nil_append, Nat.reduceSub, Nat.reduceAdd]
  simp only [t__law_gap, ↓sSeq, ↓sRet, ↓sIf, ↓sSet, ↓sOwn, ↓sAsg, ↓sDrop, ↓sNext, ↓sBreak, ↓sNever, ↓sFrz, ↓sApp, ↓sSetIx, ↓sSrc, ↓sPar, ↓sPar3, ↓sAug, ↓sNewSrc, ↓eC, ↓eTest, ↓eAnd, ↓eOr, ↓eNot, ↓eAndV, ↓eOrV, ↓eNotV, ↓eIf, ↓eChain, ↓eNeg, ↓eIx, ↓eIxS, ↓eSl, ↓oNone, ↓oSome, ↓aNil, ↓aCons, ↓eTup, ↓eLst, ↓eTupM, ↓eLstM, ↓eCB, ↓eBin, ↓x_call, ↓x_callK, ↓eSrc, ↓iSeqD, ↓iRg1, ↓iRg2, ↓iRg3, ↓iEnumD, ↓iZipD, ↓gNm, ↓gTp, ↓gsC, ↓gsN, ↓eYes, x_var0, x_var0o, x_varS, fAdd_ii, fAdd_ll, fAdd_tt, fAdd_ss, fMul_ii, fMul_li, fMul_ti, fSub_ii, fDiv_ii, fMod_ii, fPow_ii, fLt_ii, fLe_ii, fGt_ii, fGe_ii, ↓fEq, ↓fNe, ↓fIsN, ↓fNotN, x_lenL, x_lenT, x_lenS, x_lenR, x_lenC, fAbs_i, fInt_i, fInt_b, x_isi, List.set_cons_zero, List.set_cons_succ, List.getElem?_cons_zero, List.getElem?_cons_succ, items_l, items_t, okSt, mdOf, md_i, md_b, md_n, md_s, md_t, md_l, md_y, Md.isCl, Md.isNw, Md.meet, atI_0, atI_m1, atI_1, atI_2, atI_nat, cond_true, cond_false, isNon_i, isNon_n, isT_ii, isT_ib, isT_it, isT_il, isT_bi, isT_bb, isT_tt, isT_ti, isT_lt, isT_ll, isT_nt, isT_ni, isT_nl, tyN_i, tyN_b, tyN_t, tyN_l, tyN_n, dS_isT, dR_isT, dS_tyN, dR_tyN, dQ_isNon, D.flat, D.flats, flats_cons, flats_nil, flats_ints, flat_tup, putOk, slOf_f, slOf_t, Option.some.injEq, D.int.injEq, D.bl.injEq, D.lst.injEq, D.tup.injEq, D.str.injEq, D.scr.injEq, D.ty.injEq, x_consD, x_consD0, x_consD1, and_assoc, reduceCtorEq, exists_eq, exists_eq', exists_eq_left, exists_eq_left', exists_eq_right, exists_eq_right', exists_and_left, exists_and_right, and_true, true_and, and_self, and_false, false_and, or_true, true_or, or_false, false_or, if_true, if_false, ite_true, ite_false, decide_eq_true_eq, decide_eq_false_iff_not, Bool.not_eq_true, Bool.not_eq_true', Bool.not_true, Bool.not_false, Bool.true_eq_false, Bool.false_eq_true, not_true_eq_false, not_false_eq_true, eq_self_iff_true, forall_const, imp_self, List.length_cons, List.length_nil, List.append_nil, List.nil_append, List.cons_append, cpow_6, cpow_18, cpow_5, cpow_7, cpow_15, cpow_12, CMul, Nat.reduceAdd, Nat.reduceLeDiff, Nat.reduceLT, Int.reducePow, Int.reduceNeg, Int.reduceLT, Int.reduceLE, Int.reduceToNat, Int.reduceMul, Int.reduceAdd, Int.reduceSub, frzE, frz1, wipeE, all_nil, all_cons, endsF, x_start, List.map_cons, List.map_nil, List.replicate_succ, List.replicate_zero, Nat.reduceSub, Int.reduceEq, Nat.reduceEqDiff, List.mem_cons, List.not_mem_nil, x_isTs, or_self, Option.isSome_some, Option.isSome_none, String.reduceEq, dS_inj, dR_inj, dQ_inj, dQ_non, dQ_int, dS_md, dR_md, dQ_md, dS_flat, dR_flat, dQ_flat, dS_items, dR_items, List.getElem?_map, Option.map_some, Option.map_none, shp_i, shp_n, shp_b, shp_li, shp_S, shp_R, shp_lS, shp_Q, shp_l0, eqb_int, eqb_l, eqb_S, eqb_R, eqbs_ints, eqbs_dS, eqbs_nil0, eqbs_nilL, eqbs_nilR, Sl.own.injEq, Sl.val.injEq, List.length_map, dR_lst, dR_tup, dS_lst, dS_tup, flats_S, cut_map, cut_1, dR_fold, dS_fold, inI_t, inI_f, Bool.or_false, List.getLast?_map, exists_false, exists_const, Bool.and_self, Bool.and_true, Bool.true_and, Bool.and_false, Bool.false_and, add_S, List.isEmpty_map, fMax_2, fMax_3, fMin_2, flat_non, flat_i, ↓u_for, ↓u_comp, fS_v, fS_n, fS_o, shp_lli, eqbs_dL, ↓eSortSet, int_inj, fList_S, fList_R, sum_S, sum_li, x_is_between, x_is_sample, x_is_samples, x_distance, x_need_samples, x_need_threshold, x_need_silence, x_is_late, x_source, x_draw, x_samples, x_gap]
  refine for_st (σ := Int) (a.zip b) (fun p => .tup [.int p.1, .int p.2]) (fun z => [.val (dS a), .val (dS b), .val (.int z), .non, .non])
    (fun i z => z = top0 (((a.zip b).take i).map fun p => ((p.1 - p.2).natAbs : Int))) 0 (zipD_map ..) rfl (fun z => nomatch z) rfl rfl ?_ ?_
  · rintro i ⟨x, y⟩ z hx rfl N hN
    try simp only [↓sSeq, ↓sRet, ↓sIf, ↓sSet, ↓sOwn, ↓sAsg, ↓sDrop, ↓sNext, ↓sBreak, ↓sNever, ↓sFrz, ↓sApp, ↓sSetIx, ↓sSrc, ↓sPar, ↓sPar3, ↓sAug, ↓sNewSrc, ↓eC, ↓eTest, ↓eAnd, ↓eOr, ↓eNot, ↓eAndV, ↓eOrV, ↓eNotV, ↓eIf, ↓eChain, ↓eNeg, ↓eIx, ↓eIxS, ↓eSl, ↓oNone, ↓oSome, ↓aNil, ↓aCons, ↓eTup, ↓eLst, ↓eTupM, ↓eLstM, ↓eCB, ↓eBin, ↓x_call, ↓x_callK, ↓eSrc, ↓iSeqD, ↓iRg1, ↓iRg2, ↓iRg3, ↓iEnumD, ↓iZipD, ↓gNm, ↓gTp, ↓gsC, ↓gsN, ↓eYes, x_var0, x_var0o, x_varS, fAdd_ii, fAdd_ll, fAdd_tt, fAdd_ss, fMul_ii, fMul_li, fMul_ti, fSub_ii, fDiv_ii, fMod_ii, fPow_ii, fLt_ii, fLe_ii, fGt_ii, fGe_ii, ↓fEq, ↓fNe, ↓fIsN, ↓fNotN, x_lenL, x_lenT, x_lenS, x_lenR, x_lenC, fAbs_i, fInt_i, fInt_b, x_isi, List.set_cons_zero, List.set_cons_succ, List.getElem?_cons_zero, List.getElem?_cons_succ, items_l, items_t, okSt, mdOf, md_i, md_b, md_n, md_s, md_t, md_l, md_y, Md.isCl, Md.isNw, Md.meet, atI_0, atI_m1, atI_1, atI_2, atI_nat, cond_true, cond_false, isNon_i, isNon_n, isT_ii, isT_ib, isT_it, isT_il, isT_bi, isT_bb, isT_tt, isT_ti, isT_lt, isT_ll, isT_nt, isT_ni, isT_nl, tyN_i, tyN_b, tyN_t, tyN_l, tyN_n, dS_isT, dR_isT, dS_tyN, dR_tyN, dQ_isNon, D.flat, D.flats, flats_cons, flats_nil, flats_ints, flat_tup, putOk, slOf_f, slOf_t, Option.some.injEq, D.int.injEq, D.bl.injEq, D.lst.injEq, D.tup.injEq, D.str.injEq, D.scr.injEq, D.ty.injEq, x_consD, x_consD0, x_consD1, and_assoc, reduceCtorEq, exists_eq, exists_eq', exists_eq_left, exists_eq_left', exists_eq_right, exists_eq_right', exists_and_left, exists_and_right, and_true, true_and, and_self, and_false, false_and, or_true, true_or, or_false, false_or, if_true, if_false, ite_true, ite_false, decide_eq_true_eq, decide_eq_false_iff_not, Bool.not_eq_true, Bool.not_eq_true', Bool.not_true, Bool.not_false, Bool.true_eq_false, Bool.false_eq_true, not_true_eq_false, not_false_eq_true, eq_self_iff_true, forall_const, imp_self, List.length_cons, List.length_nil, List.append_nil, List.nil_append, List.cons_append, cpow_6, cpow_18, cpow_5, cpow_7, cpow_15, cpow_12, CMul, Nat.reduceAdd, Nat.reduceLeDiff, Nat.reduceLT, Int.reducePow, Int.reduceNeg, Int.reduceLT, Int.reduceLE, Int.reduceToNat, Int.reduceMul, Int.reduceAdd, Int.reduceSub, frzE, frz1, wipeE, all_nil, all_cons, endsF, x_start, List.map_cons, List.map_nil, List.replicate_succ, List.replicate_zero, Nat.reduceSub, Int.reduceEq, Nat.reduceEqDiff, List.mem_cons, List.not_mem_nil, x_isTs, or_self, Option.isSome_some, Option.isSome_none, String.reduceEq, dS_inj, dR_inj, dQ_inj, dQ_non, dQ_int, dS_md, dR_md, dQ_md, dS_flat, dR_flat, dQ_flat, dS_items, dR_items, List.getElem?_map, Option.map_some, Option.map_none, shp_i, shp_n, shp_b, shp_li, shp_S, shp_R, shp_lS, shp_Q, shp_l0, eqb_int, eqb_l, eqb_S, eqb_R, eqbs_ints, eqbs_dS, eqbs_nil0, eqbs_nilL, eqbs_nilR, Sl.own.injEq, Sl.val.injEq, List.length_map, dR_lst, dR_tup, dS_lst, dS_tup, flats_S, cut_map, cut_1, dR_fold, dS_fold, inI_t, inI_f, Bool.or_false, List.getLast?_map, exists_false, exists_const, Bool.and_self, Bool.and_true, Bool.true_and, Bool.and_false, Bool.false_and, add_S, List.isEmpty_map, fMax_2, fMax_3, fMin_2, flat_non, flat_i, ↓u_for, ↓u_comp, fS_v, fS_n, fS_o, shp_lli, eqbs_dL, ↓eSortSet, int_inj, fList_S, fList_R, sum_S, sum_li, x_is_between, x_is_sample, x_is_samples, x_distance, x_need_samples, x_need_threshold, x_need_silence, x_is_late, x_source, x_draw, x_samples, x_gap]
    refine hN _ _ rfl ?_
    rw [List.take_succ, hx]
    unfold top0
    rw [List.map_append, List.foldl_append]
    have e : ∀ u : Int, max (max u (x - y)) (y - x) = max u ((x - y).natAbs : Int) := fun u => by omega
    rw [e]
    rfl
  · rintro z rfl
    rw [List.take_length]
    try simp only [↓sSeq, ↓sRet, ↓sIf, ↓sSet, ↓sOwn, ↓sAsg, ↓sDrop, ↓sNext, ↓sBreak, ↓sNever, ↓sFrz, ↓sApp, ↓sSetIx, ↓sSrc, ↓sPar, ↓sPar3, ↓sAug, ↓sNewSrc, ↓eC, ↓eTest, ↓eAnd, ↓eOr, ↓eNot, ↓eAndV, ↓eOrV, ↓eNotV, ↓eIf, ↓eChain, ↓eNeg, ↓eIx, ↓eIxS, ↓eSl, ↓oNone, ↓oSome, ↓aNil, ↓aCons, ↓eTup, ↓eLst, ↓eTupM, ↓eLstM, ↓eCB, ↓eBin, ↓x_call, ↓x_callK, ↓eSrc, ↓iSeqD, ↓iRg1, ↓iRg2, ↓iRg3, ↓iEnumD, ↓iZipD, ↓gNm, ↓gTp, ↓gsC, ↓gsN, ↓eYes, x_var0, x_var0o, x_varS, fAdd_ii, fAdd_ll, fAdd_tt, fAdd_ss, fMul_ii, fMul_li, fMul_ti, fSub_ii, fDiv_ii, fMod_ii, fPow_ii, fLt_ii, fLe_ii, fGt_ii, fGe_ii, ↓fEq, ↓fNe, ↓fIsN, ↓fNotN, x_lenL, x_lenT, x_lenS, x_lenR, x_lenC, fAbs_i, fInt_i, fInt_b, x_isi, List.set_cons_zero, List.set_cons_succ, List.getElem?_cons_zero, List.getElem?_cons_succ, items_l, items_t, okSt, mdOf, md_i, md_b, md_n, md_s, md_t, md_l, md_y, Md.isCl, Md.isNw, Md.meet, atI_0, atI_m1, atI_1, atI_2, atI_nat, cond_true, cond_false, isNon_i, isNon_n, isT_ii, isT_ib, isT_it, isT_il, isT_bi, isT_bb, isT_tt, isT_ti, isT_lt, isT_ll, isT_nt, isT_ni, isT_nl, tyN_i, tyN_b, tyN_t, tyN_l, tyN_n, dS_isT, dR_isT, dS_tyN, dR_tyN, dQ_isNon, D.flat, D.flats, flats_cons, flats_nil, flats_ints, flat_tup, putOk, slOf_f, slOf_t, Option.some.injEq, D.int.injEq, D.bl.injEq, D.lst.injEq, D.tup.injEq, D.str.injEq, D.scr.injEq, D.ty.injEq, x_consD, x_consD0, x_consD1, and_assoc, reduceCtorEq, exists_eq, exists_eq', exists_eq_left, exists_eq_left', exists_eq_right, exists_eq_right', exists_and_left, exists_and_right, and_true, true_and, and_self, and_false, false_and, or_true, true_or, or_false, false_or, if_true, if_false, ite_true, ite_false, decide_eq_true_eq, decide_eq_false_iff_not, Bool.not_eq_true, Bool.not_eq_true', Bool.not_true, Bool.not_false, Bool.true_eq_false, Bool.false_eq_true, not_true_eq_false, not_false_eq_true, eq_self_iff_true, forall_const, imp_self, List.length_cons, List.length_nil, List.append_nil, List.nil_append, List.cons_append, cpow_6, cpow_18, cpow_5, cpow_7, cpow_15, cpow_12, CMul, Nat.reduceAdd, Nat.reduceLeDiff, Nat.reduceLT, Int.reducePow, Int.reduceNeg, Int.reduceLT, Int.reduceLE, Int.reduceToNat, Int.reduceMul, Int.reduceAdd, Int.reduceSub, frzE, frz1, wipeE, all_nil, all_cons, endsF, x_start, List.map_cons, List.map_nil, List.replicate_succ, List.replicate_zero, Nat.reduceSub, Int.reduceEq, Nat.reduceEqDiff, List.mem_cons, List.not_mem_nil, x_isTs, or_self, Option.isSome_some, Option.isSome_none, String.reduceEq, dS_inj, dR_inj, dQ_inj, dQ_non, dQ_int, dS_md, dR_md, dQ_md, dS_flat, dR_flat, dQ_flat, dS_items, dR_items, List.getElem?_map, Option.map_some, Option.map_none, shp_i, shp_n, shp_b, shp_li, shp_S, shp_R, shp_lS, shp_Q, shp_l0, eqb_int, eqb_l, eqb_S, eqb_R, eqbs_ints, eqbs_dS, eqbs_nil0, eqbs_nilL, eqbs_nilR, Sl.own.injEq, Sl.val.injEq, List.length_map, dR_lst, dR_tup, dS_lst, dS_tup, flats_S, cut_map, cut_1, dR_fold, dS_fold, inI_t, inI_f, Bool.or_false, List.getLast?_map, exists_false, exists_const, Bool.and_self, Bool.and_true, Bool.true_and, Bool.and_false, Bool.false_and, add_S, List.isEmpty_map, fMax_2, fMax_3, fMin_2, flat_non, flat_i, ↓u_for, ↓u_comp, fS_v, fS_n, fS_o, shp_lli, eqbs_dL, ↓eSortSet, int_inj, fList_S, fList_R, sum_S, sum_li, x_is_between, x_is_sample, x_is_samples, x_distance, x_need_samples, x_need_threshold, x_need_silence, x_is_late, x_source, x_draw, x_samples, x_gap]
    exact h
def t__law_limit : S1 := (sSeq (sPar false false 2 3 (eCall true [] c__law_choice (aCons (eVar 0) (aCons (eVar 1) aNil))) (eCall true [] c__law_choice (aCons (eVar 0) (aCons (eVar 1) aNil)))) (sSeq (sSet 4 (eCB fMax (aCons (eC (.int 0)) (aCons (eBin fSub (eBin fAdd (eCall true [] c__law_gap (aCons (eVar 2) (aCons (eVar 3) aNil))) (eCall true [] c__law_draw (aCons (eVar 0) (aCons (eC (.int 3)) aNil)))) (eC (.int 1))) aNil)))) (sRet (eCall true [] c__law_choice (aCons (eVar 0) (aCons (eLst (aCons (eVar 4) (aCons (eVar 4) (aCons (eBin fDiv (eVar 4) (eC (.int 2))) (aCons (eCall true [] c__law_draw (aCons (eVar 0) (aCons (eC (.int 9)) aNil))) (aCons (eBin fMul (eC (.int 2)) (eVar 4)) aNil)))))) aNil))))))
def c__law_limit : C1 := fun ds q => ∃ (rs : List Row), ds = [.src, dR rs] ∧ OkR rs ∧ ∀ t, OkT t → q (.int t)
theorem m__law_limit : MonoC c__law_limit := fun ds q q' k ⟨rs, e, h1, h⟩ => ⟨rs, e, h1, fun t z => k _ (h t z)⟩
theorem x_limit {rs : List Row} {q : D → Prop} : callC c__law_limit [.src, dR rs] q = (OkR rs ∧ ∀ t, OkT t → q (.int t)) := by
  simp only [callC, c__law_limit, ↓sSeq, ↓sRet, ↓sIf, ↓sSet, ↓sOwn, ↓sAsg, ↓sDrop, ↓sNext, ↓sBreak, ↓sNever, ↓sFrz, ↓sApp, ↓sSetIx, ↓sSrc, ↓sPar, ↓sPar3, ↓sAug, ↓sNewSrc, ↓eC, ↓eTest, ↓eAnd, ↓eOr, ↓eNot, ↓eAndV, ↓eOrV, ↓eNotV, ↓eIf, ↓eChain, ↓eNeg, ↓eIx, ↓eIxS, ↓eSl, ↓oNone, ↓oSome, ↓aNil, ↓aCons, ↓eTup, ↓eLst, ↓eTupM, ↓eLstM, ↓eCB, ↓eBin, ↓x_call, ↓x_callK, ↓eSrc, ↓iSeqD, ↓iRg1, ↓iRg2, ↓iRg3, ↓iEnumD, ↓iZipD, ↓gNm, ↓gTp, ↓gsC, ↓gsN, ↓eYes, x_var0, x_var0o, x_varS, fAdd_ii, fAdd_ll, fAdd_tt, fAdd_ss, fMul_ii, fMul_li, fMul_ti, fSub_ii, fDiv_ii, fMod_ii, fPow_ii, fLt_ii, fLe_ii, fGt_ii, fGe_ii, ↓fEq, ↓fNe, ↓fIsN, ↓fNotN, x_lenL, x_lenT, x_lenS, x_lenR, x_lenC, fAbs_i, fInt_i, fInt_b, x_isi, List.set_cons_zero, List.set_cons_succ, List.getElem?_cons_zero, List.getElem?_cons_succ, items_l, items_t, okSt, mdOf, md_i, md_b, md_n, md_s, md_t, md_l, md_y, Md.isCl, Md.isNw, Md.meet, atI_0, atI_m1, atI_1, atI_2, atI_nat, cond_true, cond_false, isNon_i, isNon_n, isT_ii, isT_ib, isT_it, isT_il, isT_bi, isT_bb, isT_tt, isT_ti, isT_lt, isT_ll, isT_nt, isT_ni, isT_nl, tyN_i, tyN_b, tyN_t, tyN_l, tyN_n, dS_isT, dR_isT, dS_tyN, dR_tyN, dQ_isNon, D.flat, D.flats, flats_cons, flats_nil, flats_ints, flat_tup, putOk, slOf_f, slOf_t, Option.some.injEq, D.int.injEq, D.bl.injEq, D.lst.injEq, D.tup.injEq, D.str.injEq, D.scr.injEq, D.ty.injEq, x_consD, x_consD0, x_consD1, and_assoc, reduceCtorEq, exists_eq, exists_eq', exists_eq_left, exists_eq_left', exists_eq_right, exists_eq_right', exists_and_left, exists_and_right, and_true, true_and, and_self, and_false, false_and, or_true, true_or, or_false, false_or, if_true, if_false, ite_true, ite_false, decide_eq_true_eq, decide_eq_false_iff_not, Bool.not_eq_true, Bool.not_eq_true', Bool.not_true, Bool.not_false, Bool.true_eq_false, Bool.false_eq_true, not_true_eq_false, not_false_eq_true, eq_self_iff_true, forall_const, imp_self, List.length_cons, List.length_nil, List.append_nil, List.nil_append, List.cons_append, cpow_6, cpow_18, cpow_5, cpow_7, cpow_15, cpow_12, CMul, Nat.reduceAdd, Nat.reduceLeDiff, Nat.reduceLT, Int.reducePow, Int.reduceNeg, Int.reduceLT, Int.reduceLE, Int.reduceToNat, Int.reduceMul, Int.reduceAdd, Int.reduceSub, frzE, frz1, wipeE, all_nil, all_cons, endsF, x_start, List.map_cons, List.map_nil, List.replicate_succ, List.replicate_zero, Nat.reduceSub, Int.reduceEq, Nat.reduceEqDiff, List.mem_cons, List.not_mem_nil, x_isTs, or_self, Option.isSome_some, Option.isSome_none, String.reduceEq, dS_inj, dR_inj, dQ_inj, dQ_non, dQ_int, dS_md, dR_md, dQ_md, dS_flat, dR_flat, dQ_flat, dS_items, dR_items, List.getElem?_map, Option.map_some, Option.map_none, shp_i, shp_n, shp_b, shp_li, shp_S, shp_R, shp_lS, shp_Q, shp_l0, eqb_int, eqb_l, eqb_S, eqb_R, eqbs_ints, eqbs_dS, eqbs_nil0, eqbs_nilL, eqbs_nilR, Sl.own.injEq, Sl.val.injEq, List.length_map, dR_lst, dR_tup, dS_lst, dS_tup, flats_S, cut_map, cut_1, dR_fold, dS_fold, inI_t, inI_f, Bool.or_false, List.getLast?_map, exists_false, exists_const, Bool.and_self, Bool.and_true, Bool.true_and, Bool.and_false, Bool.false_and, add_S, List.isEmpty_map, fMax_2, fMax_3, fMin_2, flat_non, flat_i, ↓u_for, ↓u_comp, fS_v, fS_n, fS_o, shp_lli, eqbs_dL, ↓eSortSet, int_inj, fList_S, fList_R, sum_S, sum_li, x_is_between, x_is_sample, x_is_samples, x_distance, x_need_samples, x_need_threshold, x_need_silence, x_is_late, x_source, x_draw, x_samples, x_gap]
theorem w__law_limit (ds : List D) (q : D → Prop) (h : c__law_limit ds q) : t__law_limit (endsF true q) (startE 5 ds) := by
  obtain ⟨rs, rfl, ok, h⟩ := h
  have hp := ok.pos
  have hm := ok.most
  obtain ⟨c, h1, h2, hr⟩ := ok.ch
  simp only [x_start, List.map_cons, List.map_nil, List.length_cons, List.length_nil, List.replicate_succ, List.replicate_zero, List.cons_append, List.nil_append, Nat.reduceSub, Nat.reduceAdd]
  simp only [t__law_limit, ↓sSeq, ↓sRet, ↓sIf, ↓sSet, ↓sOwn, ↓sAsg, ↓sDrop, ↓sNext, ↓sBreak, ↓sNever, ↓sFrz, ↓sApp, ↓sSetIx, ↓sSrc, ↓sPar, ↓sPar3, ↓sAug, ↓sNewSrc, ↓eC, ↓eTest, ↓eAnd, ↓eOr, ↓eNot, ↓eAndV, ↓eOrV, ↓eNotV, ↓eIf, ↓eChain, ↓eNeg, ↓eIx, ↓eIxS, ↓eSl, ↓oNone, ↓oSome, ↓aNil, ↓aCons, ↓eTup, ↓eLst, ↓eTupM, ↓eLstM, ↓eCB, ↓eBin, ↓x_call, ↓x_callK, ↓eSrc, ↓iSeqD, ↓iRg1, ↓iRg2, ↓iRg3, ↓iEnumD, ↓iZipD, ↓gNm, ↓gTp, ↓gsC, ↓gsN, ↓eYes, x_var0, x_var0o, x_varS, fAdd_ii, fAdd_ll, fAdd_tt, fAdd_ss, fMul_ii, fMul_li, fMul_ti, fSub_ii, fDiv_ii, fMod_ii, fPow_ii, fLt_ii, fLe_ii, fGt_ii, fGe_ii, ↓fEq, ↓fNe, ↓fIsN, ↓fNotN, x_lenL, x_lenT, x_lenS, x_lenR, x_lenC, fAbs_i, fInt_i, fInt_b, x_isi, List.set_cons_zero, List.set_cons_succ, List.getElem?_cons_zero, List.getElem?_cons_succ, items_l, items_t, okSt, mdOf, md_i, md_b, md_n, md_s, md_t, md_l, md_y, Md.isCl, Md.isNw, Md.meet, atI_0, atI_m1, atI_1, atI_2, atI_nat, cond_true, cond_false, isNon_i, isNon_n, isT_ii, isT_ib, isT_it, isT_il, isT_bi, isT_bb, isT_tt, isT_ti, isT_lt, isT_ll, isT_nt, isT_ni, isT_nl, tyN_i, tyN_b, tyN_t, tyN_l, tyN_n, dS_isT, dR_isT, dS_tyN, dR_tyN, dQ_isNon, D.flat, D.flats, flats_cons, flats_nil, flats_ints, flat_tup, putOk, slOf_f, slOf_t, Option.some.injEq, D.int.injEq, D.bl.injEq, D.lst.injEq, D.tup.injEq, D.str.injEq, D.scr.injEq, D.ty.injEq, x_consD, x_consD0, x_consD1, and_assoc, reduceCtorEq, exists_eq, exists_eq', exists_eq_left, exists_eq_left', exists_eq_right, exists_eq_right', exists_and_left, exists_and_right, and_true, true_and, and_self, and_false, false_and, or_true, true_or, or_false, false_or, if_true, if_false, ite_true, ite_false, decide_eq_true_eq, decide_eq_false_iff_not, Bool.not_eq_true, Bool.not_eq_true', Bool.not_true, Bool.not_false, Bool.true_eq_false, Bool.false_eq_true, not_true_eq_false, not_false_eq_true, eq_self_iff_true, forall_const, imp_self, List.length_cons, List.length_nil, List.append_nil, List.nil_append, List.cons_append, cpow_6, cpow_18, cpow_5, cpow_7, cpow_15, cpow_12, CMul, Nat.reduceAdd, Nat.reduceLeDiff, Nat.reduceLT, Int.reducePow, Int.reduceNeg, Int.reduceLT, Int.reduceLE, Int.reduceToNat, Int.reduceMul, Int.reduceAdd, Int.reduceSub, frzE, frz1, wipeE, all_nil, all_cons, endsF, x_start, List.map_cons, List.map_nil, List.replicate_succ, List.replicate_zero, Nat.reduceSub, Int.reduceEq, Nat.reduceEqDiff, List.mem_cons, List.not_mem_nil, x_isTs, or_self, Option.isSome_some, Option.isSome_none, String.reduceEq, dS_inj, dR_inj, dQ_inj, dQ_non, dQ_int, dS_md, dR_md, dQ_md, dS_flat, dR_flat, dQ_flat, dS_items, dR_items, List.getElem?_map, Option.map_some, Option.map_none, shp_i, shp_n, shp_b, shp_li, shp_S, shp_R, shp_lS, shp_Q, shp_l0, eqb_int, eqb_l, eqb_S, eqb_R, eqbs_ints, eqbs_dS, eqbs_nil0, eqbs_nilL, eqbs_nilR, Sl.own.injEq, Sl.val.injEq, List.length_map, dR_lst, dR_tup, dS_lst, dS_tup, flats_S, cut_map, cut_1, dR_fold, dS_fold, inI_t, inI_f, Bool.or_false, List.getLast?_map, exists_false, exists_const, Bool.and_self, Bool.and_true, Bool.true_and, Bool.and_false, Bool.false_and, add_S, List.isEmpty_map, fMax_2, fMax_3, fMin_2, flat_non, flat_i, ↓u_for, ↓u_comp, fS_v, fS_n, fS_o, shp_lli, eqbs_dL, ↓eSortSet, int_inj, fList_S, fList_R, sum_S, sum_li, x_is_between, x_is_sample, x_is_samples, x_distance, x_need_samples, x_need_threshold, x_need_silence, x_is_late, x_source, x_draw, x_samples, x_gap, x_limit]
  refine choice_row hp (by omega) fun a ha => ?_
  try simp only [↓sSeq, ↓sRet, ↓sIf, ↓sSet, ↓sOwn, ↓sAsg, ↓sDrop, ↓sNext, ↓sBreak, ↓sNever, ↓sFrz, ↓sApp, ↓sSetIx, ↓sSrc, ↓sPar, ↓sPar3, ↓sAug, ↓sNewSrc, ↓eC, ↓eTest, ↓eAnd, ↓eOr, ↓eNot, ↓eAndV, ↓eOrV, ↓eNotV, ↓eIf, ↓eChain, ↓eNeg, ↓eIx, ↓eIxS, ↓eSl, ↓oNone, ↓oSome, ↓aNil, ↓aCons, ↓eTup, ↓eLst, ↓eTupM, ↓eLstM, ↓eCB, ↓eBin, ↓x_call, ↓x_callK, ↓eSrc, ↓iSeqD, ↓iRg1, ↓iRg2, ↓iRg3, ↓iEnumD, ↓iZipD, ↓gNm, ↓gTp, ↓gsC, ↓gsN, ↓eYes, x_var0, x_var0o, x_varS, fAdd_ii, fAdd_ll, fAdd_tt, fAdd_ss, fMul_ii, fMul_li, fMul_ti, fSub_ii, fDiv_ii, fMod_ii, fPow_ii, fLt_ii, fLe_ii, fGt_ii, fGe_ii, ↓fEq, ↓fNe, ↓fIsN, ↓fNotN, x_lenL, x_lenT, x_lenS, x_lenR, x_lenC, fAbs_i, fInt_i, fInt_b, x_isi, List.set_cons_zero, List.set_cons_succ, List.getElem?_cons_zero, List.getElem?_cons_succ, items_l, items_t, okSt, mdOf, md_i, md_b, md_n, md_s, md_t, md_l, md_y, Md.isCl, Md.isNw, Md.meet, atI_0, atI_m1, atI_1, atI_2, atI_nat, cond_true, cond_false, isNon_i, isNon_n, isT_ii, isT_ib, isT_it, isT_il, isT_bi, isT_bb, isT_tt, isT_ti, isT_lt, isT_ll, isT_nt, isT_ni, isT_nl, tyN_i, tyN_b, tyN_t, tyN_l, tyN_n, dS_isT, dR_isT, dS_tyN, dR_tyN, dQ_isNon, D.flat, D.flats, flats_cons, flats_nil, flats_ints, flat_tup, putOk, slOf_f, slOf_t, Option.some.injEq, D.int.injEq, D.bl.injEq, D.lst.injEq, D.tup.injEq, D.str.injEq, D.scr.injEq, D.ty.injEq, x_consD, x_consD0, x_consD1, and_assoc, reduceCtorEq, exists_eq, exists_eq', exists_eq_left, exists_eq_left', exists_eq_right, exists_eq_right', exists_and_left, exists_and_right, and_true, true_and, and_self, and_false, false_and, or_true, true_or, or_false, false_or, if_true, if_false, ite_true, ite_false, decide_eq_true_eq, decide_eq_false_iff_not, Bool.not_eq_true, Bool.not_eq_true', Bool.not_true, Bool.not_false, Bool.true_eq_false, Bool.false_eq_true, not_true_eq_false, not_false_eq_true, eq_self_iff_true, forall_const, imp_self, List.length_cons, List.length_nil, List.append_nil, List.nil_append, List.cons_append, cpow_6, cpow_18, cpow_5, cpow_7, cpow_15, cpow_12, CMul, Nat.reduceAdd, Nat.reduceLeDiff, Nat.reduceLT, Int.reducePow, Int.reduceNeg, Int.reduceLT, Int.reduceLE, Int.reduceToNat, Int.reduceMul, Int.reduceAdd, Int.reduceSub, frzE, frz1, wipeE, all_nil, all_cons, endsF, x_start, List.map_cons, List.map_nil, List.replicate_succ, List.replicate_zero, Nat.reduceSub, Int.reduceEq, Nat.reduceEqDiff, List.mem_cons, List.not_mem_nil, x_isTs, or_self, Option.isSome_some, Option.isSome_none, String.reduceEq, dS_inj, dR_inj, dQ_inj, dQ_non, dQ_int, dS_md, dR_md, dQ_md, dS_flat, dR_flat, dQ_flat, dS_items, dR_items, List.getElem?_map, Option.map_some, Option.map_none, shp_i, shp_n, shp_b, shp_li, shp_S, shp_R, shp_lS, shp_Q, shp_l0, eqb_int, eqb_l, eqb_S, eqb_R, eqbs_ints, eqbs_dS, eqbs_nil0, eqbs_nilL, eqbs_nilR, Sl.own.injEq, Sl.val.injEq, List.length_map, dR_lst, dR_tup, dS_lst, dS_tup, flats_S, cut_map, cut_1, dR_fold, dS_fold, inI_t, inI_f, Bool.or_false, List.getLast?_map, exists_false, exists_const, Bool.and_self, Bool.and_true, Bool.true_and, Bool.and_false, Bool.false_and, add_S, List.isEmpty_map, fMax_2, fMax_3, fMin_2, flat_non, flat_i, ↓u_for, ↓u_comp, fS_v, fS_n, fS_o, shp_lli, eqbs_dL, ↓eSortSet, int_inj, fList_S, fList_R, sum_S, sum_li, x_is_between, x_is_sample, x_is_samples, x_distance, x_need_samples, x_need_threshold, x_need_silence, x_is_late, x_source, x_draw, x_samples, x_gap, x_limit]
  refine choice_row hp (by omega) fun b hb => ?_
  have g0 := gap_nonneg a b
  have g1 := gap_le (hr a ha) (hr b hb)
  try simp only [↓sSeq, ↓sRet, ↓sIf, ↓sSet, ↓sOwn, ↓sAsg, ↓sDrop, ↓sNext, ↓sBreak, ↓sNever, ↓sFrz, ↓sApp, ↓sSetIx, ↓sSrc, ↓sPar, ↓sPar3, ↓sAug, ↓sNewSrc, ↓eC, ↓eTest, ↓eAnd, ↓eOr, ↓eNot, ↓eAndV, ↓eOrV, ↓eNotV, ↓eIf, ↓eChain, ↓eNeg, ↓eIx, ↓eIxS, ↓eSl, ↓oNone, ↓oSome, ↓aNil, ↓aCons, ↓eTup, ↓eLst, ↓eTupM, ↓eLstM, ↓eCB, ↓eBin, ↓x_call, ↓x_callK, ↓eSrc, ↓iSeqD, ↓iRg1, ↓iRg2, ↓iRg3, ↓iEnumD, ↓iZipD, ↓gNm, ↓gTp, ↓gsC, ↓gsN, ↓eYes, x_var0, x_var0o, x_varS, fAdd_ii, fAdd_ll, fAdd_tt, fAdd_ss, fMul_ii, fMul_li, fMul_ti, fSub_ii, fDiv_ii, fMod_ii, fPow_ii, fLt_ii, fLe_ii, fGt_ii, fGe_ii, ↓fEq, ↓fNe, ↓fIsN, ↓fNotN, x_lenL, x_lenT, x_lenS, x_lenR, x_lenC, fAbs_i, fInt_i, fInt_b, x_isi, List.set_cons_zero, List.set_cons_succ, List.getElem?_cons_zero, List.getElem?_cons_succ, items_l, items_t, okSt, mdOf, md_i, md_b, md_n, md_s, md_t, md_l, md_y, Md.isCl, Md.isNw, Md.meet, atI_0, atI_m1, atI_1, atI_2, atI_nat, cond_true, cond_false, isNon_i, isNon_n, isT_ii, isT_ib, isT_it, isT_il, isT_bi, isT_bb, isT_tt, isT_ti, isT_lt, isT_ll, isT_nt, isT_ni, isT_nl, tyN_i, tyN_b, tyN_t, tyN_l, tyN_n, dS_isT, dR_isT, dS_tyN, dR_tyN, dQ_isNon, D.flat, D.flats, flats_cons, flats_nil, flats_ints, flat_tup, putOk, slOf_f, slOf_t, Option.some.injEq, D.int.injEq, D.bl.injEq, D.lst.injEq, D.tup.injEq, D.str.injEq, D.scr.injEq, D.ty.injEq, x_consD, x_consD0, x_consD1, and_assoc, reduceCtorEq, exists_eq, exists_eq', exists_eq_left, exists_eq_left', exists_eq_right, exists_eq_right', exists_and_left, exists_and_right, and_true, true_and, and_self, and_false, false_and, or_true, true_or, or_false, false_or, if_true, if_false, ite_true, ite_false, decide_eq_true_eq, decide_eq_false_iff_not, Bool.not_eq_true, Bool.not_eq_true', Bool.not_true, Bool.not_false, Bool.true_eq_false, Bool.false_eq_true, not_true_eq_false, not_false_eq_true, eq_self_iff_true, forall_const, imp_self, List.length_cons, List.length_nil, List.append_nil, List.nil_append, List.cons_append, cpow_6, cpow_18, cpow_5, cpow_7, cpow_15, cpow_12, CMul, Nat.reduceAdd, Nat.reduceLeDiff, Nat.reduceLT, Int.reducePow, Int.reduceNeg, Int.reduceLT, Int.reduceLE, Int.reduceToNat, Int.reduceMul, Int.reduceAdd, Int.reduceSub, frzE, frz1, wipeE, all_nil, all_cons, endsF, x_start, List.map_cons, List.map_nil, List.replicate_succ, List.replicate_zero, Nat.reduceSub, Int.reduceEq, Nat.reduceEqDiff, List.mem_cons, List.not_mem_nil, x_isTs, or_self, Option.isSome_some, Option.isSome_none, String.reduceEq, dS_inj, dR_inj, dQ_inj, dQ_non, dQ_int, dS_md, dR_md, dQ_md, dS_flat, dR_flat, dQ_flat, dS_items, dR_items, List.getElem?_map, Option.map_some, Option.map_none, shp_i, shp_n, shp_b, shp_li, shp_S, shp_R, shp_lS, shp_Q, shp_l0, eqb_int, eqb_l, eqb_S, eqb_R, eqbs_ints, eqbs_dS, eqbs_nil0, eqbs_nilL, eqbs_nilR, Sl.own.injEq, Sl.val.injEq, List.length_map, dR_lst, dR_tup, dS_lst, dS_tup, flats_S, cut_map, cut_1, dR_fold, dS_fold, inI_t, inI_f, Bool.or_false, List.getLast?_map, exists_false, exists_const, Bool.and_self, Bool.and_true, Bool.true_and, Bool.and_false, Bool.false_and, add_S, List.isEmpty_map, fMax_2, fMax_3, fMin_2, flat_non, flat_i, ↓u_for, ↓u_comp, fS_v, fS_n, fS_o, shp_lli, eqbs_dL, ↓eSortSet, int_inj, fList_S, fList_R, sum_S, sum_li, x_is_between, x_is_sample, x_is_samples, x_distance, x_need_samples, x_need_threshold, x_need_silence, x_is_late, x_source, x_draw, x_samples, x_gap, x_limit]
  generalize gap a b = g at g0 g1
  intro k hk j hj
  refine choice_int (ns := [max 0 (g + k - 1), max 0 (g + k - 1), max 0 (g + k - 1) / 2, j, 2 * max 0 (g + k - 1)]) OkT h (by simp) fun u hu => ?_
  simp only [List.mem_cons, List.not_mem_nil, or_false] at hu
  unfold OkT
  omega
def t__law_quiet : S1 := (sRet (eCall true [] c__law_choice (aCons (eVar 0) (aCons (eLst (aCons (eC .non) (aCons (eC .non) (aCons (eC .non) (aCons (eBin fAdd (eC (.int 1)) (eCall true [] c__law_draw (aCons (eVar 0) (aCons (eC (.int 6)) aNil)))) (aCons (eBin fAdd (eC (.int 1)) (eCall true [] c__law_draw (aCons (eVar 0) (aCons (eC (.int 60)) aNil)))) aNil)))))) aNil))))
def c__law_quiet : C1 := fun ds q => ds = [.src] ∧ ∀ s, OkQ s → q (dQ s)
theorem m__law_quiet : MonoC c__law_quiet := fun ds q q' k ⟨e, h⟩ => ⟨e, fun t z => k _ (h t z)⟩
theorem x_quiet {q : D → Prop} : callC c__law_quiet [.src] q = (∀ s, OkQ s → q (dQ s)) := by
  simp only [callC, c__law_quiet, ↓sSeq, ↓sRet, ↓sIf, ↓sSet, ↓sOwn, ↓sAsg, ↓sDrop, ↓sNext, ↓sBreak, ↓sNever, ↓sFrz, ↓sApp, ↓sSetIx, ↓sSrc, ↓sPar, ↓sPar3, ↓sAug, ↓sNewSrc, ↓eC, ↓eTest, ↓eAnd, ↓eOr, ↓eNot, ↓eAndV, ↓eOrV, ↓eNotV, ↓eIf, ↓eChain, ↓eNeg, ↓eIx, ↓eIxS, ↓eSl, ↓oNone, ↓oSome, ↓aNil, ↓aCons, ↓eTup, ↓eLst, ↓eTupM, ↓eLstM, ↓eCB, ↓eBin, ↓x_call, ↓x_callK, ↓eSrc, ↓iSeqD, ↓iRg1, ↓iRg2, ↓iRg3, ↓iEnumD, ↓iZipD, ↓gNm, ↓gTp, ↓gsC, ↓gsN, ↓eYes, x_var0, x_var0o, x_varS, fAdd_ii, fAdd_ll, fAdd_tt, fAdd_ss, fMul_ii, fMul_li, fMul_ti, fSub_ii, fDiv_ii, fMod_ii, fPow_ii, fLt_ii, fLe_ii, fGt_ii, fGe_ii, ↓fEq, ↓fNe, ↓fIsN, ↓fNotN, x_lenL, x_lenT, x_lenS, x_lenR, x_lenC, fAbs_i, fInt_i, fInt_b, x_isi, List.set_cons_zero, List.set_cons_succ, List.getElem?_cons_zero, List.getElem?_cons_succ, items_l, items_t, okSt, mdOf, md_i, md_b, md_n, md_s, md_t, md_l, md_y, Md.isCl, Md.isNw, Md.meet, atI_0, atI_m1, atI_1, atI_2, atI_nat, cond_true, cond_false, isNon_i, isNon_n, isT_ii, isT_ib, isT_it, isT_il, isT_bi, isT_bb, isT_tt, isT_ti, isT_lt, isT_ll, isT_nt, isT_ni, isT_nl, tyN_i, tyN_b, tyN_t, tyN_l, tyN_n, dS_isT, dR_isT, dS_tyN, dR_tyN, dQ_isNon, D.flat, D.flats, flats_cons, flats_nil, flats_ints, flat_tup, putOk, slOf_f, slOf_t, Option.some.injEq, D.int.injEq, D.bl.injEq, D.lst.injEq, D.tup.injEq, D.str.injEq, D.scr.injEq, D.ty.injEq, x_consD, x_consD0, x_consD1, and_assoc, reduceCtorEq, exists_eq, exists_eq', exists_eq_left, exists_eq_left', exists_eq_right, exists_eq_right', exists_and_left, exists_and_right, and_true, true_and, and_self, and_false, false_and, or_true, true_or, or_false, false_or, if_true, if_false, ite_true, ite_false, decide_eq_true_eq, decide_eq_false_iff_not, Bool.not_eq_true, Bool.not_eq_true', Bool.not_true, Bool.not_false, Bool.true_eq_false, Bool.false_eq_true, not_true_eq_false, not_false_eq_true, eq_self_iff_true, forall_const, imp_self, List.length_cons, List.length_nil, List.append_nil, List.nil_append, List.cons_append, cpow_6, cpow_18, cpow_5, cpow_7, cpow_15, cpow_12, CMul, Nat.reduceAdd, Nat.reduceLeDiff, Nat.reduceLT, Int.reducePow, Int.reduceNeg, Int.reduceLT, Int.reduceLE, Int.reduceToNat, Int.reduceMul, Int.reduceAdd, Int.reduceSub, frzE, frz1, wipeE, all_nil, all_cons, endsF, x_start, List.map_cons, List.map_nil, List.replicate_succ, List.replicate_zero, Nat.reduceSub, Int.reduceEq, Nat.reduceEqDiff, List.mem_cons, List.not_mem_nil, x_isTs, or_self, Option.isSome_some, Option.isSome_none, String.reduceEq, dS_inj, dR_inj, dQ_inj, dQ_non, dQ_int, dS_md, dR_md, dQ_md, dS_flat, dR_flat, dQ_flat, dS_items, dR_items, List.getElem?_map, Option.map_some, Option.map_none, shp_i, shp_n, shp_b, shp_li, shp_S, shp_R, shp_lS, shp_Q, shp_l0, eqb_int, eqb_l, eqb_S, eqb_R, eqbs_ints, eqbs_dS, eqbs_nil0, eqbs_nilL, eqbs_nilR, Sl.own.injEq, Sl.val.injEq, List.length_map, dR_lst, dR_tup, dS_lst, dS_tup, flats_S, cut_map, cut_1, dR_fold, dS_fold, inI_t, inI_f, Bool.or_false, List.getLast?_map, exists_false, exists_const, Bool.and_self, Bool.and_true, Bool.true_and, Bool.and_false, Bool.false_and, add_S, List.isEmpty_map, fMax_2, fMax_3, fMin_2, flat_non, flat_i, ↓u_for, ↓u_comp, fS_v, fS_n, fS_o, shp_lli, eqbs_dL, ↓eSortSet, int_inj, fList_S, fList_R, sum_S, sum_li, x_is_between, x_is_sample, x_is_samples, x_distance, x_need_samples, x_need_threshold, x_need_silence, x_is_late, x_source, x_draw, x_samples, x_gap, x_limit]
theorem w__law_quiet (ds : List D) (q : D → Prop) (h : c__law_quiet ds q) : t__law_quiet (endsF true q) (startE 1 ds) := by
  obtain ⟨rfl, h⟩ := h
  simp only [x_start, List.map_cons, List.map_nil, List.length_cons, List.length_nil, List.replicate_succ, List.replicate_zero, List.cons_append, List.nil_append, Nat.reduceSub, Nat.reduceAdd]
  simp only [t__law_quiet, ↓sSeq, ↓sRet, ↓sIf, ↓sSet, ↓sOwn, ↓sAsg, ↓sDrop, ↓sNext, ↓sBreak, ↓sNever, ↓sFrz, ↓sApp, ↓sSetIx, ↓sSrc, ↓sPar, ↓sPar3, ↓sAug, ↓sNewSrc, ↓eC, ↓eTest, ↓eAnd, ↓eOr, ↓eNot, ↓eAndV, ↓eOrV, ↓eNotV, ↓eIf, ↓eChain, ↓eNeg, ↓eIx, ↓eIxS, ↓eSl, ↓oNone, ↓oSome, ↓aNil, ↓aCons, ↓eTup, ↓eLst, ↓eTupM, ↓eLstM, ↓eCB, ↓eBin, ↓x_call, ↓x_callK, ↓eSrc, ↓iSeqD, ↓iRg1, ↓iRg2, ↓iRg3, ↓iEnumD, ↓iZipD, ↓gNm, ↓gTp, ↓gsC, ↓gsN, ↓eYes, x_var0, x_var0o, x_varS, fAdd_ii, fAdd_ll, fAdd_tt, fAdd_ss, fMul_ii, fMul_li, fMul_ti, fSub_ii, fDiv_ii, fMod_ii, fPow_ii, fLt_ii, fLe_ii, fGt_ii, fGe_ii, ↓fEq, ↓fNe, ↓fIsN, ↓fNotN, x_lenL, x_lenT, x_lenS, x_lenR, x_lenC, fAbs_i, fInt_i, fInt_b, x_isi, List.set_cons_zero, List.set_cons_succ, List.getElem?_cons_zero, List.getElem?_cons_succ, items_l, items_t, okSt, mdOf, md_i, md_b, md_n, md_s, md_t, md_l, md_y, Md.isCl, Md.isNw, Md.meet, atI_0, atI_m1, atI_1, atI_2, atI_nat, cond_true, cond_false, isNon_i, isNon_n, isT_ii, isT_ib, isT_it, isT_il, isT_bi, isT_bb, isT_tt, isT_ti, isT_lt, isT_ll, isT_nt, isT_ni, isT_nl, tyN_i, tyN_b, tyN_t, tyN_l, tyN_n, dS_isT, dR_isT, dS_tyN, dR_tyN, dQ_isNon, D.flat, D.flats, flats_cons, flats_nil, flats_ints, flat_tup, putOk, slOf_f, slOf_t, Option.some.injEq, D.int.injEq, D.bl.injEq, D.lst.injEq, D.tup.injEq, D.str.injEq, D.scr.injEq, D.ty.injEq, x_consD, x_consD0, x_consD1, and_assoc, reduceCtorEq, exists_eq, exists_eq', exists_eq_left, exists_eq_left', exists_eq_right, exists_eq_right', exists_and_left, exists_and_right, and_true, true_and, and_self, and_false, false_and, or_true, true_or, or_false, false_or, if_true, if_false, ite_true, ite_false, decide_eq_true_eq, decide_eq_false_iff_not, Bool.not_eq_true, Bool.not_eq_true', Bool.not_true, Bool.not_false, Bool.true_eq_false, Bool.false_eq_true, not_true_eq_false, not_false_eq_true, eq_self_iff_true, forall_const, imp_self, List.length_cons, List.length_nil, List.append_nil, List.nil_append, List.cons_append, cpow_6, cpow_18, cpow_5, cpow_7, cpow_15, cpow_12, CMul, Nat.reduceAdd, Nat.reduceLeDiff, Nat.reduceLT, Int.reducePow, Int.reduceNeg, Int.reduceLT, Int.reduceLE, Int.reduceToNat, Int.reduceMul, Int.reduceAdd, Int.reduceSub, frzE, frz1, wipeE, all_nil, all_cons, endsF, x_start, List.map_cons, List.map_nil, List.replicate_succ, List.replicate_zero, Nat.reduceSub, Int.reduceEq, Nat.reduceEqDiff, List.mem_cons, List.not_mem_nil, x_isTs, or_self, Option.isSome_some, Option.isSome_none, String.reduceEq, dS_inj, dR_inj, dQ_inj, dQ_non, dQ_int, dS_md, dR_md, dQ_md, dS_flat, dR_flat, dQ_flat, dS_items, dR_items, List.getElem?_map, Option.map_some, Option.map_none, shp_i, shp_n, shp_b, shp_li, shp_S, shp_R, shp_lS, shp_Q, shp_l0, eqb_int, eqb_l, eqb_S, eqb_R, eqbs_ints, eqbs_dS, eqbs_nil0, eqbs_nilL, eqbs_nilR, Sl.own.injEq, Sl.val.injEq, List.length_map, dR_lst, dR_tup, dS_lst, dS_tup, flats_S, cut_map, cut_1, dR_fold, dS_fold, inI_t, inI_f, Bool.or_false, List.getLast?_map, exists_false, exists_const, Bool.and_self, Bool.and_true, Bool.true_and, Bool.and_false, Bool.false_and, add_S, List.isEmpty_map, fMax_2, fMax_3, fMin_2, flat_non, flat_i, ↓u_for, ↓u_comp, fS_v, fS_n, fS_o, shp_lli, eqbs_dL, ↓eSortSet, int_inj, fList_S, fList_R, sum_S, sum_li, x_is_between, x_is_sample, x_is_samples, x_distance, x_need_samples, x_need_threshold, x_need_silence, x_is_late, x_source, x_draw, x_samples, x_gap, x_limit, x_quiet]
  intro k hk j hj
  refine choice_q (ns := [none, none, none, some (1 + k), some (1 + j)]) (by simp) fun u hu => ?_
  refine h u fun i hi => ?_
  subst hi
  simp only [List.mem_cons, List.not_mem_nil, or_false, reduceCtorEq, false_or, Option.some.injEq] at hu
  omega
end VL
/-! VC2: what reporting's defs do. -/
namespace VL
open PySem L2
theorem OkS.same {c : Nat} {a b : Row} (h1 : 1 ≤ c) (h2 : c ≤ 3) (ha : OkS c a) (hb : OkS c b) : Same2 a b := by
  have := ha.len; have := hb.len
  exact ⟨by omega, by omega, by omega⟩
/-- the places at which is reported -/
def repF (t : Int) (s : Option Int) : List Row → Nat → Int → Row → List Int
  | [], _, _, _ => []
  | r :: rs, i, l, v => if t < gap r v ∨ late l i s = true then (i : Int) :: repF t s rs (i + 1) i r else repF t s rs (i + 1) l v
theorem repF_nil {t : Int} {s : Option Int} {i : Nat} {l : Int} {v : Row} : repF t s [] i l v = [] := rfl
theorem repF_cons {t : Int} {s : Option Int} {r : Row} {rs : List Row} {i : Nat} {l : Int} {v : Row} : repF t s (r :: rs) i l v = if t < gap r v ∨ late l i s = true then (i : Int) :: repF t s rs (i + 1) i r else repF t s rs (i + 1) l v := rfl
def allRep (t : Int) (s : Option Int) (rs : List Row) : List Int := 0 :: (repF t s rs.tail 0 (-1) (rs.headD [])).map (· + 1)
theorem drop_get {α : Type} {xs : List α} {i : Nat} {x : α} (h : xs[i]? = some x) : xs.drop i = x :: xs.drop (i + 1) := by
  obtain ⟨h1, h2⟩ := List.getElem?_eq_some_iff.mp h
  rw [← h2]
  exact List.drop_eq_getElem_cons h1
structure Rep (rs : List Row) (v : Row) : Prop where
  most : rs.length ≤ 1000
  ch : ∃ c, 1 ≤ c ∧ c ≤ 3 ∧ (∀ r ∈ rs, OkS c r) ∧ OkS c v
def t_reported : S1 := (sSeq (sOwn 5 (eLst aNil)) (sSeq (sFor false [6, 7] (iEnumD (aCons (eVar 0) aNil)) (gTp 2 (gsC (gNm 6) (gsC (gNm 7) gsN))) (sIf (eOr (eTest (eBin fGt (eCall true [] c_distance (aCons (eVar 7) (aCons (eVar 4) aNil))) (eVar 1))) (eTest (eCall true [] c_is_late (aCons (eVar 3) (aCons (eVar 6) (aCons (eVar 2) aNil)))))) (sSeq (sPar false false 3 4 (eVar 6) (eVar 7)) (sApp 5 (eVar 6))) sNext)) (sRet (eVar 5))))
/-- rows as a tuple or as a list -/
def IsR (X : D) (rs : List Row) : Prop := X = dR rs ∨ X = .lst (rs.map dS)
theorem IsR.t {rs : List Row} : IsR (dR rs) rs := .inl rfl
theorem IsR.l {rs : List Row} : IsR (.lst (rs.map dS)) rs := .inr rfl
theorem IsR.it {X : D} {rs : List Row} (h : IsR X rs) : X.items = some (rs.map dS) := by rcases h with rfl | rfl <;> rfl
theorem IsR.md {X : D} {rs : List Row} (h : IsR X rs) : X.md = .cl := by rcases h with rfl | rfl <;> rfl
theorem IsR.ln {X : D} {rs : List Row} (h : IsR X rs) (q : D → Prop) : fLen [X] q = q (.int rs.length) := by
  rcases h with rfl | rfl
  · exact x_lenR
  · rw [x_lenL, List.length_map]
theorem IsR.eq {X : D} {rs rs' : List Row} (h : IsR X rs) (h' : IsR X rs') : rs = rs' := by
  have e := h.it.symm.trans h'.it
  exact map_inj (fun x y z => dS_inj.mp z) (Option.some.inj e)
def c_reported : C1 := fun ds q => ∃ (X : D) (rs : List Row) (t : Int) (s : Option Int) (l : Int) (v : Row), ds = [X, .int t, dQ s, .int l, dS v] ∧ IsR X rs ∧ Rep rs v ∧ q (.lst ((repF t s rs 0 l v).map .int))
theorem m_reported : MonoC c_reported := fun ds q q' k ⟨X, rs, t, s, l, v, e, h0, h1, h⟩ => ⟨X, rs, t, s, l, v, e, h0, h1, k _ h⟩
theorem xX_reported {X : D} {rs : List Row} {t : Int} {s : Option Int} {l : Int} {v : Row} {q : D → Prop} (hX : IsR X rs) : callC c_reported [X, .int t, dQ s, .int l, dS v] q = (Rep rs v ∧ q (.lst ((repF t s rs 0 l v).map .int))) := by
  refine propext ⟨fun ⟨X', rs', t', s', l', v', e, h0, h⟩ => ?_, fun h => ⟨X, rs, t, s, l, v, rfl, hX, h⟩⟩
  simp only [↓sSeq, ↓sRet, ↓sIf, ↓sSet, ↓sOwn, ↓sAsg, ↓sDrop, ↓sNext, ↓sBreak, ↓sNever, ↓sFrz, ↓sApp, ↓sSetIx, ↓sSrc, ↓sPar, ↓sPar3, ↓sAug, ↓sNewSrc, ↓eC, ↓eTest, ↓eAnd, ↓eOr, ↓eNot, ↓eAndV, ↓eOrV, ↓eNotV, ↓eIf, ↓eChain, ↓eNeg, ↓eIx, ↓eIxS, ↓eSl, ↓oNone, ↓oSome, ↓aNil, ↓aCons, ↓eTup, ↓eLst, ↓eTupM, ↓eLstM, ↓eCB, ↓eBin, ↓x_call, ↓x_callK, ↓eSrc, ↓iSeqD, ↓iRg1, ↓iRg2, ↓iRg3, ↓iEnumD, ↓iZipD, ↓gNm, ↓gTp, ↓gsC, ↓gsN, ↓eYes, x_var0, x_var0o, x_varS, fAdd_ii, fAdd_ll, fAdd_tt, fAdd_ss, fMul_ii, fMul_li, fMul_ti, fSub_ii, fDiv_ii, fMod_ii, fPow_ii, fLt_ii, fLe_ii, fGt_ii, fGe_ii, ↓fEq, ↓fNe, ↓fIsN, ↓fNotN, x_lenL, x_lenT, x_lenS, x_lenR, x_lenC, fAbs_i, fInt_i, fInt_b, x_isi, List.set_cons_zero, List.set_cons_succ, List.getElem?_cons_zero, List.getElem?_cons_succ, items_l, items_t, okSt, mdOf, md_i, md_b, md_n, md_s, md_t, md_l, md_y, Md.isCl, Md.isNw, Md.meet, atI_0, atI_m1, atI_1, atI_2, atI_nat, cond_true, cond_false, isNon_i, isNon_n, isT_ii, isT_ib, isT_it, isT_il, isT_bi, isT_bb, isT_tt, isT_ti, isT_lt, isT_ll, isT_nt, isT_ni, isT_nl, tyN_i, tyN_b, tyN_t, tyN_l, tyN_n, dS_isT, dR_isT, dS_tyN, dR_tyN, dQ_isNon, D.flat, D.flats, flats_cons, flats_nil, flats_ints, flat_tup, putOk, slOf_f, slOf_t, Option.some.injEq, D.int.injEq, D.bl.injEq, D.lst.injEq, D.tup.injEq, D.str.injEq, D.scr.injEq, D.ty.injEq, x_consD, x_consD0, x_consD1, and_assoc, reduceCtorEq, exists_eq, exists_eq', exists_eq_left, exists_eq_left', exists_eq_right, exists_eq_right', exists_and_left, exists_and_right, and_true, true_and, and_self, and_false, false_and, or_true, true_or, or_false, false_or, if_true, if_false, ite_true, ite_false, decide_eq_true_eq, decide_eq_false_iff_not, Bool.not_eq_true, Bool.not_eq_true', Bool.not_true, Bool.not_false, Bool.true_eq_false, Bool.false_eq_true, not_true_eq_false, not_false_eq_true, eq_self_iff_true, forall_const, imp_self, List.length_cons, List.length_nil, List.append_nil, List.nil_append, List.cons_append, cpow_6, cpow_18, cpow_5, cpow_7, cpow_15, cpow_12, CMul, Nat.reduceAdd, Nat.reduceLeDiff, Nat.reduceLT, Int.reducePow, Int.reduceNeg, Int.reduceLT, Int.reduceLE, Int.reduceToNat, Int.reduceMul, Int.reduceAdd, Int.reduceSub, frzE, frz1, wipeE, all_nil, all_cons, endsF, x_start, List.map_cons, List.map_nil, List.replicate_succ, List.replicate_zero, Nat.reduceSub, Int.reduceEq, Nat.reduceEqDiff, List.mem_cons, List.not_mem_nil, x_isTs, or_self, Option.isSome_some, Option.isSome_none, String.reduceEq, dS_inj, dR_inj, dQ_inj, dQ_non, dQ_int, dS_md, dR_md, dQ_md, dS_flat, dR_flat, dQ_flat, dS_items, dR_items, List.getElem?_map, Option.map_some, Option.map_none, shp_i, shp_n, shp_b, shp_li, shp_S, shp_R, shp_lS, shp_Q, shp_l0, eqb_int, eqb_l, eqb_S, eqb_R, eqbs_ints, eqbs_dS, eqbs_nil0, eqbs_nilL, eqbs_nilR, Sl.own.injEq, Sl.val.injEq, List.length_map, dR_lst, dR_tup, dS_lst, dS_tup, flats_S, cut_map, cut_1, dR_fold, dS_fold, inI_t, inI_f, Bool.or_false, List.getLast?_map, exists_false, exists_const, Bool.and_self, Bool.and_true, Bool.true_and, Bool.and_false, Bool.false_and, add_S, List.isEmpty_map, fMax_2, fMax_3, fMin_2, flat_non, flat_i, ↓u_for, ↓u_comp, fS_v, fS_n, fS_o, shp_lli, eqbs_dL, ↓eSortSet, int_inj, fList_S, fList_R, sum_S, sum_li, x_is_between, x_is_sample, x_is_samples, x_distance, x_need_samples, x_need_threshold, x_need_silence, x_is_late] at e
  obtain ⟨rfl, rfl, rfl, rfl, rfl⟩ := e
  rw [hX.eq h0]
  exact h
theorem x_reported {rs : List Row} {t : Int} {s : Option Int} {l : Int} {v : Row} {q : D → Prop} : callC c_reported [dR rs, .int t, dQ s, .int l, dS v] q = (Rep rs v ∧ q (.lst ((repF t s rs 0 l v).map .int))) := xX_reported .t
theorem x_reportedL {rs : List Row} {t : Int} {s : Option Int} {l : Int} {v : Row} {q : D → Prop} : callC c_reported [.lst (rs.map dS), .int t, dQ s, .int l, dS v] q = (Rep rs v ∧ q (.lst ((repF t s rs 0 l v).map .int))) := xX_reported .l
theorem w_reported (ds : List D) (q : D → Prop) (h : c_reported ds q) : t_reported (endsF true q) (startE 8 ds) := by
  obtain ⟨X, rs, t, s, l0, v0, rfl, hX, ⟨hm, c, h1, h2, hr, hv⟩, h⟩ := h
  simp only [x_start, List.map_cons, List.map_nil, List.length_cons, List.length_nil, List.replicate_succ, List.replicate_zero, List.cons_append, List.nil_append, Nat.reduceSub, Nat.reduceAdd]
  simp only [t_reported, ↓sSeq, ↓sRet, ↓sIf, ↓sSet, ↓sOwn, ↓sAsg, ↓sDrop, ↓sNext, ↓sBreak, ↓sNever, ↓sFrz, ↓sApp, ↓sSetIx, ↓sSrc, ↓sPar, ↓sPar3, ↓sAug, ↓sNewSrc, ↓eC, ↓eTest, ↓eAnd, ↓eOr, ↓eNot, ↓eAndV, ↓eOrV, ↓eNotV, ↓eIf, ↓eChain, ↓eNeg, ↓eIx, ↓eIxS, ↓eSl, ↓oNone, ↓oSome, ↓aNil, ↓aCons, ↓eTup, ↓eLst, ↓eTupM, ↓eLstM, ↓eCB, ↓eBin, ↓x_call, ↓x_callK, ↓eSrc, ↓iSeqD, ↓iRg1, ↓iRg2, ↓iRg3, ↓iEnumD, ↓iZipD, ↓gNm, ↓gTp, ↓gsC, ↓gsN, ↓eYes, x_var0, x_var0o, x_varS, fAdd_ii, fAdd_ll, fAdd_tt, fAdd_ss, fMul_ii, fMul_li, fMul_ti, fSub_ii, fDiv_ii, fMod_ii, fPow_ii, fLt_ii, fLe_ii, fGt_ii, fGe_ii, ↓fEq, ↓fNe, ↓fIsN, ↓fNotN, x_lenL, x_lenT, x_lenS, x_lenR, x_lenC, fAbs_i, fInt_i, fInt_b, x_isi, List.set_cons_zero, List.set_cons_succ, List.getElem?_cons_zero, List.getElem?_cons_succ, items_l, items_t, okSt, mdOf, md_i, md_b, md_n, md_s, md_t, md_l, md_y, Md.isCl, Md.isNw, Md.meet, atI_0, atI_m1, atI_1, atI_2, atI_nat, cond_true, cond_false, isNon_i, isNon_n, isT_ii, isT_ib, isT_it, isT_il, isT_bi, isT_bb, isT_tt, isT_ti, isT_lt, isT_ll, isT_nt, isT_ni, isT_nl, tyN_i, tyN_b, tyN_t, tyN_l, tyN_n, dS_isT, dR_isT, dS_tyN, dR_tyN, dQ_isNon, D.flat, D.flats, flats_cons, flats_nil, flats_ints, flat_tup, putOk, slOf_f, slOf_t, Option.some.injEq, D.int.injEq, D.bl.injEq, D.lst.injEq, D.tup.injEq, D.str.injEq, D.scr.injEq, D.ty.injEq, x_consD, x_consD0, x_consD1, and_assoc, reduceCtorEq, exists_eq, exists_eq', exists_eq_left, exists_eq_left', exists_eq_right, exists_eq_right', exists_and_left, exists_and_right, and_true, true_and, and_self, and_false, false_and, or_true, true_or, or_false, false_or, if_true, if_false, ite_true, ite_false, decide_eq_true_eq, decide_eq_false_iff_not, Bool.not_eq_true, Bool.not_eq_true', Bool.not_true, Bool.not_false, Bool.true_eq_false, Bool.false_eq_true, not_true_eq_false, not_false_eq_true, eq_self_iff_true, forall_const, imp_self, List.length_cons, List.length_nil, List.append_nil, List.nil_append, List.cons_append, cpow_6, cpow_18, cpow_5, cpow_7, cpow_15, cpow_12, CMul, Nat.reduceAdd, Nat.reduceLeDiff, Nat.reduceLT, Int.reducePow, Int.reduceNeg, Int.reduceLT, Int.reduceLE, Int.reduceToNat, Int.reduceMul, Int.reduceAdd, Int.reduceSub, frzE, frz1, wipeE, all_nil, all_cons, endsF, x_start, List.map_cons, List.map_nil, List.replicate_succ, List.replicate_zero, Nat.reduceSub, Int.reduceEq, Nat.reduceEqDiff, List.mem_cons, List.not_mem_nil, x_isTs, or_self, Option.isSome_some, Option.isSome_none, String.reduceEq, dS_inj, dR_inj, dQ_inj, dQ_non, dQ_int, dS_md, dR_md, dQ_md, dS_flat, dR_flat, dQ_flat, dS_items, dR_items, List.getElem?_map, Option.map_some, Option.map_none, shp_i, shp_n, shp_b, shp_li, shp_S, shp_R, shp_lS, shp_Q, shp_l0, eqb_int, eqb_l, eqb_S, eqb_R, eqbs_ints, eqbs_dS, eqbs_nil0, eqbs_nilL, eqbs_nilR, Sl.own.injEq, Sl.val.injEq, List.length_map, dR_lst, dR_tup, dS_lst, dS_tup, flats_S, cut_map, cut_1, dR_fold, dS_fold, inI_t, inI_f, Bool.or_false, List.getLast?_map, exists_false, exists_const, Bool.and_self, Bool.and_true, Bool.true_and, Bool.and_false, Bool.false_and, add_S, List.isEmpty_map, fMax_2, fMax_3, fMin_2, flat_non, flat_i, ↓u_for, ↓u_comp, fS_v, fS_n, fS_o, shp_lli, eqbs_dL, ↓eSortSet, int_inj, fList_S, fList_R, sum_S, sum_li, x_is_between, x_is_sample, x_is_samples, x_distance, x_need_samples, x_need_threshold, x_need_silence, x_is_late, x_reported, x_reportedL, hX.it, hX.md]
  refine for_st (σ := List Int × Int × Row) (rs.mapIdx fun i x => (i, x)) (fun p => .tup [.int (p.1 : Nat), dS p.2])
    (fun z => [.val X, .val (.int t), .val (dQ s), .val (.int z.2.1), .val (dS z.2.2), .own (z.1.map .int), .non, .non])
    (fun i z => z.1.length ≤ i ∧ OkS c z.2.2 ∧ z.1 ++ repF t s (rs.drop i) i z.2.1 z.2.2 = repF t s rs 0 l0 v0) ([], l0, v0) (enumD_map ..) rfl (fun z => nomatch z) rfl ⟨Nat.le_refl _, hv, rfl⟩ ?_ ?_
  · rintro i ⟨j, r⟩ ⟨f, l, v⟩ hx ⟨hf, hv, hI⟩ N hN
    obtain ⟨hx, rfl⟩ := get_enum hx
    have hi := (List.getElem?_eq_some_iff.mp hx).1
    have hr' := hr r (List.mem_of_getElem? hx)
    rw [drop_get hx, repF_cons] at hI
    simp only [↓sSeq, ↓sRet, ↓sIf, ↓sSet, ↓sOwn, ↓sAsg, ↓sDrop, ↓sNext, ↓sBreak, ↓sNever, ↓sFrz, ↓sApp, ↓sSetIx, ↓sSrc, ↓sPar, ↓sPar3, ↓sAug, ↓sNewSrc, ↓eC, ↓eTest, ↓eAnd, ↓eOr, ↓eNot, ↓eAndV, ↓eOrV, ↓eNotV, ↓eIf, ↓eChain, ↓eNeg, ↓eIx, ↓eIxS, ↓eSl, ↓oNone, ↓oSome, ↓aNil, ↓aCons, ↓eTup, ↓eLst, ↓eTupM, ↓eLstM, ↓eCB, ↓eBin, ↓x_call, ↓x_callK, ↓eSrc, ↓iSeqD, ↓iRg1, ↓iRg2, ↓iRg3, ↓iEnumD, ↓iZipD, ↓gNm, ↓gTp, ↓gsC, ↓gsN, ↓eYes, x_var0, x_var0o, x_varS, fAdd_ii, fAdd_ll, fAdd_tt, fAdd_ss, fMul_ii, fMul_li, fMul_ti, fSub_ii, fDiv_ii, fMod_ii, fPow_ii, fLt_ii, fLe_ii, fGt_ii, fGe_ii, ↓fEq, ↓fNe, ↓fIsN, ↓fNotN, x_lenL, x_lenT, x_lenS, x_lenR, x_lenC, fAbs_i, fInt_i, fInt_b, x_isi, List.set_cons_zero, List.set_cons_succ, List.getElem?_cons_zero, List.getElem?_cons_succ, items_l, items_t, okSt, mdOf, md_i, md_b, md_n, md_s, md_t, md_l, md_y, Md.isCl, Md.isNw, Md.meet, atI_0, atI_m1, atI_1, atI_2, atI_nat, cond_true, cond_false, isNon_i, isNon_n, isT_ii, isT_ib, isT_it, isT_il, isT_bi, isT_bb, isT_tt, isT_ti, isT_lt, isT_ll, isT_nt, isT_ni, isT_nl, tyN_i, tyN_b, tyN_t, tyN_l, tyN_n, dS_isT, dR_isT, dS_tyN, dR_tyN, dQ_isNon, D.flat, D.flats, flats_cons, flats_nil, flats_ints, flat_tup, putOk, slOf_f, slOf_t, Option.some.injEq, D.int.injEq, D.bl.injEq, D.lst.injEq, D.tup.injEq, D.str.injEq, D.scr.injEq, D.ty.injEq, x_consD, x_consD0, x_consD1, and_assoc, reduceCtorEq, exists_eq, exists_eq', exists_eq_left, exists_eq_left', exists_eq_right, exists_eq_right', exists_and_left, exists_and_right, and_true, true_and, and_self, and_false, false_and, or_true, true_or, or_false, false_or, if_true, if_false, ite_true, ite_false, decide_eq_true_eq, decide_eq_false_iff_not, Bool.not_eq_true, Bool.not_eq_true', Bool.not_true, Bool.not_false, Bool.true_eq_false, Bool.false_eq_true, not_true_eq_false, not_false_eq_true, eq_self_iff_true, forall_const, imp_self, List.length_cons, List.length_nil, List.append_nil, List.nil_append, List.cons_append, cpow_6, cpow_18, cpow_5, cpow_7, cpow_15, cpow_12, CMul, Nat.reduceAdd, Nat.reduceLeDiff, Nat.reduceLT, Int.reducePow, Int.reduceNeg, Int.reduceLT, Int.reduceLE, Int.reduceToNat, Int.reduceMul, Int.reduceAdd, Int.reduceSub, frzE, frz1, wipeE, all_nil, all_cons, endsF, x_start, List.map_cons, List.map_nil, List.replicate_succ, List.replicate_zero, Nat.reduceSub, Int.reduceEq, Nat.reduceEqDiff, List.mem_cons, List.not_mem_nil, x_isTs, or_self, Option.isSome_some, Option.isSome_none, String.reduceEq, dS_inj, dR_inj, dQ_inj, dQ_non, dQ_int, dS_md, dR_md, dQ_md, dS_flat, dR_flat, dQ_flat, dS_items, dR_items, List.getElem?_map, Option.map_some, Option.map_none, shp_i, shp_n, shp_b, shp_li, shp_S, shp_R, shp_lS, shp_Q, shp_l0, eqb_int, eqb_l, eqb_S, eqb_R, eqbs_ints, eqbs_dS, eqbs_nil0, eqbs_nilL, eqbs_nilR, Sl.own.injEq, Sl.val.injEq, List.length_map, dR_lst, dR_tup, dS_lst, dS_tup, flats_S, cut_map, cut_1, dR_fold, dS_fold, inI_t, inI_f, Bool.or_false, List.getLast?_map, exists_false, exists_const, Bool.and_self, Bool.and_true, Bool.true_and, Bool.and_false, Bool.false_and, add_S, List.isEmpty_map, fMax_2, fMax_3, fMin_2, flat_non, flat_i, ↓u_for, ↓u_comp, fS_v, fS_n, fS_o, shp_lli, eqbs_dL, ↓eSortSet, int_inj, fList_S, fList_R, sum_S, sum_li, x_is_between, x_is_sample, x_is_samples, x_distance, x_need_samples, x_need_threshold, x_need_silence, x_is_late, x_reported, x_reportedL]
    simp only at hf hI hv hr' hi
    refine ⟨hr'.same h1 h2 hv, ?_⟩
    split
    · rename_i hc
      rw [if_pos (.inl hc)] at hI
      exact ⟨by omega, hN (f ++ [(j : Int)], j, r) _ ⟨by simp; omega, hr', by rw [List.append_assoc]; exact hI⟩ (by simp [wipeE])⟩
    · rename_i hc
      split
      · rename_i hc2
        rw [if_pos (.inr hc2)] at hI
        exact ⟨by omega, hN (f ++ [(j : Int)], j, r) _ ⟨by simp; omega, hr', by rw [List.append_assoc]; exact hI⟩ (by simp [wipeE])⟩
      · rename_i hc2
        rw [if_neg (fun z => z.elim hc hc2)] at hI
        exact hN (f, l, v) _ ⟨by show f.length ≤ j + 1; omega, hv, hI⟩ rfl
  · rintro ⟨f, l, v⟩ ⟨hf, hv, hI⟩
    rw [List.length_mapIdx, List.drop_length, repF_nil, List.append_nil] at hI
    simp only at hI
    simp only [↓sSeq, ↓sRet, ↓sIf, ↓sSet, ↓sOwn, ↓sAsg, ↓sDrop, ↓sNext, ↓sBreak, ↓sNever, ↓sFrz, ↓sApp, ↓sSetIx, ↓sSrc, ↓sPar, ↓sPar3, ↓sAug, ↓sNewSrc, ↓eC, ↓eTest, ↓eAnd, ↓eOr, ↓eNot, ↓eAndV, ↓eOrV, ↓eNotV, ↓eIf, ↓eChain, ↓eNeg, ↓eIx, ↓eIxS, ↓eSl, ↓oNone, ↓oSome, ↓aNil, ↓aCons, ↓eTup, ↓eLst, ↓eTupM, ↓eLstM, ↓eCB, ↓eBin, ↓x_call, ↓x_callK, ↓eSrc, ↓iSeqD, ↓iRg1, ↓iRg2, ↓iRg3, ↓iEnumD, ↓iZipD, ↓gNm, ↓gTp, ↓gsC, ↓gsN, ↓eYes, x_var0, x_var0o, x_varS, fAdd_ii, fAdd_ll, fAdd_tt, fAdd_ss, fMul_ii, fMul_li, fMul_ti, fSub_ii, fDiv_ii, fMod_ii, fPow_ii, fLt_ii, fLe_ii, fGt_ii, fGe_ii, ↓fEq, ↓fNe, ↓fIsN, ↓fNotN, x_lenL, x_lenT, x_lenS, x_lenR, x_lenC, fAbs_i, fInt_i, fInt_b, x_isi, List.set_cons_zero, List.set_cons_succ, List.getElem?_cons_zero, List.getElem?_cons_succ, items_l, items_t, okSt, mdOf, md_i, md_b, md_n, md_s, md_t, md_l, md_y, Md.isCl, Md.isNw, Md.meet, atI_0, atI_m1, atI_1, atI_2, atI_nat, cond_true, cond_false, isNon_i, isNon_n, isT_ii, isT_ib, isT_it, isT_il, isT_bi, isT_bb, isT_tt, isT_ti, isT_lt, isT_ll, isT_nt, isT_ni, isT_nl, tyN_i, tyN_b, tyN_t, tyN_l, tyN_n, dS_isT, dR_isT, dS_tyN, dR_tyN, dQ_isNon, D.flat, D.flats, flats_cons, flats_nil, flats_ints, flat_tup, putOk, slOf_f, slOf_t, Option.some.injEq, D.int.injEq, D.bl.injEq, D.lst.injEq, D.tup.injEq, D.str.injEq, D.scr.injEq, D.ty.injEq, x_consD, x_consD0, x_consD1, and_assoc, reduceCtorEq, exists_eq, exists_eq', exists_eq_left, exists_eq_left', exists_eq_right, exists_eq_right', exists_and_left, exists_and_right, and_true, true_and, and_self, and_false, false_and, or_true, true_or, or_false, false_or, if_true, if_false, ite_true, ite_false, decide_eq_true_eq, decide_eq_false_iff_not, Bool.not_eq_true, Bool.not_eq_true', Bool.not_true, Bool.not_false, Bool.true_eq_false, Bool.false_eq_true, not_true_eq_false, not_false_eq_true, eq_self_iff_true, forall_const, imp_self, List.length_cons, List.length_nil, List.append_nil, List.nil_append, List.cons_append, cpow_6, cpow_18, cpow_5, cpow_7, cpow_15, cpow_12, CMul, Nat.reduceAdd, Nat.reduceLeDiff, Nat.reduceLT, Int.reducePow, Int.reduceNeg, Int.reduceLT, Int.reduceLE, Int.reduceToNat, Int.reduceMul, Int.reduceAdd, Int.reduceSub, frzE, frz1, wipeE, all_nil, all_cons, endsF, x_start, List.map_cons, List.map_nil, List.replicate_succ, List.replicate_zero, Nat.reduceSub, Int.reduceEq, Nat.reduceEqDiff, List.mem_cons, List.not_mem_nil, x_isTs, or_self, Option.isSome_some, Option.isSome_none, String.reduceEq, dS_inj, dR_inj, dQ_inj, dQ_non, dQ_int, dS_md, dR_md, dQ_md, dS_flat, dR_flat, dQ_flat, dS_items, dR_items, List.getElem?_map, Option.map_some, Option.map_none, shp_i, shp_n, shp_b, shp_li, shp_S, shp_R, shp_lS, shp_Q, shp_l0, eqb_int, eqb_l, eqb_S, eqb_R, eqbs_ints, eqbs_dS, eqbs_nil0, eqbs_nilL, eqbs_nilR, Sl.own.injEq, Sl.val.injEq, List.length_map, dR_lst, dR_tup, dS_lst, dS_tup, flats_S, cut_map, cut_1, dR_fold, dS_fold, inI_t, inI_f, Bool.or_false, List.getLast?_map, exists_false, exists_const, Bool.and_self, Bool.and_true, Bool.true_and, Bool.and_false, Bool.false_and, add_S, List.isEmpty_map, fMax_2, fMax_3, fMin_2, flat_non, flat_i, ↓u_for, ↓u_comp, fS_v, fS_n, fS_o, shp_lli, eqbs_dL, ↓eSortSet, int_inj, fList_S, fList_R, sum_S, sum_li, x_is_between, x_is_sample, x_is_samples, x_distance, x_need_samples, x_need_threshold, x_need_silence, x_is_late, x_reported, x_reportedL]
    rw [hI]
    exact h
def t_all_reports : S1 := (sSeq (sSet 3 (eCall true [] c_reported (aCons (eSl (eVar 0) (oSome (eC (.int 1))) oNone) (aCons (eVar 1) (aCons (eVar 2) (aCons (eNeg (eC (.int 1))) (aCons (eIx (eVar 0) (eC (.int 0))) aNil))))))) (sRet (eBin fAdd (eLst (aCons (eC (.int 0)) aNil)) (eComp (iSeqD (eVar 3)) (gNm 4) eYes (eBin fAdd (eVar 4) (eC (.int 1))) [4]))))
def c_all_reports : C1 := fun ds q => ∃ (X : D) (rs : List Row) (t : Int) (s : Option Int), ds = [X, .int t, dQ s] ∧ IsR X rs ∧ OkR rs ∧ q (.lst ((allRep t s rs).map .int))
theorem m_all_reports : MonoC c_all_reports := fun ds q q' k ⟨X, rs, t, s, e, h0, h1, h⟩ => ⟨X, rs, t, s, e, h0, h1, k _ h⟩
theorem xX_all_reports {X : D} {rs : List Row} {t : Int} {s : Option Int} {q : D → Prop} (hX : IsR X rs) : callC c_all_reports [X, .int t, dQ s] q = (OkR rs ∧ q (.lst ((allRep t s rs).map .int))) := by
  refine propext ⟨fun ⟨X', rs', t', s', e, h0, h⟩ => ?_, fun h => ⟨X, rs, t, s, rfl, hX, h⟩⟩
  simp only [↓sSeq, ↓sRet, ↓sIf, ↓sSet, ↓sOwn, ↓sAsg, ↓sDrop, ↓sNext, ↓sBreak, ↓sNever, ↓sFrz, ↓sApp, ↓sSetIx, ↓sSrc, ↓sPar, ↓sPar3, ↓sAug, ↓sNewSrc, ↓eC, ↓eTest, ↓eAnd, ↓eOr, ↓eNot, ↓eAndV, ↓eOrV, ↓eNotV, ↓eIf, ↓eChain, ↓eNeg, ↓eIx, ↓eIxS, ↓eSl, ↓oNone, ↓oSome, ↓aNil, ↓aCons, ↓eTup, ↓eLst, ↓eTupM, ↓eLstM, ↓eCB, ↓eBin, ↓x_call, ↓x_callK, ↓eSrc, ↓iSeqD, ↓iRg1, ↓iRg2, ↓iRg3, ↓iEnumD, ↓iZipD, ↓gNm, ↓gTp, ↓gsC, ↓gsN, ↓eYes, x_var0, x_var0o, x_varS, fAdd_ii, fAdd_ll, fAdd_tt, fAdd_ss, fMul_ii, fMul_li, fMul_ti, fSub_ii, fDiv_ii, fMod_ii, fPow_ii, fLt_ii, fLe_ii, fGt_ii, fGe_ii, ↓fEq, ↓fNe, ↓fIsN, ↓fNotN, x_lenL, x_lenT, x_lenS, x_lenR, x_lenC, fAbs_i, fInt_i, fInt_b, x_isi, List.set_cons_zero, List.set_cons_succ, List.getElem?_cons_zero, List.getElem?_cons_succ, items_l, items_t, okSt, mdOf, md_i, md_b, md_n, md_s, md_t, md_l, md_y, Md.isCl, Md.isNw, Md.meet, atI_0, atI_m1, atI_1, atI_2, atI_nat, cond_true, cond_false, isNon_i, isNon_n, isT_ii, isT_ib, isT_it, isT_il, isT_bi, isT_bb, isT_tt, isT_ti, isT_lt, isT_ll, isT_nt, isT_ni, isT_nl, tyN_i, tyN_b, tyN_t, tyN_l, tyN_n, dS_isT, dR_isT, dS_tyN, dR_tyN, dQ_isNon, D.flat, D.flats, flats_cons, flats_nil, flats_ints, flat_tup, putOk, slOf_f, slOf_t, Option.some.injEq, D.int.injEq, D.bl.injEq, D.lst.injEq, D.tup.injEq, D.str.injEq, D.scr.injEq, D.ty.injEq, x_consD, x_consD0, x_consD1, and_assoc, reduceCtorEq, exists_eq, exists_eq', exists_eq_left, exists_eq_left', exists_eq_right, exists_eq_right', exists_and_left, exists_and_right, and_true, true_and, and_self, and_false, false_and, or_true, true_or, or_false, false_or, if_true, if_false, ite_true, ite_false, decide_eq_true_eq, decide_eq_false_iff_not, Bool.not_eq_true, Bool.not_eq_true', Bool.not_true, Bool.not_false, Bool.true_eq_false, Bool.false_eq_true, not_true_eq_false, not_false_eq_true, eq_self_iff_true, forall_const, imp_self, List.length_cons, List.length_nil, List.append_nil, List.nil_append, List.cons_append, cpow_6, cpow_18, cpow_5, cpow_7, cpow_15, cpow_12, CMul, Nat.reduceAdd, Nat.reduceLeDiff, Nat.reduceLT, Int.reducePow, Int.reduceNeg, Int.reduceLT, Int.reduceLE, Int.reduceToNat, Int.reduceMul, Int.reduceAdd, Int.reduceSub, frzE, frz1, wipeE, all_nil, all_cons, endsF, x_start, List.map_cons, List.map_nil, List.replicate_succ, List.replicate_zero, Nat.reduceSub, Int.reduceEq, Nat.reduceEqDiff, List.mem_cons, List.not_mem_nil, x_isTs, or_self, Option.isSome_some, Option.isSome_none, String.reduceEq, dS_inj, dR_inj, dQ_inj, dQ_non, dQ_int, dS_md, dR_md, dQ_md, dS_flat, dR_flat, dQ_flat, dS_items, dR_items, List.getElem?_map, Option.map_some, Option.map_none, shp_i, shp_n, shp_b, shp_li, shp_S, shp_R, shp_lS, shp_Q, shp_l0, eqb_int, eqb_l, eqb_S, eqb_R, eqbs_ints, eqbs_dS, eqbs_nil0, eqbs_nilL, eqbs_nilR, Sl.own.injEq, Sl.val.injEq, List.length_map, dR_lst, dR_tup, dS_lst, dS_tup, flats_S, cut_map, cut_1, dR_fold, dS_fold, inI_t, inI_f, Bool.or_false, List.getLast?_map, exists_false, exists_const, Bool.and_self, Bool.and_true, Bool.true_and, Bool.and_false, Bool.false_and, add_S, List.isEmpty_map, fMax_2, fMax_3, fMin_2, flat_non, flat_i, ↓u_for, ↓u_comp, fS_v, fS_n, fS_o, shp_lli, eqbs_dL, ↓eSortSet, int_inj, fList_S, fList_R, sum_S, sum_li, x_is_between, x_is_sample, x_is_samples, x_distance, x_need_samples, x_need_threshold, x_need_silence, x_is_late, x_reported, x_reportedL] at e
  obtain ⟨rfl, rfl, rfl⟩ := e
  rw [hX.eq h0]
  exact h
theorem x_all_reports {rs : List Row} {t : Int} {s : Option Int} {q : D → Prop} : callC c_all_reports [dR rs, .int t, dQ s] q = (OkR rs ∧ q (.lst ((allRep t s rs).map .int))) := xX_all_reports .t
theorem x_all_reportsN {rs : List Row} {t : Int} {q : D → Prop} : callC c_all_reports [dR rs, .int t, .non] q = (OkR rs ∧ q (.lst ((allRep t none rs).map .int))) := xX_all_reports (s := none) .t
theorem repF_length {t : Int} {s : Option Int} : ∀ (rs : List Row) (i : Nat) (l : Int) (v : Row), (repF t s rs i l v).length ≤ rs.length
  | [], _, _, _ => Nat.le_refl _
  | r :: rs, i, l, v => by
    rw [repF_cons]
    have h1 := repF_length (t := t) (s := s) rs (i + 1) i r
    have h2 := repF_length (t := t) (s := s) rs (i + 1) l v
    split
    · rw [List.length_cons, List.length_cons]; omega
    · rw [List.length_cons]; omega
theorem OkR.head {rs : List Row} (h : OkR rs) : ∃ r0 rest, rs = r0 :: rest ∧ rs[0]? = some r0 := by
  cases rs with
  | nil => exact absurd h.pos (by decide)
  | cons r0 rest => exact ⟨r0, rest, rfl, rfl⟩
theorem w_all_reports (ds : List D) (q : D → Prop) (h : c_all_reports ds q) : t_all_reports (endsF true q) (startE 5 ds) := by
  obtain ⟨X, rs, t, s, rfl, hX, ok, h⟩ := h
  obtain ⟨c, h1, h2, hr⟩ := ok.ch
  obtain ⟨r0, rest, er, e0⟩ := ok.head
  have hm := ok.most
  have hl := repF_length (t := t) (s := s) rest 0 (-1) r0
  rw [er, List.length_cons] at hm
  have ed : rs.drop 1 = rest := by rw [er]; rfl
  have main : ∀ Q : D → Prop, (∀ Y, IsR Y rest → Q Y) → ((∃ x, X = .lst x ∧ D.flats x = true ∧ Q (.lst (cutD x (some 1) none))) ∨ ∃ x, X = .tup x ∧ D.flats x = true ∧ Q (.tup (cutD x (some 1) none))) := fun Q hQ => by
    rcases hX with rfl | rfl
    · exact .inr ⟨_, rfl, flats_S, by rw [cut_map, cut_1, ed]; exact hQ _ .t⟩
    · exact .inl ⟨_, rfl, flats_S, by rw [cut_map, cut_1, ed]; exact hQ _ .l⟩
  simp only [x_start, List.map_cons, List.map_nil, List.length_cons, List.length_nil, List.replicate_succ, List.replicate_zero, List.cons_append, List.nil_append, Nat.reduceSub, Nat.reduceAdd]
  simp only [t_all_reports, ↓sSeq, ↓sRet, ↓sIf, ↓sSet, ↓sOwn, ↓sAsg, ↓sDrop, ↓sNext, ↓sBreak, ↓sNever, ↓sFrz, ↓sApp, ↓sSetIx, ↓sSrc, ↓sPar, ↓sPar3, ↓sAug, ↓sNewSrc, ↓eC, ↓eTest, ↓eAnd, ↓eOr, ↓eNot, ↓eAndV, ↓eOrV, ↓eNotV, ↓eIf, ↓eChain, ↓eNeg, ↓eIx, ↓eIxS, ↓eSl, ↓oNone, ↓oSome, ↓aNil, ↓aCons, ↓eTup, ↓eLst, ↓eTupM, ↓eLstM, ↓eCB, ↓eBin, ↓x_call, ↓x_callK, ↓eSrc, ↓iSeqD, ↓iRg1, ↓iRg2, ↓iRg3, ↓iEnumD, ↓iZipD, ↓gNm, ↓gTp, ↓gsC, ↓gsN, ↓eYes, x_var0, x_var0o, x_varS, fAdd_ii, fAdd_ll, fAdd_tt, fAdd_ss, fMul_ii, fMul_li, fMul_ti, fSub_ii, fDiv_ii, fMod_ii, fPow_ii, fLt_ii, fLe_ii, fGt_ii, fGe_ii, ↓fEq, ↓fNe, ↓fIsN, ↓fNotN, x_lenL, x_lenT, x_lenS, x_lenR, x_lenC, fAbs_i, fInt_i, fInt_b, x_isi, List.set_cons_zero, List.set_cons_succ, List.getElem?_cons_zero, List.getElem?_cons_succ, items_l, items_t, okSt, mdOf, md_i, md_b, md_n, md_s, md_t, md_l, md_y, Md.isCl, Md.isNw, Md.meet, atI_0, atI_m1, atI_1, atI_2, atI_nat, cond_true, cond_false, isNon_i, isNon_n, isT_ii, isT_ib, isT_it, isT_il, isT_bi, isT_bb, isT_tt, isT_ti, isT_lt, isT_ll, isT_nt, isT_ni, isT_nl, tyN_i, tyN_b, tyN_t, tyN_l, tyN_n, dS_isT, dR_isT, dS_tyN, dR_tyN, dQ_isNon, D.flat, D.flats, flats_cons, flats_nil, flats_ints, flat_tup, putOk, slOf_f, slOf_t, Option.some.injEq, D.int.injEq, D.bl.injEq, D.lst.injEq, D.tup.injEq, D.str.injEq, D.scr.injEq, D.ty.injEq, x_consD, x_consD0, x_consD1, and_assoc, reduceCtorEq, exists_eq, exists_eq', exists_eq_left, exists_eq_left', exists_eq_right, exists_eq_right', exists_and_left, exists_and_right, and_true, true_and, and_self, and_false, false_and, or_true, true_or, or_false, false_or, if_true, if_false, ite_true, ite_false, decide_eq_true_eq, decide_eq_false_iff_not, Bool.not_eq_true, Bool.not_eq_true', Bool.not_true, Bool.not_false, Bool.true_eq_false, Bool.false_eq_true, not_true_eq_false, not_false_eq_true, eq_self_iff_true, forall_const, imp_self, List.length_cons, List.length_nil, List.append_nil, List.nil_append, List.cons_append, cpow_6, cpow_18, cpow_5, cpow_7, cpow_15, cpow_12, CMul, Nat.reduceAdd, Nat.reduceLeDiff, Nat.reduceLT, Int.reducePow, Int.reduceNeg, Int.reduceLT, Int.reduceLE, Int.reduceToNat, Int.reduceMul, Int.reduceAdd, Int.reduceSub, frzE, frz1, wipeE, all_nil, all_cons, endsF, x_start, List.map_cons, List.map_nil, List.replicate_succ, List.replicate_zero, Nat.reduceSub, Int.reduceEq, Nat.reduceEqDiff, List.mem_cons, List.not_mem_nil, x_isTs, or_self, Option.isSome_some, Option.isSome_none, String.reduceEq, dS_inj, dR_inj, dQ_inj, dQ_non, dQ_int, dS_md, dR_md, dQ_md, dS_flat, dR_flat, dQ_flat, dS_items, dR_items, List.getElem?_map, Option.map_some, Option.map_none, shp_i, shp_n, shp_b, shp_li, shp_S, shp_R, shp_lS, shp_Q, shp_l0, eqb_int, eqb_l, eqb_S, eqb_R, eqbs_ints, eqbs_dS, eqbs_nil0, eqbs_nilL, eqbs_nilR, Sl.own.injEq, Sl.val.injEq, List.length_map, dR_lst, dR_tup, dS_lst, dS_tup, flats_S, cut_map, cut_1, dR_fold, dS_fold, inI_t, inI_f, Bool.or_false, List.getLast?_map, exists_false, exists_const, Bool.and_self, Bool.and_true, Bool.true_and, Bool.and_false, Bool.false_and, add_S, List.isEmpty_map, fMax_2, fMax_3, fMin_2, flat_non, flat_i, ↓u_for, ↓u_comp, fS_v, fS_n, fS_o, shp_lli, eqbs_dL, ↓eSortSet, int_inj, fList_S, fList_R, sum_S, sum_li, x_is_between, x_is_sample, x_is_samples, x_distance, x_need_samples, x_need_threshold, x_need_silence, x_is_late, x_reported, x_reportedL, x_all_reports, x_all_reportsN, e0, hX.it]
  refine main (fun Y => callC c_reported [Y, .int t, dQ s, .int (-1), dS r0] _) fun Y hY => ?_
  simp only [xX_reported hY, ↓sSeq, ↓sRet, ↓sIf, ↓sSet, ↓sOwn, ↓sAsg, ↓sDrop, ↓sNext, ↓sBreak, ↓sNever, ↓sFrz, ↓sApp, ↓sSetIx, ↓sSrc, ↓sPar, ↓sPar3, ↓sAug, ↓sNewSrc, ↓eC, ↓eTest, ↓eAnd, ↓eOr, ↓eNot, ↓eAndV, ↓eOrV, ↓eNotV, ↓eIf, ↓eChain, ↓eNeg, ↓eIx, ↓eIxS, ↓eSl, ↓oNone, ↓oSome, ↓aNil, ↓aCons, ↓eTup, ↓eLst, ↓eTupM, ↓eLstM, ↓eCB, ↓eBin, ↓x_call, ↓x_callK, ↓eSrc, ↓iSeqD, ↓iRg1, ↓iRg2, ↓iRg3, ↓iEnumD, ↓iZipD, ↓gNm, ↓gTp, ↓gsC, ↓gsN, ↓eYes, x_var0, x_var0o, x_varS, fAdd_ii, fAdd_ll, fAdd_tt, fAdd_ss, fMul_ii, fMul_li, fMul_ti, fSub_ii, fDiv_ii, fMod_ii, fPow_ii, fLt_ii, fLe_ii, fGt_ii, fGe_ii, ↓fEq, ↓fNe, ↓fIsN, ↓fNotN, x_lenL, x_lenT, x_lenS, x_lenR, x_lenC, fAbs_i, fInt_i, fInt_b, x_isi, List.set_cons_zero, List.set_cons_succ, List.getElem?_cons_zero, List.getElem?_cons_succ, items_l, items_t, okSt, mdOf, md_i, md_b, md_n, md_s, md_t, md_l, md_y, Md.isCl, Md.isNw, Md.meet, atI_0, atI_m1, atI_1, atI_2, atI_nat, cond_true, cond_false, isNon_i, isNon_n, isT_ii, isT_ib, isT_it, isT_il, isT_bi, isT_bb, isT_tt, isT_ti, isT_lt, isT_ll, isT_nt, isT_ni, isT_nl, tyN_i, tyN_b, tyN_t, tyN_l, tyN_n, dS_isT, dR_isT, dS_tyN, dR_tyN, dQ_isNon, D.flat, D.flats, flats_cons, flats_nil, flats_ints, flat_tup, putOk, slOf_f, slOf_t, Option.some.injEq, D.int.injEq, D.bl.injEq, D.lst.injEq, D.tup.injEq, D.str.injEq, D.scr.injEq, D.ty.injEq, x_consD, x_consD0, x_consD1, and_assoc, reduceCtorEq, exists_eq, exists_eq', exists_eq_left, exists_eq_left', exists_eq_right, exists_eq_right', exists_and_left, exists_and_right, and_true, true_and, and_self, and_false, false_and, or_true, true_or, or_false, false_or, if_true, if_false, ite_true, ite_false, decide_eq_true_eq, decide_eq_false_iff_not, Bool.not_eq_true, Bool.not_eq_true', Bool.not_true, Bool.not_false, Bool.true_eq_false, Bool.false_eq_true, not_true_eq_false, not_false_eq_true, eq_self_iff_true, forall_const, imp_self, List.length_cons, List.length_nil, List.append_nil, List.nil_append, List.cons_append, cpow_6, cpow_18, cpow_5, cpow_7, cpow_15, cpow_12, CMul, Nat.reduceAdd, Nat.reduceLeDiff, Nat.reduceLT, Int.reducePow, Int.reduceNeg, Int.reduceLT, Int.reduceLE, Int.reduceToNat, Int.reduceMul, Int.reduceAdd, Int.reduceSub, frzE, frz1, wipeE, all_nil, all_cons, endsF, x_start, List.map_cons, List.map_nil, List.replicate_succ, List.replicate_zero, Nat.reduceSub, Int.reduceEq, Nat.reduceEqDiff, List.mem_cons, List.not_mem_nil, x_isTs, or_self, Option.isSome_some, Option.isSome_none, String.reduceEq, dS_inj, dR_inj, dQ_inj, dQ_non, dQ_int, dS_md, dR_md, dQ_md, dS_flat, dR_flat, dQ_flat, dS_items, dR_items, List.getElem?_map, Option.map_some, Option.map_none, shp_i, shp_n, shp_b, shp_li, shp_S, shp_R, shp_lS, shp_Q, shp_l0, eqb_int, eqb_l, eqb_S, eqb_R, eqbs_ints, eqbs_dS, eqbs_nil0, eqbs_nilL, eqbs_nilR, Sl.own.injEq, Sl.val.injEq, List.length_map, dR_lst, dR_tup, dS_lst, dS_tup, flats_S, cut_map, cut_1, dR_fold, dS_fold, inI_t, inI_f, Bool.or_false, List.getLast?_map, exists_false, exists_const, Bool.and_self, Bool.and_true, Bool.true_and, Bool.and_false, Bool.false_and, add_S, List.isEmpty_map, fMax_2, fMax_3, fMin_2, flat_non, flat_i, ↓u_for, ↓u_comp, fS_v, fS_n, fS_o, shp_lli, eqbs_dL, ↓eSortSet, int_inj, fList_S, fList_R, sum_S, sum_li, x_is_between, x_is_sample, x_is_samples, x_distance, x_need_samples, x_need_threshold, x_need_silence, x_is_late, x_reported, x_reportedL, x_all_reports, x_all_reportsN]
  subst er
  refine ⟨⟨by omega, c, h1, h2, fun r hr' => hr r (List.mem_cons_of_mem _ hr'), hr r0 List.mem_cons_self⟩, ?_⟩
  refine comp_map (repF t s rest 0 (-1) r0) D.int (fun i => .int (i + 1)) rfl (by omega) ?_ ?_
  · intro i x acc hx N hN
    simp only [↓sSeq, ↓sRet, ↓sIf, ↓sSet, ↓sOwn, ↓sAsg, ↓sDrop, ↓sNext, ↓sBreak, ↓sNever, ↓sFrz, ↓sApp, ↓sSetIx, ↓sSrc, ↓sPar, ↓sPar3, ↓sAug, ↓sNewSrc, ↓eC, ↓eTest, ↓eAnd, ↓eOr, ↓eNot, ↓eAndV, ↓eOrV, ↓eNotV, ↓eIf, ↓eChain, ↓eNeg, ↓eIx, ↓eIxS, ↓eSl, ↓oNone, ↓oSome, ↓aNil, ↓aCons, ↓eTup, ↓eLst, ↓eTupM, ↓eLstM, ↓eCB, ↓eBin, ↓x_call, ↓x_callK, ↓eSrc, ↓iSeqD, ↓iRg1, ↓iRg2, ↓iRg3, ↓iEnumD, ↓iZipD, ↓gNm, ↓gTp, ↓gsC, ↓gsN, ↓eYes, x_var0, x_var0o, x_varS, fAdd_ii, fAdd_ll, fAdd_tt, fAdd_ss, fMul_ii, fMul_li, fMul_ti, fSub_ii, fDiv_ii, fMod_ii, fPow_ii, fLt_ii, fLe_ii, fGt_ii, fGe_ii, ↓fEq, ↓fNe, ↓fIsN, ↓fNotN, x_lenL, x_lenT, x_lenS, x_lenR, x_lenC, fAbs_i, fInt_i, fInt_b, x_isi, List.set_cons_zero, List.set_cons_succ, List.getElem?_cons_zero, List.getElem?_cons_succ, items_l, items_t, okSt, mdOf, md_i, md_b, md_n, md_s, md_t, md_l, md_y, Md.isCl, Md.isNw, Md.meet, atI_0, atI_m1, atI_1, atI_2, atI_nat, cond_true, cond_false, isNon_i, isNon_n, isT_ii, isT_ib, isT_it, isT_il, isT_bi, isT_bb, isT_tt, isT_ti, isT_lt, isT_ll, isT_nt, isT_ni, isT_nl, tyN_i, tyN_b, tyN_t, tyN_l, tyN_n, dS_isT, dR_isT, dS_tyN, dR_tyN, dQ_isNon, D.flat, D.flats, flats_cons, flats_nil, flats_ints, flat_tup, putOk, slOf_f, slOf_t, Option.some.injEq, D.int.injEq, D.bl.injEq, D.lst.injEq, D.tup.injEq, D.str.injEq, D.scr.injEq, D.ty.injEq, x_consD, x_consD0, x_consD1, and_assoc, reduceCtorEq, exists_eq, exists_eq', exists_eq_left, exists_eq_left', exists_eq_right, exists_eq_right', exists_and_left, exists_and_right, and_true, true_and, and_self, and_false, false_and, or_true, true_or, or_false, false_or, if_true, if_false, ite_true, ite_false, decide_eq_true_eq, decide_eq_false_iff_not, Bool.not_eq_true, Bool.not_eq_true', Bool.not_true, Bool.not_false, Bool.true_eq_false, Bool.false_eq_true, not_true_eq_false, not_false_eq_true, eq_self_iff_true, forall_const, imp_self, List.length_cons, List.length_nil, List.append_nil, List.nil_append, List.cons_append, cpow_6, cpow_18, cpow_5, cpow_7, cpow_15, cpow_12, CMul, Nat.reduceAdd, Nat.reduceLeDiff, Nat.reduceLT, Int.reducePow, Int.reduceNeg, Int.reduceLT, Int.reduceLE, Int.reduceToNat, Int.reduceMul, Int.reduceAdd, Int.reduceSub, frzE, frz1, wipeE, all_nil, all_cons, endsF, x_start, List.map_cons, List.map_nil, List.replicate_succ, List.replicate_zero, Nat.reduceSub, Int.reduceEq, Nat.reduceEqDiff, List.mem_cons, List.not_mem_nil, x_isTs, or_self, Option.isSome_some, Option.isSome_none, String.reduceEq, dS_inj, dR_inj, dQ_inj, dQ_non, dQ_int, dS_md, dR_md, dQ_md, dS_flat, dR_flat, dQ_flat, dS_items, dR_items, List.getElem?_map, Option.map_some, Option.map_none, shp_i, shp_n, shp_b, shp_li, shp_S, shp_R, shp_lS, shp_Q, shp_l0, eqb_int, eqb_l, eqb_S, eqb_R, eqbs_ints, eqbs_dS, eqbs_nil0, eqbs_nilL, eqbs_nilR, Sl.own.injEq, Sl.val.injEq, List.length_map, dR_lst, dR_tup, dS_lst, dS_tup, flats_S, cut_map, cut_1, dR_fold, dS_fold, inI_t, inI_f, Bool.or_false, List.getLast?_map, exists_false, exists_const, Bool.and_self, Bool.and_true, Bool.true_and, Bool.and_false, Bool.false_and, add_S, List.isEmpty_map, fMax_2, fMax_3, fMin_2, flat_non, flat_i, ↓u_for, ↓u_comp, fS_v, fS_n, fS_o, shp_lli, eqbs_dL, ↓eSortSet, int_inj, fList_S, fList_R, sum_S, sum_li, x_is_between, x_is_sample, x_is_samples, x_distance, x_need_samples, x_need_threshold, x_need_silence, x_is_late, x_reported, x_reportedL, x_all_reports, x_all_reportsN]
    exact hN
  · simp only [↓sSeq, ↓sRet, ↓sIf, ↓sSet, ↓sOwn, ↓sAsg, ↓sDrop, ↓sNext, ↓sBreak, ↓sNever, ↓sFrz, ↓sApp, ↓sSetIx, ↓sSrc, ↓sPar, ↓sPar3, ↓sAug, ↓sNewSrc, ↓eC, ↓eTest, ↓eAnd, ↓eOr, ↓eNot, ↓eAndV, ↓eOrV, ↓eNotV, ↓eIf, ↓eChain, ↓eNeg, ↓eIx, ↓eIxS, ↓eSl, ↓oNone, ↓oSome, ↓aNil, ↓aCons, ↓eTup, ↓eLst, ↓eTupM, ↓eLstM, ↓eCB, ↓eBin, ↓x_call, ↓x_callK, ↓eSrc, ↓iSeqD, ↓iRg1, ↓iRg2, ↓iRg3, ↓iEnumD, ↓iZipD, ↓gNm, ↓gTp, ↓gsC, ↓gsN, ↓eYes, x_var0, x_var0o, x_varS, fAdd_ii, fAdd_ll, fAdd_tt, fAdd_ss, fMul_ii, fMul_li, fMul_ti, fSub_ii, fDiv_ii, fMod_ii, fPow_ii, fLt_ii, fLe_ii, fGt_ii, fGe_ii, ↓fEq, ↓fNe, ↓fIsN, ↓fNotN, x_lenL, x_lenT, x_lenS, x_lenR, x_lenC, fAbs_i, fInt_i, fInt_b, x_isi, List.set_cons_zero, List.set_cons_succ, List.getElem?_cons_zero, List.getElem?_cons_succ, items_l, items_t, okSt, mdOf, md_i, md_b, md_n, md_s, md_t, md_l, md_y, Md.isCl, Md.isNw, Md.meet, atI_0, atI_m1, atI_1, atI_2, atI_nat, cond_true, cond_false, isNon_i, isNon_n, isT_ii, isT_ib, isT_it, isT_il, isT_bi, isT_bb, isT_tt, isT_ti, isT_lt, isT_ll, isT_nt, isT_ni, isT_nl, tyN_i, tyN_b, tyN_t, tyN_l, tyN_n, dS_isT, dR_isT, dS_tyN, dR_tyN, dQ_isNon, D.flat, D.flats, flats_cons, flats_nil, flats_ints, flat_tup, putOk, slOf_f, slOf_t, Option.some.injEq, D.int.injEq, D.bl.injEq, D.lst.injEq, D.tup.injEq, D.str.injEq, D.scr.injEq, D.ty.injEq, x_consD, x_consD0, x_consD1, and_assoc, reduceCtorEq, exists_eq, exists_eq', exists_eq_left, exists_eq_left', exists_eq_right, exists_eq_right', exists_and_left, exists_and_right, and_true, true_and, and_self, and_false, false_and, or_true, true_or, or_false, false_or, if_true, if_false, ite_true, ite_false, decide_eq_true_eq, decide_eq_false_iff_not, Bool.not_eq_true, Bool.not_eq_true', Bool.not_true, Bool.not_false, Bool.true_eq_false, Bool.false_eq_true, not_true_eq_false, not_false_eq_true, eq_self_iff_true, forall_const, imp_self, List.length_cons, List.length_nil, List.append_nil, List.nil_append, List.cons_append, cpow_6, cpow_18, cpow_5, cpow_7, cpow_15, cpow_12, CMul, Nat.reduceAdd, Nat.reduceLeDiff, Nat.reduceLT, Int.reducePow, Int.reduceNeg, Int.reduceLT, Int.reduceLE, Int.reduceToNat, Int.reduceMul, Int.reduceAdd, Int.reduceSub, frzE, frz1, wipeE, all_nil, all_cons, endsF, x_start, List.map_cons, List.map_nil, List.replicate_succ, List.replicate_zero, Nat.reduceSub, Int.reduceEq, Nat.reduceEqDiff, List.mem_cons, List.not_mem_nil, x_isTs, or_self, Option.isSome_some, Option.isSome_none, String.reduceEq, dS_inj, dR_inj, dQ_inj, dQ_non, dQ_int, dS_md, dR_md, dQ_md, dS_flat, dR_flat, dQ_flat, dS_items, dR_items, List.getElem?_map, Option.map_some, Option.map_none, shp_i, shp_n, shp_b, shp_li, shp_S, shp_R, shp_lS, shp_Q, shp_l0, eqb_int, eqb_l, eqb_S, eqb_R, eqbs_ints, eqbs_dS, eqbs_nil0, eqbs_nilL, eqbs_nilR, Sl.own.injEq, Sl.val.injEq, List.length_map, dR_lst, dR_tup, dS_lst, dS_tup, flats_S, cut_map, cut_1, dR_fold, dS_fold, inI_t, inI_f, Bool.or_false, List.getLast?_map, exists_false, exists_const, Bool.and_self, Bool.and_true, Bool.true_and, Bool.and_false, Bool.false_and, add_S, List.isEmpty_map, fMax_2, fMax_3, fMin_2, flat_non, flat_i, ↓u_for, ↓u_comp, fS_v, fS_n, fS_o, shp_lli, eqbs_dL, ↓eSortSet, int_inj, fList_S, fList_R, sum_S, sum_li, x_is_between, x_is_sample, x_is_samples, x_distance, x_need_samples, x_need_threshold, x_need_silence, x_is_late, x_reported, x_reportedL, x_all_reports, x_all_reportsN]
    refine ⟨by omega, flats_of fun d hd => ?_, ?_⟩
    · obtain ⟨x, _, rfl⟩ := List.mem_map.mp hd
      rfl
    · have e : D.int 0 :: (repF t s rest 0 (-1) r0).map (fun i => D.int (i + 1)) = (allRep t s (r0 :: rest)).map D.int := by
        unfold allRep
        rw [List.map_cons, List.map_map]
        rfl
      rw [e]
      exact h
/-- the rows held -/
def heldF (rs : List Row) (is : List Int) : Nat → List Row
  | 0 => []
  | n + 1 => heldF rs is n ++ [if (n : Int) ∈ is then rs.getD n [] else (heldF rs is n).getLastD []]
theorem heldF_length {rs : List Row} {is : List Int} : ∀ n, (heldF rs is n).length = n
  | 0 => rfl
  | n + 1 => by unfold heldF; rw [List.length_append, heldF_length n]; rfl
def heldR (rs : List Row) (is : List Int) : List Row := heldF rs is rs.length
structure Hld (rs : List Row) (is : List Int) : Prop where
  most : rs.length ≤ 1000
  zero : (0 : Int) ∈ is
def t_held_by : S1 := (sSeq (sOwn 2 (eLst aNil)) (sSeq (sFor false [3] (iRg1 (aCons (eCB fLen (aCons (eVar 0) aNil)) aNil)) (gNm 3) (sApp 2 (eIf (eTest (eBin (fIn false) (eVar 3) (eVar 1))) (eIx (eVar 0) (eVar 3)) (eIx (eVar 2) (eNeg (eC (.int 1))))))) (sRet (eVar 2))))
/-- ints as a list or as a tuple -/
def IsI (X : D) (is : List Int) : Prop := X = .lst (is.map .int) ∨ X = dS is
theorem IsI.inn {X : D} {is : List Int} {i : Int} {q : D → Prop} (h : IsI X is) : fIn false (.int i) X q = q (.bl (decide (i ∈ is))) := by
  rcases h with rfl | rfl
  · exact inI_f
  · exact inI_f (is := is)
theorem IsI.it {X : D} {rs : List Int} (h : IsI X rs) : X.items = some (rs.map .int) := by rcases h with rfl | rfl <;> rfl
theorem IsI.eq {X : D} {rs rs' : List Int} (h : IsI X rs) (h' : IsI X rs') : rs = rs' := by
  have e := h.it.symm.trans h'.it
  exact int_inj.mp (Option.some.inj e)
def c_held_by : C1 := fun ds q => ∃ (X Y : D) (rs : List Row) (is : List Int), ds = [X, Y] ∧ IsR X rs ∧ IsI Y is ∧ Hld rs is ∧ q (.lst ((heldR rs is).map dS))
theorem m_held_by : MonoC c_held_by := fun ds q q' k ⟨X, Y, rs, t, e, h0, h01, h1, h⟩ => ⟨X, Y, rs, t, e, h0, h01, h1, k _ h⟩
theorem xX_held_by {X Y : D} {rs : List Row} {is : List Int} {q : D → Prop} (hX : IsR X rs) (hY : IsI Y is) : callC c_held_by [X, Y] q = (Hld rs is ∧ q (.lst ((heldR rs is).map dS))) := by
  refine propext ⟨fun ⟨X', Y', rs', is', e, h0, h1, h⟩ => ?_, fun h => ⟨X, Y, rs, is, rfl, hX, hY, h⟩⟩
  simp only [↓sSeq, ↓sRet, ↓sIf, ↓sSet, ↓sOwn, ↓sAsg, ↓sDrop, ↓sNext, ↓sBreak, ↓sNever, ↓sFrz, ↓sApp, ↓sSetIx, ↓sSrc, ↓sPar, ↓sPar3, ↓sAug, ↓sNewSrc, ↓eC, ↓eTest, ↓eAnd, ↓eOr, ↓eNot, ↓eAndV, ↓eOrV, ↓eNotV, ↓eIf, ↓eChain, ↓eNeg, ↓eIx, ↓eIxS, ↓eSl, ↓oNone, ↓oSome, ↓aNil, ↓aCons, ↓eTup, ↓eLst, ↓eTupM, ↓eLstM, ↓eCB, ↓eBin, ↓x_call, ↓x_callK, ↓eSrc, ↓iSeqD, ↓iRg1, ↓iRg2, ↓iRg3, ↓iEnumD, ↓iZipD, ↓gNm, ↓gTp, ↓gsC, ↓gsN, ↓eYes, x_var0, x_var0o, x_varS, fAdd_ii, fAdd_ll, fAdd_tt, fAdd_ss, fMul_ii, fMul_li, fMul_ti, fSub_ii, fDiv_ii, fMod_ii, fPow_ii, fLt_ii, fLe_ii, fGt_ii, fGe_ii, ↓fEq, ↓fNe, ↓fIsN, ↓fNotN, x_lenL, x_lenT, x_lenS, x_lenR, x_lenC, fAbs_i, fInt_i, fInt_b, x_isi, List.set_cons_zero, List.set_cons_succ, List.getElem?_cons_zero, List.getElem?_cons_succ, items_l, items_t, okSt, mdOf, md_i, md_b, md_n, md_s, md_t, md_l, md_y, Md.isCl, Md.isNw, Md.meet, atI_0, atI_m1, atI_1, atI_2, atI_nat, cond_true, cond_false, isNon_i, isNon_n, isT_ii, isT_ib, isT_it, isT_il, isT_bi, isT_bb, isT_tt, isT_ti, isT_lt, isT_ll, isT_nt, isT_ni, isT_nl, tyN_i, tyN_b, tyN_t, tyN_l, tyN_n, dS_isT, dR_isT, dS_tyN, dR_tyN, dQ_isNon, D.flat, D.flats, flats_cons, flats_nil, flats_ints, flat_tup, putOk, slOf_f, slOf_t, Option.some.injEq, D.int.injEq, D.bl.injEq, D.lst.injEq, D.tup.injEq, D.str.injEq, D.scr.injEq, D.ty.injEq, x_consD, x_consD0, x_consD1, and_assoc, reduceCtorEq, exists_eq, exists_eq', exists_eq_left, exists_eq_left', exists_eq_right, exists_eq_right', exists_and_left, exists_and_right, and_true, true_and, and_self, and_false, false_and, or_true, true_or, or_false, false_or, if_true, if_false, ite_true, ite_false, decide_eq_true_eq, decide_eq_false_iff_not, Bool.not_eq_true, Bool.not_eq_true', Bool.not_true, Bool.not_false, Bool.true_eq_false, Bool.false_eq_true, not_true_eq_false, not_false_eq_true, eq_self_iff_true, forall_const, imp_self, List.length_cons, List.length_nil, List.append_nil, List.nil_append, List.cons_append, cpow_6, cpow_18, cpow_5, cpow_7, cpow_15, cpow_12, CMul, Nat.reduceAdd, Nat.reduceLeDiff, Nat.reduceLT, Int.reducePow, Int.reduceNeg, Int.reduceLT, Int.reduceLE, Int.reduceToNat, Int.reduceMul, Int.reduceAdd, Int.reduceSub, frzE, frz1, wipeE, all_nil, all_cons, endsF, x_start, List.map_cons, List.map_nil, List.replicate_succ, List.replicate_zero, Nat.reduceSub, Int.reduceEq, Nat.reduceEqDiff, List.mem_cons, List.not_mem_nil, x_isTs, or_self, Option.isSome_some, Option.isSome_none, String.reduceEq, dS_inj, dR_inj, dQ_inj, dQ_non, dQ_int, dS_md, dR_md, dQ_md, dS_flat, dR_flat, dQ_flat, dS_items, dR_items, List.getElem?_map, Option.map_some, Option.map_none, shp_i, shp_n, shp_b, shp_li, shp_S, shp_R, shp_lS, shp_Q, shp_l0, eqb_int, eqb_l, eqb_S, eqb_R, eqbs_ints, eqbs_dS, eqbs_nil0, eqbs_nilL, eqbs_nilR, Sl.own.injEq, Sl.val.injEq, List.length_map, dR_lst, dR_tup, dS_lst, dS_tup, flats_S, cut_map, cut_1, dR_fold, dS_fold, inI_t, inI_f, Bool.or_false, List.getLast?_map, exists_false, exists_const, Bool.and_self, Bool.and_true, Bool.true_and, Bool.and_false, Bool.false_and, add_S, List.isEmpty_map, fMax_2, fMax_3, fMin_2, flat_non, flat_i, ↓u_for, ↓u_comp, fS_v, fS_n, fS_o, shp_lli, eqbs_dL, ↓eSortSet, int_inj, fList_S, fList_R, sum_S, sum_li, x_is_between, x_is_sample, x_is_samples, x_distance, x_need_samples, x_need_threshold, x_need_silence, x_is_late, x_reported, x_reportedL, x_all_reports, x_all_reportsN] at e
  obtain ⟨rfl, rfl⟩ := e
  rw [hX.eq h0, hY.eq h1]
  exact h
theorem x_held_by {rs : List Row} {is : List Int} {q : D → Prop} : callC c_held_by [dR rs, .lst (is.map .int)] q = (Hld rs is ∧ q (.lst ((heldR rs is).map dS))) := xX_held_by .t (.inl rfl)
theorem x_held_byT {rs : List Row} {is : List Int} {q : D → Prop} : callC c_held_by [dR rs, dS is] q = (Hld rs is ∧ q (.lst ((heldR rs is).map dS))) := xX_held_by .t (.inr rfl)
theorem w_held_by (ds : List D) (q : D → Prop) (h : c_held_by ds q) : t_held_by (endsF true q) (startE 4 ds) := by
  obtain ⟨X, Y, rs, is, rfl, hX, hY, ⟨hm, h0⟩, h⟩ := h
  simp only [x_start, List.map_cons, List.map_nil, List.length_cons, List.length_nil, List.replicate_succ, List.replicate_zero, List.cons_append, List.nil_append, Nat.reduceSub, Nat.reduceAdd]
  simp only [t_held_by, ↓sSeq, ↓sRet, ↓sIf, ↓sSet, ↓sOwn, ↓sAsg, ↓sDrop, ↓sNext, ↓sBreak, ↓sNever, ↓sFrz, ↓sApp, ↓sSetIx, ↓sSrc, ↓sPar, ↓sPar3, ↓sAug, ↓sNewSrc, ↓eC, ↓eTest, ↓eAnd, ↓eOr, ↓eNot, ↓eAndV, ↓eOrV, ↓eNotV, ↓eIf, ↓eChain, ↓eNeg, ↓eIx, ↓eIxS, ↓eSl, ↓oNone, ↓oSome, ↓aNil, ↓aCons, ↓eTup, ↓eLst, ↓eTupM, ↓eLstM, ↓eCB, ↓eBin, ↓x_call, ↓x_callK, ↓eSrc, ↓iSeqD, ↓iRg1, ↓iRg2, ↓iRg3, ↓iEnumD, ↓iZipD, ↓gNm, ↓gTp, ↓gsC, ↓gsN, ↓eYes, x_var0, x_var0o, x_varS, fAdd_ii, fAdd_ll, fAdd_tt, fAdd_ss, fMul_ii, fMul_li, fMul_ti, fSub_ii, fDiv_ii, fMod_ii, fPow_ii, fLt_ii, fLe_ii, fGt_ii, fGe_ii, ↓fEq, ↓fNe, ↓fIsN, ↓fNotN, x_lenL, x_lenT, x_lenS, x_lenR, x_lenC, fAbs_i, fInt_i, fInt_b, x_isi, List.set_cons_zero, List.set_cons_succ, List.getElem?_cons_zero, List.getElem?_cons_succ, items_l, items_t, okSt, mdOf, md_i, md_b, md_n, md_s, md_t, md_l, md_y, Md.isCl, Md.isNw, Md.meet, atI_0, atI_m1, atI_1, atI_2, atI_nat, cond_true, cond_false, isNon_i, isNon_n, isT_ii, isT_ib, isT_it, isT_il, isT_bi, isT_bb, isT_tt, isT_ti, isT_lt, isT_ll, isT_nt, isT_ni, isT_nl, tyN_i, tyN_b, tyN_t, tyN_l, tyN_n, dS_isT, dR_isT, dS_tyN, dR_tyN, dQ_isNon, D.flat, D.flats, flats_cons, flats_nil, flats_ints, flat_tup, putOk, slOf_f, slOf_t, Option.some.injEq, D.int.injEq, D.bl.injEq, D.lst.injEq, D.tup.injEq, D.str.injEq, D.scr.injEq, D.ty.injEq, x_consD, x_consD0, x_consD1, and_assoc, reduceCtorEq, exists_eq, exists_eq', exists_eq_left, exists_eq_left', exists_eq_right, exists_eq_right', exists_and_left, exists_and_right, and_true, true_and, and_self, and_false, false_and, or_true, true_or, or_false, false_or, if_true, if_false, ite_true, ite_false, decide_eq_true_eq, decide_eq_false_iff_not, Bool.not_eq_true, Bool.not_eq_true', Bool.not_true, Bool.not_false, Bool.true_eq_false, Bool.false_eq_true, not_true_eq_false, not_false_eq_true, eq_self_iff_true, forall_const, imp_self, List.length_cons, List.length_nil, List.append_nil, List.nil_append, List.cons_append, cpow_6, cpow_18, cpow_5, cpow_7, cpow_15, cpow_12, CMul, Nat.reduceAdd, Nat.reduceLeDiff, Nat.reduceLT, Int.reducePow, Int.reduceNeg, Int.reduceLT, Int.reduceLE, Int.reduceToNat, Int.reduceMul, Int.reduceAdd, Int.reduceSub, frzE, frz1, wipeE, all_nil, all_cons, endsF, x_start, List.map_cons, List.map_nil, List.replicate_succ, List.replicate_zero, Nat.reduceSub, Int.reduceEq, Nat.reduceEqDiff, List.mem_cons, List.not_mem_nil, x_isTs, or_self, Option.isSome_some, Option.isSome_none, String.reduceEq, dS_inj, dR_inj, dQ_inj, dQ_non, dQ_int, dS_md, dR_md, dQ_md, dS_flat, dR_flat, dQ_flat, dS_items, dR_items, List.getElem?_map, Option.map_some, Option.map_none, shp_i, shp_n, shp_b, shp_li, shp_S, shp_R, shp_lS, shp_Q, shp_l0, eqb_int, eqb_l, eqb_S, eqb_R, eqbs_ints, eqbs_dS, eqbs_nil0, eqbs_nilL, eqbs_nilR, Sl.own.injEq, Sl.val.injEq, List.length_map, dR_lst, dR_tup, dS_lst, dS_tup, flats_S, cut_map, cut_1, dR_fold, dS_fold, inI_t, inI_f, Bool.or_false, List.getLast?_map, exists_false, exists_const, Bool.and_self, Bool.and_true, Bool.true_and, Bool.and_false, Bool.false_and, add_S, List.isEmpty_map, fMax_2, fMax_3, fMin_2, flat_non, flat_i, ↓u_for, ↓u_comp, fS_v, fS_n, fS_o, shp_lli, eqbs_dL, ↓eSortSet, int_inj, fList_S, fList_R, sum_S, sum_li, x_is_between, x_is_sample, x_is_samples, x_distance, x_need_samples, x_need_threshold, x_need_silence, x_is_late, x_reported, x_reportedL, x_all_reports, x_all_reportsN, x_held_by, x_held_byT, hX.ln]
  refine ⟨by omega, by omega, ?_⟩
  refine for_st (σ := List Row) (List.range rs.length) (fun i => .int (i : Nat))
    (fun z => [.val X, .val Y, .own (z.map dS), .non])
    (fun i z => z = heldF rs is i) [] rg0 rfl (fun z => nomatch z) rfl rfl ?_ ?_
  · rintro i n z hx hI N hN
    obtain ⟨rfl, hi⟩ := get_range hx
    subst hI
    obtain ⟨r, hr⟩ : ∃ r, rs[n]? = some r := ⟨_, List.getElem?_eq_getElem hi⟩
    simp only [↓sSeq, ↓sRet, ↓sIf, ↓sSet, ↓sOwn, ↓sAsg, ↓sDrop, ↓sNext, ↓sBreak, ↓sNever, ↓sFrz, ↓sApp, ↓sSetIx, ↓sSrc, ↓sPar, ↓sPar3, ↓sAug, ↓sNewSrc, ↓eC, ↓eTest, ↓eAnd, ↓eOr, ↓eNot, ↓eAndV, ↓eOrV, ↓eNotV, ↓eIf, ↓eChain, ↓eNeg, ↓eIx, ↓eIxS, ↓eSl, ↓oNone, ↓oSome, ↓aNil, ↓aCons, ↓eTup, ↓eLst, ↓eTupM, ↓eLstM, ↓eCB, ↓eBin, ↓x_call, ↓x_callK, ↓eSrc, ↓iSeqD, ↓iRg1, ↓iRg2, ↓iRg3, ↓iEnumD, ↓iZipD, ↓gNm, ↓gTp, ↓gsC, ↓gsN, ↓eYes, x_var0, x_var0o, x_varS, fAdd_ii, fAdd_ll, fAdd_tt, fAdd_ss, fMul_ii, fMul_li, fMul_ti, fSub_ii, fDiv_ii, fMod_ii, fPow_ii, fLt_ii, fLe_ii, fGt_ii, fGe_ii, ↓fEq, ↓fNe, ↓fIsN, ↓fNotN, x_lenL, x_lenT, x_lenS, x_lenR, x_lenC, fAbs_i, fInt_i, fInt_b, x_isi, List.set_cons_zero, List.set_cons_succ, List.getElem?_cons_zero, List.getElem?_cons_succ, items_l, items_t, okSt, mdOf, md_i, md_b, md_n, md_s, md_t, md_l, md_y, Md.isCl, Md.isNw, Md.meet, atI_0, atI_m1, atI_1, atI_2, atI_nat, cond_true, cond_false, isNon_i, isNon_n, isT_ii, isT_ib, isT_it, isT_il, isT_bi, isT_bb, isT_tt, isT_ti, isT_lt, isT_ll, isT_nt, isT_ni, isT_nl, tyN_i, tyN_b, tyN_t, tyN_l, tyN_n, dS_isT, dR_isT, dS_tyN, dR_tyN, dQ_isNon, D.flat, D.flats, flats_cons, flats_nil, flats_ints, flat_tup, putOk, slOf_f, slOf_t, Option.some.injEq, D.int.injEq, D.bl.injEq, D.lst.injEq, D.tup.injEq, D.str.injEq, D.scr.injEq, D.ty.injEq, x_consD, x_consD0, x_consD1, and_assoc, reduceCtorEq, exists_eq, exists_eq', exists_eq_left, exists_eq_left', exists_eq_right, exists_eq_right', exists_and_left, exists_and_right, and_true, true_and, and_self, and_false, false_and, or_true, true_or, or_false, false_or, if_true, if_false, ite_true, ite_false, decide_eq_true_eq, decide_eq_false_iff_not, Bool.not_eq_true, Bool.not_eq_true', Bool.not_true, Bool.not_false, Bool.true_eq_false, Bool.false_eq_true, not_true_eq_false, not_false_eq_true, eq_self_iff_true, forall_const, imp_self, List.length_cons, List.length_nil, List.append_nil, List.nil_append, List.cons_append, cpow_6, cpow_18, cpow_5, cpow_7, cpow_15, cpow_12, CMul, Nat.reduceAdd, Nat.reduceLeDiff, Nat.reduceLT, Int.reducePow, Int.reduceNeg, Int.reduceLT, Int.reduceLE, Int.reduceToNat, Int.reduceMul, Int.reduceAdd, Int.reduceSub, frzE, frz1, wipeE, all_nil, all_cons, endsF, x_start, List.map_cons, List.map_nil, List.replicate_succ, List.replicate_zero, Nat.reduceSub, Int.reduceEq, Nat.reduceEqDiff, List.mem_cons, List.not_mem_nil, x_isTs, or_self, Option.isSome_some, Option.isSome_none, String.reduceEq, dS_inj, dR_inj, dQ_inj, dQ_non, dQ_int, dS_md, dR_md, dQ_md, dS_flat, dR_flat, dQ_flat, dS_items, dR_items, List.getElem?_map, Option.map_some, Option.map_none, shp_i, shp_n, shp_b, shp_li, shp_S, shp_R, shp_lS, shp_Q, shp_l0, eqb_int, eqb_l, eqb_S, eqb_R, eqbs_ints, eqbs_dS, eqbs_nil0, eqbs_nilL, eqbs_nilR, Sl.own.injEq, Sl.val.injEq, List.length_map, dR_lst, dR_tup, dS_lst, dS_tup, flats_S, cut_map, cut_1, dR_fold, dS_fold, inI_t, inI_f, Bool.or_false, List.getLast?_map, exists_false, exists_const, Bool.and_self, Bool.and_true, Bool.true_and, Bool.and_false, Bool.false_and, add_S, List.isEmpty_map, fMax_2, fMax_3, fMin_2, flat_non, flat_i, ↓u_for, ↓u_comp, fS_v, fS_n, fS_o, shp_lli, eqbs_dL, ↓eSortSet, int_inj, fList_S, fList_R, sum_S, sum_li, x_is_between, x_is_sample, x_is_samples, x_distance, x_need_samples, x_need_threshold, x_need_silence, x_is_late, x_reported, x_reportedL, x_all_reports, x_all_reportsN, x_held_by, x_held_byT, hX.it, hY.inn, hr]
    have hl := heldF_length (rs := rs) (is := is) n
    split
    · rename_i hc
      refine ⟨by omega, hN (heldF rs is (n + 1)) _ rfl ?_⟩
      show _ = [_, _, Sl.own ((heldF rs is (n + 1)).map dS), _]
      conv => rhs; unfold heldF
      rw [if_pos hc, List.map_append, List.getD_eq_getElem?_getD, hr]
      rfl
    · rename_i hc
      have hn : heldF rs is n ≠ [] := fun z => by
        rw [z] at hl
        subst hl
        exact hc h0
      have e : (heldF rs is n).getLast? = some ((heldF rs is n).getLastD []) := by
        rw [List.getLastD_eq_getLast?, List.getLast?_eq_some_getLast hn]
        rfl
      rw [e]
      simp only [↓sSeq, ↓sRet, ↓sIf, ↓sSet, ↓sOwn, ↓sAsg, ↓sDrop, ↓sNext, ↓sBreak, ↓sNever, ↓sFrz, ↓sApp, ↓sSetIx, ↓sSrc, ↓sPar, ↓sPar3, ↓sAug, ↓sNewSrc, ↓eC, ↓eTest, ↓eAnd, ↓eOr, ↓eNot, ↓eAndV, ↓eOrV, ↓eNotV, ↓eIf, ↓eChain, ↓eNeg, ↓eIx, ↓eIxS, ↓eSl, ↓oNone, ↓oSome, ↓aNil, ↓aCons, ↓eTup, ↓eLst, ↓eTupM, ↓eLstM, ↓eCB, ↓eBin, ↓x_call, ↓x_callK, ↓eSrc, ↓iSeqD, ↓iRg1, ↓iRg2, ↓iRg3, ↓iEnumD, ↓iZipD, ↓gNm, ↓gTp, ↓gsC, ↓gsN, ↓eYes, x_var0, x_var0o, x_varS, fAdd_ii, fAdd_ll, fAdd_tt, fAdd_ss, fMul_ii, fMul_li, fMul_ti, fSub_ii, fDiv_ii, fMod_ii, fPow_ii, fLt_ii, fLe_ii, fGt_ii, fGe_ii, ↓fEq, ↓fNe, ↓fIsN, ↓fNotN, x_lenL, x_lenT, x_lenS, x_lenR, x_lenC, fAbs_i, fInt_i, fInt_b, x_isi, List.set_cons_zero, List.set_cons_succ, List.getElem?_cons_zero, List.getElem?_cons_succ, items_l, items_t, okSt, mdOf, md_i, md_b, md_n, md_s, md_t, md_l, md_y, Md.isCl, Md.isNw, Md.meet, atI_0, atI_m1, atI_1, atI_2, atI_nat, cond_true, cond_false, isNon_i, isNon_n, isT_ii, isT_ib, isT_it, isT_il, isT_bi, isT_bb, isT_tt, isT_ti, isT_lt, isT_ll, isT_nt, isT_ni, isT_nl, tyN_i, tyN_b, tyN_t, tyN_l, tyN_n, dS_isT, dR_isT, dS_tyN, dR_tyN, dQ_isNon, D.flat, D.flats, flats_cons, flats_nil, flats_ints, flat_tup, putOk, slOf_f, slOf_t, Option.some.injEq, D.int.injEq, D.bl.injEq, D.lst.injEq, D.tup.injEq, D.str.injEq, D.scr.injEq, D.ty.injEq, x_consD, x_consD0, x_consD1, and_assoc, reduceCtorEq, exists_eq, exists_eq', exists_eq_left, exists_eq_left', exists_eq_right, exists_eq_right', exists_and_left, exists_and_right, and_true, true_and, and_self, and_false, false_and, or_true, true_or, or_false, false_or, if_true, if_false, ite_true, ite_false, decide_eq_true_eq, decide_eq_false_iff_not, Bool.not_eq_true, Bool.not_eq_true', Bool.not_true, Bool.not_false, Bool.true_eq_false, Bool.false_eq_true, not_true_eq_false, not_false_eq_true, eq_self_iff_true, forall_const, imp_self, List.length_cons, List.length_nil, List.append_nil, List.nil_append, List.cons_append, cpow_6, cpow_18, cpow_5, cpow_7, cpow_15, cpow_12, CMul, Nat.reduceAdd, Nat.reduceLeDiff, Nat.reduceLT, Int.reducePow, Int.reduceNeg, Int.reduceLT, Int.reduceLE, Int.reduceToNat, Int.reduceMul, Int.reduceAdd, Int.reduceSub, frzE, frz1, wipeE, all_nil, all_cons, endsF, x_start, List.map_cons, List.map_nil, List.replicate_succ, List.replicate_zero, Nat.reduceSub, Int.reduceEq, Nat.reduceEqDiff, List.mem_cons, List.not_mem_nil, x_isTs, or_self, Option.isSome_some, Option.isSome_none, String.reduceEq, dS_inj, dR_inj, dQ_inj, dQ_non, dQ_int, dS_md, dR_md, dQ_md, dS_flat, dR_flat, dQ_flat, dS_items, dR_items, List.getElem?_map, Option.map_some, Option.map_none, shp_i, shp_n, shp_b, shp_li, shp_S, shp_R, shp_lS, shp_Q, shp_l0, eqb_int, eqb_l, eqb_S, eqb_R, eqbs_ints, eqbs_dS, eqbs_nil0, eqbs_nilL, eqbs_nilR, Sl.own.injEq, Sl.val.injEq, List.length_map, dR_lst, dR_tup, dS_lst, dS_tup, flats_S, cut_map, cut_1, dR_fold, dS_fold, inI_t, inI_f, Bool.or_false, List.getLast?_map, exists_false, exists_const, Bool.and_self, Bool.and_true, Bool.true_and, Bool.and_false, Bool.false_and, add_S, List.isEmpty_map, fMax_2, fMax_3, fMin_2, flat_non, flat_i, ↓u_for, ↓u_comp, fS_v, fS_n, fS_o, shp_lli, eqbs_dL, ↓eSortSet, int_inj, fList_S, fList_R, sum_S, sum_li, x_is_between, x_is_sample, x_is_samples, x_distance, x_need_samples, x_need_threshold, x_need_silence, x_is_late, x_reported, x_reportedL, x_all_reports, x_all_reportsN, x_held_by, x_held_byT]
      refine ⟨by omega, hN (heldF rs is (n + 1)) _ rfl ?_⟩
      show _ = [_, _, Sl.own ((heldF rs is (n + 1)).map dS), _]
      conv => rhs; unfold heldF
      rw [if_neg hc, List.map_append]
      rfl
  · rintro z hI
    rw [List.length_range] at hI
    subst hI
    simp only [↓sSeq, ↓sRet, ↓sIf, ↓sSet, ↓sOwn, ↓sAsg, ↓sDrop, ↓sNext, ↓sBreak, ↓sNever, ↓sFrz, ↓sApp, ↓sSetIx, ↓sSrc, ↓sPar, ↓sPar3, ↓sAug, ↓sNewSrc, ↓eC, ↓eTest, ↓eAnd, ↓eOr, ↓eNot, ↓eAndV, ↓eOrV, ↓eNotV, ↓eIf, ↓eChain, ↓eNeg, ↓eIx, ↓eIxS, ↓eSl, ↓oNone, ↓oSome, ↓aNil, ↓aCons, ↓eTup, ↓eLst, ↓eTupM, ↓eLstM, ↓eCB, ↓eBin, ↓x_call, ↓x_callK, ↓eSrc, ↓iSeqD, ↓iRg1, ↓iRg2, ↓iRg3, ↓iEnumD, ↓iZipD, ↓gNm, ↓gTp, ↓gsC, ↓gsN, ↓eYes, x_var0, x_var0o, x_varS, fAdd_ii, fAdd_ll, fAdd_tt, fAdd_ss, fMul_ii, fMul_li, fMul_ti, fSub_ii, fDiv_ii, fMod_ii, fPow_ii, fLt_ii, fLe_ii, fGt_ii, fGe_ii, ↓fEq, ↓fNe, ↓fIsN, ↓fNotN, x_lenL, x_lenT, x_lenS, x_lenR, x_lenC, fAbs_i, fInt_i, fInt_b, x_isi, List.set_cons_zero, List.set_cons_succ, List.getElem?_cons_zero, List.getElem?_cons_succ, items_l, items_t, okSt, mdOf, md_i, md_b, md_n, md_s, md_t, md_l, md_y, Md.isCl, Md.isNw, Md.meet, atI_0, atI_m1, atI_1, atI_2, atI_nat, cond_true, cond_false, isNon_i, isNon_n, isT_ii, isT_ib, isT_it, isT_il, isT_bi, isT_bb, isT_tt, isT_ti, isT_lt, isT_ll, isT_nt, isT_ni, isT_nl, tyN_i, tyN_b, tyN_t, tyN_l, tyN_n, dS_isT, dR_isT, dS_tyN, dR_tyN, dQ_isNon, D.flat, D.flats, flats_cons, flats_nil, flats_ints, flat_tup, putOk, slOf_f, slOf_t, Option.some.injEq, D.int.injEq, D.bl.injEq, D.lst.injEq, D.tup.injEq, D.str.injEq, D.scr.injEq, D.ty.injEq, x_consD, x_consD0, x_consD1, and_assoc, reduceCtorEq, exists_eq, exists_eq', exists_eq_left, exists_eq_left', exists_eq_right, exists_eq_right', exists_and_left, exists_and_right, and_true, true_and, and_self, and_false, false_and, or_true, true_or, or_false, false_or, if_true, if_false, ite_true, ite_false, decide_eq_true_eq, decide_eq_false_iff_not, Bool.not_eq_true, Bool.not_eq_true', Bool.not_true, Bool.not_false, Bool.true_eq_false, Bool.false_eq_true, not_true_eq_false, not_false_eq_true, eq_self_iff_true, forall_const, imp_self, List.length_cons, List.length_nil, List.append_nil, List.nil_append, List.cons_append, cpow_6, cpow_18, cpow_5, cpow_7, cpow_15, cpow_12, CMul, Nat.reduceAdd, Nat.reduceLeDiff, Nat.reduceLT, Int.reducePow, Int.reduceNeg, Int.reduceLT, Int.reduceLE, Int.reduceToNat, Int.reduceMul, Int.reduceAdd, Int.reduceSub, frzE, frz1, wipeE, all_nil, all_cons, endsF, x_start, List.map_cons, List.map_nil, List.replicate_succ, List.replicate_zero, Nat.reduceSub, Int.reduceEq, Nat.reduceEqDiff, List.mem_cons, List.not_mem_nil, x_isTs, or_self, Option.isSome_some, Option.isSome_none, String.reduceEq, dS_inj, dR_inj, dQ_inj, dQ_non, dQ_int, dS_md, dR_md, dQ_md, dS_flat, dR_flat, dQ_flat, dS_items, dR_items, List.getElem?_map, Option.map_some, Option.map_none, shp_i, shp_n, shp_b, shp_li, shp_S, shp_R, shp_lS, shp_Q, shp_l0, eqb_int, eqb_l, eqb_S, eqb_R, eqbs_ints, eqbs_dS, eqbs_nil0, eqbs_nilL, eqbs_nilR, Sl.own.injEq, Sl.val.injEq, List.length_map, dR_lst, dR_tup, dS_lst, dS_tup, flats_S, cut_map, cut_1, dR_fold, dS_fold, inI_t, inI_f, Bool.or_false, List.getLast?_map, exists_false, exists_const, Bool.and_self, Bool.and_true, Bool.true_and, Bool.and_false, Bool.false_and, add_S, List.isEmpty_map, fMax_2, fMax_3, fMin_2, flat_non, flat_i, ↓u_for, ↓u_comp, fS_v, fS_n, fS_o, shp_lli, eqbs_dL, ↓eSortSet, int_inj, fList_S, fList_R, sum_S, sum_li, x_is_between, x_is_sample, x_is_samples, x_distance, x_need_samples, x_need_threshold, x_need_silence, x_is_late, x_reported, x_reportedL, x_all_reports, x_all_reportsN, x_held_by, x_held_byT]
    exact h
/-! ### the named defs -/
def t_reports : S1 := (sSeq (sDrop (eCall true [] c_need_samples (aCons (eVar 0) aNil))) (sSeq (sDrop (eCall true [] c_need_threshold (aCons (eVar 1) aNil))) (sSeq (sDrop (eCall true [] c_need_silence (aCons (eVar 2) aNil))) (sRet (eCall true [] c_all_reports (aCons (eVar 0) (aCons (eVar 1) (aCons (eVar 2) aNil))))))))
structure OkA (rs : List Row) (t : Int) (s : Option Int) : Prop where
  r : OkR rs
  t : OkT t
  q : OkQ s
def c_reports : C1 := fun ds q => ∃ (rs : List Row) (t : Int) (s : Option Int), ds = [dR rs, .int t, dQ s] ∧ OkA rs t s ∧ q (.lst ((allRep t s rs).map .int))
theorem m_reports : MonoC c_reports := fun ds q q' k ⟨rs, t, s, e, h1, h⟩ => ⟨rs, t, s, e, h1, k _ h⟩
theorem x_reports {rs : List Row} {t : Int} {s : Option Int} {q : D → Prop} : callC c_reports [dR rs, .int t, dQ s] q = (OkA rs t s ∧ q (.lst ((allRep t s rs).map .int))) := by
  simp only [callC, c_reports, ↓sSeq, ↓sRet, ↓sIf, ↓sSet, ↓sOwn, ↓sAsg, ↓sDrop, ↓sNext, ↓sBreak, ↓sNever, ↓sFrz, ↓sApp, ↓sSetIx, ↓sSrc, ↓sPar, ↓sPar3, ↓sAug, ↓sNewSrc, ↓eC, ↓eTest, ↓eAnd, ↓eOr, ↓eNot, ↓eAndV, ↓eOrV, ↓eNotV, ↓eIf, ↓eChain, ↓eNeg, ↓eIx, ↓eIxS, ↓eSl, ↓oNone, ↓oSome, ↓aNil, ↓aCons, ↓eTup, ↓eLst, ↓eTupM, ↓eLstM, ↓eCB, ↓eBin, ↓x_call, ↓x_callK, ↓eSrc, ↓iSeqD, ↓iRg1, ↓iRg2, ↓iRg3, ↓iEnumD, ↓iZipD, ↓gNm, ↓gTp, ↓gsC, ↓gsN, ↓eYes, x_var0, x_var0o, x_varS, fAdd_ii, fAdd_ll, fAdd_tt, fAdd_ss, fMul_ii, fMul_li, fMul_ti, fSub_ii, fDiv_ii, fMod_ii, fPow_ii, fLt_ii, fLe_ii, fGt_ii, fGe_ii, ↓fEq, ↓fNe, ↓fIsN, ↓fNotN, x_lenL, x_lenT, x_lenS, x_lenR, x_lenC, fAbs_i, fInt_i, fInt_b, x_isi, List.set_cons_zero, List.set_cons_succ, List.getElem?_cons_zero, List.getElem?_cons_succ, items_l, items_t, okSt, mdOf, md_i, md_b, md_n, md_s, md_t, md_l, md_y, Md.isCl, Md.isNw, Md.meet, atI_0, atI_m1, atI_1, atI_2, atI_nat, cond_true, cond_false, isNon_i, isNon_n, isT_ii, isT_ib, isT_it, isT_il, isT_bi, isT_bb, isT_tt, isT_ti, isT_lt, isT_ll, isT_nt, isT_ni, isT_nl, tyN_i, tyN_b, tyN_t, tyN_l, tyN_n, dS_isT, dR_isT, dS_tyN, dR_tyN, dQ_isNon, D.flat, D.flats, flats_cons, flats_nil, flats_ints, flat_tup, putOk, slOf_f, slOf_t, Option.some.injEq, D.int.injEq, D.bl.injEq, D.lst.injEq, D.tup.injEq, D.str.injEq, D.scr.injEq, D.ty.injEq, x_consD, x_consD0, x_consD1, and_assoc, reduceCtorEq, exists_eq, exists_eq', exists_eq_left, exists_eq_left', exists_eq_right, exists_eq_right', exists_and_left, exists_and_right, and_true, true_and, and_self, and_false, false_and, or_true, true_or, or_false, false_or, if_true, if_false, ite_true, ite_false, decide_eq_true_eq, decide_eq_false_iff_not, Bool.not_eq_true, Bool.not_eq_true', Bool.not_true, Bool.not_false, Bool.true_eq_false, Bool.false_eq_true, not_true_eq_false, not_false_eq_true, eq_self_iff_true, forall_const, imp_self, List.length_cons, List.length_nil, List.append_nil, List.nil_append, List.cons_append, cpow_6, cpow_18, cpow_5, cpow_7, cpow_15, cpow_12, CMul, Nat.reduceAdd, Nat.reduceLeDiff, Nat.reduceLT, Int.reducePow, Int.reduceNeg, Int.reduceLT, Int.reduceLE, Int.reduceToNat, Int.reduceMul, Int.reduceAdd, Int.reduceSub, frzE, frz1, wipeE, all_nil, all_cons, endsF, x_start, List.map_cons, List.map_nil, List.replicate_succ, List.replicate_zero, Nat.reduceSub, Int.reduceEq, Nat.reduceEqDiff, List.mem_cons, List.not_mem_nil, x_isTs, or_self, Option.isSome_some, Option.isSome_none, String.reduceEq, dS_inj, dR_inj, dQ_inj, dQ_non, dQ_int, dS_md, dR_md, dQ_md, dS_flat, dR_flat, dQ_flat, dS_items, dR_items, List.getElem?_map, Option.map_some, Option.map_none, shp_i, shp_n, shp_b, shp_li, shp_S, shp_R, shp_lS, shp_Q, shp_l0, eqb_int, eqb_l, eqb_S, eqb_R, eqbs_ints, eqbs_dS, eqbs_nil0, eqbs_nilL, eqbs_nilR, Sl.own.injEq, Sl.val.injEq, List.length_map, dR_lst, dR_tup, dS_lst, dS_tup, flats_S, cut_map, cut_1, dR_fold, dS_fold, inI_t, inI_f, Bool.or_false, List.getLast?_map, exists_false, exists_const, Bool.and_self, Bool.and_true, Bool.true_and, Bool.and_false, Bool.false_and, add_S, List.isEmpty_map, fMax_2, fMax_3, fMin_2, flat_non, flat_i, ↓u_for, ↓u_comp, fS_v, fS_n, fS_o, shp_lli, eqbs_dL, ↓eSortSet, int_inj, fList_S, fList_R, sum_S, sum_li, x_is_between, x_is_sample, x_is_samples, x_distance, x_need_samples, x_need_threshold, x_need_silence, x_is_late, x_reported, x_reportedL, x_all_reports, x_all_reportsN, x_held_by, x_held_byT]
theorem x_reports0 {rs : List Row} {t : Int} {q : D → Prop} : callC c_reports [dR rs, .int t, .non] q = (OkA rs t none ∧ q (.lst ((allRep t none rs).map .int))) := x_reports (s := none)
theorem x_reportsI {rs : List Row} {t k : Int} {q : D → Prop} : callC c_reports [dR rs, .int t, .int k] q = (OkA rs t (some k) ∧ q (.lst ((allRep t (some k) rs).map .int))) := x_reports (s := some k)
theorem w_reports (ds : List D) (q : D → Prop) (h : c_reports ds q) : t_reports (endsF true q) (startE 3 ds) := by
  obtain ⟨rs, t, s, rfl, ok, h⟩ := h
  simp only [x_start, List.map_cons, List.map_nil, List.length_cons, List.length_nil, List.replicate_succ, List.replicate_zero, List.cons_append, List.nil_append, Nat.reduceSub, Nat.reduceAdd]
  simp only [t_reports, ↓sSeq, ↓sRet, ↓sIf, ↓sSet, ↓sOwn, ↓sAsg, ↓sDrop, ↓sNext, ↓sBreak, ↓sNever, ↓sFrz, ↓sApp, ↓sSetIx, ↓sSrc, ↓sPar, ↓sPar3, ↓sAug, ↓sNewSrc, ↓eC, ↓eTest, ↓eAnd, ↓eOr, ↓eNot, ↓eAndV, ↓eOrV, ↓eNotV, ↓eIf, ↓eChain, ↓eNeg, ↓eIx, ↓eIxS, ↓eSl, ↓oNone, ↓oSome, ↓aNil, ↓aCons, ↓eTup, ↓eLst, ↓eTupM, ↓eLstM, ↓eCB, ↓eBin, ↓x_call, ↓x_callK, ↓eSrc, ↓iSeqD, ↓iRg1, ↓iRg2, ↓iRg3, ↓iEnumD, ↓iZipD, ↓gNm, ↓gTp, ↓gsC, ↓gsN, ↓eYes, x_var0, x_var0o, x_varS, fAdd_ii, fAdd_ll, fAdd_tt, fAdd_ss, fMul_ii, fMul_li, fMul_ti, fSub_ii, fDiv_ii, fMod_ii, fPow_ii, fLt_ii, fLe_ii, fGt_ii, fGe_ii, ↓fEq, ↓fNe, ↓fIsN, ↓fNotN, x_lenL, x_lenT, x_lenS, x_lenR, x_lenC, fAbs_i, fInt_i, fInt_b, x_isi, List.set_cons_zero, List.set_cons_succ, List.getElem?_cons_zero, List.getElem?_cons_succ, items_l, items_t, okSt, mdOf, md_i, md_b, md_n, md_s, md_t, md_l, md_y, Md.isCl, Md.isNw, Md.meet, atI_0, atI_m1, atI_1, atI_2, atI_nat, cond_true, cond_false, isNon_i, isNon_n, isT_ii, isT_ib, isT_it, isT_il, isT_bi, isT_bb, isT_tt, isT_ti, isT_lt, isT_ll, isT_nt, isT_ni, isT_nl, tyN_i, tyN_b, tyN_t, tyN_l, tyN_n, dS_isT, dR_isT, dS_tyN, dR_tyN, dQ_isNon, D.flat, D.flats, flats_cons, flats_nil, flats_ints, flat_tup, putOk, slOf_f, slOf_t, Option.some.injEq, D.int.injEq, D.bl.injEq, D.lst.injEq, D.tup.injEq, D.str.injEq, D.scr.injEq, D.ty.injEq, x_consD, x_consD0, x_consD1, and_assoc, reduceCtorEq, exists_eq, exists_eq', exists_eq_left, exists_eq_left', exists_eq_right, exists_eq_right', exists_and_left, exists_and_right, and_true, true_and, and_self, and_false, false_and, or_true, true_or, or_false, false_or, if_true, if_false, ite_true, ite_false, decide_eq_true_eq, decide_eq_false_iff_not, Bool.not_eq_true, Bool.not_eq_true', Bool.not_true, Bool.not_false, Bool.true_eq_false, Bool.false_eq_true, not_true_eq_false, not_false_eq_true, eq_self_iff_true, forall_const, imp_self, List.length_cons, List.length_nil, List.append_nil, List.nil_append, List.cons_append, cpow_6, cpow_18, cpow_5, cpow_7, cpow_15, cpow_12, CMul, Nat.reduceAdd, Nat.reduceLeDiff, Nat.reduceLT, Int.reducePow, Int.reduceNeg, Int.reduceLT, Int.reduceLE, Int.reduceToNat, Int.reduceMul, Int.reduceAdd, Int.reduceSub, frzE, frz1, wipeE, all_nil, all_cons, endsF, x_start, List.map_cons, List.map_nil, List.replicate_succ, List.replicate_zero, Nat.reduceSub, Int.reduceEq, Nat.reduceEqDiff, List.mem_cons, List.not_mem_nil, x_isTs, or_self, Option.isSome_some, Option.isSome_none, String.reduceEq, dS_inj, dR_inj, dQ_inj, dQ_non, dQ_int, dS_md, dR_md, dQ_md, dS_flat, dR_flat, dQ_flat, dS_items, dR_items, List.getElem?_map, Option.map_some, Option.map_none, shp_i, shp_n, shp_b, shp_li, shp_S, shp_R, shp_lS, shp_Q, shp_l0, eqb_int, eqb_l, eqb_S, eqb_R, eqbs_ints, eqbs_dS, eqbs_nil0, eqbs_nilL, eqbs_nilR, Sl.own.injEq, Sl.val.injEq, List.length_map, dR_lst, dR_tup, dS_lst, dS_tup, flats_S, cut_map, cut_1, dR_fold, dS_fold, inI_t, inI_f, Bool.or_false, List.getLast?_map, exists_false, exists_const, Bool.and_self, Bool.and_true, Bool.true_and, Bool.and_false, Bool.false_and, add_S, List.isEmpty_map, fMax_2, fMax_3, fMin_2, flat_non, flat_i, ↓u_for, ↓u_comp, fS_v, fS_n, fS_o, shp_lli, eqbs_dL, ↓eSortSet, int_inj, fList_S, fList_R, sum_S, sum_li, x_is_between, x_is_sample, x_is_samples, x_distance, x_need_samples, x_need_threshold, x_need_silence, x_is_late, x_reported, x_reportedL, x_all_reports, x_all_reportsN, x_held_by, x_held_byT, x_reports, x_reports0, x_reportsI]
  exact ⟨ok.r, ok.t, ok.q, ok.r, h⟩
theorem allRep_zero {t : Int} {s : Option Int} {rs : List Row} : (0 : Int) ∈ allRep t s rs := List.mem_cons_self
theorem OkA.hld {rs : List Row} {t : Int} {s : Option Int} (h : OkA rs t s) : Hld rs (allRep t s rs) := ⟨by have := h.r.most; omega, allRep_zero⟩
def t_held : S1 := (sSeq (sDrop (eCall true [] c_need_samples (aCons (eVar 0) aNil))) (sSeq (sDrop (eCall true [] c_need_threshold (aCons (eVar 1) aNil))) (sSeq (sDrop (eCall true [] c_need_silence (aCons (eVar 2) aNil))) (sRet (eCall true [] c_held_by (aCons (eVar 0) (aCons (eCall true [] c_all_reports (aCons (eVar 0) (aCons (eVar 1) (aCons (eVar 2) aNil)))) aNil)))))))
def c_held : C1 := fun ds q => ∃ (rs : List Row) (t : Int) (s : Option Int), ds = [dR rs, .int t, dQ s] ∧ OkA rs t s ∧ q (.lst ((heldR rs (allRep t s rs)).map dS))
theorem m_held : MonoC c_held := fun ds q q' k ⟨rs, t, s, e, h1, h⟩ => ⟨rs, t, s, e, h1, k _ h⟩
theorem x_held {rs : List Row} {t : Int} {s : Option Int} {q : D → Prop} : callC c_held [dR rs, .int t, dQ s] q = (OkA rs t s ∧ q (.lst ((heldR rs (allRep t s rs)).map dS))) := by
  simp only [callC, c_held, ↓sSeq, ↓sRet, ↓sIf, ↓sSet, ↓sOwn, ↓sAsg, ↓sDrop, ↓sNext, ↓sBreak, ↓sNever, ↓sFrz, ↓sApp, ↓sSetIx, ↓sSrc, ↓sPar, ↓sPar3, ↓sAug, ↓sNewSrc, ↓eC, ↓eTest, ↓eAnd, ↓eOr, ↓eNot, ↓eAndV, ↓eOrV, ↓eNotV, ↓eIf, ↓eChain, ↓eNeg, ↓eIx, ↓eIxS, ↓eSl, ↓oNone, ↓oSome, ↓aNil, ↓aCons, ↓eTup, ↓eLst, ↓eTupM, ↓eLstM, ↓eCB, ↓eBin, ↓x_call, ↓x_callK, ↓eSrc, ↓iSeqD, ↓iRg1, ↓iRg2, ↓iRg3, ↓iEnumD, ↓iZipD, ↓gNm, ↓gTp, ↓gsC, ↓gsN, ↓eYes, x_var0, x_var0o, x_varS, fAdd_ii, fAdd_ll, fAdd_tt, fAdd_ss, fMul_ii, fMul_li, fMul_ti, fSub_ii, fDiv_ii, fMod_ii, fPow_ii, fLt_ii, fLe_ii, fGt_ii, fGe_ii, ↓fEq, ↓fNe, ↓fIsN, ↓fNotN, x_lenL, x_lenT, x_lenS, x_lenR, x_lenC, fAbs_i, fInt_i, fInt_b, x_isi, List.set_cons_zero, List.set_cons_succ, List.getElem?_cons_zero, List.getElem?_cons_succ, items_l, items_t, okSt, mdOf, md_i, md_b, md_n, md_s, md_t, md_l, md_y, Md.isCl, Md.isNw, Md.meet, atI_0, atI_m1, atI_1, atI_2, atI_nat, cond_true, cond_false, isNon_i, isNon_n, isT_ii, isT_ib, isT_it, isT_il, isT_bi, isT_bb, isT_tt, isT_ti, isT_lt, isT_ll, isT_nt, isT_ni, isT_nl, tyN_i, tyN_b, tyN_t, tyN_l, tyN_n, dS_isT, dR_isT, dS_tyN, dR_tyN, dQ_isNon, D.flat, D.flats, flats_cons, flats_nil, flats_ints, flat_tup, putOk, slOf_f, slOf_t, Option.some.injEq, D.int.injEq, D.bl.injEq, D.lst.injEq, D.tup.injEq, D.str.injEq, D.scr.injEq, D.ty.injEq, x_consD, x_consD0, x_consD1, and_assoc, reduceCtorEq, exists_eq, exists_eq', exists_eq_left, exists_eq_left', exists_eq_right, exists_eq_right', exists_and_left, exists_and_right, and_true, true_and, and_self, and_false, false_and, or_true, true_or, or_false, false_or, if_true, if_false, ite_true, ite_false, decide_eq_true_eq, decide_eq_false_iff_not, Bool.not_eq_true, Bool.not_eq_true', Bool.not_true, Bool.not_false, Bool.true_eq_false, Bool.false_eq_true, not_true_eq_false, not_false_eq_true, eq_self_iff_true, forall_const, imp_self, List.length_cons, List.length_nil, List.append_nil, List.nil_append, List.cons_append, cpow_6, cpow_18, cpow_5, cpow_7, cpow_15, cpow_12, CMul, Nat.reduceAdd, Nat.reduceLeDiff, Nat.reduceLT, Int.reducePow, Int.reduceNeg, Int.reduceLT, Int.reduceLE, Int.reduceToNat, Int.reduceMul, Int.reduceAdd, Int.reduceSub, frzE, frz1, wipeE, all_nil, all_cons, endsF, x_start, List.map_cons, List.map_nil, List.replicate_succ, List.replicate_zero, Nat.reduceSub, Int.reduceEq, Nat.reduceEqDiff, List.mem_cons, List.not_mem_nil, x_isTs, or_self, Option.isSome_some, Option.isSome_none, String.reduceEq, dS_inj, dR_inj, dQ_inj, dQ_non, dQ_int, dS_md, dR_md, dQ_md, dS_flat, dR_flat, dQ_flat, dS_items, dR_items, List.getElem?_map, Option.map_some, Option.map_none, shp_i, shp_n, shp_b, shp_li, shp_S, shp_R, shp_lS, shp_Q, shp_l0, eqb_int, eqb_l, eqb_S, eqb_R, eqbs_ints, eqbs_dS, eqbs_nil0, eqbs_nilL, eqbs_nilR, Sl.own.injEq, Sl.val.injEq, List.length_map, dR_lst, dR_tup, dS_lst, dS_tup, flats_S, cut_map, cut_1, dR_fold, dS_fold, inI_t, inI_f, Bool.or_false, List.getLast?_map, exists_false, exists_const, Bool.and_self, Bool.and_true, Bool.true_and, Bool.and_false, Bool.false_and, add_S, List.isEmpty_map, fMax_2, fMax_3, fMin_2, flat_non, flat_i, ↓u_for, ↓u_comp, fS_v, fS_n, fS_o, shp_lli, eqbs_dL, ↓eSortSet, int_inj, fList_S, fList_R, sum_S, sum_li, x_is_between, x_is_sample, x_is_samples, x_distance, x_need_samples, x_need_threshold, x_need_silence, x_is_late, x_reported, x_reportedL, x_all_reports, x_all_reportsN, x_held_by, x_held_byT, x_reports, x_reports0, x_reportsI]
theorem x_held0 {rs : List Row} {t : Int} {q : D → Prop} : callC c_held [dR rs, .int t, .non] q = (OkA rs t none ∧ q (.lst ((heldR rs (allRep t none rs)).map dS))) := x_held (s := none)
theorem x_heldI {rs : List Row} {t k : Int} {q : D → Prop} : callC c_held [dR rs, .int t, .int k] q = (OkA rs t (some k) ∧ q (.lst ((heldR rs (allRep t (some k) rs)).map dS))) := x_held (s := some k)
theorem w_held (ds : List D) (q : D → Prop) (h : c_held ds q) : t_held (endsF true q) (startE 3 ds) := by
  obtain ⟨rs, t, s, rfl, ok, h⟩ := h
  simp only [x_start, List.map_cons, List.map_nil, List.length_cons, List.length_nil, List.replicate_succ, List.replicate_zero, List.cons_append, List.nil_append, Nat.reduceSub, Nat.reduceAdd]
  simp only [t_held, ↓sSeq, ↓sRet, ↓sIf, ↓sSet, ↓sOwn, ↓sAsg, ↓sDrop, ↓sNext, ↓sBreak, ↓sNever, ↓sFrz, ↓sApp, ↓sSetIx, ↓sSrc, ↓sPar, ↓sPar3, ↓sAug, ↓sNewSrc, ↓eC, ↓eTest, ↓eAnd, ↓eOr, ↓eNot, ↓eAndV, ↓eOrV, ↓eNotV, ↓eIf, ↓eChain, ↓eNeg, ↓eIx, ↓eIxS, ↓eSl, ↓oNone, ↓oSome, ↓aNil, ↓aCons, ↓eTup, ↓eLst, ↓eTupM, ↓eLstM, ↓eCB, ↓eBin, ↓x_call, ↓x_callK, ↓eSrc, ↓iSeqD, ↓iRg1, ↓iRg2, ↓iRg3, ↓iEnumD, ↓iZipD, ↓gNm, ↓gTp, ↓gsC, ↓gsN, ↓eYes, x_var0, x_var0o, x_varS, fAdd_ii, fAdd_ll, fAdd_tt, fAdd_ss, fMul_ii, fMul_li, fMul_ti, fSub_ii, fDiv_ii, fMod_ii, fPow_ii, fLt_ii, fLe_ii, fGt_ii, fGe_ii, ↓fEq, ↓fNe, ↓fIsN, ↓fNotN, x_lenL, x_lenT, x_lenS, x_lenR, x_lenC, fAbs_i, fInt_i, fInt_b, x_isi, List.set_cons_zero, List.set_cons_succ, List.getElem?_cons_zero, List.getElem?_cons_succ, items_l, items_t, okSt, mdOf, md_i, md_b, md_n, md_s, md_t, md_l, md_y, Md.isCl, Md.isNw, Md.meet, atI_0, atI_m1, atI_1, atI_2, atI_nat, cond_true, cond_false, isNon_i, isNon_n, isT_ii, isT_ib, isT_it, isT_il, isT_bi, isT_bb, isT_tt, isT_ti, isT_lt, isT_ll, isT_nt, isT_ni, isT_nl, tyN_i, tyN_b, tyN_t, tyN_l, tyN_n, dS_isT, dR_isT, dS_tyN, dR_tyN, dQ_isNon, D.flat, D.flats, flats_cons, flats_nil, flats_ints, flat_tup, putOk, slOf_f, slOf_t, Option.some.injEq, D.int.injEq, D.bl.injEq, D.lst.injEq, D.tup.injEq, D.str.injEq, D.scr.injEq, D.ty.injEq, x_consD, x_consD0, x_consD1, and_assoc, reduceCtorEq, exists_eq, exists_eq', exists_eq_left, exists_eq_left', exists_eq_right, exists_eq_right', exists_and_left, exists_and_right, and_true, true_and, and_self, and_false, false_and, or_true, true_or, or_false, false_or, if_true, if_false, ite_true, ite_false, decide_eq_true_eq, decide_eq_false_iff_not, Bool.not_eq_true, Bool.not_eq_true', Bool.not_true, Bool.not_false, Bool.true_eq_false, Bool.false_eq_true, not_true_eq_false, not_false_eq_true, eq_self_iff_true, forall_const, imp_self, List.length_cons, List.length_nil, List.append_nil, List.nil_append, List.cons_append, cpow_6, cpow_18, cpow_5, cpow_7, cpow_15, cpow_12, CMul, Nat.reduceAdd, Nat.reduceLeDiff, Nat.reduceLT, Int.reducePow, Int.reduceNeg, Int.reduceLT, Int.reduceLE, Int.reduceToNat, Int.reduceMul, Int.reduceAdd, Int.reduceSub, frzE, frz1, wipeE, all_nil, all_cons, endsF, x_start, List.map_cons, List.map_nil, List.replicate_succ, List.replicate_zero, Nat.reduceSub, Int.reduceEq, Nat.reduceEqDiff, List.mem_cons, List.not_mem_nil, x_isTs, or_self, Option.isSome_some, Option.isSome_none, String.reduceEq, dS_inj, dR_inj, dQ_inj, dQ_non, dQ_int, dS_md, dR_md, dQ_md, dS_flat, dR_flat, dQ_flat, dS_items, dR_items, List.getElem?_map, Option.map_some, Option.map_none, shp_i, shp_n, shp_b, shp_li, shp_S, shp_R, shp_lS, shp_Q, shp_l0, eqb_int, eqb_l, eqb_S, eqb_R, eqbs_ints, eqbs_dS, eqbs_nil0, eqbs_nilL, eqbs_nilR, Sl.own.injEq, Sl.val.injEq, List.length_map, dR_lst, dR_tup, dS_lst, dS_tup, flats_S, cut_map, cut_1, dR_fold, dS_fold, inI_t, inI_f, Bool.or_false, List.getLast?_map, exists_false, exists_const, Bool.and_self, Bool.and_true, Bool.true_and, Bool.and_false, Bool.false_and, add_S, List.isEmpty_map, fMax_2, fMax_3, fMin_2, flat_non, flat_i, ↓u_for, ↓u_comp, fS_v, fS_n, fS_o, shp_lli, eqbs_dL, ↓eSortSet, int_inj, fList_S, fList_R, sum_S, sum_li, x_is_between, x_is_sample, x_is_samples, x_distance, x_need_samples, x_need_threshold, x_need_silence, x_is_late, x_reported, x_reportedL, x_all_reports, x_all_reportsN, x_held_by, x_held_byT, x_reports, x_reports0, x_reportsI, x_held, x_held0, x_heldI]
  exact ⟨ok.r, ok.t, ok.q, ok.r, ok.hld, h⟩
/-- the row held at a place -/
def valAt (rs : List Row) (is : List Int) : Nat → Row
  | 0 => if (0 : Int) ∈ is then rs.getD 0 [] else []
  | i + 1 => if ((i + 1 : Nat) : Int) ∈ is then rs.getD (i + 1) [] else valAt rs is i
theorem heldF_map {rs : List Row} {is : List Int} : ∀ n, heldF rs is n = (List.range n).map (valAt rs is)
  | 0 => rfl
  | n + 1 => by
    rw [List.range_succ, List.map_append, ← heldF_map n]
    show heldF rs is n ++ [_] = heldF rs is n ++ [_]
    congr 2
    cases n with
    | zero => rfl
    | succ m =>
      show (if _ then _ else _) = valAt rs is (m + 1)
      conv => rhs; unfold valAt
      congr 1
      rw [heldF_map (m + 1), List.range_succ, List.map_append]
      simp
theorem heldR_map {rs : List Row} {is : List Int} : heldR rs is = (List.range rs.length).map (valAt rs is) := heldF_map _
theorem heldR_length {rs : List Row} {is : List Int} : (heldR rs is).length = rs.length := heldF_length _
theorem getD_mem {rs : List Row} {i : Nat} (h : i < rs.length) : rs.getD i [] ∈ rs := by
  rw [List.getD_eq_getElem?_getD, List.getElem?_eq_getElem h]
  exact List.getElem_mem h
theorem valAt_mem {rs : List Row} {is : List Int} (h0 : (0 : Int) ∈ is) : ∀ i, i < rs.length → valAt rs is i ∈ rs
  | 0, h => by
    unfold valAt
    rw [if_pos h0]
    exact getD_mem h
  | i + 1, h => by
    unfold valAt
    split
    · exact getD_mem h
    · exact valAt_mem h0 i (by omega)
theorem heldR_mem {rs : List Row} {is : List Int} (h0 : (0 : Int) ∈ is) {v : Row} (h : v ∈ heldR rs is) : v ∈ rs := by
  rw [heldR_map] at h
  obtain ⟨i, hi, rfl⟩ := List.mem_map.mp h
  exact valAt_mem h0 i (List.mem_range.mp hi)
def errs (rs vs : List Row) : List Int := (rs.zip vs).map fun p => gap p.1 p.2
theorem errs_nonneg {rs vs : List Row} : ∀ y ∈ errs rs vs, 0 ≤ y := fun y hy => by
  obtain ⟨p, _, rfl⟩ := List.mem_map.mp hy
  exact gap_nonneg _ _
def errR (rs : List Row) (is : List Int) : Int := top0 (errs rs (heldR rs is))
def t_largest_error : S1 := (sSeq (sDrop (eCall true [] c_need_samples (aCons (eVar 0) aNil))) (sSeq (sDrop (eCall true [] c_need_threshold (aCons (eVar 1) aNil))) (sSeq (sDrop (eCall true [] c_need_silence (aCons (eVar 2) aNil))) (sSeq (sSet 3 (eCall true [] c_held_by (aCons (eVar 0) (aCons (eCall true [] c_all_reports (aCons (eVar 0) (aCons (eVar 1) (aCons (eVar 2) aNil)))) aNil)))) (sRet (eCB fMax (aCons (eComp (iZipD (aCons (eVar 0) (aCons (eVar 3) aNil))) (gTp 2 (gsC (gNm 4) (gsC (gNm 5) gsN))) eYes (eCall true [] c_distance (aCons (eVar 4) (aCons (eVar 5) aNil))) [4, 5]) aNil)))))))
def c_largest_error : C1 := fun ds q => ∃ (rs : List Row) (t : Int) (s : Option Int), ds = [dR rs, .int t, dQ s] ∧ OkA rs t s ∧ q (.int (errR rs (allRep t s rs)))
theorem m_largest_error : MonoC c_largest_error := fun ds q q' k ⟨rs, t, s, e, h1, h⟩ => ⟨rs, t, s, e, h1, k _ h⟩
theorem x_largest_error {rs : List Row} {t : Int} {s : Option Int} {q : D → Prop} : callC c_largest_error [dR rs, .int t, dQ s] q = (OkA rs t s ∧ q (.int (errR rs (allRep t s rs)))) := by
  simp only [callC, c_largest_error, ↓sSeq, ↓sRet, ↓sIf, ↓sSet, ↓sOwn, ↓sAsg, ↓sDrop, ↓sNext, ↓sBreak, ↓sNever, ↓sFrz, ↓sApp, ↓sSetIx, ↓sSrc, ↓sPar, ↓sPar3, ↓sAug, ↓sNewSrc, ↓eC, ↓eTest, ↓eAnd, ↓eOr, ↓eNot, ↓eAndV, ↓eOrV, ↓eNotV, ↓eIf, ↓eChain, ↓eNeg, ↓eIx, ↓eIxS, ↓eSl, ↓oNone, ↓oSome, ↓aNil, ↓aCons, ↓eTup, ↓eLst, ↓eTupM, ↓eLstM, ↓eCB, ↓eBin, ↓x_call, ↓x_callK, ↓eSrc, ↓iSeqD, ↓iRg1, ↓iRg2, ↓iRg3, ↓iEnumD, ↓iZipD, ↓gNm, ↓gTp, ↓gsC, ↓gsN, ↓eYes, x_var0, x_var0o, x_varS, fAdd_ii, fAdd_ll, fAdd_tt, fAdd_ss, fMul_ii, fMul_li, fMul_ti, fSub_ii, fDiv_ii, fMod_ii, fPow_ii, fLt_ii, fLe_ii, fGt_ii, fGe_ii, ↓fEq, ↓fNe, ↓fIsN, ↓fNotN, x_lenL, x_lenT, x_lenS, x_lenR, x_lenC, fAbs_i, fInt_i, fInt_b, x_isi, List.set_cons_zero, List.set_cons_succ, List.getElem?_cons_zero, List.getElem?_cons_succ, items_l, items_t, okSt, mdOf, md_i, md_b, md_n, md_s, md_t, md_l, md_y, Md.isCl, Md.isNw, Md.meet, atI_0, atI_m1, atI_1, atI_2, atI_nat, cond_true, cond_false, isNon_i, isNon_n, isT_ii, isT_ib, isT_it, isT_il, isT_bi, isT_bb, isT_tt, isT_ti, isT_lt, isT_ll, isT_nt, isT_ni, isT_nl, tyN_i, tyN_b, tyN_t, tyN_l, tyN_n, dS_isT, dR_isT, dS_tyN, dR_tyN, dQ_isNon, D.flat, D.flats, flats_cons, flats_nil, flats_ints, flat_tup, putOk, slOf_f, slOf_t, Option.some.injEq, D.int.injEq, D.bl.injEq, D.lst.injEq, D.tup.injEq, D.str.injEq, D.scr.injEq, D.ty.injEq, x_consD, x_consD0, x_consD1, and_assoc, reduceCtorEq, exists_eq, exists_eq', exists_eq_left, exists_eq_left', exists_eq_right, exists_eq_right', exists_and_left, exists_and_right, and_true, true_and, and_self, and_false, false_and, or_true, true_or, or_false, false_or, if_true, if_false, ite_true, ite_false, decide_eq_true_eq, decide_eq_false_iff_not, Bool.not_eq_true, Bool.not_eq_true', Bool.not_true, Bool.not_false, Bool.true_eq_false, Bool.false_eq_true, not_true_eq_false, not_false_eq_true, eq_self_iff_true, forall_const, imp_self, List.length_cons, List.length_nil, List.append_nil, List.nil_append, List.cons_append, cpow_6, cpow_18, cpow_5, cpow_7, cpow_15, cpow_12, CMul, Nat.reduceAdd, Nat.reduceLeDiff, Nat.reduceLT, Int.reducePow, Int.reduceNeg, Int.reduceLT, Int.reduceLE, Int.reduceToNat, Int.reduceMul, Int.reduceAdd, Int.reduceSub, frzE, frz1, wipeE, all_nil, all_cons, endsF, x_start, List.map_cons, List.map_nil, List.replicate_succ, List.replicate_zero, Nat.reduceSub, Int.reduceEq, Nat.reduceEqDiff, List.mem_cons, List.not_mem_nil, x_isTs, or_self, Option.isSome_some, Option.isSome_none, String.reduceEq, dS_inj, dR_inj, dQ_inj, dQ_non, dQ_int, dS_md, dR_md, dQ_md, dS_flat, dR_flat, dQ_flat, dS_items, dR_items, List.getElem?_map, Option.map_some, Option.map_none, shp_i, shp_n, shp_b, shp_li, shp_S, shp_R, shp_lS, shp_Q, shp_l0, eqb_int, eqb_l, eqb_S, eqb_R, eqbs_ints, eqbs_dS, eqbs_nil0, eqbs_nilL, eqbs_nilR, Sl.own.injEq, Sl.val.injEq, List.length_map, dR_lst, dR_tup, dS_lst, dS_tup, flats_S, cut_map, cut_1, dR_fold, dS_fold, inI_t, inI_f, Bool.or_false, List.getLast?_map, exists_false, exists_const, Bool.and_self, Bool.and_true, Bool.true_and, Bool.and_false, Bool.false_and, add_S, List.isEmpty_map, fMax_2, fMax_3, fMin_2, flat_non, flat_i, ↓u_for, ↓u_comp, fS_v, fS_n, fS_o, shp_lli, eqbs_dL, ↓eSortSet, int_inj, fList_S, fList_R, sum_S, sum_li, x_is_between, x_is_sample, x_is_samples, x_distance, x_need_samples, x_need_threshold, x_need_silence, x_is_late, x_reported, x_reportedL, x_all_reports, x_all_reportsN, x_held_by, x_held_byT, x_reports, x_reports0, x_reportsI, x_held, x_held0, x_heldI]
theorem x_largest_errorI {rs : List Row} {t k : Int} {q : D → Prop} : callC c_largest_error [dR rs, .int t, .int k] q = (OkA rs t (some k) ∧ q (.int (errR rs (allRep t (some k) rs)))) := x_largest_error (s := some k)
theorem w_largest_error (ds : List D) (q : D → Prop) (h : c_largest_error ds q) : t_largest_error (endsF true q) (startE 6 ds) := by
  obtain ⟨rs, t, s, rfl, ok, h⟩ := h
  obtain ⟨c, h1, h2, hr⟩ := ok.r.ch
  have hp := ok.r.pos
  have hm := ok.r.most
  have hz : (rs.zip (heldR rs (allRep t s rs))).length = rs.length := by rw [List.length_zip, heldR_length, Nat.min_self]
  simp only [x_start, List.map_cons, List.map_nil, List.length_cons, List.length_nil, List.replicate_succ, List.replicate_zero, List.cons_append, List.nil_append, Nat.reduceSub, Nat.reduceAdd]
  simp only [t_largest_error, ↓sSeq, ↓sRet, ↓sIf, ↓sSet, ↓sOwn, ↓sAsg, ↓sDrop, ↓sNext, ↓sBreak, ↓sNever, ↓sFrz, ↓sApp, ↓sSetIx, ↓sSrc, ↓sPar, ↓sPar3, ↓sAug, ↓sNewSrc, ↓eC, ↓eTest, ↓eAnd, ↓eOr, ↓eNot, ↓eAndV, ↓eOrV, ↓eNotV, ↓eIf, ↓eChain, ↓eNeg, ↓eIx, ↓eIxS, ↓eSl, ↓oNone, ↓oSome, ↓aNil, ↓aCons, ↓eTup, ↓eLst, ↓eTupM, ↓eLstM, ↓eCB, ↓eBin, ↓x_call, ↓x_callK, ↓eSrc, ↓iSeqD, ↓iRg1, ↓iRg2, ↓iRg3, ↓iEnumD, ↓iZipD, ↓gNm, ↓gTp, ↓gsC, ↓gsN, ↓eYes, x_var0, x_var0o, x_varS, fAdd_ii, fAdd_ll, fAdd_tt, fAdd_ss, fMul_ii, fMul_li, fMul_ti, fSub_ii, fDiv_ii, fMod_ii, fPow_ii, fLt_ii, fLe_ii, fGt_ii, fGe_ii, ↓fEq, ↓fNe, ↓fIsN, ↓fNotN, x_lenL, x_lenT, x_lenS, x_lenR, x_lenC, fAbs_i, fInt_i, fInt_b, x_isi, List.set_cons_zero, List.set_cons_succ, List.getElem?_cons_zero, List.getElem?_cons_succ, items_l, items_t, okSt, mdOf, md_i, md_b, md_n, md_s, md_t, md_l, md_y, Md.isCl, Md.isNw, Md.meet, atI_0, atI_m1, atI_1, atI_2, atI_nat, cond_true, cond_false, isNon_i, isNon_n, isT_ii, isT_ib, isT_it, isT_il, isT_bi, isT_bb, isT_tt, isT_ti, isT_lt, isT_ll, isT_nt, isT_ni, isT_nl, tyN_i, tyN_b, tyN_t, tyN_l, tyN_n, dS_isT, dR_isT, dS_tyN, dR_tyN, dQ_isNon, D.flat, D.flats, flats_cons, flats_nil, flats_ints, flat_tup, putOk, slOf_f, slOf_t, Option.some.injEq, D.int.injEq, D.bl.injEq, D.lst.injEq, D.tup.injEq, D.str.injEq, D.scr.injEq, D.ty.injEq, x_consD, x_consD0, x_consD1, and_assoc, reduceCtorEq, exists_eq, exists_eq', exists_eq_left, exists_eq_left', exists_eq_right, exists_eq_right', exists_and_left, exists_and_right, and_true, true_and, and_self, and_false, false_and, or_true, true_or, or_false, false_or, if_true, if_false, ite_true, ite_false, decide_eq_true_eq, decide_eq_false_iff_not, Bool.not_eq_true, Bool.not_eq_true', Bool.not_true, Bool.not_false, Bool.true_eq_false, Bool.false_eq_true, not_true_eq_false, not_false_eq_true, eq_self_iff_true, forall_const, imp_self, List.length_cons, List.length_nil, List.append_nil, List.nil_append, List.cons_append, cpow_6, cpow_18, cpow_5, cpow_7, cpow_15, cpow_12, CMul, Nat.reduceAdd, Nat.reduceLeDiff, Nat.reduceLT, Int.reducePow, Int.reduceNeg, Int.reduceLT, Int.reduceLE, Int.reduceToNat, Int.reduceMul, Int.reduceAdd, Int.reduceSub, frzE, frz1, wipeE, all_nil, all_cons, endsF, x_start, List.map_cons, List.map_nil, List.replicate_succ, List.replicate_zero, Nat.reduceSub, Int.reduceEq, Nat.reduceEqDiff, List.mem_cons, List.not_mem_nil, x_isTs, or_self, Option.isSome_some, Option.isSome_none, String.reduceEq, dS_inj, dR_inj, dQ_inj, dQ_non, dQ_int, dS_md, dR_md, dQ_md, dS_flat, dR_flat, dQ_flat, dS_items, dR_items, List.getElem?_map, Option.map_some, Option.map_none, shp_i, shp_n, shp_b, shp_li, shp_S, shp_R, shp_lS, shp_Q, shp_l0, eqb_int, eqb_l, eqb_S, eqb_R, eqbs_ints, eqbs_dS, eqbs_nil0, eqbs_nilL, eqbs_nilR, Sl.own.injEq, Sl.val.injEq, List.length_map, dR_lst, dR_tup, dS_lst, dS_tup, flats_S, cut_map, cut_1, dR_fold, dS_fold, inI_t, inI_f, Bool.or_false, List.getLast?_map, exists_false, exists_const, Bool.and_self, Bool.and_true, Bool.true_and, Bool.and_false, Bool.false_and, add_S, List.isEmpty_map, fMax_2, fMax_3, fMin_2, flat_non, flat_i, ↓u_for, ↓u_comp, fS_v, fS_n, fS_o, shp_lli, eqbs_dL, ↓eSortSet, int_inj, fList_S, fList_R, sum_S, sum_li, x_is_between, x_is_sample, x_is_samples, x_distance, x_need_samples, x_need_threshold, x_need_silence, x_is_late, x_reported, x_reportedL, x_all_reports, x_all_reportsN, x_held_by, x_held_byT, x_reports, x_reports0, x_reportsI, x_held, x_held0, x_heldI, x_largest_error, x_largest_errorI]
  refine ⟨ok.r, ok.t, ok.q, ok.r, ok.hld, ?_⟩
  refine comp_map (rs.zip (heldR rs (allRep t s rs))) (fun p => .tup [dS p.1, dS p.2]) (fun p => .int (gap p.1 p.2)) (zipD_map ..) (by omega) ?_ ?_
  · intro i x acc hx N hN
    obtain ⟨e1, e2⟩ := get_zip hx
    try simp only [↓sSeq, ↓sRet, ↓sIf, ↓sSet, ↓sOwn, ↓sAsg, ↓sDrop, ↓sNext, ↓sBreak, ↓sNever, ↓sFrz, ↓sApp, ↓sSetIx, ↓sSrc, ↓sPar, ↓sPar3, ↓sAug, ↓sNewSrc, ↓eC, ↓eTest, ↓eAnd, ↓eOr, ↓eNot, ↓eAndV, ↓eOrV, ↓eNotV, ↓eIf, ↓eChain, ↓eNeg, ↓eIx, ↓eIxS, ↓eSl, ↓oNone, ↓oSome, ↓aNil, ↓aCons, ↓eTup, ↓eLst, ↓eTupM, ↓eLstM, ↓eCB, ↓eBin, ↓x_call, ↓x_callK, ↓eSrc, ↓iSeqD, ↓iRg1, ↓iRg2, ↓iRg3, ↓iEnumD, ↓iZipD, ↓gNm, ↓gTp, ↓gsC, ↓gsN, ↓eYes, x_var0, x_var0o, x_varS, fAdd_ii, fAdd_ll, fAdd_tt, fAdd_ss, fMul_ii, fMul_li, fMul_ti, fSub_ii, fDiv_ii, fMod_ii, fPow_ii, fLt_ii, fLe_ii, fGt_ii, fGe_ii, ↓fEq, ↓fNe, ↓fIsN, ↓fNotN, x_lenL, x_lenT, x_lenS, x_lenR, x_lenC, fAbs_i, fInt_i, fInt_b, x_isi, List.set_cons_zero, List.set_cons_succ, List.getElem?_cons_zero, List.getElem?_cons_succ, items_l, items_t, okSt, mdOf, md_i, md_b, md_n, md_s, md_t, md_l, md_y, Md.isCl, Md.isNw, Md.meet, atI_0, atI_m1, atI_1, atI_2, atI_nat, cond_true, cond_false, isNon_i, isNon_n, isT_ii, isT_ib, isT_it, isT_il, isT_bi, isT_bb, isT_tt, isT_ti, isT_lt, isT_ll, isT_nt, isT_ni, isT_nl, tyN_i, tyN_b, tyN_t, tyN_l, tyN_n, dS_isT, dR_isT, dS_tyN, dR_tyN, dQ_isNon, D.flat, D.flats, flats_cons, flats_nil, flats_ints, flat_tup, putOk, slOf_f, slOf_t, Option.some.injEq, D.int.injEq, D.bl.injEq, D.lst.injEq, D.tup.injEq, D.str.injEq, D.scr.injEq, D.ty.injEq, x_consD, x_consD0, x_consD1, and_assoc, reduceCtorEq, exists_eq, exists_eq', exists_eq_left, exists_eq_left', exists_eq_right, exists_eq_right', exists_and_left, exists_and_right, and_true, true_and, and_self, and_false, false_and, or_true, true_or, or_false, false_or, if_true, if_false, ite_true, ite_false, decide_eq_true_eq, decide_eq_false_iff_not, Bool.not_eq_true, Bool.not_eq_true', Bool.not_true, Bool.not_false, Bool.true_eq_false, Bool.false_eq_true, not_true_eq_false, not_false_eq_true, eq_self_iff_true, forall_const, imp_self, List.length_cons, List.length_nil, List.append_nil, List.nil_append, List.cons_append, cpow_6, cpow_18, cpow_5, cpow_7, cpow_15, cpow_12, CMul, Nat.reduceAdd, Nat.reduceLeDiff, Nat.reduceLT, Int.reducePow, Int.reduceNeg, Int.reduceLT, Int.reduceLE, Int.reduceToNat, Int.reduceMul, Int.reduceAdd, Int.reduceSub, frzE, frz1, wipeE, all_nil, all_cons, endsF, x_start, List.map_cons, List.map_nil, List.replicate_succ, List.replicate_zero, Nat.reduceSub, Int.reduceEq, Nat.reduceEqDiff, List.mem_cons, List.not_mem_nil, x_isTs, or_self, Option.isSome_some, Option.isSome_none, String.reduceEq, dS_inj, dR_inj, dQ_inj, dQ_non, dQ_int, dS_md, dR_md, dQ_md, dS_flat, dR_flat, dQ_flat, dS_items, dR_items, List.getElem?_map, Option.map_some, Option.map_none, shp_i, shp_n, shp_b, shp_li, shp_S, shp_R, shp_lS, shp_Q, shp_l0, eqb_int, eqb_l, eqb_S, eqb_R, eqbs_ints, eqbs_dS, eqbs_nil0, eqbs_nilL, eqbs_nilR, Sl.own.injEq, Sl.val.injEq, List.length_map, dR_lst, dR_tup, dS_lst, dS_tup, flats_S, cut_map, cut_1, dR_fold, dS_fold, inI_t, inI_f, Bool.or_false, List.getLast?_map, exists_false, exists_const, Bool.and_self, Bool.and_true, Bool.true_and, Bool.and_false, Bool.false_and, add_S, List.isEmpty_map, fMax_2, fMax_3, fMin_2, flat_non, flat_i, ↓u_for, ↓u_comp, fS_v, fS_n, fS_o, shp_lli, eqbs_dL, ↓eSortSet, int_inj, fList_S, fList_R, sum_S, sum_li, x_is_between, x_is_sample, x_is_samples, x_distance, x_need_samples, x_need_threshold, x_need_silence, x_is_late, x_reported, x_reportedL, x_all_reports, x_all_reportsN, x_held_by, x_held_byT, x_reports, x_reports0, x_reportsI, x_held, x_held0, x_heldI, x_largest_error, x_largest_errorI]
    exact ⟨(hr _ (List.mem_of_getElem? e1)).same h1 h2 (hr _ (heldR_mem allRep_zero (List.mem_of_getElem? e2))), hN⟩
  · refine ⟨errs rs (heldR rs (allRep t s rs)), by unfold errs; rw [List.map_map]; rfl, fun z => ?_, fun m hm => ?_⟩
    · have : (errs rs (heldR rs (allRep t s rs))).length = 0 := by rw [z]; rfl
      unfold errs at this
      rw [List.length_map] at this
      omega
    · rw [top0_eq hm errs_nonneg]
      exact h
end VL
/-! VM1: plain facts about gaps and reports. -/
namespace VL
open PySem L2
/-! ### gaps -/
theorem gaps_nil_l (b : Row) : gaps [] b = [] := rfl
theorem gaps_nil_r (a : Row) : gaps a [] = [] := by cases a <;> rfl
theorem gaps_cons (x y : Int) (a b : Row) : gaps (x :: a) (y :: b) = ((x - y).natAbs : Int) :: gaps a b := rfl
theorem gaps_comm : ∀ a b : Row, gaps a b = gaps b a
  | [], b => by rw [gaps_nil_l, gaps_nil_r]
  | x :: a, [] => rfl
  | x :: a, y :: b => by
    rw [gaps_cons, gaps_cons, gaps_comm a b]
    congr 1
    omega
theorem gap_comm (a b : Row) : gap a b = gap b a := by unfold gap; rw [gaps_comm]
theorem gap_self (a : Row) : gap a a = 0 := by
  have h : ∀ a : Row, ∀ y ∈ gaps a a, y = 0 := fun a => by
    induction a with
    | nil => intro y hy; cases hy
    | cons x a ih =>
      intro y hy
      rw [gaps_cons] at hy
      rcases List.mem_cons.mp hy with rfl | hy
      · omega
      · exact ih y hy
  refine Int.le_antisymm (foldl_max_le (Int.le_refl _) fun y hy => ?_) (gap_nonneg _ _)
  rw [h a y hy]
  exact Int.le_refl _
theorem gap_le_iff {a b : Row} {t : Int} (h : 0 ≤ t) : gap a b ≤ t ↔ ∀ y ∈ gaps a b, y ≤ t :=
  ⟨fun z y hy => Int.le_trans (le_foldl_max.2 y hy) z, fun z => foldl_max_le h z⟩
theorem gaps_tri : ∀ (a b c : Row) (u v : Int), a.length ≤ b.length → (∀ y ∈ gaps a b, y ≤ u) → (∀ y ∈ gaps b c, y ≤ v) → ∀ y ∈ gaps a c, y ≤ u + v
  | [], b, c, u, v, _, _, _, y, hy => by rw [gaps_nil_l] at hy; cases hy
  | x :: a, [], c, u, v, h, _, _, _, _ => by simp at h
  | x :: a, z :: b, [], u, v, _, _, _, y, hy => by cases hy
  | x :: a, z :: b, w :: c, u, v, h, h1, h2, y, hy => by
    rw [gaps_cons] at h1 h2 hy
    rcases List.mem_cons.mp hy with rfl | hy
    · have := h1 _ List.mem_cons_self
      have := h2 _ List.mem_cons_self
      omega
    · exact gaps_tri a b c u v (by simpa using h) (fun y hy => h1 y (List.mem_cons_of_mem _ hy)) (fun y hy => h2 y (List.mem_cons_of_mem _ hy)) y hy
theorem gap_tri {a b c : Row} (h : a.length ≤ b.length) : gap a c ≤ gap a b + gap b c := by
  have h1 := (gap_le_iff (gap_nonneg a b)).mp (Int.le_refl _)
  have h2 := (gap_le_iff (gap_nonneg b c)).mp (Int.le_refl _)
  have := gap_nonneg a b
  have := gap_nonneg b c
  exact (gap_le_iff (by omega)).mpr (gaps_tri a b c _ _ h h1 h2)
theorem top_ex : ∀ {ns : List Int}, ns ≠ [] → ∃ m, Top ns m
  | [], h => absurd rfl h
  | n :: ns, _ => by
    refine ⟨ns.foldl max n, ?_, fun y hy => ?_⟩
    · rcases foldl_max_mem (ns := ns) (a := n) with h | h
      · rw [h]; exact List.mem_cons_self
      · exact List.mem_cons_of_mem _ h
    · rcases List.mem_cons.mp hy with rfl | hy
      · exact le_foldl_max.1
      · exact le_foldl_max.2 y hy
/-! ### reports, step by step -/
theorem late_shift {l i : Int} {s : Option Int} {k : Int} : late (l + k) (i + k) s = late l i s := by
  cases s with
  | none => rfl
  | some q =>
    show decide (q ≤ i + k - (l + k)) = decide (q ≤ i - l)
    rw [show i + k - (l + k) = i - l by omega]
theorem repF_shift {t : Int} {s : Option Int} : ∀ (rs : List Row) (i : Nat) (l : Int) (v : Row), (repF t s rs i l v).map (· + 1) = repF t s rs (i + 1) (l + 1) v
  | [], _, _, _ => rfl
  | r :: rs, i, l, v => by
    rw [repF_cons, repF_cons]
    have e : late (l + 1) ((i + 1 : Nat) : Int) s = late l i s := by rw [show ((i + 1 : Nat) : Int) = i + 1 by omega]; exact late_shift (k := 1)
    rw [e]
    split
    · rw [List.map_cons, repF_shift]; rfl
    · exact repF_shift rs (i + 1) l v
theorem allRep_eq {t : Int} {s : Option Int} {r0 : Row} {rest : List Row} : allRep t s (r0 :: rest) = 0 :: repF t s rest 1 0 r0 := by
  unfold allRep
  rw [List.tail_cons, List.headD_cons, repF_shift]
  rfl
theorem top_val {rs : List Row} {is : List Int} {m : Int} (hp : ∀ x ∈ is, 0 ≤ x) : ∀ i : Nat, Top (is.filter fun x => decide (x ≤ (i : Int))) m → valAt rs is i = rs.getD m.toNat [] := by
  intro i
  induction i with
  | zero =>
    rintro ⟨h1, h2⟩
    obtain ⟨h3, h4⟩ := List.mem_filter.mp h1
    have h5 := hp m h3
    have h6 : m = 0 := by have := of_decide_eq_true h4; omega
    subst h6
    unfold valAt
    rw [if_pos h3]
    rfl
  | succ i ih =>
    rintro ⟨h1, h2⟩
    obtain ⟨h3, h4⟩ := List.mem_filter.mp h1
    have h4 := of_decide_eq_true h4
    have h5 := hp m h3
    unfold valAt
    split
    · rename_i hc
      have h6 := h2 _ (List.mem_filter.mpr ⟨hc, decide_eq_true (Int.le_refl _)⟩)
      have e : m.toNat = i + 1 := by omega
      rw [e]
    · rename_i hc
      have hne : m ≠ ((i + 1 : Nat) : Int) := fun z => hc (by rw [← z]; exact h3)
      exact ih ⟨List.mem_filter.mpr ⟨h3, decide_eq_true (by omega)⟩, fun y hy => by
        obtain ⟨h7, h8⟩ := List.mem_filter.mp hy
        have h8 := of_decide_eq_true h8
        exact h2 y (List.mem_filter.mpr ⟨h7, decide_eq_true (by omega)⟩)⟩
theorem repF_pos {t : Int} {s : Option Int} : ∀ (rs : List Row) (i : Nat) (l : Int) (v : Row), ∀ x ∈ repF t s rs i l v, 0 ≤ x
  | [], _, _, _, _, h => nomatch h
  | r :: rs, i, l, v, x, h => by
    rw [repF_cons] at h
    split at h
    · rcases List.mem_cons.mp h with h | h
      · omega
      · exact repF_pos rs _ _ _ x h
    · exact repF_pos rs _ _ _ x h
structure Due (rs : List Row) (is : List Int) : Prop where
  most : rs.length ≤ 1000
  mosti : is.length ≤ 1000
  zero : (0 : Int) ∈ is
  pos : ∀ x ∈ is, 0 ≤ x
theorem OkA.due {rs : List Row} {t : Int} {s : Option Int} (h : OkA rs t s) : Due rs (allRep t s rs) := by
  have := h.r.most
  refine ⟨by omega, ?_, allRep_zero, fun x hx => ?_⟩
  · have := repF_length (t := t) (s := s) rs.tail 0 (-1) (rs.headD [])
    unfold allRep
    rw [List.length_tail] at this
    rw [List.length_cons, List.length_map]
    omega
  · unfold allRep at hx
    rcases List.mem_cons.mp hx with rfl | hx
    · exact Int.le_refl _
    · obtain ⟨y, hy, rfl⟩ := List.mem_map.mp hx
      have := repF_pos _ _ _ _ y hy
      omega
/-- a report is due at j, where l was the last one and v is held -/
def Due1 (t : Int) (s : Option Int) (R : Nat → Row) (l : Int) (v : Row) (j : Nat) : Prop := t < gap (R j) v ∨ late l j s = true
inductive Segs (t : Int) (s : Option Int) (R : Nat → Row) (n : Nat) : Nat → Int → Row → List Int → Prop
  | nil {i : Nat} {l : Int} {v : Row} (h : ∀ j, i ≤ j → j < n → ¬ Due1 t s R l v j) : Segs t s R n i l v []
  | cons {i : Nat} {l : Int} {v : Row} {f : List Int} (o : Nat) (h1 : i ≤ o) (h2 : o < n) (h3 : ∀ j, i ≤ j → j < o → ¬ Due1 t s R l v j) (h4 : Due1 t s R l v o) (h5 : Segs t s R n (o + 1) o (R o) f) : Segs t s R n i l v ((o : Int) :: f)
section
variable {t : Int} {s : Option Int} {R : Nat → Row} {n : Nat}
theorem Segs.back {i : Nat} {l : Int} {v : Row} {f : List Int} (h : Segs t s R n (i + 1) l v f) (hi : ¬ Due1 t s R l v i) : Segs t s R n i l v f := by
  cases h with
  | nil h =>
    refine .nil fun j h1 h2 => ?_
    by_cases e : j = i
    · subst e; exact hi
    · exact h j (by omega) h2
  | cons o h1 h2 h3 h4 h5 =>
    refine .cons o (by omega) h2 (fun j g1 g2 => ?_) h4 h5
    by_cases e : j = i
    · subst e; exact hi
    · exact h3 j (by omega) g2
theorem repF_segs : ∀ (rs : List Row) (i : Nat) (l : Int) (v : Row), (∀ j r, rs[j]? = some r → R (i + j) = r) → Segs t s R (i + rs.length) i l v (repF t s rs i l v)
  | [], i, l, v, _ => .nil fun j h1 h2 => by rw [List.length_nil] at h2; omega
  | r :: rs, i, l, v, h => by
    have e0 : R i = r := h 0 r rfl
    have hrec : ∀ l v, Segs t s R (i + (r :: rs).length) (i + 1) l v (repF t s rs (i + 1) l v) := fun l v => by
      have := repF_segs rs (i + 1) l v fun j r hj => by rw [show i + 1 + j = i + (j + 1) by omega]; exact h (j + 1) r hj
      rw [show i + 1 + rs.length = i + (r :: rs).length by rw [List.length_cons]; omega] at this
      exact this
    rw [repF_cons]
    split
    · rename_i hc
      have := Segs.cons (t := t) (s := s) (R := R) (n := i + (r :: rs).length) (i := i) (l := l) (v := v) i (Nat.le_refl _) (by rw [List.length_cons]; omega) (fun j g1 g2 => by omega) (by unfold Due1; rw [e0]; exact hc) (by rw [e0]; exact hrec i r)
      exact this
    · rename_i hc
      exact (hrec l v).back (by unfold Due1; rw [e0]; exact hc)
theorem allRep_segs {rs : List Row} (h : 0 < rs.length) : ∃ f, allRep t s rs = 0 :: f ∧ Segs t s (fun j => rs.getD j []) rs.length 1 0 (rs.getD 0 []) f := by
  cases rs with
  | nil => simp at h
  | cons r0 rest =>
    refine ⟨_, allRep_eq, ?_⟩
    have := repF_segs (t := t) (s := s) (R := fun j => (r0 :: rest).getD j []) rest 1 0 r0 fun j r hj => by
      show (r0 :: rest).getD (1 + j) [] = r
      rw [List.getD_eq_getElem?_getD, Nat.add_comm, List.getElem?_cons_succ, hj]
      rfl
    rw [show 1 + rest.length = (r0 :: rest).length by rw [List.length_cons]; omega] at this
    exact this
theorem Segs.lb {i : Nat} {l : Int} {v : Row} {f : List Int} (h : Segs t s R n i l v f) : ∀ x ∈ f, (i : Int) ≤ x ∧ x < n := by
  induction h with
  | nil h => intro x hx; cases hx
  | cons o h1 h2 h3 h4 h5 ih =>
    intro x hx
    rcases List.mem_cons.mp hx with rfl | hx
    · omega
    · have := ih x hx; omega
/-- what is held at i is near -/
theorem Segs.near {l : Nat} {f : List Int} (h : Segs t s R n (l + 1) l (R l) f) (ht : 0 ≤ t) : ∀ i m, l ≤ i → i < n → Top (((l : Int) :: f).filter fun x => decide (x ≤ (i : Int))) m → gap (R i) (R m.toNat) ≤ t := by
  have gen : ∀ {a : Nat} {l : Int} {v : Row} {f : List Int}, Segs t s R n a l v f → ∀ l0 : Nat, a = l0 + 1 → l = l0 → v = R l0 → ∀ i m, l0 ≤ i → i < n → Top (((l0 : Int) :: f).filter fun x => decide (x ≤ (i : Int))) m → gap (R i) (R m.toNat) ≤ t := by
    intro a l v f h
    have base : ∀ (l0 i : Nat) (m : Int), l0 ≤ i → m = l0 → (l0 < i → ¬ Due1 t s R l0 (R l0) i) → gap (R i) (R m.toNat) ≤ t := fun l0 i m h0 e hd => by
      subst e
      by_cases h1 : l0 = i
      · subst h1; rw [Int.toNat_natCast, gap_self]; exact ht
      · have := hd (by omega)
        unfold Due1 at this
        rw [Int.toNat_natCast]
        exact Int.not_lt.mp fun z => this (.inl z)
    induction h with
    | nil h =>
      rintro l0 rfl rfl rfl i m h0 h1 ⟨h2, _⟩
      obtain ⟨h3, _⟩ := List.mem_filter.mp h2
      exact base l0 i m h0 (List.mem_singleton.mp h3) fun z => h i (by omega) h1
    | cons o g1 g2 g3 g4 g5 ih =>
      rintro l0 rfl rfl rfl i m h0 h1 ⟨h2, h5⟩
      obtain ⟨h3, h4⟩ := List.mem_filter.mp h2
      have h4 := of_decide_eq_true h4
      by_cases ho : o ≤ i
      · have h6 := h5 o (List.mem_filter.mpr ⟨List.mem_cons_of_mem _ List.mem_cons_self, decide_eq_true (by omega)⟩)
        refine ih o rfl rfl rfl i m ho h1 ⟨List.mem_filter.mpr ⟨?_, decide_eq_true h4⟩, fun y hy => ?_⟩
        · rcases List.mem_cons.mp h3 with rfl | h3
          · omega
          · exact h3
        · obtain ⟨h7, h8⟩ := List.mem_filter.mp hy
          exact h5 y (List.mem_filter.mpr ⟨List.mem_cons_of_mem _ h7, h8⟩)
      · have hm : m = l0 := by
          rcases List.mem_cons.mp h3 with h3 | h3
          · exact h3
          · exfalso
            rcases List.mem_cons.mp h3 with h3 | h3
            · omega
            · have := (g5.lb m h3).1
              omega
        exact base l0 i m h0 hm fun z => g3 i (by omega) (by omega)
  intro i m h0 h1 h2
  exact gen h l rfl rfl rfl i m h0 h1 h2
/-- two reports, one behind the other -/
theorem Segs.pairs {l : Nat} {f : List Int} (h : Segs t s R n (l + 1) l (R l) f) : ∀ p ∈ ((l : Int) :: f).zip f, ∃ a b : Nat, p = ((a : Int), (b : Int)) ∧ a < b ∧ b < n ∧ Due1 t s R a (R a) b ∧ ∀ j, a < j → j < b → ¬ Due1 t s R a (R a) j := by
  have gen : ∀ {a : Nat} {l : Int} {v : Row} {f : List Int}, Segs t s R n a l v f → ∀ l0 : Nat, a = l0 + 1 → l = l0 → v = R l0 → ∀ p ∈ ((l0 : Int) :: f).zip f, ∃ a b : Nat, p = ((a : Int), (b : Int)) ∧ a < b ∧ b < n ∧ Due1 t s R a (R a) b ∧ ∀ j, a < j → j < b → ¬ Due1 t s R a (R a) j := by
    intro a l v f h
    induction h with
    | nil h => rintro l0 rfl rfl rfl p hp; simp at hp
    | cons o g1 g2 g3 g4 g5 ih =>
      rintro l0 rfl rfl rfl p hp
      rw [List.zip_cons_cons] at hp
      rcases List.mem_cons.mp hp with rfl | hp
      · exact ⟨l0, o, rfl, by omega, g2, g4, fun j z1 z2 => g3 j (by omega) z2⟩
      · exact ih o rfl rfl rfl p hp
  exact gen h l rfl rfl rfl
theorem Segs.pairsN {l : Nat} {f : List Int} (h : Segs t s R n (l + 1) l (R l) f) (hl : l < n) : ∀ p ∈ ((l : Int) :: f).zip (f ++ [(n : Int)]), ∃ a b : Nat, p = ((a : Int), (b : Int)) ∧ a < b ∧ b ≤ n ∧ ∀ j, a < j → j < b → ¬ Due1 t s R a (R a) j := by
  have gen : ∀ {a : Nat} {l : Int} {v : Row} {f : List Int}, Segs t s R n a l v f → ∀ l0 : Nat, a = l0 + 1 → l = l0 → v = R l0 → l0 < n → ∀ p ∈ ((l0 : Int) :: f).zip (f ++ [(n : Int)]), ∃ a b : Nat, p = ((a : Int), (b : Int)) ∧ a < b ∧ b ≤ n ∧ ∀ j, a < j → j < b → ¬ Due1 t s R a (R a) j := by
    intro a l v f h
    induction h with
    | nil h =>
      rintro l0 rfl rfl rfl hl p hp
      have hp : p ∈ [((l0 : Int), (n : Int))] := hp
      exact ⟨l0, n, List.mem_singleton.mp hp, hl, Nat.le_refl _, fun j z1 z2 => h j (by omega) z2⟩
    | cons o g1 g2 g3 g4 g5 ih =>
      rintro l0 rfl rfl rfl hl p hp
      rw [List.cons_append, List.zip_cons_cons] at hp
      rcases List.mem_cons.mp hp with rfl | hp
      · exact ⟨l0, o, rfl, by omega, by omega, fun j z1 z2 => g3 j (by omega) z2⟩
      · exact ih o rfl rfl rfl g2 p hp
  exact gen h l rfl rfl rfl hl
/-- what is held is near -/
theorem val_near {rs : List Row} (h0 : 0 < rs.length) (ht : 0 ≤ t) {i : Nat} (hi : i < rs.length) : gap (rs.getD i []) (valAt rs (allRep t s rs) i) ≤ t := by
  obtain ⟨f, e, hs⟩ := allRep_segs (t := t) (s := s) h0
  have hne : ((allRep t s rs).filter fun x => decide (x ≤ (i : Int))) ≠ [] := fun z => by
    have : (0 : Int) ∈ (allRep t s rs).filter fun x => decide (x ≤ (i : Int)) := List.mem_filter.mpr ⟨allRep_zero, decide_eq_true (by omega)⟩
    rw [z] at this
    cases this
  obtain ⟨m, hm⟩ := top_ex hne
  have hpos : ∀ x ∈ allRep t s rs, 0 ≤ x := fun x hx => by
    rw [e] at hx
    rcases List.mem_cons.mp hx with rfl | hx
    · exact Int.le_refl _
    · have := (hs.lb x hx).1; omega
  rw [top_val hpos i hm]
  rw [e] at hm
  exact Segs.near (l := 0) hs ht i m (Nat.zero_le _) hi hm
theorem allRep_lt {rs : List Row} (h0 : 0 < rs.length) : ∀ x ∈ allRep t s rs, 0 ≤ x ∧ x < rs.length := fun x hx => by
  obtain ⟨f, e, hs⟩ := allRep_segs (t := t) (s := s) h0
  rw [e] at hx
  rcases List.mem_cons.mp hx with rfl | hx
  · omega
  · have := hs.lb x hx; omega
theorem heldR_get {rs : List Row} {is : List Int} {i : Nat} {v : Row} (h : (heldR rs is)[i]? = some v) : i < rs.length ∧ v = valAt rs is i := by
  rw [heldR_map, List.getElem?_map] at h
  obtain ⟨j, hj, rfl⟩ := Option.map_eq_some_iff.mp h
  obtain ⟨rfl, hi⟩ := get_range hj
  exact ⟨hi, rfl⟩
theorem err_le {rs : List Row} (h0 : 0 < rs.length) (ht : 0 ≤ t) : errR rs (allRep t s rs) ≤ t := by
  refine foldl_max_le ht fun y hy => ?_
  obtain ⟨p, hp, rfl⟩ := List.mem_map.mp hy
  obtain ⟨i, hi, e⟩ := List.getElem_of_mem hp
  have e' : (rs.zip (heldR rs (allRep t s rs)))[i]? = some p := by rw [List.getElem?_eq_getElem hi, e]
  obtain ⟨e1, e2⟩ := get_zip e'
  obtain ⟨h1, h2⟩ := heldR_get e2
  have := val_near (t := t) (s := s) h0 ht h1
  rw [List.getD_eq_getElem?_getD, e1, Option.getD_some] at this
  rw [h2]
  exact this
/-- no longer than the silence -/
theorem quiet_len {a b : Nat} {k : Int} (hk : 1 ≤ k) (h : ∀ j, a < j → j < b → ¬ Due1 t (some k) R a (R a) j) : (b : Int) - a ≤ k := by
  by_cases z : (b : Int) - a ≤ k
  · exact z
  · exfalso
    refine h (a + k.toNat) (by omega) (by omega) (.inr (decide_eq_true ?_))
    omega
end
end VL
/-! VM2: greedy walks. -/
namespace VL
open PySem L2
/-- at i, i + 1, .. (m places): a new beginning where C says so -/
def greedy (C : Nat → Nat → Bool) : Nat → Nat → Nat → List Nat
  | 0, _, _ => []
  | m + 1, i, l => if C l i = true then i :: greedy C m (i + 1) i else greedy C m (i + 1) l
theorem greedy_0 {C : Nat → Nat → Bool} {i l : Nat} : greedy C 0 i l = [] := rfl
theorem greedy_s {C : Nat → Nat → Bool} {m i l : Nat} : greedy C (m + 1) i l = if C l i = true then i :: greedy C m (i + 1) i else greedy C m (i + 1) l := rfl
def cR (t : Int) (s : Option Int) (R : Nat → Row) (l i : Nat) : Bool := decide (t < gap (R i) (R l) ∨ late l i s = true)
theorem repF_greedy {t : Int} {s : Option Int} {R : Nat → Row} : ∀ (rs : List Row) (i l : Nat), (∀ j r, rs[j]? = some r → R (i + j) = r) → repF t s rs i l (R l) = (greedy (cR t s R) rs.length i l).map Int.ofNat
  | [], i, l, _ => rfl
  | r :: rs, i, l, h => by
    have e0 : R i = r := h 0 r rfl
    have hr : ∀ j r, rs[j]? = some r → R (i + 1 + j) = r := fun j r hj => by rw [show i + 1 + j = i + (j + 1) by omega]; exact h (j + 1) r hj
    rw [repF_cons, List.length_cons, greedy_s]
    unfold cR
    rw [e0]
    by_cases hc : t < gap r (R l) ∨ late l i s = true
    · rw [if_pos hc, if_pos (decide_eq_true hc), ← e0, repF_greedy rs (i + 1) i hr]
      rfl
    · rw [if_neg hc, if_neg (fun z => hc (of_decide_eq_true z)), repF_greedy rs (i + 1) l hr]
      rfl
def rowAt (rs : List Row) (j : Nat) : Row := rs.getD j []
theorem allRep_greedy {t : Int} {s : Option Int} {rs : List Row} (h : 0 < rs.length) : allRep t s rs = (0 :: greedy (cR t s (rowAt rs)) (rs.length - 1) 1 0).map Int.ofNat := by
  cases rs with
  | nil => simp at h
  | cons r0 rest =>
    rw [allRep_eq, List.map_cons]
    have := repF_greedy (t := t) (s := s) (R := rowAt (r0 :: rest)) rest 1 0 fun j r hj => by
      unfold rowAt
      rw [List.getD_eq_getElem?_getD, Nat.add_comm, List.getElem?_cons_succ, hj]
      rfl
    rw [show rowAt (r0 :: rest) 0 = r0 from rfl] at this
    exact congrArg _ this
theorem allRep_count {t : Int} {s : Option Int} {rs : List Row} (h : 0 < rs.length) : (allRep t s rs).length = 1 + (greedy (cR t s (rowAt rs)) (rs.length - 1) 1 0).length := by
  rw [allRep_greedy h, List.length_map, List.length_cons]
  omega
/-- from a held value: as if it stood ahead of the rows -/
theorem repFrom_all {t : Int} {s : Option Int} {rs : List Row} {v : Row} : allRep t s (v :: rs) = 0 :: (repF t s rs 0 (-1) v).map (· + 1) := rfl
theorem repFrom_count {t : Int} {s : Option Int} {rs : List Row} {v : Row} : (repF t s rs 0 (-1) v).length = (greedy (cR t s (rowAt (v :: rs))) rs.length 1 0).length := by
  have h := allRep_count (t := t) (s := s) (rs := v :: rs) (by simp)
  rw [repFrom_all, List.length_cons, List.length_map] at h
  simp only [List.length_cons, Nat.add_sub_cancel] at h
  omega
theorem greedy_le {C : Nat → Nat → Bool} : ∀ (m i l : Nat), (greedy C m i l).length ≤ m
  | 0, _, _ => Nat.le_refl _
  | m + 1, i, l => by
    have h1 := greedy_le (C := C) m (i + 1) i
    have h2 := greedy_le (C := C) m (i + 1) l
    rw [greedy_s]
    split
    · rw [List.length_cons]; omega
    · omega
theorem greedy_congr {C C' : Nat → Nat → Bool} : ∀ (m i l : Nat), l < i → (∀ a b, a < b → b < i + m → C a b = C' a b) → greedy C m i l = greedy C' m i l
  | 0, _, _, _, _ => rfl
  | m + 1, i, l, hl, h => by
    rw [greedy_s, greedy_s, h l i hl (by omega), greedy_congr m (i + 1) i (by omega) fun a b x y => h a b x (by omega), greedy_congr m (i + 1) l (by omega) fun a b x y => h a b x (by omega)]
theorem greedy_shift {C C' : Nat → Nat → Bool} {k : Nat} (h : ∀ a b, C' (a + k) (b + k) = C a b) : ∀ (m i l : Nat), greedy C' m (i + k) (l + k) = (greedy C m i l).map (· + k)
  | 0, _, _ => rfl
  | m + 1, i, l => by
    rw [greedy_s, greedy_s, h]
    split
    · rw [List.map_cons, ← greedy_shift h m (i + 1) i, show i + 1 + k = i + k + 1 by omega]
    · rw [← greedy_shift h m (i + 1) l, show i + 1 + k = i + k + 1 by omega]
theorem greedy_pairsN {C : Nat → Nat → Bool} : ∀ (m i l : Nat), l < i → (∀ j, l < j → j < i → C l j = false) → ∀ p ∈ (l :: greedy C m i l).zip (greedy C m i l ++ [i + m]), p.1 < p.2 ∧ p.2 ≤ i + m ∧ ∀ j, p.1 < j → j < p.2 → C p.1 j = false
  | 0, i, l, h1, h2, p, hp => by
    have hp : p ∈ [(l, i)] := hp
    rw [List.mem_singleton.mp hp]
    exact ⟨h1, Nat.le_refl _, h2⟩
  | m + 1, i, l, h1, h2, p, hp => by
    rw [greedy_s] at hp
    by_cases c : C l i = true
    · rw [if_pos c, List.cons_append, List.zip_cons_cons] at hp
      rcases List.mem_cons.mp hp with rfl | hp
      · exact ⟨h1, by show i ≤ i + (m + 1); omega, h2⟩
      · rw [show i + (m + 1) = i + 1 + m by omega] at hp
        have := greedy_pairsN m (i + 1) i (by omega) (fun j _ _ => by omega) p hp
        rw [show i + (m + 1) = i + 1 + m by omega]
        exact this
    · rw [if_neg c, show i + (m + 1) = i + 1 + m by omega] at hp
      rw [show i + (m + 1) = i + 1 + m by omega]
      refine greedy_pairsN m (i + 1) l (by omega) (fun j x y => ?_) p hp
      by_cases e : j = i
      · rw [e]; exact (Bool.not_eq_true _).mp c
      · exact h2 j x (by omega)
theorem greedy_range {C : Nat → Nat → Bool} : ∀ (m i l : Nat), ∀ x ∈ greedy C m i l, i ≤ x ∧ x < i + m
  | 0, _, _, _, h => nomatch h
  | m + 1, i, l, x, h => by
    rw [greedy_s] at h
    split at h
    · rcases List.mem_cons.mp h with rfl | h
      · omega
      · have := greedy_range m (i + 1) i x h; omega
    · have := greedy_range m (i + 1) l x h; omega
theorem greedy_sorted {C : Nat → Nat → Bool} : ∀ (m i l : Nat), (greedy C m i l).Pairwise (· < ·)
  | 0, _, _ => List.Pairwise.nil
  | m + 1, i, l => by
    rw [greedy_s]
    split
    · refine List.Pairwise.cons (fun x hx => ?_) (greedy_sorted m (i + 1) i)
      have := greedy_range m (i + 1) i x hx
      omega
    · exact greedy_sorted m (i + 1) l
/-- a coarse walk makes no more than one beginning in each part of a fine walk -/
theorem greedy_cmp1 {C C' : Nat → Nat → Bool} {n b0 : Nat} (H : ∀ l l' i, i < n → b0 ≤ l' → l ≤ l' → l' < i → (∀ j, l < j → j ≤ i → C l j = false) → C' l' i = false) : ∀ (m i l l' : Nat), i + m ≤ n → b0 ≤ i → l < i → l' < i → (∀ j, l < j → j < i → C l j = false) →
    (greedy C' m i l').length ≤ (greedy C m i l).length + 1 ∧ (b0 ≤ l' → l ≤ l' → (greedy C' m i l').length ≤ (greedy C m i l).length)
  | 0, i, l, l', _, _, _, _, _ => by rw [greedy_0, greedy_0]; exact ⟨by simp, fun _ _ => Nat.le_refl _⟩
  | m + 1, i, l, l', hn, hb, h1, h2, h3 => by
    rw [greedy_s, greedy_s]
    by_cases c : C l i = true
    · rw [if_pos c, List.length_cons]
      have a := (greedy_cmp1 H m (i + 1) i i (by omega) (by omega) (by omega) (by omega) fun j _ _ => by omega).2 hb (Nat.le_refl _)
      have b := (greedy_cmp1 H m (i + 1) i l' (by omega) (by omega) (by omega) (by omega) fun j _ _ => by omega).1
      split
      · rw [List.length_cons]; exact ⟨by omega, fun _ _ => by omega⟩
      · exact ⟨by omega, fun _ _ => by omega⟩
    · rw [if_neg c]
      have c := (Bool.not_eq_true _).mp c
      have h4 : ∀ j, l < j → j < i + 1 → C l j = false := fun j x y => by
        by_cases e : j = i
        · rw [e]; exact c
        · exact h3 j x (by omega)
      have a := (greedy_cmp1 H m (i + 1) l i (by omega) (by omega) (by omega) (by omega) h4).2 hb (by omega)
      have b := greedy_cmp1 H m (i + 1) l l' (by omega) (by omega) (by omega) (by omega) h4
      split
      · rename_i c'
        rw [List.length_cons]
        refine ⟨by omega, fun w z => ?_⟩
        rw [H l l' i (by omega) w z h2 fun j x y => h4 j x (by omega)] at c'
        cases c'
      · exact ⟨by omega, b.2⟩
theorem greedy_cmp {C C' : Nat → Nat → Bool} {n : Nat} (H : ∀ l l' i, i < n → l ≤ l' → l' < i → (∀ j, l < j → j ≤ i → C l j = false) → C' l' i = false) (m i l l' : Nat) (h1 : i + m ≤ n) (h2 : l < i) (h3 : l' < i) (h4 : ∀ j, l < j → j < i → C l j = false) :
    (greedy C' m i l').length ≤ (greedy C m i l).length + 1 ∧ (l ≤ l' → (greedy C' m i l').length ≤ (greedy C m i l).length) :=
  ⟨(greedy_cmp1 (b0 := 0) (fun l l' i a _ => H l l' i a) m i l l' h1 (Nat.zero_le _) h2 h3 h4).1, (greedy_cmp1 (b0 := 0) (fun l l' i a _ => H l l' i a) m i l l' h1 (Nat.zero_le _) h2 h3 h4).2 (Nat.zero_le _)⟩
/-- the coarse threshold is at least twice the fine one -/
theorem cR_twice {t t' : Int} {s : Option Int} {R : Nat → Row} {n c : Nat} (hs : OkQ s) (ht : 2 * t ≤ t') (h0 : 0 ≤ t) (hR : ∀ j, j < n → (R j).length = c) (l l' i : Nat) (hi : i < n) (h1 : l ≤ l') (h2 : l' < i) (h : ∀ j, l < j → j ≤ i → cR t s R l j = false) : cR t' s R l' i = false := by
  have near : ∀ j, l ≤ j → j ≤ i → gap (R j) (R l) ≤ t := fun j x y => by
    by_cases e : l = j
    · subst e; rw [gap_self]; exact h0
    · have := of_decide_eq_false (h j (by omega) y)
      exact Int.not_lt.mp fun z => this (.inl z)
  refine decide_eq_false fun z => ?_
  rcases z with z | z
  · have a := near i (by omega) (Nat.le_refl _)
    have b := near l' h1 (by omega)
    have tri := gap_tri (a := R i) (b := R l) (c := R l') (by rw [hR i hi, hR l (by omega)]; exact Nat.le_refl _)
    rw [gap_comm] at b
    omega
  · have := of_decide_eq_false (h i (by omega) (Nat.le_refl _))
    refine this (.inr ?_)
    cases s with
    | none => cases z
    | some k =>
      have := of_decide_eq_true z
      exact decide_eq_true (by omega)
theorem rowAt_len {rs : List Row} {c : Nat} (h : ∀ r ∈ rs, OkS c r) (j : Nat) (hj : j < rs.length) : (rowAt rs j).length = c := (h _ (getD_mem hj)).len
end VL
/-! VC4: a held value ahead of the samples. -/
namespace VL
open PySem L2
theorem OkS.one {c : Nat} {v : Row} (h1 : 1 ≤ c) (h2 : c ≤ 3) (h : OkS c v) : OkS1 v := ⟨c, h1, h2, h⟩
/-- a value with as many channels -/
def OkV (rs : List Row) (v : Row) : Prop := ∃ c, 1 ≤ c ∧ c ≤ 3 ∧ (∀ r ∈ rs, OkS c r) ∧ OkS c v
def t_reports_from : S1 := (sSeq (sDrop (eCall true [] c_need_samples (aCons (eVar 0) aNil))) (sSeq (sDrop (eCall true [] c_need_threshold (aCons (eVar 1) aNil))) (sSeq (sIf (eOr (eNot (eTest (eCall true [] c_is_sample (aCons (eVar 2) aNil)))) (eTest (eBin fNe (eCB fLen (aCons (eVar 2) aNil)) (eCB fLen (aCons (eIx (eVar 0) (eC (.int 0))) aNil))))) sNever sNext) (sSeq (sDrop (eCall true [] c_need_silence (aCons (eVar 3) aNil))) (sRet (eCall true [] c_reported (aCons (eVar 0) (aCons (eVar 1) (aCons (eVar 3) (aCons (eNeg (eC (.int 1))) (aCons (eVar 2) aNil)))))))))))
def c_reports_from : C1 := fun ds q => ∃ (rs : List Row) (t : Int) (v : Row) (s : Option Int), ds = [dR rs, .int t, dS v, dQ s] ∧ (OkA rs t s ∧ OkV rs v) ∧ q (.lst ((repF t s rs 0 (-1) v).map .int))
theorem m_reports_from : MonoC c_reports_from := fun ds q q' k ⟨rs, t, v, s, e, h1, h⟩ => ⟨rs, t, v, s, e, h1, k _ h⟩
theorem x_reports_from {rs : List Row} {t : Int} {v : Row} {s : Option Int} {q : D → Prop} : callC c_reports_from [dR rs, .int t, dS v, dQ s] q = (OkA rs t s ∧ OkV rs v ∧ q (.lst ((repF t s rs 0 (-1) v).map .int))) := by
  simp only [callC, c_reports_from, ↓sSeq, ↓sRet, ↓sIf, ↓sSet, ↓sOwn, ↓sAsg, ↓sDrop, ↓sNext, ↓sBreak, ↓sNever, ↓sFrz, ↓sApp, ↓sSetIx, ↓sSrc, ↓sPar, ↓sPar3, ↓sAug, ↓sNewSrc, ↓eC, ↓eTest, ↓eAnd, ↓eOr, ↓eNot, ↓eAndV, ↓eOrV, ↓eNotV, ↓eIf, ↓eChain, ↓eNeg, ↓eIx, ↓eIxS, ↓eSl, ↓oNone, ↓oSome, ↓aNil, ↓aCons, ↓eTup, ↓eLst, ↓eTupM, ↓eLstM, ↓eCB, ↓eBin, ↓x_call, ↓x_callK, ↓eSrc, ↓iSeqD, ↓iRg1, ↓iRg2, ↓iRg3, ↓iEnumD, ↓iZipD, ↓gNm, ↓gTp, ↓gsC, ↓gsN, ↓eYes, x_var0, x_var0o, x_varS, fAdd_ii, fAdd_ll, fAdd_tt, fAdd_ss, fMul_ii, fMul_li, fMul_ti, fSub_ii, fDiv_ii, fMod_ii, fPow_ii, fLt_ii, fLe_ii, fGt_ii, fGe_ii, ↓fEq, ↓fNe, ↓fIsN, ↓fNotN, x_lenL, x_lenT, x_lenS, x_lenR, x_lenC, fAbs_i, fInt_i, fInt_b, x_isi, List.set_cons_zero, List.set_cons_succ, List.getElem?_cons_zero, List.getElem?_cons_succ, items_l, items_t, okSt, mdOf, md_i, md_b, md_n, md_s, md_t, md_l, md_y, Md.isCl, Md.isNw, Md.meet, atI_0, atI_m1, atI_1, atI_2, atI_nat, cond_true, cond_false, isNon_i, isNon_n, isT_ii, isT_ib, isT_it, isT_il, isT_bi, isT_bb, isT_tt, isT_ti, isT_lt, isT_ll, isT_nt, isT_ni, isT_nl, tyN_i, tyN_b, tyN_t, tyN_l, tyN_n, dS_isT, dR_isT, dS_tyN, dR_tyN, dQ_isNon, D.flat, D.flats, flats_cons, flats_nil, flats_ints, flat_tup, putOk, slOf_f, slOf_t, Option.some.injEq, D.int.injEq, D.bl.injEq, D.lst.injEq, D.tup.injEq, D.str.injEq, D.scr.injEq, D.ty.injEq, x_consD, x_consD0, x_consD1, and_assoc, reduceCtorEq, exists_eq, exists_eq', exists_eq_left, exists_eq_left', exists_eq_right, exists_eq_right', exists_and_left, exists_and_right, and_true, true_and, and_self, and_false, false_and, or_true, true_or, or_false, false_or, if_true, if_false, ite_true, ite_false, decide_eq_true_eq, decide_eq_false_iff_not, Bool.not_eq_true, Bool.not_eq_true', Bool.not_true, Bool.not_false, Bool.true_eq_false, Bool.false_eq_true, not_true_eq_false, not_false_eq_true, eq_self_iff_true, forall_const, imp_self, List.length_cons, List.length_nil, List.append_nil, List.nil_append, List.cons_append, cpow_6, cpow_18, cpow_5, cpow_7, cpow_15, cpow_12, CMul, Nat.reduceAdd, Nat.reduceLeDiff, Nat.reduceLT, Int.reducePow, Int.reduceNeg, Int.reduceLT, Int.reduceLE, Int.reduceToNat, Int.reduceMul, Int.reduceAdd, Int.reduceSub, frzE, frz1, wipeE, all_nil, all_cons, endsF, x_start, List.map_cons, List.map_nil, List.replicate_succ, List.replicate_zero, Nat.reduceSub, Int.reduceEq, Nat.reduceEqDiff, List.mem_cons, List.not_mem_nil, x_isTs, or_self, Option.isSome_some, Option.isSome_none, String.reduceEq, dS_inj, dR_inj, dQ_inj, dQ_non, dQ_int, dS_md, dR_md, dQ_md, dS_flat, dR_flat, dQ_flat, dS_items, dR_items, List.getElem?_map, Option.map_some, Option.map_none, shp_i, shp_n, shp_b, shp_li, shp_S, shp_R, shp_lS, shp_Q, shp_l0, eqb_int, eqb_l, eqb_S, eqb_R, eqbs_ints, eqbs_dS, eqbs_nil0, eqbs_nilL, eqbs_nilR, Sl.own.injEq, Sl.val.injEq, List.length_map, dR_lst, dR_tup, dS_lst, dS_tup, flats_S, cut_map, cut_1, dR_fold, dS_fold, inI_t, inI_f, Bool.or_false, List.getLast?_map, exists_false, exists_const, Bool.and_self, Bool.and_true, Bool.true_and, Bool.and_false, Bool.false_and, add_S, List.isEmpty_map, fMax_2, fMax_3, fMin_2, flat_non, flat_i, ↓u_for, ↓u_comp, fS_v, fS_n, fS_o, shp_lli, eqbs_dL, ↓eSortSet, int_inj, fList_S, fList_R, sum_S, sum_li, x_is_between, x_is_sample, x_is_samples, x_distance, x_need_samples, x_need_threshold, x_need_silence, x_is_late, x_source, x_draw, x_samples, x_gap, x_limit, x_quiet, x_reported, x_reportedL, x_all_reports, x_all_reportsN, x_held_by, x_held_byT, x_reports, x_reports0, x_reportsI, x_held, x_held0, x_heldI, x_largest_error, x_largest_errorI]
theorem x_reports_from0 {rs : List Row} {t : Int} {v : Row} {q : D → Prop} : callC c_reports_from [dR rs, .int t, dS v, .non] q = (OkA rs t none ∧ OkV rs v ∧ q (.lst ((repF t none rs 0 (-1) v).map .int))) := x_reports_from (s := none)
theorem w_reports_from (ds : List D) (q : D → Prop) (h : c_reports_from ds q) : t_reports_from (endsF true q) (startE 4 ds) := by
  obtain ⟨rs, t, v, s, rfl, ⟨ok, c, h1, h2, hr, hv⟩, h⟩ := h
  obtain ⟨r0, rest, er, e0⟩ := ok.r.head
  have hm := ok.r.most
  simp only [x_start, List.map_cons, List.map_nil, List.length_cons, List.length_nil, List.replicate_succ, List.replicate_zero, List.cons_append, List.nil_append, Nat.reduceSub, Nat.reduceAdd]
  simp only [t_reports_from, ↓sSeq, ↓sRet, ↓sIf, ↓sSet, ↓sOwn, ↓sAsg, ↓sDrop, ↓sNext, ↓sBreak, ↓sNever, ↓sFrz, ↓sApp, ↓sSetIx, ↓sSrc, ↓sPar, ↓sPar3, ↓sAug, ↓sNewSrc, ↓eC, ↓eTest, ↓eAnd, ↓eOr, ↓eNot, ↓eAndV, ↓eOrV, ↓eNotV, ↓eIf, ↓eChain, ↓eNeg, ↓eIx, ↓eIxS, ↓eSl, ↓oNone, ↓oSome, ↓aNil, ↓aCons, ↓eTup, ↓eLst, ↓eTupM, ↓eLstM, ↓eCB, ↓eBin, ↓x_call, ↓x_callK, ↓eSrc, ↓iSeqD, ↓iRg1, ↓iRg2, ↓iRg3, ↓iEnumD, ↓iZipD, ↓gNm, ↓gTp, ↓gsC, ↓gsN, ↓eYes, x_var0, x_var0o, x_varS, fAdd_ii, fAdd_ll, fAdd_tt, fAdd_ss, fMul_ii, fMul_li, fMul_ti, fSub_ii, fDiv_ii, fMod_ii, fPow_ii, fLt_ii, fLe_ii, fGt_ii, fGe_ii, ↓fEq, ↓fNe, ↓fIsN, ↓fNotN, x_lenL, x_lenT, x_lenS, x_lenR, x_lenC, fAbs_i, fInt_i, fInt_b, x_isi, List.set_cons_zero, List.set_cons_succ, List.getElem?_cons_zero, List.getElem?_cons_succ, items_l, items_t, okSt, mdOf, md_i, md_b, md_n, md_s, md_t, md_l, md_y, Md.isCl, Md.isNw, Md.meet, atI_0, atI_m1, atI_1, atI_2, atI_nat, cond_true, cond_false, isNon_i, isNon_n, isT_ii, isT_ib, isT_it, isT_il, isT_bi, isT_bb, isT_tt, isT_ti, isT_lt, isT_ll, isT_nt, isT_ni, isT_nl, tyN_i, tyN_b, tyN_t, tyN_l, tyN_n, dS_isT, dR_isT, dS_tyN, dR_tyN, dQ_isNon, D.flat, D.flats, flats_cons, flats_nil, flats_ints, flat_tup, putOk, slOf_f, slOf_t, Option.some.injEq, D.int.injEq, D.bl.injEq, D.lst.injEq, D.tup.injEq, D.str.injEq, D.scr.injEq, D.ty.injEq, x_consD, x_consD0, x_consD1, and_assoc, reduceCtorEq, exists_eq, exists_eq', exists_eq_left, exists_eq_left', exists_eq_right, exists_eq_right', exists_and_left, exists_and_right, and_true, true_and, and_self, and_false, false_and, or_true, true_or, or_false, false_or, if_true, if_false, ite_true, ite_false, decide_eq_true_eq, decide_eq_false_iff_not, Bool.not_eq_true, Bool.not_eq_true', Bool.not_true, Bool.not_false, Bool.true_eq_false, Bool.false_eq_true, not_true_eq_false, not_false_eq_true, eq_self_iff_true, forall_const, imp_self, List.length_cons, List.length_nil, List.append_nil, List.nil_append, List.cons_append, cpow_6, cpow_18, cpow_5, cpow_7, cpow_15, cpow_12, CMul, Nat.reduceAdd, Nat.reduceLeDiff, Nat.reduceLT, Int.reducePow, Int.reduceNeg, Int.reduceLT, Int.reduceLE, Int.reduceToNat, Int.reduceMul, Int.reduceAdd, Int.reduceSub, frzE, frz1, wipeE, all_nil, all_cons, endsF, x_start, List.map_cons, List.map_nil, List.replicate_succ, List.replicate_zero, Nat.reduceSub, Int.reduceEq, Nat.reduceEqDiff, List.mem_cons, List.not_mem_nil, x_isTs, or_self, Option.isSome_some, Option.isSome_none, String.reduceEq, dS_inj, dR_inj, dQ_inj, dQ_non, dQ_int, dS_md, dR_md, dQ_md, dS_flat, dR_flat, dQ_flat, dS_items, dR_items, List.getElem?_map, Option.map_some, Option.map_none, shp_i, shp_n, shp_b, shp_li, shp_S, shp_R, shp_lS, shp_Q, shp_l0, eqb_int, eqb_l, eqb_S, eqb_R, eqbs_ints, eqbs_dS, eqbs_nil0, eqbs_nilL, eqbs_nilR, Sl.own.injEq, Sl.val.injEq, List.length_map, dR_lst, dR_tup, dS_lst, dS_tup, flats_S, cut_map, cut_1, dR_fold, dS_fold, inI_t, inI_f, Bool.or_false, List.getLast?_map, exists_false, exists_const, Bool.and_self, Bool.and_true, Bool.true_and, Bool.and_false, Bool.false_and, add_S, List.isEmpty_map, fMax_2, fMax_3, fMin_2, flat_non, flat_i, ↓u_for, ↓u_comp, fS_v, fS_n, fS_o, shp_lli, eqbs_dL, ↓eSortSet, int_inj, fList_S, fList_R, sum_S, sum_li, x_is_between, x_is_sample, x_is_samples, x_distance, x_need_samples, x_need_threshold, x_need_silence, x_is_late, x_source, x_draw, x_samples, x_gap, x_limit, x_quiet, x_reported, x_reportedL, x_all_reports, x_all_reportsN, x_held_by, x_held_byT, x_reports, x_reports0, x_reportsI, x_held, x_held0, x_heldI, x_largest_error, x_largest_errorI, x_reports_from, x_reports_from0, e0]
  refine ⟨ok.r, ok.t, hv.one h1 h2, ?_⟩
  rw [if_neg (fun z => z (by rw [hv.len, (hr r0 (by rw [er]; exact List.mem_cons_self)).len]))]
  exact ⟨ok.q, ⟨by omega, c, h1, h2, hr, hv⟩, h⟩
end VL
/-! VC5: stretches. -/
namespace VL
open PySem L2

theorem top0_le {ns : List Int} {m : Int} (h : 0 ≤ m) : top0 ns ≤ m ↔ ∀ y ∈ ns, y ≤ m := ⟨fun z y hy => Int.le_trans (le_foldl_max.2 y hy) z, fun z => foldl_max_le h z⟩
theorem eq_of_le {a b : Int} (ha : 0 ≤ a) (hb : 0 ≤ b) (h : ∀ m, 0 ≤ m → (a ≤ m ↔ b ≤ m)) : a = b := Int.le_antisymm ((h b hb).mpr (Int.le_refl _)) ((h a ha).mp (Int.le_refl _))
/-- the largest gap of two rows -/
def spr (rs : List Row) : Int := top0 (rs.flatMap fun r => rs.map fun r' => gap r r')
def width (ns : List Int) : Int := top0 (ns.flatMap fun x => ns.map fun y => ((x - y).natAbs : Int))
theorem spr_nonneg (rs : List Row) : 0 ≤ spr rs := top0_nonneg _
theorem spr_le {rs : List Row} {m : Int} (h : 0 ≤ m) : spr rs ≤ m ↔ ∀ r ∈ rs, ∀ r' ∈ rs, gap r r' ≤ m := by
  unfold spr
  rw [top0_le h]
  refine ⟨fun z r hr r' hr' => z _ (List.mem_flatMap.mpr ⟨r, hr, List.mem_map.mpr ⟨r', hr', rfl⟩⟩), fun z y hy => ?_⟩
  obtain ⟨r, hr, hy⟩ := List.mem_flatMap.mp hy
  obtain ⟨r', hr', rfl⟩ := List.mem_map.mp hy
  exact z r hr r' hr'
theorem width_le {ns : List Int} {m : Int} (h : 0 ≤ m) : width ns ≤ m ↔ ∀ x ∈ ns, ∀ y ∈ ns, ((x - y).natAbs : Int) ≤ m := by
  unfold width
  rw [top0_le h]
  refine ⟨fun z r hr r' hr' => z _ (List.mem_flatMap.mpr ⟨r, hr, List.mem_map.mpr ⟨r', hr', rfl⟩⟩), fun z y hy => ?_⟩
  obtain ⟨r, hr, hy⟩ := List.mem_flatMap.mp hy
  obtain ⟨r', hr', rfl⟩ := List.mem_map.mp hy
  exact z r hr r' hr'
theorem width_eq {ns : List Int} {a b : Int} (ha : Top ns a) (hb : Bot ns b) : a - b = width ns := by
  have h0 := ha.2 b hb.1
  refine eq_of_le (by omega) (top0_nonneg _) fun m hm => ?_
  rw [width_le hm]
  refine ⟨fun z x hx y hy => ?_, fun z => ?_⟩
  · have := ha.2 x hx; have := ha.2 y hy; have := hb.2 x hx; have := hb.2 y hy
    omega
  · have := z a ha.1 b hb.1
    omega
def chan (rs : List Row) (j : Nat) : List Int := rs.map fun r => r.getD j 0
theorem gaps_at {a b : Row} {y : Int} : y ∈ gaps a b ↔ ∃ j, j < a.length ∧ j < b.length ∧ y = ((a.getD j 0 - b.getD j 0).natAbs : Int) := by
  unfold gaps
  rw [List.mem_map]
  refine ⟨fun ⟨p, hp, e⟩ => ?_, fun ⟨j, h1, h2, e⟩ => ?_⟩
  · obtain ⟨j, hj, ej⟩ := List.getElem_of_mem hp
    rw [List.length_zip] at hj
    have e' : (a.zip b)[j]? = some p := by rw [List.getElem?_eq_getElem (by rw [List.length_zip]; exact hj), ej]
    obtain ⟨e1, e2⟩ := get_zip e'
    refine ⟨j, by omega, by omega, ?_⟩
    rw [List.getD_eq_getElem?_getD, List.getD_eq_getElem?_getD, e1, e2]
    exact e.symm
  · refine ⟨(a.getD j 0, b.getD j 0), ?_, e.symm⟩
    rw [List.getD_eq_getElem?_getD, List.getD_eq_getElem?_getD]
    have h3 : j < (a.zip b).length := by rw [List.length_zip]; omega
    have : (a.zip b)[j]? = some (a[j], b[j]) := List.getElem?_zip_eq_some.mpr ⟨List.getElem?_eq_getElem h1, List.getElem?_eq_getElem h2⟩
    rw [List.getElem?_eq_getElem h1, List.getElem?_eq_getElem h2]
    exact List.mem_of_getElem? this
theorem spr_chan {rs : List Row} {c : Nat} (h : ∀ r ∈ rs, r.length = c) : spr rs = top0 ((List.range c).map fun j => width (chan rs j)) := by
  refine eq_of_le (spr_nonneg _) (top0_nonneg _) fun m hm => ?_
  rw [spr_le hm, top0_le hm]
  refine ⟨fun z y hy => ?_, fun z r hr r' hr' => ?_⟩
  · obtain ⟨j, hj, rfl⟩ := List.mem_map.mp hy
    have hj := List.mem_range.mp hj
    rw [width_le hm]
    intro x hx y hy
    obtain ⟨r, hr, rfl⟩ := List.mem_map.mp hx
    obtain ⟨r', hr', rfl⟩ := List.mem_map.mp hy
    exact (gap_le_iff hm).mp (z r hr r' hr') _ (gaps_at.mpr ⟨j, by rw [h r hr]; exact hj, by rw [h r' hr']; exact hj, rfl⟩)
  · rw [gap_le_iff hm]
    intro y hy
    obtain ⟨j, h1, h2, rfl⟩ := gaps_at.mp hy
    have := z _ (List.mem_map.mpr ⟨j, List.mem_range.mpr (by rw [← h r hr]; exact h1), rfl⟩)
    exact (width_le hm).mp this _ (List.mem_map.mpr ⟨r, hr, rfl⟩) _ (List.mem_map.mpr ⟨r', hr', rfl⟩)
structure OkC (rs : List Row) : Prop where
  pos : 0 < rs.length
  most : rs.length ≤ 1000
  ch : ∃ c, 1 ≤ c ∧ c ≤ 3 ∧ ∀ r ∈ rs, OkS c r
theorem OkR.c {rs : List Row} (h : OkR rs) : OkC rs := ⟨h.pos, by have := h.most; omega, h.ch⟩
def t_spread_within : S1 := (sSeq (sSet 1 (eC (.int 0))) (sSeq (sFor false [2, 3] (iRg1 (aCons (eCB fLen (aCons (eIx (eVar 0) (eC (.int 0))) aNil)) aNil)) (gNm 2) (sSeq (sSet 3 (eComp (iSeqD (eVar 0)) (gNm 4) eYes (eIx (eVar 4) (eVar 2)) [4])) (sSet 1 (eCB fMax (aCons (eVar 1) (aCons (eBin fSub (eCB fMax (aCons (eVar 3) aNil)) (eCB fMin (aCons (eVar 3) aNil))) aNil)))))) (sRet (eVar 1))))
def c_spread_within : C1 := fun ds q => ∃ (X : D) (rs : List Row), ds = [X] ∧ IsR X rs ∧ OkC rs ∧ q (.int (spr rs))
theorem m_spread_within : MonoC c_spread_within := fun ds q q' k ⟨X, rs, e, h0, h1, h⟩ => ⟨X, rs, e, h0, h1, k _ h⟩
theorem xX_spread_within {X : D} {rs : List Row} {q : D → Prop} (hX : IsR X rs) : callC c_spread_within [X] q = (OkC rs ∧ q (.int (spr rs))) := by
  refine propext ⟨fun ⟨X', rs', e, h0, h⟩ => ?_, fun h => ⟨X, rs, rfl, hX, h⟩⟩
  simp only [↓sSeq, ↓sRet, ↓sIf, ↓sSet, ↓sOwn, ↓sAsg, ↓sDrop, ↓sNext, ↓sBreak, ↓sNever, ↓sFrz, ↓sApp, ↓sSetIx, ↓sSrc, ↓sPar, ↓sPar3, ↓sAug, ↓sNewSrc, ↓eC, ↓eTest, ↓eAnd, ↓eOr, ↓eNot, ↓eAndV, ↓eOrV, ↓eNotV, ↓eIf, ↓eChain, ↓eNeg, ↓eIx, ↓eIxS, ↓eSl, ↓oNone, ↓oSome, ↓aNil, ↓aCons, ↓eTup, ↓eLst, ↓eTupM, ↓eLstM, ↓eCB, ↓eBin, ↓x_call, ↓x_callK, ↓eSrc, ↓iSeqD, ↓iRg1, ↓iRg2, ↓iRg3, ↓iEnumD, ↓iZipD, ↓gNm, ↓gTp, ↓gsC, ↓gsN, ↓eYes, x_var0, x_var0o, x_varS, fAdd_ii, fAdd_ll, fAdd_tt, fAdd_ss, fMul_ii, fMul_li, fMul_ti, fSub_ii, fDiv_ii, fMod_ii, fPow_ii, fLt_ii, fLe_ii, fGt_ii, fGe_ii, ↓fEq, ↓fNe, ↓fIsN, ↓fNotN, x_lenL, x_lenT, x_lenS, x_lenR, x_lenC, fAbs_i, fInt_i, fInt_b, x_isi, List.set_cons_zero, List.set_cons_succ, List.getElem?_cons_zero, List.getElem?_cons_succ, items_l, items_t, okSt, mdOf, md_i, md_b, md_n, md_s, md_t, md_l, md_y, Md.isCl, Md.isNw, Md.meet, atI_0, atI_m1, atI_1, atI_2, atI_nat, cond_true, cond_false, isNon_i, isNon_n, isT_ii, isT_ib, isT_it, isT_il, isT_bi, isT_bb, isT_tt, isT_ti, isT_lt, isT_ll, isT_nt, isT_ni, isT_nl, tyN_i, tyN_b, tyN_t, tyN_l, tyN_n, dS_isT, dR_isT, dS_tyN, dR_tyN, dQ_isNon, D.flat, D.flats, flats_cons, flats_nil, flats_ints, flat_tup, putOk, slOf_f, slOf_t, Option.some.injEq, D.int.injEq, D.bl.injEq, D.lst.injEq, D.tup.injEq, D.str.injEq, D.scr.injEq, D.ty.injEq, x_consD, x_consD0, x_consD1, and_assoc, reduceCtorEq, exists_eq, exists_eq', exists_eq_left, exists_eq_left', exists_eq_right, exists_eq_right', exists_and_left, exists_and_right, and_true, true_and, and_self, and_false, false_and, or_true, true_or, or_false, false_or, if_true, if_false, ite_true, ite_false, decide_eq_true_eq, decide_eq_false_iff_not, Bool.not_eq_true, Bool.not_eq_true', Bool.not_true, Bool.not_false, Bool.true_eq_false, Bool.false_eq_true, not_true_eq_false, not_false_eq_true, eq_self_iff_true, forall_const, imp_self, List.length_cons, List.length_nil, List.append_nil, List.nil_append, List.cons_append, cpow_6, cpow_18, cpow_5, cpow_7, cpow_15, cpow_12, CMul, Nat.reduceAdd, Nat.reduceLeDiff, Nat.reduceLT, Int.reducePow, Int.reduceNeg, Int.reduceLT, Int.reduceLE, Int.reduceToNat, Int.reduceMul, Int.reduceAdd, Int.reduceSub, frzE, frz1, wipeE, all_nil, all_cons, endsF, x_start, List.map_cons, List.map_nil, List.replicate_succ, List.replicate_zero, Nat.reduceSub, Int.reduceEq, Nat.reduceEqDiff, List.mem_cons, List.not_mem_nil, x_isTs, or_self, Option.isSome_some, Option.isSome_none, String.reduceEq, dS_inj, dR_inj, dQ_inj, dQ_non, dQ_int, dS_md, dR_md, dQ_md, dS_flat, dR_flat, dQ_flat, dS_items, dR_items, List.getElem?_map, Option.map_some, Option.map_none, shp_i, shp_n, shp_b, shp_li, shp_S, shp_R, shp_lS, shp_Q, shp_l0, eqb_int, eqb_l, eqb_S, eqb_R, eqbs_ints, eqbs_dS, eqbs_nil0, eqbs_nilL, eqbs_nilR, Sl.own.injEq, Sl.val.injEq, List.length_map, dR_lst, dR_tup, dS_lst, dS_tup, flats_S, cut_map, cut_1, dR_fold, dS_fold, inI_t, inI_f, Bool.or_false, List.getLast?_map, exists_false, exists_const, Bool.and_self, Bool.and_true, Bool.true_and, Bool.and_false, Bool.false_and, add_S, List.isEmpty_map, fMax_2, fMax_3, fMin_2, flat_non, flat_i, ↓u_for, ↓u_comp, fS_v, fS_n, fS_o, shp_lli, eqbs_dL, ↓eSortSet, int_inj, fList_S, fList_R, sum_S, sum_li, x_is_between, x_is_sample, x_is_samples, x_distance, x_need_samples, x_need_threshold, x_need_silence, x_is_late, x_source, x_draw, x_samples, x_gap, x_limit, x_quiet, x_reported, x_reportedL, x_all_reports, x_all_reportsN, x_held_by, x_held_byT, x_reports, x_reports0, x_reportsI, x_held, x_held0, x_heldI, x_largest_error, x_largest_errorI] at e
  subst e
  rw [hX.eq h0]
  exact h
theorem x_spread_within {rs : List Row} {q : D → Prop} : callC c_spread_within [dR rs] q = (OkC rs ∧ q (.int (spr rs))) := xX_spread_within .t
theorem x_spread_withinL {rs : List Row} {q : D → Prop} : callC c_spread_within [.lst (rs.map dS)] q = (OkC rs ∧ q (.int (spr rs))) := xX_spread_within .l
theorem w_spread_within (ds : List D) (q : D → Prop) (h : c_spread_within ds q) : t_spread_within (endsF true q) (startE 5 ds) := by
  obtain ⟨X, rs, rfl, hX, ⟨hp, hm, c, h1, h2, hr⟩, h⟩ := h
  obtain ⟨r0, e0⟩ : ∃ r0, rs[0]? = some r0 := ⟨_, List.getElem?_eq_getElem hp⟩
  have hl0 := (hr r0 (List.mem_of_getElem? e0)).len
  simp only [x_start, List.map_cons, List.map_nil, List.length_cons, List.length_nil, List.replicate_succ, List.replicate_zero, List.cons_append, List.nil_append, Nat.reduceSub, Nat.reduceAdd]
  simp only [t_spread_within, ↓sSeq, ↓sRet, ↓sIf, ↓sSet, ↓sOwn, ↓sAsg, ↓sDrop, ↓sNext, ↓sBreak, ↓sNever, ↓sFrz, ↓sApp, ↓sSetIx, ↓sSrc, ↓sPar, ↓sPar3, ↓sAug, ↓sNewSrc, ↓eC, ↓eTest, ↓eAnd, ↓eOr, ↓eNot, ↓eAndV, ↓eOrV, ↓eNotV, ↓eIf, ↓eChain, ↓eNeg, ↓eIx, ↓eIxS, ↓eSl, ↓oNone, ↓oSome, ↓aNil, ↓aCons, ↓eTup, ↓eLst, ↓eTupM, ↓eLstM, ↓eCB, ↓eBin, ↓x_call, ↓x_callK, ↓eSrc, ↓iSeqD, ↓iRg1, ↓iRg2, ↓iRg3, ↓iEnumD, ↓iZipD, ↓gNm, ↓gTp, ↓gsC, ↓gsN, ↓eYes, x_var0, x_var0o, x_varS, fAdd_ii, fAdd_ll, fAdd_tt, fAdd_ss, fMul_ii, fMul_li, fMul_ti, fSub_ii, fDiv_ii, fMod_ii, fPow_ii, fLt_ii, fLe_ii, fGt_ii, fGe_ii, ↓fEq, ↓fNe, ↓fIsN, ↓fNotN, x_lenL, x_lenT, x_lenS, x_lenR, x_lenC, fAbs_i, fInt_i, fInt_b, x_isi, List.set_cons_zero, List.set_cons_succ, List.getElem?_cons_zero, List.getElem?_cons_succ, items_l, items_t, okSt, mdOf, md_i, md_b, md_n, md_s, md_t, md_l, md_y, Md.isCl, Md.isNw, Md.meet, atI_0, atI_m1, atI_1, atI_2, atI_nat, cond_true, cond_false, isNon_i, isNon_n, isT_ii, isT_ib, isT_it, isT_il, isT_bi, isT_bb, isT_tt, isT_ti, isT_lt, isT_ll, isT_nt, isT_ni, isT_nl, tyN_i, tyN_b, tyN_t, tyN_l, tyN_n, dS_isT, dR_isT, dS_tyN, dR_tyN, dQ_isNon, D.flat, D.flats, flats_cons, flats_nil, flats_ints, flat_tup, putOk, slOf_f, slOf_t, Option.some.injEq, D.int.injEq, D.bl.injEq, D.lst.injEq, D.tup.injEq, D.str.injEq, D.scr.injEq, D.ty.injEq, x_consD, x_consD0, x_consD1, and_assoc, reduceCtorEq, exists_eq, exists_eq', exists_eq_left, exists_eq_left', exists_eq_right, exists_eq_right', exists_and_left, exists_and_right, and_true, true_and, and_self, and_false, false_and, or_true, true_or, or_false, false_or, if_true, if_false, ite_true, ite_false, decide_eq_true_eq, decide_eq_false_iff_not, Bool.not_eq_true, Bool.not_eq_true', Bool.not_true, Bool.not_false, Bool.true_eq_false, Bool.false_eq_true, not_true_eq_false, not_false_eq_true, eq_self_iff_true, forall_const, imp_self, List.length_cons, List.length_nil, List.append_nil, List.nil_append, List.cons_append, cpow_6, cpow_18, cpow_5, cpow_7, cpow_15, cpow_12, CMul, Nat.reduceAdd, Nat.reduceLeDiff, Nat.reduceLT, Int.reducePow, Int.reduceNeg, Int.reduceLT, Int.reduceLE, Int.reduceToNat, Int.reduceMul, Int.reduceAdd, Int.reduceSub, frzE, frz1, wipeE, all_nil, all_cons, endsF, x_start, List.map_cons, List.map_nil, List.replicate_succ, List.replicate_zero, Nat.reduceSub, Int.reduceEq, Nat.reduceEqDiff, List.mem_cons, List.not_mem_nil, x_isTs, or_self, Option.isSome_some, Option.isSome_none, String.reduceEq, dS_inj, dR_inj, dQ_inj, dQ_non, dQ_int, dS_md, dR_md, dQ_md, dS_flat, dR_flat, dQ_flat, dS_items, dR_items, List.getElem?_map, Option.map_some, Option.map_none, shp_i, shp_n, shp_b, shp_li, shp_S, shp_R, shp_lS, shp_Q, shp_l0, eqb_int, eqb_l, eqb_S, eqb_R, eqbs_ints, eqbs_dS, eqbs_nil0, eqbs_nilL, eqbs_nilR, Sl.own.injEq, Sl.val.injEq, List.length_map, dR_lst, dR_tup, dS_lst, dS_tup, flats_S, cut_map, cut_1, dR_fold, dS_fold, inI_t, inI_f, Bool.or_false, List.getLast?_map, exists_false, exists_const, Bool.and_self, Bool.and_true, Bool.true_and, Bool.and_false, Bool.false_and, add_S, List.isEmpty_map, fMax_2, fMax_3, fMin_2, flat_non, flat_i, ↓u_for, ↓u_comp, fS_v, fS_n, fS_o, shp_lli, eqbs_dL, ↓eSortSet, int_inj, fList_S, fList_R, sum_S, sum_li, x_is_between, x_is_sample, x_is_samples, x_distance, x_need_samples, x_need_threshold, x_need_silence, x_is_late, x_source, x_draw, x_samples, x_gap, x_limit, x_quiet, x_reported, x_reportedL, x_all_reports, x_all_reportsN, x_held_by, x_held_byT, x_reports, x_reports0, x_reportsI, x_held, x_held0, x_heldI, x_largest_error, x_largest_errorI, x_spread_within, x_spread_withinL, hX.it, e0]
  rw [hl0]
  refine ⟨by omega, by omega, ?_⟩
  refine for_st (σ := Int) (List.range c) (fun i => .int (i : Nat)) (fun z => [.val X, .val (.int z), .non, .non, .non])
    (fun i z => z = top0 ((List.range i).map fun j => width (chan rs j))) 0 rg0 rfl (fun z => nomatch z) rfl rfl ?_ ?_
  · rintro i j z hx hI N hN
    obtain ⟨rfl, hi⟩ := get_range hx
    subst hI
    try simp only [↓sSeq, ↓sRet, ↓sIf, ↓sSet, ↓sOwn, ↓sAsg, ↓sDrop, ↓sNext, ↓sBreak, ↓sNever, ↓sFrz, ↓sApp, ↓sSetIx, ↓sSrc, ↓sPar, ↓sPar3, ↓sAug, ↓sNewSrc, ↓eC, ↓eTest, ↓eAnd, ↓eOr, ↓eNot, ↓eAndV, ↓eOrV, ↓eNotV, ↓eIf, ↓eChain, ↓eNeg, ↓eIx, ↓eIxS, ↓eSl, ↓oNone, ↓oSome, ↓aNil, ↓aCons, ↓eTup, ↓eLst, ↓eTupM, ↓eLstM, ↓eCB, ↓eBin, ↓x_call, ↓x_callK, ↓eSrc, ↓iSeqD, ↓iRg1, ↓iRg2, ↓iRg3, ↓iEnumD, ↓iZipD, ↓gNm, ↓gTp, ↓gsC, ↓gsN, ↓eYes, x_var0, x_var0o, x_varS, fAdd_ii, fAdd_ll, fAdd_tt, fAdd_ss, fMul_ii, fMul_li, fMul_ti, fSub_ii, fDiv_ii, fMod_ii, fPow_ii, fLt_ii, fLe_ii, fGt_ii, fGe_ii, ↓fEq, ↓fNe, ↓fIsN, ↓fNotN, x_lenL, x_lenT, x_lenS, x_lenR, x_lenC, fAbs_i, fInt_i, fInt_b, x_isi, List.set_cons_zero, List.set_cons_succ, List.getElem?_cons_zero, List.getElem?_cons_succ, items_l, items_t, okSt, mdOf, md_i, md_b, md_n, md_s, md_t, md_l, md_y, Md.isCl, Md.isNw, Md.meet, atI_0, atI_m1, atI_1, atI_2, atI_nat, cond_true, cond_false, isNon_i, isNon_n, isT_ii, isT_ib, isT_it, isT_il, isT_bi, isT_bb, isT_tt, isT_ti, isT_lt, isT_ll, isT_nt, isT_ni, isT_nl, tyN_i, tyN_b, tyN_t, tyN_l, tyN_n, dS_isT, dR_isT, dS_tyN, dR_tyN, dQ_isNon, D.flat, D.flats, flats_cons, flats_nil, flats_ints, flat_tup, putOk, slOf_f, slOf_t, Option.some.injEq, D.int.injEq, D.bl.injEq, D.lst.injEq, D.tup.injEq, D.str.injEq, D.scr.injEq, D.ty.injEq, x_consD, x_consD0, x_consD1, and_assoc, reduceCtorEq, exists_eq, exists_eq', exists_eq_left, exists_eq_left', exists_eq_right, exists_eq_right', exists_and_left, exists_and_right, and_true, true_and, and_self, and_false, false_and, or_true, true_or, or_false, false_or, if_true, if_false, ite_true, ite_false, decide_eq_true_eq, decide_eq_false_iff_not, Bool.not_eq_true, Bool.not_eq_true', Bool.not_true, Bool.not_false, Bool.true_eq_false, Bool.false_eq_true, not_true_eq_false, not_false_eq_true, eq_self_iff_true, forall_const, imp_self, List.length_cons, List.length_nil, List.append_nil, List.nil_append, List.cons_append, cpow_6, cpow_18, cpow_5, cpow_7, cpow_15, cpow_12, CMul, Nat.reduceAdd, Nat.reduceLeDiff, Nat.reduceLT, Int.reducePow, Int.reduceNeg, Int.reduceLT, Int.reduceLE, Int.reduceToNat, Int.reduceMul, Int.reduceAdd, Int.reduceSub, frzE, frz1, wipeE, all_nil, all_cons, endsF, x_start, List.map_cons, List.map_nil, List.replicate_succ, List.replicate_zero, Nat.reduceSub, Int.reduceEq, Nat.reduceEqDiff, List.mem_cons, List.not_mem_nil, x_isTs, or_self, Option.isSome_some, Option.isSome_none, String.reduceEq, dS_inj, dR_inj, dQ_inj, dQ_non, dQ_int, dS_md, dR_md, dQ_md, dS_flat, dR_flat, dQ_flat, dS_items, dR_items, List.getElem?_map, Option.map_some, Option.map_none, shp_i, shp_n, shp_b, shp_li, shp_S, shp_R, shp_lS, shp_Q, shp_l0, eqb_int, eqb_l, eqb_S, eqb_R, eqbs_ints, eqbs_dS, eqbs_nil0, eqbs_nilL, eqbs_nilR, Sl.own.injEq, Sl.val.injEq, List.length_map, dR_lst, dR_tup, dS_lst, dS_tup, flats_S, cut_map, cut_1, dR_fold, dS_fold, inI_t, inI_f, Bool.or_false, List.getLast?_map, exists_false, exists_const, Bool.and_self, Bool.and_true, Bool.true_and, Bool.and_false, Bool.false_and, add_S, List.isEmpty_map, fMax_2, fMax_3, fMin_2, flat_non, flat_i, ↓u_for, ↓u_comp, fS_v, fS_n, fS_o, shp_lli, eqbs_dL, ↓eSortSet, int_inj, fList_S, fList_R, sum_S, sum_li, x_is_between, x_is_sample, x_is_samples, x_distance, x_need_samples, x_need_threshold, x_need_silence, x_is_late, x_source, x_draw, x_samples, x_gap, x_limit, x_quiet, x_reported, x_reportedL, x_all_reports, x_all_reportsN, x_held_by, x_held_byT, x_reports, x_reports0, x_reportsI, x_held, x_held0, x_heldI, x_largest_error, x_largest_errorI, x_spread_within, x_spread_withinL, hX.it, hX.md]
    refine comp_map rs dS (fun r => .int (r.getD j 0)) rfl (by omega) ?_ ?_
    · intro i r acc hx N2 hN2
      have hl := (hr r (List.mem_of_getElem? hx)).len
      obtain ⟨x, ex⟩ : ∃ x, r[j]? = some x := ⟨_, List.getElem?_eq_getElem (by omega)⟩
      try simp only [↓sSeq, ↓sRet, ↓sIf, ↓sSet, ↓sOwn, ↓sAsg, ↓sDrop, ↓sNext, ↓sBreak, ↓sNever, ↓sFrz, ↓sApp, ↓sSetIx, ↓sSrc, ↓sPar, ↓sPar3, ↓sAug, ↓sNewSrc, ↓eC, ↓eTest, ↓eAnd, ↓eOr, ↓eNot, ↓eAndV, ↓eOrV, ↓eNotV, ↓eIf, ↓eChain, ↓eNeg, ↓eIx, ↓eIxS, ↓eSl, ↓oNone, ↓oSome, ↓aNil, ↓aCons, ↓eTup, ↓eLst, ↓eTupM, ↓eLstM, ↓eCB, ↓eBin, ↓x_call, ↓x_callK, ↓eSrc, ↓iSeqD, ↓iRg1, ↓iRg2, ↓iRg3, ↓iEnumD, ↓iZipD, ↓gNm, ↓gTp, ↓gsC, ↓gsN, ↓eYes, x_var0, x_var0o, x_varS, fAdd_ii, fAdd_ll, fAdd_tt, fAdd_ss, fMul_ii, fMul_li, fMul_ti, fSub_ii, fDiv_ii, fMod_ii, fPow_ii, fLt_ii, fLe_ii, fGt_ii, fGe_ii, ↓fEq, ↓fNe, ↓fIsN, ↓fNotN, x_lenL, x_lenT, x_lenS, x_lenR, x_lenC, fAbs_i, fInt_i, fInt_b, x_isi, List.set_cons_zero, List.set_cons_succ, List.getElem?_cons_zero, List.getElem?_cons_succ, items_l, items_t, okSt, mdOf, md_i, md_b, md_n, md_s, md_t, md_l, md_y, Md.isCl, Md.isNw, Md.meet, atI_0, atI_m1, atI_1, atI_2, atI_nat, cond_true, cond_false, isNon_i, isNon_n, isT_ii, isT_ib, isT_it, isT_il, isT_bi, isT_bb, isT_tt, isT_ti, isT_lt, isT_ll, isT_nt, isT_ni, isT_nl, tyN_i, tyN_b, tyN_t, tyN_l, tyN_n, dS_isT, dR_isT, dS_tyN, dR_tyN, dQ_isNon, D.flat, D.flats, flats_cons, flats_nil, flats_ints, flat_tup, putOk, slOf_f, slOf_t, Option.some.injEq, D.int.injEq, D.bl.injEq, D.lst.injEq, D.tup.injEq, D.str.injEq, D.scr.injEq, D.ty.injEq, x_consD, x_consD0, x_consD1, and_assoc, reduceCtorEq, exists_eq, exists_eq', exists_eq_left, exists_eq_left', exists_eq_right, exists_eq_right', exists_and_left, exists_and_right, and_true, true_and, and_self, and_false, false_and, or_true, true_or, or_false, false_or, if_true, if_false, ite_true, ite_false, decide_eq_true_eq, decide_eq_false_iff_not, Bool.not_eq_true, Bool.not_eq_true', Bool.not_true, Bool.not_false, Bool.true_eq_false, Bool.false_eq_true, not_true_eq_false, not_false_eq_true, eq_self_iff_true, forall_const, imp_self, List.length_cons, List.length_nil, List.append_nil, List.nil_append, List.cons_append, cpow_6, cpow_18, cpow_5, cpow_7, cpow_15, cpow_12, CMul, Nat.reduceAdd, Nat.reduceLeDiff, Nat.reduceLT, Int.reducePow, Int.reduceNeg, Int.reduceLT, Int.reduceLE, Int.reduceToNat, Int.reduceMul, Int.reduceAdd, Int.reduceSub, frzE, frz1, wipeE, all_nil, all_cons, endsF, x_start, List.map_cons, List.map_nil, List.replicate_succ, List.replicate_zero, Nat.reduceSub, Int.reduceEq, Nat.reduceEqDiff, List.mem_cons, List.not_mem_nil, x_isTs, or_self, Option.isSome_some, Option.isSome_none, String.reduceEq, dS_inj, dR_inj, dQ_inj, dQ_non, dQ_int, dS_md, dR_md, dQ_md, dS_flat, dR_flat, dQ_flat, dS_items, dR_items, List.getElem?_map, Option.map_some, Option.map_none, shp_i, shp_n, shp_b, shp_li, shp_S, shp_R, shp_lS, shp_Q, shp_l0, eqb_int, eqb_l, eqb_S, eqb_R, eqbs_ints, eqbs_dS, eqbs_nil0, eqbs_nilL, eqbs_nilR, Sl.own.injEq, Sl.val.injEq, List.length_map, dR_lst, dR_tup, dS_lst, dS_tup, flats_S, cut_map, cut_1, dR_fold, dS_fold, inI_t, inI_f, Bool.or_false, List.getLast?_map, exists_false, exists_const, Bool.and_self, Bool.and_true, Bool.true_and, Bool.and_false, Bool.false_and, add_S, List.isEmpty_map, fMax_2, fMax_3, fMin_2, flat_non, flat_i, ↓u_for, ↓u_comp, fS_v, fS_n, fS_o, shp_lli, eqbs_dL, ↓eSortSet, int_inj, fList_S, fList_R, sum_S, sum_li, x_is_between, x_is_sample, x_is_samples, x_distance, x_need_samples, x_need_threshold, x_need_silence, x_is_late, x_source, x_draw, x_samples, x_gap, x_limit, x_quiet, x_reported, x_reportedL, x_all_reports, x_all_reportsN, x_held_by, x_held_byT, x_reports, x_reports0, x_reportsI, x_held, x_held0, x_heldI, x_largest_error, x_largest_errorI, x_spread_within, x_spread_withinL, ex]
      rw [List.getD_eq_getElem?_getD, ex] at hN2
      exact hN2
    · try simp only [↓sSeq, ↓sRet, ↓sIf, ↓sSet, ↓sOwn, ↓sAsg, ↓sDrop, ↓sNext, ↓sBreak, ↓sNever, ↓sFrz, ↓sApp, ↓sSetIx, ↓sSrc, ↓sPar, ↓sPar3, ↓sAug, ↓sNewSrc, ↓eC, ↓eTest, ↓eAnd, ↓eOr, ↓eNot, ↓eAndV, ↓eOrV, ↓eNotV, ↓eIf, ↓eChain, ↓eNeg, ↓eIx, ↓eIxS, ↓eSl, ↓oNone, ↓oSome, ↓aNil, ↓aCons, ↓eTup, ↓eLst, ↓eTupM, ↓eLstM, ↓eCB, ↓eBin, ↓x_call, ↓x_callK, ↓eSrc, ↓iSeqD, ↓iRg1, ↓iRg2, ↓iRg3, ↓iEnumD, ↓iZipD, ↓gNm, ↓gTp, ↓gsC, ↓gsN, ↓eYes, x_var0, x_var0o, x_varS, fAdd_ii, fAdd_ll, fAdd_tt, fAdd_ss, fMul_ii, fMul_li, fMul_ti, fSub_ii, fDiv_ii, fMod_ii, fPow_ii, fLt_ii, fLe_ii, fGt_ii, fGe_ii, ↓fEq, ↓fNe, ↓fIsN, ↓fNotN, x_lenL, x_lenT, x_lenS, x_lenR, x_lenC, fAbs_i, fInt_i, fInt_b, x_isi, List.set_cons_zero, List.set_cons_succ, List.getElem?_cons_zero, List.getElem?_cons_succ, items_l, items_t, okSt, mdOf, md_i, md_b, md_n, md_s, md_t, md_l, md_y, Md.isCl, Md.isNw, Md.meet, atI_0, atI_m1, atI_1, atI_2, atI_nat, cond_true, cond_false, isNon_i, isNon_n, isT_ii, isT_ib, isT_it, isT_il, isT_bi, isT_bb, isT_tt, isT_ti, isT_lt, isT_ll, isT_nt, isT_ni, isT_nl, tyN_i, tyN_b, tyN_t, tyN_l, tyN_n, dS_isT, dR_isT, dS_tyN, dR_tyN, dQ_isNon, D.flat, D.flats, flats_cons, flats_nil, flats_ints, flat_tup, putOk, slOf_f, slOf_t, Option.some.injEq, D.int.injEq, D.bl.injEq, D.lst.injEq, D.tup.injEq, D.str.injEq, D.scr.injEq, D.ty.injEq, x_consD, x_consD0, x_consD1, and_assoc, reduceCtorEq, exists_eq, exists_eq', exists_eq_left, exists_eq_left', exists_eq_right, exists_eq_right', exists_and_left, exists_and_right, and_true, true_and, and_self, and_false, false_and, or_true, true_or, or_false, false_or, if_true, if_false, ite_true, ite_false, decide_eq_true_eq, decide_eq_false_iff_not, Bool.not_eq_true, Bool.not_eq_true', Bool.not_true, Bool.not_false, Bool.true_eq_false, Bool.false_eq_true, not_true_eq_false, not_false_eq_true, eq_self_iff_true, forall_const, imp_self, List.length_cons, List.length_nil, List.append_nil, List.nil_append, List.cons_append, cpow_6, cpow_18, cpow_5, cpow_7, cpow_15, cpow_12, CMul, Nat.reduceAdd, Nat.reduceLeDiff, Nat.reduceLT, Int.reducePow, Int.reduceNeg, Int.reduceLT, Int.reduceLE, Int.reduceToNat, Int.reduceMul, Int.reduceAdd, Int.reduceSub, frzE, frz1, wipeE, all_nil, all_cons, endsF, x_start, List.map_cons, List.map_nil, List.replicate_succ, List.replicate_zero, Nat.reduceSub, Int.reduceEq, Nat.reduceEqDiff, List.mem_cons, List.not_mem_nil, x_isTs, or_self, Option.isSome_some, Option.isSome_none, String.reduceEq, dS_inj, dR_inj, dQ_inj, dQ_non, dQ_int, dS_md, dR_md, dQ_md, dS_flat, dR_flat, dQ_flat, dS_items, dR_items, List.getElem?_map, Option.map_some, Option.map_none, shp_i, shp_n, shp_b, shp_li, shp_S, shp_R, shp_lS, shp_Q, shp_l0, eqb_int, eqb_l, eqb_S, eqb_R, eqbs_ints, eqbs_dS, eqbs_nil0, eqbs_nilL, eqbs_nilR, Sl.own.injEq, Sl.val.injEq, List.length_map, dR_lst, dR_tup, dS_lst, dS_tup, flats_S, cut_map, cut_1, dR_fold, dS_fold, inI_t, inI_f, Bool.or_false, List.getLast?_map, exists_false, exists_const, Bool.and_self, Bool.and_true, Bool.true_and, Bool.and_false, Bool.false_and, add_S, List.isEmpty_map, fMax_2, fMax_3, fMin_2, flat_non, flat_i, ↓u_for, ↓u_comp, fS_v, fS_n, fS_o, shp_lli, eqbs_dL, ↓eSortSet, int_inj, fList_S, fList_R, sum_S, sum_li, x_is_between, x_is_sample, x_is_samples, x_distance, x_need_samples, x_need_threshold, x_need_silence, x_is_late, x_source, x_draw, x_samples, x_gap, x_limit, x_quiet, x_reported, x_reportedL, x_all_reports, x_all_reportsN, x_held_by, x_held_byT, x_reports, x_reports0, x_reportsI, x_held, x_held0, x_heldI, x_largest_error, x_largest_errorI, x_spread_within, x_spread_withinL]
      have e : rs.map (fun r => D.int (r.getD j 0)) = (chan rs j).map D.int := by unfold chan; rw [List.map_map]; rfl
      have hne : chan rs j ≠ [] := fun z => by
        have : (chan rs j).length = 0 := by rw [z]; rfl
        unfold chan at this
        rw [List.length_map] at this
        omega
      refine ⟨chan rs j, e, hne, fun a ha => ?_⟩
      try simp only [↓sSeq, ↓sRet, ↓sIf, ↓sSet, ↓sOwn, ↓sAsg, ↓sDrop, ↓sNext, ↓sBreak, ↓sNever, ↓sFrz, ↓sApp, ↓sSetIx, ↓sSrc, ↓sPar, ↓sPar3, ↓sAug, ↓sNewSrc, ↓eC, ↓eTest, ↓eAnd, ↓eOr, ↓eNot, ↓eAndV, ↓eOrV, ↓eNotV, ↓eIf, ↓eChain, ↓eNeg, ↓eIx, ↓eIxS, ↓eSl, ↓oNone, ↓oSome, ↓aNil, ↓aCons, ↓eTup, ↓eLst, ↓eTupM, ↓eLstM, ↓eCB, ↓eBin, ↓x_call, ↓x_callK, ↓eSrc, ↓iSeqD, ↓iRg1, ↓iRg2, ↓iRg3, ↓iEnumD, ↓iZipD, ↓gNm, ↓gTp, ↓gsC, ↓gsN, ↓eYes, x_var0, x_var0o, x_varS, fAdd_ii, fAdd_ll, fAdd_tt, fAdd_ss, fMul_ii, fMul_li, fMul_ti, fSub_ii, fDiv_ii, fMod_ii, fPow_ii, fLt_ii, fLe_ii, fGt_ii, fGe_ii, ↓fEq, ↓fNe, ↓fIsN, ↓fNotN, x_lenL, x_lenT, x_lenS, x_lenR, x_lenC, fAbs_i, fInt_i, fInt_b, x_isi, List.set_cons_zero, List.set_cons_succ, List.getElem?_cons_zero, List.getElem?_cons_succ, items_l, items_t, okSt, mdOf, md_i, md_b, md_n, md_s, md_t, md_l, md_y, Md.isCl, Md.isNw, Md.meet, atI_0, atI_m1, atI_1, atI_2, atI_nat, cond_true, cond_false, isNon_i, isNon_n, isT_ii, isT_ib, isT_it, isT_il, isT_bi, isT_bb, isT_tt, isT_ti, isT_lt, isT_ll, isT_nt, isT_ni, isT_nl, tyN_i, tyN_b, tyN_t, tyN_l, tyN_n, dS_isT, dR_isT, dS_tyN, dR_tyN, dQ_isNon, D.flat, D.flats, flats_cons, flats_nil, flats_ints, flat_tup, putOk, slOf_f, slOf_t, Option.some.injEq, D.int.injEq, D.bl.injEq, D.lst.injEq, D.tup.injEq, D.str.injEq, D.scr.injEq, D.ty.injEq, x_consD, x_consD0, x_consD1, and_assoc, reduceCtorEq, exists_eq, exists_eq', exists_eq_left, exists_eq_left', exists_eq_right, exists_eq_right', exists_and_left, exists_and_right, and_true, true_and, and_self, and_false, false_and, or_true, true_or, or_false, false_or, if_true, if_false, ite_true, ite_false, decide_eq_true_eq, decide_eq_false_iff_not, Bool.not_eq_true, Bool.not_eq_true', Bool.not_true, Bool.not_false, Bool.true_eq_false, Bool.false_eq_true, not_true_eq_false, not_false_eq_true, eq_self_iff_true, forall_const, imp_self, List.length_cons, List.length_nil, List.append_nil, List.nil_append, List.cons_append, cpow_6, cpow_18, cpow_5, cpow_7, cpow_15, cpow_12, CMul, Nat.reduceAdd, Nat.reduceLeDiff, Nat.reduceLT, Int.reducePow, Int.reduceNeg, Int.reduceLT, Int.reduceLE, Int.reduceToNat, Int.reduceMul, Int.reduceAdd, Int.reduceSub, frzE, frz1, wipeE, all_nil, all_cons, endsF, x_start, List.map_cons, List.map_nil, List.replicate_succ, List.replicate_zero, Nat.reduceSub, Int.reduceEq, Nat.reduceEqDiff, List.mem_cons, List.not_mem_nil, x_isTs, or_self, Option.isSome_some, Option.isSome_none, String.reduceEq, dS_inj, dR_inj, dQ_inj, dQ_non, dQ_int, dS_md, dR_md, dQ_md, dS_flat, dR_flat, dQ_flat, dS_items, dR_items, List.getElem?_map, Option.map_some, Option.map_none, shp_i, shp_n, shp_b, shp_li, shp_S, shp_R, shp_lS, shp_Q, shp_l0, eqb_int, eqb_l, eqb_S, eqb_R, eqbs_ints, eqbs_dS, eqbs_nil0, eqbs_nilL, eqbs_nilR, Sl.own.injEq, Sl.val.injEq, List.length_map, dR_lst, dR_tup, dS_lst, dS_tup, flats_S, cut_map, cut_1, dR_fold, dS_fold, inI_t, inI_f, Bool.or_false, List.getLast?_map, exists_false, exists_const, Bool.and_self, Bool.and_true, Bool.true_and, Bool.and_false, Bool.false_and, add_S, List.isEmpty_map, fMax_2, fMax_3, fMin_2, flat_non, flat_i, ↓u_for, ↓u_comp, fS_v, fS_n, fS_o, shp_lli, eqbs_dL, ↓eSortSet, int_inj, fList_S, fList_R, sum_S, sum_li, x_is_between, x_is_sample, x_is_samples, x_distance, x_need_samples, x_need_threshold, x_need_silence, x_is_late, x_source, x_draw, x_samples, x_gap, x_limit, x_quiet, x_reported, x_reportedL, x_all_reports, x_all_reportsN, x_held_by, x_held_byT, x_reports, x_reports0, x_reportsI, x_held, x_held0, x_heldI, x_largest_error, x_largest_errorI, x_spread_within, x_spread_withinL]
      refine ⟨chan rs j, e, hne, fun b hb => ?_⟩
      try simp only [↓sSeq, ↓sRet, ↓sIf, ↓sSet, ↓sOwn, ↓sAsg, ↓sDrop, ↓sNext, ↓sBreak, ↓sNever, ↓sFrz, ↓sApp, ↓sSetIx, ↓sSrc, ↓sPar, ↓sPar3, ↓sAug, ↓sNewSrc, ↓eC, ↓eTest, ↓eAnd, ↓eOr, ↓eNot, ↓eAndV, ↓eOrV, ↓eNotV, ↓eIf, ↓eChain, ↓eNeg, ↓eIx, ↓eIxS, ↓eSl, ↓oNone, ↓oSome, ↓aNil, ↓aCons, ↓eTup, ↓eLst, ↓eTupM, ↓eLstM, ↓eCB, ↓eBin, ↓x_call, ↓x_callK, ↓eSrc, ↓iSeqD, ↓iRg1, ↓iRg2, ↓iRg3, ↓iEnumD, ↓iZipD, ↓gNm, ↓gTp, ↓gsC, ↓gsN, ↓eYes, x_var0, x_var0o, x_varS, fAdd_ii, fAdd_ll, fAdd_tt, fAdd_ss, fMul_ii, fMul_li, fMul_ti, fSub_ii, fDiv_ii, fMod_ii, fPow_ii, fLt_ii, fLe_ii, fGt_ii, fGe_ii, ↓fEq, ↓fNe, ↓fIsN, ↓fNotN, x_lenL, x_lenT, x_lenS, x_lenR, x_lenC, fAbs_i, fInt_i, fInt_b, x_isi, List.set_cons_zero, List.set_cons_succ, List.getElem?_cons_zero, List.getElem?_cons_succ, items_l, items_t, okSt, mdOf, md_i, md_b, md_n, md_s, md_t, md_l, md_y, Md.isCl, Md.isNw, Md.meet, atI_0, atI_m1, atI_1, atI_2, atI_nat, cond_true, cond_false, isNon_i, isNon_n, isT_ii, isT_ib, isT_it, isT_il, isT_bi, isT_bb, isT_tt, isT_ti, isT_lt, isT_ll, isT_nt, isT_ni, isT_nl, tyN_i, tyN_b, tyN_t, tyN_l, tyN_n, dS_isT, dR_isT, dS_tyN, dR_tyN, dQ_isNon, D.flat, D.flats, flats_cons, flats_nil, flats_ints, flat_tup, putOk, slOf_f, slOf_t, Option.some.injEq, D.int.injEq, D.bl.injEq, D.lst.injEq, D.tup.injEq, D.str.injEq, D.scr.injEq, D.ty.injEq, x_consD, x_consD0, x_consD1, and_assoc, reduceCtorEq, exists_eq, exists_eq', exists_eq_left, exists_eq_left', exists_eq_right, exists_eq_right', exists_and_left, exists_and_right, and_true, true_and, and_self, and_false, false_and, or_true, true_or, or_false, false_or, if_true, if_false, ite_true, ite_false, decide_eq_true_eq, decide_eq_false_iff_not, Bool.not_eq_true, Bool.not_eq_true', Bool.not_true, Bool.not_false, Bool.true_eq_false, Bool.false_eq_true, not_true_eq_false, not_false_eq_true, eq_self_iff_true, forall_const, imp_self, List.length_cons, List.length_nil, List.append_nil, List.nil_append, List.cons_append, cpow_6, cpow_18, cpow_5, cpow_7, cpow_15, cpow_12, CMul, Nat.reduceAdd, Nat.reduceLeDiff, Nat.reduceLT, Int.reducePow, Int.reduceNeg, Int.reduceLT, Int.reduceLE, Int.reduceToNat, Int.reduceMul, Int.reduceAdd, Int.reduceSub, frzE, frz1, wipeE, all_nil, all_cons, endsF, x_start, List.map_cons, List.map_nil, List.replicate_succ, List.replicate_zero, Nat.reduceSub, Int.reduceEq, Nat.reduceEqDiff, List.mem_cons, List.not_mem_nil, x_isTs, or_self, Option.isSome_some, Option.isSome_none, String.reduceEq, dS_inj, dR_inj, dQ_inj, dQ_non, dQ_int, dS_md, dR_md, dQ_md, dS_flat, dR_flat, dQ_flat, dS_items, dR_items, List.getElem?_map, Option.map_some, Option.map_none, shp_i, shp_n, shp_b, shp_li, shp_S, shp_R, shp_lS, shp_Q, shp_l0, eqb_int, eqb_l, eqb_S, eqb_R, eqbs_ints, eqbs_dS, eqbs_nil0, eqbs_nilL, eqbs_nilR, Sl.own.injEq, Sl.val.injEq, List.length_map, dR_lst, dR_tup, dS_lst, dS_tup, flats_S, cut_map, cut_1, dR_fold, dS_fold, inI_t, inI_f, Bool.or_false, List.getLast?_map, exists_false, exists_const, Bool.and_self, Bool.and_true, Bool.true_and, Bool.and_false, Bool.false_and, add_S, List.isEmpty_map, fMax_2, fMax_3, fMin_2, flat_non, flat_i, ↓u_for, ↓u_comp, fS_v, fS_n, fS_o, shp_lli, eqbs_dL, ↓eSortSet, int_inj, fList_S, fList_R, sum_S, sum_li, x_is_between, x_is_sample, x_is_samples, x_distance, x_need_samples, x_need_threshold, x_need_silence, x_is_late, x_source, x_draw, x_samples, x_gap, x_limit, x_quiet, x_reported, x_reportedL, x_all_reports, x_all_reportsN, x_held_by, x_held_byT, x_reports, x_reports0, x_reportsI, x_held, x_held0, x_heldI, x_largest_error, x_largest_errorI, x_spread_within, x_spread_withinL]
      refine hN _ _ rfl ?_
      rw [width_eq ha hb, List.range_succ, List.map_append]
      unfold top0
      rw [List.foldl_append]
      rfl
  · rintro z hI
    rw [List.length_range] at hI
    subst hI
    rw [← spr_chan fun r h => (hr r h).len]
    try simp only [↓sSeq, ↓sRet, ↓sIf, ↓sSet, ↓sOwn, ↓sAsg, ↓sDrop, ↓sNext, ↓sBreak, ↓sNever, ↓sFrz, ↓sApp, ↓sSetIx, ↓sSrc, ↓sPar, ↓sPar3, ↓sAug, ↓sNewSrc, ↓eC, ↓eTest, ↓eAnd, ↓eOr, ↓eNot, ↓eAndV, ↓eOrV, ↓eNotV, ↓eIf, ↓eChain, ↓eNeg, ↓eIx, ↓eIxS, ↓eSl, ↓oNone, ↓oSome, ↓aNil, ↓aCons, ↓eTup, ↓eLst, ↓eTupM, ↓eLstM, ↓eCB, ↓eBin, ↓x_call, ↓x_callK, ↓eSrc, ↓iSeqD, ↓iRg1, ↓iRg2, ↓iRg3, ↓iEnumD, ↓iZipD, ↓gNm, ↓gTp, ↓gsC, ↓gsN, ↓eYes, x_var0, x_var0o, x_varS, fAdd_ii, fAdd_ll, fAdd_tt, fAdd_ss, fMul_ii, fMul_li, fMul_ti, fSub_ii, fDiv_ii, fMod_ii, fPow_ii, fLt_ii, fLe_ii, fGt_ii, fGe_ii, ↓fEq, ↓fNe, ↓fIsN, ↓fNotN, x_lenL, x_lenT, x_lenS, x_lenR, x_lenC, fAbs_i, fInt_i, fInt_b, x_isi, List.set_cons_zero, List.set_cons_succ, List.getElem?_cons_zero, List.getElem?_cons_succ, items_l, items_t, okSt, mdOf, md_i, md_b, md_n, md_s, md_t, md_l, md_y, Md.isCl, Md.isNw, Md.meet, atI_0, atI_m1, atI_1, atI_2, atI_nat, cond_true, cond_false, isNon_i, isNon_n, isT_ii, isT_ib, isT_it, isT_il, isT_bi, isT_bb, isT_tt, isT_ti, isT_lt, isT_ll, isT_nt, isT_ni, isT_nl, tyN_i, tyN_b, tyN_t, tyN_l, tyN_n, dS_isT, dR_isT, dS_tyN, dR_tyN, dQ_isNon, D.flat, D.flats, flats_cons, flats_nil, flats_ints, flat_tup, putOk, slOf_f, slOf_t, Option.some.injEq, D.int.injEq, D.bl.injEq, D.lst.injEq, D.tup.injEq, D.str.injEq, D.scr.injEq, D.ty.injEq, x_consD, x_consD0, x_consD1, and_assoc, reduceCtorEq, exists_eq, exists_eq', exists_eq_left, exists_eq_left', exists_eq_right, exists_eq_right', exists_and_left, exists_and_right, and_true, true_and, and_self, and_false, false_and, or_true, true_or, or_false, false_or, if_true, if_false, ite_true, ite_false, decide_eq_true_eq, decide_eq_false_iff_not, Bool.not_eq_true, Bool.not_eq_true', Bool.not_true, Bool.not_false, Bool.true_eq_false, Bool.false_eq_true, not_true_eq_false, not_false_eq_true, eq_self_iff_true, forall_const, imp_self, List.length_cons, List.length_nil, List.append_nil, List.nil_append, List.cons_append, cpow_6, cpow_18, cpow_5, cpow_7, cpow_15, cpow_12, CMul, Nat.reduceAdd, Nat.reduceLeDiff, Nat.reduceLT, Int.reducePow, Int.reduceNeg, Int.reduceLT, Int.reduceLE, Int.reduceToNat, Int.reduceMul, Int.reduceAdd, Int.reduceSub, frzE, frz1, wipeE, all_nil, all_cons, endsF, x_start, List.map_cons, List.map_nil, List.replicate_succ, List.replicate_zero, Nat.reduceSub, Int.reduceEq, Nat.reduceEqDiff, List.mem_cons, List.not_mem_nil, x_isTs, or_self, Option.isSome_some, Option.isSome_none, String.reduceEq, dS_inj, dR_inj, dQ_inj, dQ_non, dQ_int, dS_md, dR_md, dQ_md, dS_flat, dR_flat, dQ_flat, dS_items, dR_items, List.getElem?_map, Option.map_some, Option.map_none, shp_i, shp_n, shp_b, shp_li, shp_S, shp_R, shp_lS, shp_Q, shp_l0, eqb_int, eqb_l, eqb_S, eqb_R, eqbs_ints, eqbs_dS, eqbs_nil0, eqbs_nilL, eqbs_nilR, Sl.own.injEq, Sl.val.injEq, List.length_map, dR_lst, dR_tup, dS_lst, dS_tup, flats_S, cut_map, cut_1, dR_fold, dS_fold, inI_t, inI_f, Bool.or_false, List.getLast?_map, exists_false, exists_const, Bool.and_self, Bool.and_true, Bool.true_and, Bool.and_false, Bool.false_and, add_S, List.isEmpty_map, fMax_2, fMax_3, fMin_2, flat_non, flat_i, ↓u_for, ↓u_comp, fS_v, fS_n, fS_o, shp_lli, eqbs_dL, ↓eSortSet, int_inj, fList_S, fList_R, sum_S, sum_li, x_is_between, x_is_sample, x_is_samples, x_distance, x_need_samples, x_need_threshold, x_need_silence, x_is_late, x_source, x_draw, x_samples, x_gap, x_limit, x_quiet, x_reported, x_reportedL, x_all_reports, x_all_reportsN, x_held_by, x_held_byT, x_reports, x_reports0, x_reportsI, x_held, x_held0, x_heldI, x_largest_error, x_largest_errorI, x_spread_within, x_spread_withinL]
    exact h
def t_need_spread : S1 := (sIf (eNot (eTest (eCall true [] c_is_between (aCons (eVar 0) (aCons (eC (.int 0)) (aCons (eC (.int 10000000)) aNil)))))) sNever sNext)
def c_need_spread : C1 := fun ds q => ∃ (t : Int), ds = [.int t] ∧ OkT t ∧ q .non
theorem m_need_spread : MonoC c_need_spread := fun ds q q' k ⟨s, e, h1, h⟩ => ⟨s, e, h1, k _ h⟩
theorem x_need_spread {t : Int} {q : D → Prop} : callC c_need_spread [.int t] q = (OkT t ∧ q .non) := by
  simp only [callC, c_need_spread, ↓sSeq, ↓sRet, ↓sIf, ↓sSet, ↓sOwn, ↓sAsg, ↓sDrop, ↓sNext, ↓sBreak, ↓sNever, ↓sFrz, ↓sApp, ↓sSetIx, ↓sSrc, ↓sPar, ↓sPar3, ↓sAug, ↓sNewSrc, ↓eC, ↓eTest, ↓eAnd, ↓eOr, ↓eNot, ↓eAndV, ↓eOrV, ↓eNotV, ↓eIf, ↓eChain, ↓eNeg, ↓eIx, ↓eIxS, ↓eSl, ↓oNone, ↓oSome, ↓aNil, ↓aCons, ↓eTup, ↓eLst, ↓eTupM, ↓eLstM, ↓eCB, ↓eBin, ↓x_call, ↓x_callK, ↓eSrc, ↓iSeqD, ↓iRg1, ↓iRg2, ↓iRg3, ↓iEnumD, ↓iZipD, ↓gNm, ↓gTp, ↓gsC, ↓gsN, ↓eYes, x_var0, x_var0o, x_varS, fAdd_ii, fAdd_ll, fAdd_tt, fAdd_ss, fMul_ii, fMul_li, fMul_ti, fSub_ii, fDiv_ii, fMod_ii, fPow_ii, fLt_ii, fLe_ii, fGt_ii, fGe_ii, ↓fEq, ↓fNe, ↓fIsN, ↓fNotN, x_lenL, x_lenT, x_lenS, x_lenR, x_lenC, fAbs_i, fInt_i, fInt_b, x_isi, List.set_cons_zero, List.set_cons_succ, List.getElem?_cons_zero, List.getElem?_cons_succ, items_l, items_t, okSt, mdOf, md_i, md_b, md_n, md_s, md_t, md_l, md_y, Md.isCl, Md.isNw, Md.meet, atI_0, atI_m1, atI_1, atI_2, atI_nat, cond_true, cond_false, isNon_i, isNon_n, isT_ii, isT_ib, isT_it, isT_il, isT_bi, isT_bb, isT_tt, isT_ti, isT_lt, isT_ll, isT_nt, isT_ni, isT_nl, tyN_i, tyN_b, tyN_t, tyN_l, tyN_n, dS_isT, dR_isT, dS_tyN, dR_tyN, dQ_isNon, D.flat, D.flats, flats_cons, flats_nil, flats_ints, flat_tup, putOk, slOf_f, slOf_t, Option.some.injEq, D.int.injEq, D.bl.injEq, D.lst.injEq, D.tup.injEq, D.str.injEq, D.scr.injEq, D.ty.injEq, x_consD, x_consD0, x_consD1, and_assoc, reduceCtorEq, exists_eq, exists_eq', exists_eq_left, exists_eq_left', exists_eq_right, exists_eq_right', exists_and_left, exists_and_right, and_true, true_and, and_self, and_false, false_and, or_true, true_or, or_false, false_or, if_true, if_false, ite_true, ite_false, decide_eq_true_eq, decide_eq_false_iff_not, Bool.not_eq_true, Bool.not_eq_true', Bool.not_true, Bool.not_false, Bool.true_eq_false, Bool.false_eq_true, not_true_eq_false, not_false_eq_true, eq_self_iff_true, forall_const, imp_self, List.length_cons, List.length_nil, List.append_nil, List.nil_append, List.cons_append, cpow_6, cpow_18, cpow_5, cpow_7, cpow_15, cpow_12, CMul, Nat.reduceAdd, Nat.reduceLeDiff, Nat.reduceLT, Int.reducePow, Int.reduceNeg, Int.reduceLT, Int.reduceLE, Int.reduceToNat, Int.reduceMul, Int.reduceAdd, Int.reduceSub, frzE, frz1, wipeE, all_nil, all_cons, endsF, x_start, List.map_cons, List.map_nil, List.replicate_succ, List.replicate_zero, Nat.reduceSub, Int.reduceEq, Nat.reduceEqDiff, List.mem_cons, List.not_mem_nil, x_isTs, or_self, Option.isSome_some, Option.isSome_none, String.reduceEq, dS_inj, dR_inj, dQ_inj, dQ_non, dQ_int, dS_md, dR_md, dQ_md, dS_flat, dR_flat, dQ_flat, dS_items, dR_items, List.getElem?_map, Option.map_some, Option.map_none, shp_i, shp_n, shp_b, shp_li, shp_S, shp_R, shp_lS, shp_Q, shp_l0, eqb_int, eqb_l, eqb_S, eqb_R, eqbs_ints, eqbs_dS, eqbs_nil0, eqbs_nilL, eqbs_nilR, Sl.own.injEq, Sl.val.injEq, List.length_map, dR_lst, dR_tup, dS_lst, dS_tup, flats_S, cut_map, cut_1, dR_fold, dS_fold, inI_t, inI_f, Bool.or_false, List.getLast?_map, exists_false, exists_const, Bool.and_self, Bool.and_true, Bool.true_and, Bool.and_false, Bool.false_and, add_S, List.isEmpty_map, fMax_2, fMax_3, fMin_2, flat_non, flat_i, ↓u_for, ↓u_comp, fS_v, fS_n, fS_o, shp_lli, eqbs_dL, ↓eSortSet, int_inj, fList_S, fList_R, sum_S, sum_li, x_is_between, x_is_sample, x_is_samples, x_distance, x_need_samples, x_need_threshold, x_need_silence, x_is_late, x_source, x_draw, x_samples, x_gap, x_limit, x_quiet, x_reported, x_reportedL, x_all_reports, x_all_reportsN, x_held_by, x_held_byT, x_reports, x_reports0, x_reportsI, x_held, x_held0, x_heldI, x_largest_error, x_largest_errorI, x_spread_within, x_spread_withinL]
theorem w_need_spread (ds : List D) (q : D → Prop) (h : c_need_spread ds q) : t_need_spread (endsF true q) (startE 1 ds) := by
  obtain ⟨s, rfl, ok, h⟩ := h
  simp only [x_start, List.map_cons, List.map_nil, List.length_cons, List.length_nil, List.replicate_succ, List.replicate_zero, List.cons_append, List.nil_append, Nat.reduceSub, Nat.reduceAdd]
  simp only [t_need_spread, ↓sSeq, ↓sRet, ↓sIf, ↓sSet, ↓sOwn, ↓sAsg, ↓sDrop, ↓sNext, ↓sBreak, ↓sNever, ↓sFrz, ↓sApp, ↓sSetIx, ↓sSrc, ↓sPar, ↓sPar3, ↓sAug, ↓sNewSrc, ↓eC, ↓eTest, ↓eAnd, ↓eOr, ↓eNot, ↓eAndV, ↓eOrV, ↓eNotV, ↓eIf, ↓eChain, ↓eNeg, ↓eIx, ↓eIxS, ↓eSl, ↓oNone, ↓oSome, ↓aNil, ↓aCons, ↓eTup, ↓eLst, ↓eTupM, ↓eLstM, ↓eCB, ↓eBin, ↓x_call, ↓x_callK, ↓eSrc, ↓iSeqD, ↓iRg1, ↓iRg2, ↓iRg3, ↓iEnumD, ↓iZipD, ↓gNm, ↓gTp, ↓gsC, ↓gsN, ↓eYes, x_var0, x_var0o, x_varS, fAdd_ii, fAdd_ll, fAdd_tt, fAdd_ss, fMul_ii, fMul_li, fMul_ti, fSub_ii, fDiv_ii, fMod_ii, fPow_ii, fLt_ii, fLe_ii, fGt_ii, fGe_ii, ↓fEq, ↓fNe, ↓fIsN, ↓fNotN, x_lenL, x_lenT, x_lenS, x_lenR, x_lenC, fAbs_i, fInt_i, fInt_b, x_isi, List.set_cons_zero, List.set_cons_succ, List.getElem?_cons_zero, List.getElem?_cons_succ, items_l, items_t, okSt, mdOf, md_i, md_b, md_n, md_s, md_t, md_l, md_y, Md.isCl, Md.isNw, Md.meet, atI_0, atI_m1, atI_1, atI_2, atI_nat, cond_true, cond_false, isNon_i, isNon_n, isT_ii, isT_ib, isT_it, isT_il, isT_bi, isT_bb, isT_tt, isT_ti, isT_lt, isT_ll, isT_nt, isT_ni, isT_nl, tyN_i, tyN_b, tyN_t, tyN_l, tyN_n, dS_isT, dR_isT, dS_tyN, dR_tyN, dQ_isNon, D.flat, D.flats, flats_cons, flats_nil, flats_ints, flat_tup, putOk, slOf_f, slOf_t, Option.some.injEq, D.int.injEq, D.bl.injEq, D.lst.injEq, D.tup.injEq, D.str.injEq, D.scr.injEq, D.ty.injEq, x_consD, x_consD0, x_consD1, and_assoc, reduceCtorEq, exists_eq, exists_eq', exists_eq_left, exists_eq_left', exists_eq_right, exists_eq_right', exists_and_left, exists_and_right, and_true, true_and, and_self, and_false, false_and, or_true, true_or, or_false, false_or, if_true, if_false, ite_true, ite_false, decide_eq_true_eq, decide_eq_false_iff_not, Bool.not_eq_true, Bool.not_eq_true', Bool.not_true, Bool.not_false, Bool.true_eq_false, Bool.false_eq_true, not_true_eq_false, not_false_eq_true, eq_self_iff_true, forall_const, imp_self, List.length_cons, List.length_nil, List.append_nil, List.nil_append, List.cons_append, cpow_6, cpow_18, cpow_5, cpow_7, cpow_15, cpow_12, CMul, Nat.reduceAdd, Nat.reduceLeDiff, Nat.reduceLT, Int.reducePow, Int.reduceNeg, Int.reduceLT, Int.reduceLE, Int.reduceToNat, Int.reduceMul, Int.reduceAdd, Int.reduceSub, frzE, frz1, wipeE, all_nil, all_cons, endsF, x_start, List.map_cons, List.map_nil, List.replicate_succ, List.replicate_zero, Nat.reduceSub, Int.reduceEq, Nat.reduceEqDiff, List.mem_cons, List.not_mem_nil, x_isTs, or_self, Option.isSome_some, Option.isSome_none, String.reduceEq, dS_inj, dR_inj, dQ_inj, dQ_non, dQ_int, dS_md, dR_md, dQ_md, dS_flat, dR_flat, dQ_flat, dS_items, dR_items, List.getElem?_map, Option.map_some, Option.map_none, shp_i, shp_n, shp_b, shp_li, shp_S, shp_R, shp_lS, shp_Q, shp_l0, eqb_int, eqb_l, eqb_S, eqb_R, eqbs_ints, eqbs_dS, eqbs_nil0, eqbs_nilL, eqbs_nilR, Sl.own.injEq, Sl.val.injEq, List.length_map, dR_lst, dR_tup, dS_lst, dS_tup, flats_S, cut_map, cut_1, dR_fold, dS_fold, inI_t, inI_f, Bool.or_false, List.getLast?_map, exists_false, exists_const, Bool.and_self, Bool.and_true, Bool.true_and, Bool.and_false, Bool.false_and, add_S, List.isEmpty_map, fMax_2, fMax_3, fMin_2, flat_non, flat_i, ↓u_for, ↓u_comp, fS_v, fS_n, fS_o, shp_lli, eqbs_dL, ↓eSortSet, int_inj, fList_S, fList_R, sum_S, sum_li, x_is_between, x_is_sample, x_is_samples, x_distance, x_need_samples, x_need_threshold, x_need_silence, x_is_late, x_source, x_draw, x_samples, x_gap, x_limit, x_quiet, x_reported, x_reportedL, x_all_reports, x_all_reportsN, x_held_by, x_held_byT, x_reports, x_reports0, x_reportsI, x_held, x_held0, x_heldI, x_largest_error, x_largest_errorI, x_spread_within, x_spread_withinL, x_need_spread]
  rw [if_neg (fun z => z ok)]
  exact h
/-- the rows from l to i -/
def seg (rs : List Row) (l i : Nat) : List Row := (rs.drop l).take (i + 1 - l)
theorem mem_seg {rs : List Row} {l i : Nat} (hi : i < rs.length) {r : Row} : r ∈ seg rs l i ↔ ∃ j, l ≤ j ∧ j ≤ i ∧ r = rowAt rs j := by
  unfold seg rowAt
  refine ⟨fun h => ?_, fun ⟨j, h1, h2, e⟩ => ?_⟩
  · obtain ⟨k, hk, e⟩ := List.getElem_of_mem h
    have hk' := hk
    rw [List.length_take, List.length_drop] at hk'
    refine ⟨l + k, by omega, by omega, ?_⟩
    rw [List.getElem_take, List.getElem_drop] at e
    rw [List.getD_eq_getElem?_getD, List.getElem?_eq_getElem (by omega)]
    exact e.symm
  · subst e
    rw [List.getD_eq_getElem?_getD, List.getElem?_eq_getElem (by omega)]
    have : ((rs.drop l).take (i + 1 - l))[j - l]? = some rs[j] := by
      rw [List.getElem?_take, if_pos (by omega), List.getElem?_drop, show l + (j - l) = j by omega]
      exact List.getElem?_eq_getElem (by omega)
    exact List.mem_of_getElem? this
theorem seg_le {rs : List Row} {l i : Nat} {m : Int} (hm : 0 ≤ m) (hi : i < rs.length) : spr (seg rs l i) ≤ m ↔ ∀ j k, l ≤ j → j ≤ i → l ≤ k → k ≤ i → gap (rowAt rs j) (rowAt rs k) ≤ m := by
  rw [spr_le hm]
  refine ⟨fun z j k a b c d => z _ ((mem_seg hi).mpr ⟨j, a, b, rfl⟩) _ ((mem_seg hi).mpr ⟨k, c, d, rfl⟩), fun z r hr r' hr' => ?_⟩
  obtain ⟨j, a, b, rfl⟩ := (mem_seg hi).mp hr
  obtain ⟨k, c, d, rfl⟩ := (mem_seg hi).mp hr'
  exact z j k a b c d
def cS (t : Int) (s : Option Int) (rs : List Row) (l i : Nat) : Bool := decide (t < spr (seg rs l i) ∨ late l i s = true)
def starts (t : Int) (s : Option Int) (rs : List Row) : List Int := (0 :: greedy (cS t s rs) (rs.length - 1) 1 0).map Int.ofNat
theorem cut_seg {rs : List Row} {l i : Nat} (h1 : l ≤ i) (h2 : i < rs.length) : cutL rs (some (l : Int)) (some ((i : Int) + 1)) = seg rs l i := by
  unfold cutL seg
  rw [show (i : Int) + 1 = ((i + 1 : Nat) : Int) by omega, HT.sIx_nat, HT.sIx_nat, Nat.min_eq_left (by omega), Nat.min_eq_left (by omega)]
def t_starts_of : S1 := (sSeq (sOwn 3 (eLst (aCons (eC (.int 0)) aNil))) (sSeq (sFor false [4, 5] (iRg2 (aCons (eC (.int 1)) (aCons (eCB fLen (aCons (eVar 0) aNil)) aNil))) (gNm 4) (sSeq (sSet 5 (eIx (eVar 3) (eNeg (eC (.int 1))))) (sIf (eOr (eTest (eBin fGt (eCall true [] c_spread_within (aCons (eSl (eVar 0) (oSome (eVar 5)) (oSome (eBin fAdd (eVar 4) (eC (.int 1))))) aNil)) (eVar 1))) (eTest (eCall true [] c_is_late (aCons (eVar 5) (aCons (eVar 4) (aCons (eVar 2) aNil)))))) (sApp 3 (eVar 4)) sNext))) (sRet (eCB fTuple (aCons (eVar 3) aNil)))))
def c_starts_of : C1 := fun ds q => ∃ (rs : List Row) (t : Int) (s : Option Int), ds = [dR rs, .int t, dQ s] ∧ OkC rs ∧ q (dS (starts t s rs))
theorem m_starts_of : MonoC c_starts_of := fun ds q q' k ⟨rs, t, s, e, h1, h⟩ => ⟨rs, t, s, e, h1, k _ h⟩
theorem x_starts_of {rs : List Row} {t : Int} {s : Option Int} {q : D → Prop} : callC c_starts_of [dR rs, .int t, dQ s] q = (OkC rs ∧ q (dS (starts t s rs))) := by
  simp only [callC, c_starts_of, ↓sSeq, ↓sRet, ↓sIf, ↓sSet, ↓sOwn, ↓sAsg, ↓sDrop, ↓sNext, ↓sBreak, ↓sNever, ↓sFrz, ↓sApp, ↓sSetIx, ↓sSrc, ↓sPar, ↓sPar3, ↓sAug, ↓sNewSrc, ↓eC, ↓eTest, ↓eAnd, ↓eOr, ↓eNot, ↓eAndV, ↓eOrV, ↓eNotV, ↓eIf, ↓eChain, ↓eNeg, ↓eIx, ↓eIxS, ↓eSl, ↓oNone, ↓oSome, ↓aNil, ↓aCons, ↓eTup, ↓eLst, ↓eTupM, ↓eLstM, ↓eCB, ↓eBin, ↓x_call, ↓x_callK, ↓eSrc, ↓iSeqD, ↓iRg1, ↓iRg2, ↓iRg3, ↓iEnumD, ↓iZipD, ↓gNm, ↓gTp, ↓gsC, ↓gsN, ↓eYes, x_var0, x_var0o, x_varS, fAdd_ii, fAdd_ll, fAdd_tt, fAdd_ss, fMul_ii, fMul_li, fMul_ti, fSub_ii, fDiv_ii, fMod_ii, fPow_ii, fLt_ii, fLe_ii, fGt_ii, fGe_ii, ↓fEq, ↓fNe, ↓fIsN, ↓fNotN, x_lenL, x_lenT, x_lenS, x_lenR, x_lenC, fAbs_i, fInt_i, fInt_b, x_isi, List.set_cons_zero, List.set_cons_succ, List.getElem?_cons_zero, List.getElem?_cons_succ, items_l, items_t, okSt, mdOf, md_i, md_b, md_n, md_s, md_t, md_l, md_y, Md.isCl, Md.isNw, Md.meet, atI_0, atI_m1, atI_1, atI_2, atI_nat, cond_true, cond_false, isNon_i, isNon_n, isT_ii, isT_ib, isT_it, isT_il, isT_bi, isT_bb, isT_tt, isT_ti, isT_lt, isT_ll, isT_nt, isT_ni, isT_nl, tyN_i, tyN_b, tyN_t, tyN_l, tyN_n, dS_isT, dR_isT, dS_tyN, dR_tyN, dQ_isNon, D.flat, D.flats, flats_cons, flats_nil, flats_ints, flat_tup, putOk, slOf_f, slOf_t, Option.some.injEq, D.int.injEq, D.bl.injEq, D.lst.injEq, D.tup.injEq, D.str.injEq, D.scr.injEq, D.ty.injEq, x_consD, x_consD0, x_consD1, and_assoc, reduceCtorEq, exists_eq, exists_eq', exists_eq_left, exists_eq_left', exists_eq_right, exists_eq_right', exists_and_left, exists_and_right, and_true, true_and, and_self, and_false, false_and, or_true, true_or, or_false, false_or, if_true, if_false, ite_true, ite_false, decide_eq_true_eq, decide_eq_false_iff_not, Bool.not_eq_true, Bool.not_eq_true', Bool.not_true, Bool.not_false, Bool.true_eq_false, Bool.false_eq_true, not_true_eq_false, not_false_eq_true, eq_self_iff_true, forall_const, imp_self, List.length_cons, List.length_nil, List.append_nil, List.nil_append, List.cons_append, cpow_6, cpow_18, cpow_5, cpow_7, cpow_15, cpow_12, CMul, Nat.reduceAdd, Nat.reduceLeDiff, Nat.reduceLT, Int.reducePow, Int.reduceNeg, Int.reduceLT, Int.reduceLE, Int.reduceToNat, Int.reduceMul, Int.reduceAdd, Int.reduceSub, frzE, frz1, wipeE, all_nil, all_cons, endsF, x_start, List.map_cons, List.map_nil, List.replicate_succ, List.replicate_zero, Nat.reduceSub, Int.reduceEq, Nat.reduceEqDiff, List.mem_cons, List.not_mem_nil, x_isTs, or_self, Option.isSome_some, Option.isSome_none, String.reduceEq, dS_inj, dR_inj, dQ_inj, dQ_non, dQ_int, dS_md, dR_md, dQ_md, dS_flat, dR_flat, dQ_flat, dS_items, dR_items, List.getElem?_map, Option.map_some, Option.map_none, shp_i, shp_n, shp_b, shp_li, shp_S, shp_R, shp_lS, shp_Q, shp_l0, eqb_int, eqb_l, eqb_S, eqb_R, eqbs_ints, eqbs_dS, eqbs_nil0, eqbs_nilL, eqbs_nilR, Sl.own.injEq, Sl.val.injEq, List.length_map, dR_lst, dR_tup, dS_lst, dS_tup, flats_S, cut_map, cut_1, dR_fold, dS_fold, inI_t, inI_f, Bool.or_false, List.getLast?_map, exists_false, exists_const, Bool.and_self, Bool.and_true, Bool.true_and, Bool.and_false, Bool.false_and, add_S, List.isEmpty_map, fMax_2, fMax_3, fMin_2, flat_non, flat_i, ↓u_for, ↓u_comp, fS_v, fS_n, fS_o, shp_lli, eqbs_dL, ↓eSortSet, int_inj, fList_S, fList_R, sum_S, sum_li, x_is_between, x_is_sample, x_is_samples, x_distance, x_need_samples, x_need_threshold, x_need_silence, x_is_late, x_source, x_draw, x_samples, x_gap, x_limit, x_quiet, x_reported, x_reportedL, x_all_reports, x_all_reportsN, x_held_by, x_held_byT, x_reports, x_reports0, x_reportsI, x_held, x_held0, x_heldI, x_largest_error, x_largest_errorI, x_spread_within, x_spread_withinL, x_need_spread]
theorem w_starts_of (ds : List D) (q : D → Prop) (h : c_starts_of ds q) : t_starts_of (endsF true q) (startE 6 ds) := by
  obtain ⟨rs, t, s, rfl, ⟨hp, hm, c, h1, h2, hr⟩, h⟩ := h
  simp only [x_start, List.map_cons, List.map_nil, List.length_cons, List.length_nil, List.replicate_succ, List.replicate_zero, List.cons_append, List.nil_append, Nat.reduceSub, Nat.reduceAdd]
  simp only [t_starts_of, ↓sSeq, ↓sRet, ↓sIf, ↓sSet, ↓sOwn, ↓sAsg, ↓sDrop, ↓sNext, ↓sBreak, ↓sNever, ↓sFrz, ↓sApp, ↓sSetIx, ↓sSrc, ↓sPar, ↓sPar3, ↓sAug, ↓sNewSrc, ↓eC, ↓eTest, ↓eAnd, ↓eOr, ↓eNot, ↓eAndV, ↓eOrV, ↓eNotV, ↓eIf, ↓eChain, ↓eNeg, ↓eIx, ↓eIxS, ↓eSl, ↓oNone, ↓oSome, ↓aNil, ↓aCons, ↓eTup, ↓eLst, ↓eTupM, ↓eLstM, ↓eCB, ↓eBin, ↓x_call, ↓x_callK, ↓eSrc, ↓iSeqD, ↓iRg1, ↓iRg2, ↓iRg3, ↓iEnumD, ↓iZipD, ↓gNm, ↓gTp, ↓gsC, ↓gsN, ↓eYes, x_var0, x_var0o, x_varS, fAdd_ii, fAdd_ll, fAdd_tt, fAdd_ss, fMul_ii, fMul_li, fMul_ti, fSub_ii, fDiv_ii, fMod_ii, fPow_ii, fLt_ii, fLe_ii, fGt_ii, fGe_ii, ↓fEq, ↓fNe, ↓fIsN, ↓fNotN, x_lenL, x_lenT, x_lenS, x_lenR, x_lenC, fAbs_i, fInt_i, fInt_b, x_isi, List.set_cons_zero, List.set_cons_succ, List.getElem?_cons_zero, List.getElem?_cons_succ, items_l, items_t, okSt, mdOf, md_i, md_b, md_n, md_s, md_t, md_l, md_y, Md.isCl, Md.isNw, Md.meet, atI_0, atI_m1, atI_1, atI_2, atI_nat, cond_true, cond_false, isNon_i, isNon_n, isT_ii, isT_ib, isT_it, isT_il, isT_bi, isT_bb, isT_tt, isT_ti, isT_lt, isT_ll, isT_nt, isT_ni, isT_nl, tyN_i, tyN_b, tyN_t, tyN_l, tyN_n, dS_isT, dR_isT, dS_tyN, dR_tyN, dQ_isNon, D.flat, D.flats, flats_cons, flats_nil, flats_ints, flat_tup, putOk, slOf_f, slOf_t, Option.some.injEq, D.int.injEq, D.bl.injEq, D.lst.injEq, D.tup.injEq, D.str.injEq, D.scr.injEq, D.ty.injEq, x_consD, x_consD0, x_consD1, and_assoc, reduceCtorEq, exists_eq, exists_eq', exists_eq_left, exists_eq_left', exists_eq_right, exists_eq_right', exists_and_left, exists_and_right, and_true, true_and, and_self, and_false, false_and, or_true, true_or, or_false, false_or, if_true, if_false, ite_true, ite_false, decide_eq_true_eq, decide_eq_false_iff_not, Bool.not_eq_true, Bool.not_eq_true', Bool.not_true, Bool.not_false, Bool.true_eq_false, Bool.false_eq_true, not_true_eq_false, not_false_eq_true, eq_self_iff_true, forall_const, imp_self, List.length_cons, List.length_nil, List.append_nil, List.nil_append, List.cons_append, cpow_6, cpow_18, cpow_5, cpow_7, cpow_15, cpow_12, CMul, Nat.reduceAdd, Nat.reduceLeDiff, Nat.reduceLT, Int.reducePow, Int.reduceNeg, Int.reduceLT, Int.reduceLE, Int.reduceToNat, Int.reduceMul, Int.reduceAdd, Int.reduceSub, frzE, frz1, wipeE, all_nil, all_cons, endsF, x_start, List.map_cons, List.map_nil, List.replicate_succ, List.replicate_zero, Nat.reduceSub, Int.reduceEq, Nat.reduceEqDiff, List.mem_cons, List.not_mem_nil, x_isTs, or_self, Option.isSome_some, Option.isSome_none, String.reduceEq, dS_inj, dR_inj, dQ_inj, dQ_non, dQ_int, dS_md, dR_md, dQ_md, dS_flat, dR_flat, dQ_flat, dS_items, dR_items, List.getElem?_map, Option.map_some, Option.map_none, shp_i, shp_n, shp_b, shp_li, shp_S, shp_R, shp_lS, shp_Q, shp_l0, eqb_int, eqb_l, eqb_S, eqb_R, eqbs_ints, eqbs_dS, eqbs_nil0, eqbs_nilL, eqbs_nilR, Sl.own.injEq, Sl.val.injEq, List.length_map, dR_lst, dR_tup, dS_lst, dS_tup, flats_S, cut_map, cut_1, dR_fold, dS_fold, inI_t, inI_f, Bool.or_false, List.getLast?_map, exists_false, exists_const, Bool.and_self, Bool.and_true, Bool.true_and, Bool.and_false, Bool.false_and, add_S, List.isEmpty_map, fMax_2, fMax_3, fMin_2, flat_non, flat_i, ↓u_for, ↓u_comp, fS_v, fS_n, fS_o, shp_lli, eqbs_dL, ↓eSortSet, int_inj, fList_S, fList_R, sum_S, sum_li, x_is_between, x_is_sample, x_is_samples, x_distance, x_need_samples, x_need_threshold, x_need_silence, x_is_late, x_source, x_draw, x_samples, x_gap, x_limit, x_quiet, x_reported, x_reportedL, x_all_reports, x_all_reportsN, x_held_by, x_held_byT, x_reports, x_reports0, x_reportsI, x_held, x_held0, x_heldI, x_largest_error, x_largest_errorI, x_spread_within, x_spread_withinL, x_need_spread, x_starts_of]
  refine ⟨by omega, by omega, ?_⟩
  refine for_st (σ := List Nat) (List.range (rs.length - 1)) (fun i => .int (1 + (i : Nat))) (fun f => [.val (dR rs), .val (.int t), .val (dQ s), .own ((f.map Int.ofNat).map .int), .non, .non])
    (fun i f => f.length ≤ i + 1 ∧ ∃ l, f.getLast? = some l ∧ l < i + 1 ∧ f ++ greedy (cS t s rs) (rs.length - 1 - i) (i + 1) l = 0 :: greedy (cS t s rs) (rs.length - 1) 1 0) [0]
    (by rw [rgLo, show ((rs.length : Int) - 1).toNat = rs.length - 1 by omega]) rfl (fun z => nomatch z) rfl ⟨Nat.le_refl _, 0, rfl, by omega, rfl⟩ ?_ ?_
  · rintro i j f hx ⟨hf, l, h1', h2', hI⟩ N hN
    obtain ⟨rfl, hi⟩ := get_range hx
    have ej : (1 : Int) + (j : Nat) = ((j + 1 : Nat) : Int) := by omega
    have hsl : seg rs l (j + 1) ≠ [] := fun z => by
      have : rowAt rs l ∈ seg rs l (j + 1) := (mem_seg (by omega)).mpr ⟨l, Nat.le_refl _, by omega, rfl⟩
      rw [z] at this
      cases this
    have hok : OkC (seg rs l (j + 1)) := ⟨List.length_pos_iff.mpr hsl, by unfold seg; rw [List.length_take]; omega, c, h1, h2, fun r h => by
      obtain ⟨k, a, b, rfl⟩ := (mem_seg (by omega)).mp h
      exact hr _ (getD_mem (by omega))⟩
    rw [show rs.length - 1 - j = (rs.length - 1 - (j + 1)) + 1 by omega, greedy_s] at hI
    have cut : cutL rs (some (l : Int)) (some (((j + 1 : Nat) : Int) + 1)) = seg rs l (j + 1) := cut_seg (by omega) (by omega)
    try simp only [↓sSeq, ↓sRet, ↓sIf, ↓sSet, ↓sOwn, ↓sAsg, ↓sDrop, ↓sNext, ↓sBreak, ↓sNever, ↓sFrz, ↓sApp, ↓sSetIx, ↓sSrc, ↓sPar, ↓sPar3, ↓sAug, ↓sNewSrc, ↓eC, ↓eTest, ↓eAnd, ↓eOr, ↓eNot, ↓eAndV, ↓eOrV, ↓eNotV, ↓eIf, ↓eChain, ↓eNeg, ↓eIx, ↓eIxS, ↓eSl, ↓oNone, ↓oSome, ↓aNil, ↓aCons, ↓eTup, ↓eLst, ↓eTupM, ↓eLstM, ↓eCB, ↓eBin, ↓x_call, ↓x_callK, ↓eSrc, ↓iSeqD, ↓iRg1, ↓iRg2, ↓iRg3, ↓iEnumD, ↓iZipD, ↓gNm, ↓gTp, ↓gsC, ↓gsN, ↓eYes, x_var0, x_var0o, x_varS, fAdd_ii, fAdd_ll, fAdd_tt, fAdd_ss, fMul_ii, fMul_li, fMul_ti, fSub_ii, fDiv_ii, fMod_ii, fPow_ii, fLt_ii, fLe_ii, fGt_ii, fGe_ii, ↓fEq, ↓fNe, ↓fIsN, ↓fNotN, x_lenL, x_lenT, x_lenS, x_lenR, x_lenC, fAbs_i, fInt_i, fInt_b, x_isi, List.set_cons_zero, List.set_cons_succ, List.getElem?_cons_zero, List.getElem?_cons_succ, items_l, items_t, okSt, mdOf, md_i, md_b, md_n, md_s, md_t, md_l, md_y, Md.isCl, Md.isNw, Md.meet, atI_0, atI_m1, atI_1, atI_2, atI_nat, cond_true, cond_false, isNon_i, isNon_n, isT_ii, isT_ib, isT_it, isT_il, isT_bi, isT_bb, isT_tt, isT_ti, isT_lt, isT_ll, isT_nt, isT_ni, isT_nl, tyN_i, tyN_b, tyN_t, tyN_l, tyN_n, dS_isT, dR_isT, dS_tyN, dR_tyN, dQ_isNon, D.flat, D.flats, flats_cons, flats_nil, flats_ints, flat_tup, putOk, slOf_f, slOf_t, Option.some.injEq, D.int.injEq, D.bl.injEq, D.lst.injEq, D.tup.injEq, D.str.injEq, D.scr.injEq, D.ty.injEq, x_consD, x_consD0, x_consD1, and_assoc, reduceCtorEq, exists_eq, exists_eq', exists_eq_left, exists_eq_left', exists_eq_right, exists_eq_right', exists_and_left, exists_and_right, and_true, true_and, and_self, and_false, false_and, or_true, true_or, or_false, false_or, if_true, if_false, ite_true, ite_false, decide_eq_true_eq, decide_eq_false_iff_not, Bool.not_eq_true, Bool.not_eq_true', Bool.not_true, Bool.not_false, Bool.true_eq_false, Bool.false_eq_true, not_true_eq_false, not_false_eq_true, eq_self_iff_true, forall_const, imp_self, List.length_cons, List.length_nil, List.append_nil, List.nil_append, List.cons_append, cpow_6, cpow_18, cpow_5, cpow_7, cpow_15, cpow_12, CMul, Nat.reduceAdd, Nat.reduceLeDiff, Nat.reduceLT, Int.reducePow, Int.reduceNeg, Int.reduceLT, Int.reduceLE, Int.reduceToNat, Int.reduceMul, Int.reduceAdd, Int.reduceSub, frzE, frz1, wipeE, all_nil, all_cons, endsF, x_start, List.map_cons, List.map_nil, List.replicate_succ, List.replicate_zero, Nat.reduceSub, Int.reduceEq, Nat.reduceEqDiff, List.mem_cons, List.not_mem_nil, x_isTs, or_self, Option.isSome_some, Option.isSome_none, String.reduceEq, dS_inj, dR_inj, dQ_inj, dQ_non, dQ_int, dS_md, dR_md, dQ_md, dS_flat, dR_flat, dQ_flat, dS_items, dR_items, List.getElem?_map, Option.map_some, Option.map_none, shp_i, shp_n, shp_b, shp_li, shp_S, shp_R, shp_lS, shp_Q, shp_l0, eqb_int, eqb_l, eqb_S, eqb_R, eqbs_ints, eqbs_dS, eqbs_nil0, eqbs_nilL, eqbs_nilR, Sl.own.injEq, Sl.val.injEq, List.length_map, dR_lst, dR_tup, dS_lst, dS_tup, flats_S, cut_map, cut_1, dR_fold, dS_fold, inI_t, inI_f, Bool.or_false, List.getLast?_map, exists_false, exists_const, Bool.and_self, Bool.and_true, Bool.true_and, Bool.and_false, Bool.false_and, add_S, List.isEmpty_map, fMax_2, fMax_3, fMin_2, flat_non, flat_i, ↓u_for, ↓u_comp, fS_v, fS_n, fS_o, shp_lli, eqbs_dL, ↓eSortSet, int_inj, fList_S, fList_R, sum_S, sum_li, x_is_between, x_is_sample, x_is_samples, x_distance, x_need_samples, x_need_threshold, x_need_silence, x_is_late, x_source, x_draw, x_samples, x_gap, x_limit, x_quiet, x_reported, x_reportedL, x_all_reports, x_all_reportsN, x_held_by, x_held_byT, x_reports, x_reports0, x_reportsI, x_held, x_held0, x_heldI, x_largest_error, x_largest_errorI, x_spread_within, x_spread_withinL, x_need_spread, x_starts_of, ej, h1', Int.ofNat_eq_natCast, cut, flats_S]
    refine ⟨hok, ?_⟩
    have add : t < spr (seg rs l (j + 1)) ∨ late l ((j + 1 : Nat) : Int) s = true → f.length ≤ 100000 ∧ N [.val (dR rs), .val (.int t), .val (dQ s), .own ((f.map Int.ofNat).map D.int ++ [.int ((j + 1 : Nat) : Int)]), .val (.int ((j + 1 : Nat) : Int)), .val (.int (l : Nat))] := fun z => by
      have : cS t s rs l (j + 1) = true := decide_eq_true z
      rw [if_pos this] at hI
      exact ⟨by omega, hN (f ++ [j + 1]) _ ⟨by rw [List.length_append]; simp; omega, j + 1, by simp, by omega, by rw [List.append_assoc]; exact hI⟩ (by simp [wipeE])⟩
    split
    · rename_i hc; exact add (.inl hc)
    · rename_i hc
      split
      · rename_i hc2; exact add (.inr hc2)
      · rename_i hc2
        have : ¬ cS t s rs l (j + 1) = true := fun z => (of_decide_eq_true z).elim hc hc2
        rw [if_neg this] at hI
        exact hN f _ ⟨by omega, l, h1', by omega, hI⟩ rfl
  · rintro f ⟨hf, l, h1, h2, hI⟩
    rw [List.length_range, Nat.sub_self, greedy_0, List.append_nil] at hI
    try simp only [↓sSeq, ↓sRet, ↓sIf, ↓sSet, ↓sOwn, ↓sAsg, ↓sDrop, ↓sNext, ↓sBreak, ↓sNever, ↓sFrz, ↓sApp, ↓sSetIx, ↓sSrc, ↓sPar, ↓sPar3, ↓sAug, ↓sNewSrc, ↓eC, ↓eTest, ↓eAnd, ↓eOr, ↓eNot, ↓eAndV, ↓eOrV, ↓eNotV, ↓eIf, ↓eChain, ↓eNeg, ↓eIx, ↓eIxS, ↓eSl, ↓oNone, ↓oSome, ↓aNil, ↓aCons, ↓eTup, ↓eLst, ↓eTupM, ↓eLstM, ↓eCB, ↓eBin, ↓x_call, ↓x_callK, ↓eSrc, ↓iSeqD, ↓iRg1, ↓iRg2, ↓iRg3, ↓iEnumD, ↓iZipD, ↓gNm, ↓gTp, ↓gsC, ↓gsN, ↓eYes, x_var0, x_var0o, x_varS, fAdd_ii, fAdd_ll, fAdd_tt, fAdd_ss, fMul_ii, fMul_li, fMul_ti, fSub_ii, fDiv_ii, fMod_ii, fPow_ii, fLt_ii, fLe_ii, fGt_ii, fGe_ii, ↓fEq, ↓fNe, ↓fIsN, ↓fNotN, x_lenL, x_lenT, x_lenS, x_lenR, x_lenC, fAbs_i, fInt_i, fInt_b, x_isi, List.set_cons_zero, List.set_cons_succ, List.getElem?_cons_zero, List.getElem?_cons_succ, items_l, items_t, okSt, mdOf, md_i, md_b, md_n, md_s, md_t, md_l, md_y, Md.isCl, Md.isNw, Md.meet, atI_0, atI_m1, atI_1, atI_2, atI_nat, cond_true, cond_false, isNon_i, isNon_n, isT_ii, isT_ib, isT_it, isT_il, isT_bi, isT_bb, isT_tt, isT_ti, isT_lt, isT_ll, isT_nt, isT_ni, isT_nl, tyN_i, tyN_b, tyN_t, tyN_l, tyN_n, dS_isT, dR_isT, dS_tyN, dR_tyN, dQ_isNon, D.flat, D.flats, flats_cons, flats_nil, flats_ints, flat_tup, putOk, slOf_f, slOf_t, Option.some.injEq, D.int.injEq, D.bl.injEq, D.lst.injEq, D.tup.injEq, D.str.injEq, D.scr.injEq, D.ty.injEq, x_consD, x_consD0, x_consD1, and_assoc, reduceCtorEq, exists_eq, exists_eq', exists_eq_left, exists_eq_left', exists_eq_right, exists_eq_right', exists_and_left, exists_and_right, and_true, true_and, and_self, and_false, false_and, or_true, true_or, or_false, false_or, if_true, if_false, ite_true, ite_false, decide_eq_true_eq, decide_eq_false_iff_not, Bool.not_eq_true, Bool.not_eq_true', Bool.not_true, Bool.not_false, Bool.true_eq_false, Bool.false_eq_true, not_true_eq_false, not_false_eq_true, eq_self_iff_true, forall_const, imp_self, List.length_cons, List.length_nil, List.append_nil, List.nil_append, List.cons_append, cpow_6, cpow_18, cpow_5, cpow_7, cpow_15, cpow_12, CMul, Nat.reduceAdd, Nat.reduceLeDiff, Nat.reduceLT, Int.reducePow, Int.reduceNeg, Int.reduceLT, Int.reduceLE, Int.reduceToNat, Int.reduceMul, Int.reduceAdd, Int.reduceSub, frzE, frz1, wipeE, all_nil, all_cons, endsF, x_start, List.map_cons, List.map_nil, List.replicate_succ, List.replicate_zero, Nat.reduceSub, Int.reduceEq, Nat.reduceEqDiff, List.mem_cons, List.not_mem_nil, x_isTs, or_self, Option.isSome_some, Option.isSome_none, String.reduceEq, dS_inj, dR_inj, dQ_inj, dQ_non, dQ_int, dS_md, dR_md, dQ_md, dS_flat, dR_flat, dQ_flat, dS_items, dR_items, List.getElem?_map, Option.map_some, Option.map_none, shp_i, shp_n, shp_b, shp_li, shp_S, shp_R, shp_lS, shp_Q, shp_l0, eqb_int, eqb_l, eqb_S, eqb_R, eqbs_ints, eqbs_dS, eqbs_nil0, eqbs_nilL, eqbs_nilR, Sl.own.injEq, Sl.val.injEq, List.length_map, dR_lst, dR_tup, dS_lst, dS_tup, flats_S, cut_map, cut_1, dR_fold, dS_fold, inI_t, inI_f, Bool.or_false, List.getLast?_map, exists_false, exists_const, Bool.and_self, Bool.and_true, Bool.true_and, Bool.and_false, Bool.false_and, add_S, List.isEmpty_map, fMax_2, fMax_3, fMin_2, flat_non, flat_i, ↓u_for, ↓u_comp, fS_v, fS_n, fS_o, shp_lli, eqbs_dL, ↓eSortSet, int_inj, fList_S, fList_R, sum_S, sum_li, x_is_between, x_is_sample, x_is_samples, x_distance, x_need_samples, x_need_threshold, x_need_silence, x_is_late, x_source, x_draw, x_samples, x_gap, x_limit, x_quiet, x_reported, x_reportedL, x_all_reports, x_all_reportsN, x_held_by, x_held_byT, x_reports, x_reports0, x_reportsI, x_held, x_held0, x_heldI, x_largest_error, x_largest_errorI, x_spread_within, x_spread_withinL, x_need_spread, x_starts_of]
    rw [hI]
    refine tuple_I ?_
    try simp only [↓sSeq, ↓sRet, ↓sIf, ↓sSet, ↓sOwn, ↓sAsg, ↓sDrop, ↓sNext, ↓sBreak, ↓sNever, ↓sFrz, ↓sApp, ↓sSetIx, ↓sSrc, ↓sPar, ↓sPar3, ↓sAug, ↓sNewSrc, ↓eC, ↓eTest, ↓eAnd, ↓eOr, ↓eNot, ↓eAndV, ↓eOrV, ↓eNotV, ↓eIf, ↓eChain, ↓eNeg, ↓eIx, ↓eIxS, ↓eSl, ↓oNone, ↓oSome, ↓aNil, ↓aCons, ↓eTup, ↓eLst, ↓eTupM, ↓eLstM, ↓eCB, ↓eBin, ↓x_call, ↓x_callK, ↓eSrc, ↓iSeqD, ↓iRg1, ↓iRg2, ↓iRg3, ↓iEnumD, ↓iZipD, ↓gNm, ↓gTp, ↓gsC, ↓gsN, ↓eYes, x_var0, x_var0o, x_varS, fAdd_ii, fAdd_ll, fAdd_tt, fAdd_ss, fMul_ii, fMul_li, fMul_ti, fSub_ii, fDiv_ii, fMod_ii, fPow_ii, fLt_ii, fLe_ii, fGt_ii, fGe_ii, ↓fEq, ↓fNe, ↓fIsN, ↓fNotN, x_lenL, x_lenT, x_lenS, x_lenR, x_lenC, fAbs_i, fInt_i, fInt_b, x_isi, List.set_cons_zero, List.set_cons_succ, List.getElem?_cons_zero, List.getElem?_cons_succ, items_l, items_t, okSt, mdOf, md_i, md_b, md_n, md_s, md_t, md_l, md_y, Md.isCl, Md.isNw, Md.meet, atI_0, atI_m1, atI_1, atI_2, atI_nat, cond_true, cond_false, isNon_i, isNon_n, isT_ii, isT_ib, isT_it, isT_il, isT_bi, isT_bb, isT_tt, isT_ti, isT_lt, isT_ll, isT_nt, isT_ni, isT_nl, tyN_i, tyN_b, tyN_t, tyN_l, tyN_n, dS_isT, dR_isT, dS_tyN, dR_tyN, dQ_isNon, D.flat, D.flats, flats_cons, flats_nil, flats_ints, flat_tup, putOk, slOf_f, slOf_t, Option.some.injEq, D.int.injEq, D.bl.injEq, D.lst.injEq, D.tup.injEq, D.str.injEq, D.scr.injEq, D.ty.injEq, x_consD, x_consD0, x_consD1, and_assoc, reduceCtorEq, exists_eq, exists_eq', exists_eq_left, exists_eq_left', exists_eq_right, exists_eq_right', exists_and_left, exists_and_right, and_true, true_and, and_self, and_false, false_and, or_true, true_or, or_false, false_or, if_true, if_false, ite_true, ite_false, decide_eq_true_eq, decide_eq_false_iff_not, Bool.not_eq_true, Bool.not_eq_true', Bool.not_true, Bool.not_false, Bool.true_eq_false, Bool.false_eq_true, not_true_eq_false, not_false_eq_true, eq_self_iff_true, forall_const, imp_self, List.length_cons, List.length_nil, List.append_nil, List.nil_append, List.cons_append, cpow_6, cpow_18, cpow_5, cpow_7, cpow_15, cpow_12, CMul, Nat.reduceAdd, Nat.reduceLeDiff, Nat.reduceLT, Int.reducePow, Int.reduceNeg, Int.reduceLT, Int.reduceLE, Int.reduceToNat, Int.reduceMul, Int.reduceAdd, Int.reduceSub, frzE, frz1, wipeE, all_nil, all_cons, endsF, x_start, List.map_cons, List.map_nil, List.replicate_succ, List.replicate_zero, Nat.reduceSub, Int.reduceEq, Nat.reduceEqDiff, List.mem_cons, List.not_mem_nil, x_isTs, or_self, Option.isSome_some, Option.isSome_none, String.reduceEq, dS_inj, dR_inj, dQ_inj, dQ_non, dQ_int, dS_md, dR_md, dQ_md, dS_flat, dR_flat, dQ_flat, dS_items, dR_items, List.getElem?_map, Option.map_some, Option.map_none, shp_i, shp_n, shp_b, shp_li, shp_S, shp_R, shp_lS, shp_Q, shp_l0, eqb_int, eqb_l, eqb_S, eqb_R, eqbs_ints, eqbs_dS, eqbs_nil0, eqbs_nilL, eqbs_nilR, Sl.own.injEq, Sl.val.injEq, List.length_map, dR_lst, dR_tup, dS_lst, dS_tup, flats_S, cut_map, cut_1, dR_fold, dS_fold, inI_t, inI_f, Bool.or_false, List.getLast?_map, exists_false, exists_const, Bool.and_self, Bool.and_true, Bool.true_and, Bool.and_false, Bool.false_and, add_S, List.isEmpty_map, fMax_2, fMax_3, fMin_2, flat_non, flat_i, ↓u_for, ↓u_comp, fS_v, fS_n, fS_o, shp_lli, eqbs_dL, ↓eSortSet, int_inj, fList_S, fList_R, sum_S, sum_li, x_is_between, x_is_sample, x_is_samples, x_distance, x_need_samples, x_need_threshold, x_need_silence, x_is_late, x_source, x_draw, x_samples, x_gap, x_limit, x_quiet, x_reported, x_reportedL, x_all_reports, x_all_reportsN, x_held_by, x_held_byT, x_reports, x_reports0, x_reportsI, x_held, x_held0, x_heldI, x_largest_error, x_largest_errorI, x_spread_within, x_spread_withinL, x_need_spread, x_starts_of]
    exact h
def t_fewest_stretches : S1 := (sSeq (sDrop (eCall true [] c_need_samples (aCons (eVar 0) aNil))) (sSeq (sDrop (eCall true [] c_need_spread (aCons (eVar 1) aNil))) (sSeq (sDrop (eCall true [] c_need_silence (aCons (eVar 2) aNil))) (sRet (eCB fLen (aCons (eCall true [] c_starts_of (aCons (eVar 0) (aCons (eVar 1) (aCons (eVar 2) aNil)))) aNil))))))
theorem starts_length {t : Int} {s : Option Int} {rs : List Row} : (starts t s rs).length = 1 + (greedy (cS t s rs) (rs.length - 1) 1 0).length := by
  unfold starts
  rw [List.length_map, List.length_cons]
  omega
def c_fewest_stretches : C1 := fun ds q => ∃ (rs : List Row) (t : Int) (s : Option Int), ds = [dR rs, .int t, dQ s] ∧ OkA rs t s ∧ q (.int (starts t s rs).length)
theorem m_fewest_stretches : MonoC c_fewest_stretches := fun ds q q' k ⟨rs, t, s, e, h1, h⟩ => ⟨rs, t, s, e, h1, k _ h⟩
theorem x_fewest_stretches {rs : List Row} {t : Int} {s : Option Int} {q : D → Prop} : callC c_fewest_stretches [dR rs, .int t, dQ s] q = (OkA rs t s ∧ q (.int (starts t s rs).length)) := by
  simp only [callC, c_fewest_stretches, ↓sSeq, ↓sRet, ↓sIf, ↓sSet, ↓sOwn, ↓sAsg, ↓sDrop, ↓sNext, ↓sBreak, ↓sNever, ↓sFrz, ↓sApp, ↓sSetIx, ↓sSrc, ↓sPar, ↓sPar3, ↓sAug, ↓sNewSrc, ↓eC, ↓eTest, ↓eAnd, ↓eOr, ↓eNot, ↓eAndV, ↓eOrV, ↓eNotV, ↓eIf, ↓eChain, ↓eNeg, ↓eIx, ↓eIxS, ↓eSl, ↓oNone, ↓oSome, ↓aNil, ↓aCons, ↓eTup, ↓eLst, ↓eTupM, ↓eLstM, ↓eCB, ↓eBin, ↓x_call, ↓x_callK, ↓eSrc, ↓iSeqD, ↓iRg1, ↓iRg2, ↓iRg3, ↓iEnumD, ↓iZipD, ↓gNm, ↓gTp, ↓gsC, ↓gsN, ↓eYes, x_var0, x_var0o, x_varS, fAdd_ii, fAdd_ll, fAdd_tt, fAdd_ss, fMul_ii, fMul_li, fMul_ti, fSub_ii, fDiv_ii, fMod_ii, fPow_ii, fLt_ii, fLe_ii, fGt_ii, fGe_ii, ↓fEq, ↓fNe, ↓fIsN, ↓fNotN, x_lenL, x_lenT, x_lenS, x_lenR, x_lenC, fAbs_i, fInt_i, fInt_b, x_isi, List.set_cons_zero, List.set_cons_succ, List.getElem?_cons_zero, List.getElem?_cons_succ, items_l, items_t, okSt, mdOf, md_i, md_b, md_n, md_s, md_t, md_l, md_y, Md.isCl, Md.isNw, Md.meet, atI_0, atI_m1, atI_1, atI_2, atI_nat, cond_true, cond_false, isNon_i, isNon_n, isT_ii, isT_ib, isT_it, isT_il, isT_bi, isT_bb, isT_tt, isT_ti, isT_lt, isT_ll, isT_nt, isT_ni, isT_nl, tyN_i, tyN_b, tyN_t, tyN_l, tyN_n, dS_isT, dR_isT, dS_tyN, dR_tyN, dQ_isNon, D.flat, D.flats, flats_cons, flats_nil, flats_ints, flat_tup, putOk, slOf_f, slOf_t, Option.some.injEq, D.int.injEq, D.bl.injEq, D.lst.injEq, D.tup.injEq, D.str.injEq, D.scr.injEq, D.ty.injEq, x_consD, x_consD0, x_consD1, and_assoc, reduceCtorEq, exists_eq, exists_eq', exists_eq_left, exists_eq_left', exists_eq_right, exists_eq_right', exists_and_left, exists_and_right, and_true, true_and, and_self, and_false, false_and, or_true, true_or, or_false, false_or, if_true, if_false, ite_true, ite_false, decide_eq_true_eq, decide_eq_false_iff_not, Bool.not_eq_true, Bool.not_eq_true', Bool.not_true, Bool.not_false, Bool.true_eq_false, Bool.false_eq_true, not_true_eq_false, not_false_eq_true, eq_self_iff_true, forall_const, imp_self, List.length_cons, List.length_nil, List.append_nil, List.nil_append, List.cons_append, cpow_6, cpow_18, cpow_5, cpow_7, cpow_15, cpow_12, CMul, Nat.reduceAdd, Nat.reduceLeDiff, Nat.reduceLT, Int.reducePow, Int.reduceNeg, Int.reduceLT, Int.reduceLE, Int.reduceToNat, Int.reduceMul, Int.reduceAdd, Int.reduceSub, frzE, frz1, wipeE, all_nil, all_cons, endsF, x_start, List.map_cons, List.map_nil, List.replicate_succ, List.replicate_zero, Nat.reduceSub, Int.reduceEq, Nat.reduceEqDiff, List.mem_cons, List.not_mem_nil, x_isTs, or_self, Option.isSome_some, Option.isSome_none, String.reduceEq, dS_inj, dR_inj, dQ_inj, dQ_non, dQ_int, dS_md, dR_md, dQ_md, dS_flat, dR_flat, dQ_flat, dS_items, dR_items, List.getElem?_map, Option.map_some, Option.map_none, shp_i, shp_n, shp_b, shp_li, shp_S, shp_R, shp_lS, shp_Q, shp_l0, eqb_int, eqb_l, eqb_S, eqb_R, eqbs_ints, eqbs_dS, eqbs_nil0, eqbs_nilL, eqbs_nilR, Sl.own.injEq, Sl.val.injEq, List.length_map, dR_lst, dR_tup, dS_lst, dS_tup, flats_S, cut_map, cut_1, dR_fold, dS_fold, inI_t, inI_f, Bool.or_false, List.getLast?_map, exists_false, exists_const, Bool.and_self, Bool.and_true, Bool.true_and, Bool.and_false, Bool.false_and, add_S, List.isEmpty_map, fMax_2, fMax_3, fMin_2, flat_non, flat_i, ↓u_for, ↓u_comp, fS_v, fS_n, fS_o, shp_lli, eqbs_dL, ↓eSortSet, int_inj, fList_S, fList_R, sum_S, sum_li, x_is_between, x_is_sample, x_is_samples, x_distance, x_need_samples, x_need_threshold, x_need_silence, x_is_late, x_source, x_draw, x_samples, x_gap, x_limit, x_quiet, x_reported, x_reportedL, x_all_reports, x_all_reportsN, x_held_by, x_held_byT, x_reports, x_reports0, x_reportsI, x_held, x_held0, x_heldI, x_largest_error, x_largest_errorI, x_spread_within, x_spread_withinL, x_need_spread, x_starts_of]
theorem x_fewest_stretches0 {rs : List Row} {t : Int} {q : D → Prop} : callC c_fewest_stretches [dR rs, .int t, .non] q = (OkA rs t none ∧ q (.int (starts t none rs).length)) := x_fewest_stretches (s := none)
theorem x_fewest_stretchesI {rs : List Row} {t k : Int} {q : D → Prop} : callC c_fewest_stretches [dR rs, .int t, .int k] q = (OkA rs t (some k) ∧ q (.int (starts t (some k) rs).length)) := x_fewest_stretches (s := some k)
theorem w_fewest_stretches (ds : List D) (q : D → Prop) (h : c_fewest_stretches ds q) : t_fewest_stretches (endsF true q) (startE 3 ds) := by
  obtain ⟨rs, t, s, rfl, ok, h⟩ := h
  simp only [x_start, List.map_cons, List.map_nil, List.length_cons, List.length_nil, List.replicate_succ, List.replicate_zero, List.cons_append, List.nil_append, Nat.reduceSub, Nat.reduceAdd]
  simp only [t_fewest_stretches, ↓sSeq, ↓sRet, ↓sIf, ↓sSet, ↓sOwn, ↓sAsg, ↓sDrop, ↓sNext, ↓sBreak, ↓sNever, ↓sFrz, ↓sApp, ↓sSetIx, ↓sSrc, ↓sPar, ↓sPar3, ↓sAug, ↓sNewSrc, ↓eC, ↓eTest, ↓eAnd, ↓eOr, ↓eNot, ↓eAndV, ↓eOrV, ↓eNotV, ↓eIf, ↓eChain, ↓eNeg, ↓eIx, ↓eIxS, ↓eSl, ↓oNone, ↓oSome, ↓aNil, ↓aCons, ↓eTup, ↓eLst, ↓eTupM, ↓eLstM, ↓eCB, ↓eBin, ↓x_call, ↓x_callK, ↓eSrc, ↓iSeqD, ↓iRg1, ↓iRg2, ↓iRg3, ↓iEnumD, ↓iZipD, ↓gNm, ↓gTp, ↓gsC, ↓gsN, ↓eYes, x_var0, x_var0o, x_varS, fAdd_ii, fAdd_ll, fAdd_tt, fAdd_ss, fMul_ii, fMul_li, fMul_ti, fSub_ii, fDiv_ii, fMod_ii, fPow_ii, fLt_ii, fLe_ii, fGt_ii, fGe_ii, ↓fEq, ↓fNe, ↓fIsN, ↓fNotN, x_lenL, x_lenT, x_lenS, x_lenR, x_lenC, fAbs_i, fInt_i, fInt_b, x_isi, List.set_cons_zero, List.set_cons_succ, List.getElem?_cons_zero, List.getElem?_cons_succ, items_l, items_t, okSt, mdOf, md_i, md_b, md_n, md_s, md_t, md_l, md_y, Md.isCl, Md.isNw, Md.meet, atI_0, atI_m1, atI_1, atI_2, atI_nat, cond_true, cond_false, isNon_i, isNon_n, isT_ii, isT_ib, isT_it, isT_il, isT_bi, isT_bb, isT_tt, isT_ti, isT_lt, isT_ll, isT_nt, isT_ni, isT_nl, tyN_i, tyN_b, tyN_t, tyN_l, tyN_n, dS_isT, dR_isT, dS_tyN, dR_tyN, dQ_isNon, D.flat, D.flats, flats_cons, flats_nil, flats_ints, flat_tup, putOk, slOf_f, slOf_t, Option.some.injEq, D.int.injEq, D.bl.injEq, D.lst.injEq, D.tup.injEq, D.str.injEq, D.scr.injEq, D.ty.injEq, x_consD, x_consD0, x_consD1, and_assoc, reduceCtorEq, exists_eq, exists_eq', exists_eq_left, exists_eq_left', exists_eq_right, exists_eq_right', exists_and_left, exists_and_right, and_true, true_and, and_self, and_false, false_and, or_true, true_or, or_false, false_or, if_true, if_false, ite_true, ite_false, decide_eq_true_eq, decide_eq_false_iff_not, Bool.not_eq_true, Bool.not_eq_true', Bool.not_true, Bool.not_false, Bool.true_eq_false, Bool.false_eq_true, not_true_eq_false, not_false_eq_true, eq_self_iff_true, forall_const, imp_self, List.length_cons, List.length_nil, List.append_nil, List.nil_append, List.cons_append, cpow_6, cpow_18, cpow_5, cpow_7, cpow_15, cpow_12, CMul, Nat.reduceAdd, Nat.reduceLeDiff, Nat.reduceLT, Int.reducePow, Int.reduceNeg, Int.reduceLT, Int.reduceLE, Int.reduceToNat, Int.reduceMul, Int.reduceAdd, Int.reduceSub, frzE, frz1, wipeE, all_nil, all_cons, endsF, x_start, List.map_cons, List.map_nil, List.replicate_succ, List.replicate_zero, Nat.reduceSub, Int.reduceEq, Nat.reduceEqDiff, List.mem_cons, List.not_mem_nil, x_isTs, or_self, Option.isSome_some, Option.isSome_none, String.reduceEq, dS_inj, dR_inj, dQ_inj, dQ_non, dQ_int, dS_md, dR_md, dQ_md, dS_flat, dR_flat, dQ_flat, dS_items, dR_items, List.getElem?_map, Option.map_some, Option.map_none, shp_i, shp_n, shp_b, shp_li, shp_S, shp_R, shp_lS, shp_Q, shp_l0, eqb_int, eqb_l, eqb_S, eqb_R, eqbs_ints, eqbs_dS, eqbs_nil0, eqbs_nilL, eqbs_nilR, Sl.own.injEq, Sl.val.injEq, List.length_map, dR_lst, dR_tup, dS_lst, dS_tup, flats_S, cut_map, cut_1, dR_fold, dS_fold, inI_t, inI_f, Bool.or_false, List.getLast?_map, exists_false, exists_const, Bool.and_self, Bool.and_true, Bool.true_and, Bool.and_false, Bool.false_and, add_S, List.isEmpty_map, fMax_2, fMax_3, fMin_2, flat_non, flat_i, ↓u_for, ↓u_comp, fS_v, fS_n, fS_o, shp_lli, eqbs_dL, ↓eSortSet, int_inj, fList_S, fList_R, sum_S, sum_li, x_is_between, x_is_sample, x_is_samples, x_distance, x_need_samples, x_need_threshold, x_need_silence, x_is_late, x_source, x_draw, x_samples, x_gap, x_limit, x_quiet, x_reported, x_reportedL, x_all_reports, x_all_reportsN, x_held_by, x_held_byT, x_reports, x_reports0, x_reportsI, x_held, x_held0, x_heldI, x_largest_error, x_largest_errorI, x_spread_within, x_spread_withinL, x_need_spread, x_starts_of, x_fewest_stretches, x_fewest_stretches0, x_fewest_stretchesI]
  exact ⟨ok.r, ok.t, ok.q, ok.r.c, h⟩
/-! ### reports and stretches -/
section
variable {t : Int} {s : Option Int} {rs : List Row} {c : Nat}
theorem late_false {s : Option Int} {l l' i : Nat} (hs : OkQ s) (h1 : l ≤ l') (h : late l i s ≠ true) : late l' i s ≠ true := fun z => h (by
  cases s with
  | none => cases z
  | some k =>
    have := of_decide_eq_true z
    exact decide_eq_true (by omega))
theorem cS_reports (hs : OkQ s) (h0 : 0 ≤ t) (hr : ∀ r ∈ rs, OkS c r) (l l' i : Nat) (hi : i < rs.length) (h1 : l ≤ l') (h2 : l' < i) (h : ∀ j, l < j → j ≤ i → cR t s (rowAt rs) l j = false) : cS (2 * t) s rs l' i = false := by
  have near : ∀ j, l ≤ j → j ≤ i → gap (rowAt rs j) (rowAt rs l) ≤ t := fun j x y => by
    by_cases e : l = j
    · subst e; rw [gap_self]; exact h0
    · have := of_decide_eq_false (h j (by omega) y)
      exact Int.not_lt.mp fun z => this (.inl z)
  refine decide_eq_false fun z => ?_
  rcases z with z | z
  · have : spr (seg rs l' i) ≤ 2 * t := (seg_le (by omega) hi).mpr fun j k a b c' d => by
      have x := near j (by omega) b
      have y := near k (by omega) d
      have tri := gap_tri (a := rowAt rs j) (b := rowAt rs l) (c := rowAt rs k) (by rw [rowAt_len hr j (by omega), rowAt_len hr l (by omega)]; exact Nat.le_refl _)
      rw [gap_comm] at y
      omega
    omega
  · have := of_decide_eq_false (h i (by omega) (Nat.le_refl _))
    exact late_false hs h1 (fun w => this (.inr w)) z
theorem cR_stretches (hs : OkQ s) (h0 : 0 ≤ t) (l l' i : Nat) (hi : i < rs.length) (h1 : l ≤ l') (h2 : l' < i) (h : ∀ j, l < j → j ≤ i → cS t s rs l j = false) : cR t s (rowAt rs) l' i = false := by
  have hc := of_decide_eq_false (h i (by omega) (Nat.le_refl _))
  refine decide_eq_false fun z => ?_
  rcases z with z | z
  · have : spr (seg rs l i) ≤ t := Int.not_lt.mp fun w => hc (.inl w)
    have := (seg_le h0 hi).mp this i l' (by omega) (Nat.le_refl _) h1 (by omega)
    omega
  · exact late_false hs h1 (fun w => hc (.inr w)) z
theorem stretches_reports (hp : 0 < rs.length) (hs : OkQ s) (h0 : 0 ≤ t) (hr : ∀ r ∈ rs, OkS c r) : (starts (2 * t) s rs).length ≤ (allRep t s rs).length := by
  rw [allRep_count hp, starts_length]
  have := (greedy_cmp (n := rs.length) (cS_reports hs h0 hr) (rs.length - 1) 1 0 0 (by omega) (by omega) (by omega) fun j _ _ => by omega).2 (Nat.le_refl _)
  omega
theorem reports_stretches (hp : 0 < rs.length) (hs : OkQ s) (h0 : 0 ≤ t) : (allRep t s rs).length ≤ (starts t s rs).length := by
  rw [allRep_count hp, starts_length]
  have := (greedy_cmp (n := rs.length) (cR_stretches hs h0) (rs.length - 1) 1 0 0 (by omega) (by omega) (by omega) fun j _ _ => by omega).2 (Nat.le_refl _)
  omega
end
end VL
/-! VC6: the reports by the rules in the law. -/
namespace VL
open PySem L2
def t__law_due : S1 := (sSeq (sOwn 3 (eLst (aCons (eC (.int 0)) aNil))) (sSeq (sFor false [4, 5] (iRg2 (aCons (eC (.int 1)) (aCons (eCB fLen (aCons (eVar 0) aNil)) aNil))) (gNm 4) (sSeq (sSet 5 (eIx (eVar 3) (eNeg (eC (.int 1))))) (sIf (eOr (eTest (eBin fGt (eCall true [] c__law_gap (aCons (eIx (eVar 0) (eVar 4)) (aCons (eIx (eVar 0) (eVar 5)) aNil))) (eVar 1))) (eAnd (eTest (eBin fNotN (eVar 2) (eC .non))) (eTest (eBin fGe (eBin fSub (eVar 4) (eVar 5)) (eVar 2))))) (sApp 3 (eVar 4)) sNext))) (sRet (eVar 3))))
def c__law_due : C1 := fun ds q => ∃ (rs : List Row) (t : Int) (s : Option Int), ds = [dR rs, .int t, dQ s] ∧ OkR rs ∧ q (.lst ((allRep t s rs).map .int))
theorem m__law_due : MonoC c__law_due := fun ds q q' k ⟨rs, t, s, e, h1, h⟩ => ⟨rs, t, s, e, h1, k _ h⟩
theorem x_due {rs : List Row} {t : Int} {s : Option Int} {q : D → Prop} : callC c__law_due [dR rs, .int t, dQ s] q = (OkR rs ∧ q (.lst ((allRep t s rs).map .int))) := by
  simp only [callC, c__law_due, ↓sSeq, ↓sRet, ↓sIf, ↓sSet, ↓sOwn, ↓sAsg, ↓sDrop, ↓sNext, ↓sBreak, ↓sNever, ↓sFrz, ↓sApp, ↓sSetIx, ↓sSrc, ↓sPar, ↓sPar3, ↓sAug, ↓sNewSrc, ↓eC, ↓eTest, ↓eAnd, ↓eOr, ↓eNot, ↓eAndV, ↓eOrV, ↓eNotV, ↓eIf, ↓eChain, ↓eNeg, ↓eIx, ↓eIxS, ↓eSl, ↓oNone, ↓oSome, ↓aNil, ↓aCons, ↓eTup, ↓eLst, ↓eTupM, ↓eLstM, ↓eCB, ↓eBin, ↓x_call, ↓x_callK, ↓eSrc, ↓iSeqD, ↓iRg1, ↓iRg2, ↓iRg3, ↓iEnumD, ↓iZipD, ↓gNm, ↓gTp, ↓gsC, ↓gsN, ↓eYes, x_var0, x_var0o, x_varS, fAdd_ii, fAdd_ll, fAdd_tt, fAdd_ss, fMul_ii, fMul_li, fMul_ti, fSub_ii, fDiv_ii, fMod_ii, fPow_ii, fLt_ii, fLe_ii, fGt_ii, fGe_ii, ↓fEq, ↓fNe, ↓fIsN, ↓fNotN, x_lenL, x_lenT, x_lenS, x_lenR, x_lenC, fAbs_i, fInt_i, fInt_b, x_isi, List.set_cons_zero, List.set_cons_succ, List.getElem?_cons_zero, List.getElem?_cons_succ, items_l, items_t, okSt, mdOf, md_i, md_b, md_n, md_s, md_t, md_l, md_y, Md.isCl, Md.isNw, Md.meet, atI_0, atI_m1, atI_1, atI_2, atI_nat, cond_true, cond_false, isNon_i, isNon_n, isT_ii, isT_ib, isT_it, isT_il, isT_bi, isT_bb, isT_tt, isT_ti, isT_lt, isT_ll, isT_nt, isT_ni, isT_nl, tyN_i, tyN_b, tyN_t, tyN_l, tyN_n, dS_isT, dR_isT, dS_tyN, dR_tyN, dQ_isNon, D.flat, D.flats, flats_cons, flats_nil, flats_ints, flat_tup, putOk, slOf_f, slOf_t, Option.some.injEq, D.int.injEq, D.bl.injEq, D.lst.injEq, D.tup.injEq, D.str.injEq, D.scr.injEq, D.ty.injEq, x_consD, x_consD0, x_consD1, and_assoc, reduceCtorEq, exists_eq, exists_eq', exists_eq_left, exists_eq_left', exists_eq_right, exists_eq_right', exists_and_left, exists_and_right, and_true, true_and, and_self, and_false, false_and, or_true, true_or, or_false, false_or, if_true, if_false, ite_true, ite_false, decide_eq_true_eq, decide_eq_false_iff_not, Bool.not_eq_true, Bool.not_eq_true', Bool.not_true, Bool.not_false, Bool.true_eq_false, Bool.false_eq_true, not_true_eq_false, not_false_eq_true, eq_self_iff_true, forall_const, imp_self, List.length_cons, List.length_nil, List.append_nil, List.nil_append, List.cons_append, cpow_6, cpow_18, cpow_5, cpow_7, cpow_15, cpow_12, CMul, Nat.reduceAdd, Nat.reduceLeDiff, Nat.reduceLT, Int.reducePow, Int.reduceNeg, Int.reduceLT, Int.reduceLE, Int.reduceToNat, Int.reduceMul, Int.reduceAdd, Int.reduceSub, frzE, frz1, wipeE, all_nil, all_cons, endsF, x_start, List.map_cons, List.map_nil, List.replicate_succ, List.replicate_zero, Nat.reduceSub, Int.reduceEq, Nat.reduceEqDiff, List.mem_cons, List.not_mem_nil, x_isTs, or_self, Option.isSome_some, Option.isSome_none, String.reduceEq, dS_inj, dR_inj, dQ_inj, dQ_non, dQ_int, dS_md, dR_md, dQ_md, dS_flat, dR_flat, dQ_flat, dS_items, dR_items, List.getElem?_map, Option.map_some, Option.map_none, shp_i, shp_n, shp_b, shp_li, shp_S, shp_R, shp_lS, shp_Q, shp_l0, eqb_int, eqb_l, eqb_S, eqb_R, eqbs_ints, eqbs_dS, eqbs_nil0, eqbs_nilL, eqbs_nilR, Sl.own.injEq, Sl.val.injEq, List.length_map, dR_lst, dR_tup, dS_lst, dS_tup, flats_S, cut_map, cut_1, dR_fold, dS_fold, inI_t, inI_f, Bool.or_false, List.getLast?_map, exists_false, exists_const, Bool.and_self, Bool.and_true, Bool.true_and, Bool.and_false, Bool.false_and, add_S, List.isEmpty_map, fMax_2, fMax_3, fMin_2, flat_non, flat_i, ↓u_for, ↓u_comp, fS_v, fS_n, fS_o, shp_lli, eqbs_dL, ↓eSortSet, int_inj, fList_S, fList_R, sum_S, sum_li, x_is_between, x_is_sample, x_is_samples, x_distance, x_need_samples, x_need_threshold, x_need_silence, x_is_late, x_source, x_draw, x_samples, x_gap, x_limit, x_quiet, x_reported, x_reportedL, x_all_reports, x_all_reportsN, x_held_by, x_held_byT, x_reports, x_reports0, x_reportsI, x_held, x_held0, x_heldI, x_largest_error, x_largest_errorI]
theorem x_due0 {rs : List Row} {t : Int} {q : D → Prop} : callC c__law_due [dR rs, .int t, .non] q = (OkR rs ∧ q (.lst ((allRep t none rs).map .int))) := x_due (s := none)
theorem w__law_due (ds : List D) (q : D → Prop) (h : c__law_due ds q) : t__law_due (endsF true q) (startE 6 ds) := by
  obtain ⟨rs, t, s, rfl, ok, h⟩ := h
  obtain ⟨r0, rest, er, e0⟩ := ok.head
  have hm := ok.most
  have hlen : rs.length = rest.length + 1 := by rw [er]; rfl
  rw [er] at h
  rw [allRep_eq] at h
  simp only [x_start, List.map_cons, List.map_nil, List.length_cons, List.length_nil, List.replicate_succ, List.replicate_zero, List.cons_append, List.nil_append, Nat.reduceSub, Nat.reduceAdd]
  simp only [t__law_due, ↓sSeq, ↓sRet, ↓sIf, ↓sSet, ↓sOwn, ↓sAsg, ↓sDrop, ↓sNext, ↓sBreak, ↓sNever, ↓sFrz, ↓sApp, ↓sSetIx, ↓sSrc, ↓sPar, ↓sPar3, ↓sAug, ↓sNewSrc, ↓eC, ↓eTest, ↓eAnd, ↓eOr, ↓eNot, ↓eAndV, ↓eOrV, ↓eNotV, ↓eIf, ↓eChain, ↓eNeg, ↓eIx, ↓eIxS, ↓eSl, ↓oNone, ↓oSome, ↓aNil, ↓aCons, ↓eTup, ↓eLst, ↓eTupM, ↓eLstM, ↓eCB, ↓eBin, ↓x_call, ↓x_callK, ↓eSrc, ↓iSeqD, ↓iRg1, ↓iRg2, ↓iRg3, ↓iEnumD, ↓iZipD, ↓gNm, ↓gTp, ↓gsC, ↓gsN, ↓eYes, x_var0, x_var0o, x_varS, fAdd_ii, fAdd_ll, fAdd_tt, fAdd_ss, fMul_ii, fMul_li, fMul_ti, fSub_ii, fDiv_ii, fMod_ii, fPow_ii, fLt_ii, fLe_ii, fGt_ii, fGe_ii, ↓fEq, ↓fNe, ↓fIsN, ↓fNotN, x_lenL, x_lenT, x_lenS, x_lenR, x_lenC, fAbs_i, fInt_i, fInt_b, x_isi, List.set_cons_zero, List.set_cons_succ, List.getElem?_cons_zero, List.getElem?_cons_succ, items_l, items_t, okSt, mdOf, md_i, md_b, md_n, md_s, md_t, md_l, md_y, Md.isCl, Md.isNw, Md.meet, atI_0, atI_m1, atI_1, atI_2, atI_nat, cond_true, cond_false, isNon_i, isNon_n, isT_ii, isT_ib, isT_it, isT_il, isT_bi, isT_bb, isT_tt, isT_ti, isT_lt, isT_ll, isT_nt, isT_ni, isT_nl, tyN_i, tyN_b, tyN_t, tyN_l, tyN_n, dS_isT, dR_isT, dS_tyN, dR_tyN, dQ_isNon, D.flat, D.flats, flats_cons, flats_nil, flats_ints, flat_tup, putOk, slOf_f, slOf_t, Option.some.injEq, D.int.injEq, D.bl.injEq, D.lst.injEq, D.tup.injEq, D.str.injEq, D.scr.injEq, D.ty.injEq, x_consD, x_consD0, x_consD1, and_assoc, reduceCtorEq, exists_eq, exists_eq', exists_eq_left, exists_eq_left', exists_eq_right, exists_eq_right', exists_and_left, exists_and_right, and_true, true_and, and_self, and_false, false_and, or_true, true_or, or_false, false_or, if_true, if_false, ite_true, ite_false, decide_eq_true_eq, decide_eq_false_iff_not, Bool.not_eq_true, Bool.not_eq_true', Bool.not_true, Bool.not_false, Bool.true_eq_false, Bool.false_eq_true, not_true_eq_false, not_false_eq_true, eq_self_iff_true, forall_const, imp_self, List.length_cons, List.length_nil, List.append_nil, List.nil_append, List.cons_append, cpow_6, cpow_18, cpow_5, cpow_7, cpow_15, cpow_12, CMul, Nat.reduceAdd, Nat.reduceLeDiff, Nat.reduceLT, Int.reducePow, Int.reduceNeg, Int.reduceLT, Int.reduceLE, Int.reduceToNat, Int.reduceMul, Int.reduceAdd, Int.reduceSub, frzE, frz1, wipeE, all_nil, all_cons, endsF, x_start, List.map_cons, List.map_nil, List.replicate_succ, List.replicate_zero, Nat.reduceSub, Int.reduceEq, Nat.reduceEqDiff, List.mem_cons, List.not_mem_nil, x_isTs, or_self, Option.isSome_some, Option.isSome_none, String.reduceEq, dS_inj, dR_inj, dQ_inj, dQ_non, dQ_int, dS_md, dR_md, dQ_md, dS_flat, dR_flat, dQ_flat, dS_items, dR_items, List.getElem?_map, Option.map_some, Option.map_none, shp_i, shp_n, shp_b, shp_li, shp_S, shp_R, shp_lS, shp_Q, shp_l0, eqb_int, eqb_l, eqb_S, eqb_R, eqbs_ints, eqbs_dS, eqbs_nil0, eqbs_nilL, eqbs_nilR, Sl.own.injEq, Sl.val.injEq, List.length_map, dR_lst, dR_tup, dS_lst, dS_tup, flats_S, cut_map, cut_1, dR_fold, dS_fold, inI_t, inI_f, Bool.or_false, List.getLast?_map, exists_false, exists_const, Bool.and_self, Bool.and_true, Bool.true_and, Bool.and_false, Bool.false_and, add_S, List.isEmpty_map, fMax_2, fMax_3, fMin_2, flat_non, flat_i, ↓u_for, ↓u_comp, fS_v, fS_n, fS_o, shp_lli, eqbs_dL, ↓eSortSet, int_inj, fList_S, fList_R, sum_S, sum_li, x_is_between, x_is_sample, x_is_samples, x_distance, x_need_samples, x_need_threshold, x_need_silence, x_is_late, x_source, x_draw, x_samples, x_gap, x_limit, x_quiet, x_reported, x_reportedL, x_all_reports, x_all_reportsN, x_held_by, x_held_byT, x_reports, x_reports0, x_reportsI, x_held, x_held0, x_heldI, x_largest_error, x_largest_errorI, x_due, x_due0]
  refine ⟨by omega, by omega, ?_⟩
  refine for_st (σ := List Int) (List.range rest.length) (fun i => .int (1 + (i : Nat))) (fun f => [.val (dR rs), .val (.int t), .val (dQ s), .own (f.map .int), .non, .non])
    (fun i f => f.length ≤ i + 1 ∧ ∃ (l : Nat) (v : Row), f.getLast? = some (l : Int) ∧ rs[l]? = some v ∧ f ++ repF t s (rest.drop i) (i + 1) l v = 0 :: repF t s rest 1 0 r0) [0]
    (by rw [hlen, show (((rest.length + 1 : Nat) : Int) - 1).toNat = rest.length by omega]; exact rgLo) rfl (fun z => nomatch z) rfl ⟨Nat.le_refl _, 0, r0, rfl, e0, rfl⟩ ?_ ?_
  · rintro i j f hx ⟨hf, l, v, h1, h2, hI⟩ N hN
    obtain ⟨rfl, hi⟩ := get_range hx
    obtain ⟨r, hr⟩ : ∃ r, rest[j]? = some r := ⟨_, List.getElem?_eq_getElem hi⟩
    have hr' : rs[j + 1]? = some r := by rw [er, List.getElem?_cons_succ]; exact hr
    have ej : (1 : Int) + (j : Nat) = ((j + 1 : Nat) : Int) := by omega
    rw [drop_get hr, repF_cons] at hI
    have add : t < gap r v ∨ late l ((j + 1 : Nat) : Int) s = true → N [Sl.val (dR rs), Sl.val (D.int t), Sl.val (dQ s), Sl.own (f.map D.int ++ [D.int ((j + 1 : Nat) : Int)]), Sl.val (D.int ((j + 1 : Nat) : Int)), Sl.val (D.int l)] := fun z => by
      rw [if_pos z] at hI
      exact hN (f ++ [((j + 1 : Nat) : Int)]) _ ⟨by simp; omega, j + 1, r, by simp, hr', by rw [List.append_assoc]; exact hI⟩ (by simp [wipeE])
    have stay : ¬ (t < gap r v ∨ late l ((j + 1 : Nat) : Int) s = true) → N [Sl.val (dR rs), Sl.val (D.int t), Sl.val (dQ s), Sl.own (f.map D.int), Sl.val (D.int ((j + 1 : Nat) : Int)), Sl.val (D.int l)] := fun z => by
      rw [if_neg z] at hI
      exact hN f _ ⟨by omega, l, v, h1, h2, hI⟩ rfl
    cases s with
    | none =>
      try simp only [↓sSeq, ↓sRet, ↓sIf, ↓sSet, ↓sOwn, ↓sAsg, ↓sDrop, ↓sNext, ↓sBreak, ↓sNever, ↓sFrz, ↓sApp, ↓sSetIx, ↓sSrc, ↓sPar, ↓sPar3, ↓sAug, ↓sNewSrc, ↓eC, ↓eTest, ↓eAnd, ↓eOr, ↓eNot, ↓eAndV, ↓eOrV, ↓eNotV, ↓eIf, ↓eChain, ↓eNeg, ↓eIx, ↓eIxS, ↓eSl, ↓oNone, ↓oSome, ↓aNil, ↓aCons, ↓eTup, ↓eLst, ↓eTupM, ↓eLstM, ↓eCB, ↓eBin, ↓x_call, ↓x_callK, ↓eSrc, ↓iSeqD, ↓iRg1, ↓iRg2, ↓iRg3, ↓iEnumD, ↓iZipD, ↓gNm, ↓gTp, ↓gsC, ↓gsN, ↓eYes, x_var0, x_var0o, x_varS, fAdd_ii, fAdd_ll, fAdd_tt, fAdd_ss, fMul_ii, fMul_li, fMul_ti, fSub_ii, fDiv_ii, fMod_ii, fPow_ii, fLt_ii, fLe_ii, fGt_ii, fGe_ii, ↓fEq, ↓fNe, ↓fIsN, ↓fNotN, x_lenL, x_lenT, x_lenS, x_lenR, x_lenC, fAbs_i, fInt_i, fInt_b, x_isi, List.set_cons_zero, List.set_cons_succ, List.getElem?_cons_zero, List.getElem?_cons_succ, items_l, items_t, okSt, mdOf, md_i, md_b, md_n, md_s, md_t, md_l, md_y, Md.isCl, Md.isNw, Md.meet, atI_0, atI_m1, atI_1, atI_2, atI_nat, cond_true, cond_false, isNon_i, isNon_n, isT_ii, isT_ib, isT_it, isT_il, isT_bi, isT_bb, isT_tt, isT_ti, isT_lt, isT_ll, isT_nt, isT_ni, isT_nl, tyN_i, tyN_b, tyN_t, tyN_l, tyN_n, dS_isT, dR_isT, dS_tyN, dR_tyN, dQ_isNon, D.flat, D.flats, flats_cons, flats_nil, flats_ints, flat_tup, putOk, slOf_f, slOf_t, Option.some.injEq, D.int.injEq, D.bl.injEq, D.lst.injEq, D.tup.injEq, D.str.injEq, D.scr.injEq, D.ty.injEq, x_consD, x_consD0, x_consD1, and_assoc, reduceCtorEq, exists_eq, exists_eq', exists_eq_left, exists_eq_left', exists_eq_right, exists_eq_right', exists_and_left, exists_and_right, and_true, true_and, and_self, and_false, false_and, or_true, true_or, or_false, false_or, if_true, if_false, ite_true, ite_false, decide_eq_true_eq, decide_eq_false_iff_not, Bool.not_eq_true, Bool.not_eq_true', Bool.not_true, Bool.not_false, Bool.true_eq_false, Bool.false_eq_true, not_true_eq_false, not_false_eq_true, eq_self_iff_true, forall_const, imp_self, List.length_cons, List.length_nil, List.append_nil, List.nil_append, List.cons_append, cpow_6, cpow_18, cpow_5, cpow_7, cpow_15, cpow_12, CMul, Nat.reduceAdd, Nat.reduceLeDiff, Nat.reduceLT, Int.reducePow, Int.reduceNeg, Int.reduceLT, Int.reduceLE, Int.reduceToNat, Int.reduceMul, Int.reduceAdd, Int.reduceSub, frzE, frz1, wipeE, all_nil, all_cons, endsF, x_start, List.map_cons, List.map_nil, List.replicate_succ, List.replicate_zero, Nat.reduceSub, Int.reduceEq, Nat.reduceEqDiff, List.mem_cons, List.not_mem_nil, x_isTs, or_self, Option.isSome_some, Option.isSome_none, String.reduceEq, dS_inj, dR_inj, dQ_inj, dQ_non, dQ_int, dS_md, dR_md, dQ_md, dS_flat, dR_flat, dQ_flat, dS_items, dR_items, List.getElem?_map, Option.map_some, Option.map_none, shp_i, shp_n, shp_b, shp_li, shp_S, shp_R, shp_lS, shp_Q, shp_l0, eqb_int, eqb_l, eqb_S, eqb_R, eqbs_ints, eqbs_dS, eqbs_nil0, eqbs_nilL, eqbs_nilR, Sl.own.injEq, Sl.val.injEq, List.length_map, dR_lst, dR_tup, dS_lst, dS_tup, flats_S, cut_map, cut_1, dR_fold, dS_fold, inI_t, inI_f, Bool.or_false, List.getLast?_map, exists_false, exists_const, Bool.and_self, Bool.and_true, Bool.true_and, Bool.and_false, Bool.false_and, add_S, List.isEmpty_map, fMax_2, fMax_3, fMin_2, flat_non, flat_i, ↓u_for, ↓u_comp, fS_v, fS_n, fS_o, shp_lli, eqbs_dL, ↓eSortSet, int_inj, fList_S, fList_R, sum_S, sum_li, x_is_between, x_is_sample, x_is_samples, x_distance, x_need_samples, x_need_threshold, x_need_silence, x_is_late, x_source, x_draw, x_samples, x_gap, x_limit, x_quiet, x_reported, x_reportedL, x_all_reports, x_all_reportsN, x_held_by, x_held_byT, x_reports, x_reports0, x_reportsI, x_held, x_held0, x_heldI, x_largest_error, x_largest_errorI, x_due, x_due0, ej, h1, h2, hr', dQ]
      split
      · rename_i hc; exact ⟨by omega, add (.inl hc)⟩
      · rename_i hc; exact stay fun z => z.elim hc fun w => nomatch w
    | some k =>
      try simp only [↓sSeq, ↓sRet, ↓sIf, ↓sSet, ↓sOwn, ↓sAsg, ↓sDrop, ↓sNext, ↓sBreak, ↓sNever, ↓sFrz, ↓sApp, ↓sSetIx, ↓sSrc, ↓sPar, ↓sPar3, ↓sAug, ↓sNewSrc, ↓eC, ↓eTest, ↓eAnd, ↓eOr, ↓eNot, ↓eAndV, ↓eOrV, ↓eNotV, ↓eIf, ↓eChain, ↓eNeg, ↓eIx, ↓eIxS, ↓eSl, ↓oNone, ↓oSome, ↓aNil, ↓aCons, ↓eTup, ↓eLst, ↓eTupM, ↓eLstM, ↓eCB, ↓eBin, ↓x_call, ↓x_callK, ↓eSrc, ↓iSeqD, ↓iRg1, ↓iRg2, ↓iRg3, ↓iEnumD, ↓iZipD, ↓gNm, ↓gTp, ↓gsC, ↓gsN, ↓eYes, x_var0, x_var0o, x_varS, fAdd_ii, fAdd_ll, fAdd_tt, fAdd_ss, fMul_ii, fMul_li, fMul_ti, fSub_ii, fDiv_ii, fMod_ii, fPow_ii, fLt_ii, fLe_ii, fGt_ii, fGe_ii, ↓fEq, ↓fNe, ↓fIsN, ↓fNotN, x_lenL, x_lenT, x_lenS, x_lenR, x_lenC, fAbs_i, fInt_i, fInt_b, x_isi, List.set_cons_zero, List.set_cons_succ, List.getElem?_cons_zero, List.getElem?_cons_succ, items_l, items_t, okSt, mdOf, md_i, md_b, md_n, md_s, md_t, md_l, md_y, Md.isCl, Md.isNw, Md.meet, atI_0, atI_m1, atI_1, atI_2, atI_nat, cond_true, cond_false, isNon_i, isNon_n, isT_ii, isT_ib, isT_it, isT_il, isT_bi, isT_bb, isT_tt, isT_ti, isT_lt, isT_ll, isT_nt, isT_ni, isT_nl, tyN_i, tyN_b, tyN_t, tyN_l, tyN_n, dS_isT, dR_isT, dS_tyN, dR_tyN, dQ_isNon, D.flat, D.flats, flats_cons, flats_nil, flats_ints, flat_tup, putOk, slOf_f, slOf_t, Option.some.injEq, D.int.injEq, D.bl.injEq, D.lst.injEq, D.tup.injEq, D.str.injEq, D.scr.injEq, D.ty.injEq, x_consD, x_consD0, x_consD1, and_assoc, reduceCtorEq, exists_eq, exists_eq', exists_eq_left, exists_eq_left', exists_eq_right, exists_eq_right', exists_and_left, exists_and_right, and_true, true_and, and_self, and_false, false_and, or_true, true_or, or_false, false_or, if_true, if_false, ite_true, ite_false, decide_eq_true_eq, decide_eq_false_iff_not, Bool.not_eq_true, Bool.not_eq_true', Bool.not_true, Bool.not_false, Bool.true_eq_false, Bool.false_eq_true, not_true_eq_false, not_false_eq_true, eq_self_iff_true, forall_const, imp_self, List.length_cons, List.length_nil, List.append_nil, List.nil_append, List.cons_append, cpow_6, cpow_18, cpow_5, cpow_7, cpow_15, cpow_12, CMul, Nat.reduceAdd, Nat.reduceLeDiff, Nat.reduceLT, Int.reducePow, Int.reduceNeg, Int.reduceLT, Int.reduceLE, Int.reduceToNat, Int.reduceMul, Int.reduceAdd, Int.reduceSub, frzE, frz1, wipeE, all_nil, all_cons, endsF, x_start, List.map_cons, List.map_nil, List.replicate_succ, List.replicate_zero, Nat.reduceSub, Int.reduceEq, Nat.reduceEqDiff, List.mem_cons, List.not_mem_nil, x_isTs, or_self, Option.isSome_some, Option.isSome_none, String.reduceEq, dS_inj, dR_inj, dQ_inj, dQ_non, dQ_int, dS_md, dR_md, dQ_md, dS_flat, dR_flat, dQ_flat, dS_items, dR_items, List.getElem?_map, Option.map_some, Option.map_none, shp_i, shp_n, shp_b, shp_li, shp_S, shp_R, shp_lS, shp_Q, shp_l0, eqb_int, eqb_l, eqb_S, eqb_R, eqbs_ints, eqbs_dS, eqbs_nil0, eqbs_nilL, eqbs_nilR, Sl.own.injEq, Sl.val.injEq, List.length_map, dR_lst, dR_tup, dS_lst, dS_tup, flats_S, cut_map, cut_1, dR_fold, dS_fold, inI_t, inI_f, Bool.or_false, List.getLast?_map, exists_false, exists_const, Bool.and_self, Bool.and_true, Bool.true_and, Bool.and_false, Bool.false_and, add_S, List.isEmpty_map, fMax_2, fMax_3, fMin_2, flat_non, flat_i, ↓u_for, ↓u_comp, fS_v, fS_n, fS_o, shp_lli, eqbs_dL, ↓eSortSet, int_inj, fList_S, fList_R, sum_S, sum_li, x_is_between, x_is_sample, x_is_samples, x_distance, x_need_samples, x_need_threshold, x_need_silence, x_is_late, x_source, x_draw, x_samples, x_gap, x_limit, x_quiet, x_reported, x_reportedL, x_all_reports, x_all_reportsN, x_held_by, x_held_byT, x_reports, x_reports0, x_reportsI, x_held, x_held0, x_heldI, x_largest_error, x_largest_errorI, x_due, x_due0, ej, h1, h2, hr', dQ]
      split
      · rename_i hc; exact ⟨by omega, add (.inl hc)⟩
      · rename_i hc
        split
        · rename_i hc2; exact ⟨by omega, add (.inr (decide_eq_true hc2))⟩
        · rename_i hc2; exact stay fun z => z.elim hc fun w => hc2 (of_decide_eq_true w)
  · rintro f ⟨hf, l, v, h1, h2, hI⟩
    rw [List.length_range, List.drop_length, repF_nil, List.append_nil] at hI
    try simp only [↓sSeq, ↓sRet, ↓sIf, ↓sSet, ↓sOwn, ↓sAsg, ↓sDrop, ↓sNext, ↓sBreak, ↓sNever, ↓sFrz, ↓sApp, ↓sSetIx, ↓sSrc, ↓sPar, ↓sPar3, ↓sAug, ↓sNewSrc, ↓eC, ↓eTest, ↓eAnd, ↓eOr, ↓eNot, ↓eAndV, ↓eOrV, ↓eNotV, ↓eIf, ↓eChain, ↓eNeg, ↓eIx, ↓eIxS, ↓eSl, ↓oNone, ↓oSome, ↓aNil, ↓aCons, ↓eTup, ↓eLst, ↓eTupM, ↓eLstM, ↓eCB, ↓eBin, ↓x_call, ↓x_callK, ↓eSrc, ↓iSeqD, ↓iRg1, ↓iRg2, ↓iRg3, ↓iEnumD, ↓iZipD, ↓gNm, ↓gTp, ↓gsC, ↓gsN, ↓eYes, x_var0, x_var0o, x_varS, fAdd_ii, fAdd_ll, fAdd_tt, fAdd_ss, fMul_ii, fMul_li, fMul_ti, fSub_ii, fDiv_ii, fMod_ii, fPow_ii, fLt_ii, fLe_ii, fGt_ii, fGe_ii, ↓fEq, ↓fNe, ↓fIsN, ↓fNotN, x_lenL, x_lenT, x_lenS, x_lenR, x_lenC, fAbs_i, fInt_i, fInt_b, x_isi, List.set_cons_zero, List.set_cons_succ, List.getElem?_cons_zero, List.getElem?_cons_succ, items_l, items_t, okSt, mdOf, md_i, md_b, md_n, md_s, md_t, md_l, md_y, Md.isCl, Md.isNw, Md.meet, atI_0, atI_m1, atI_1, atI_2, atI_nat, cond_true, cond_false, isNon_i, isNon_n, isT_ii, isT_ib, isT_it, isT_il, isT_bi, isT_bb, isT_tt, isT_ti, isT_lt, isT_ll, isT_nt, isT_ni, isT_nl, tyN_i, tyN_b, tyN_t, tyN_l, tyN_n, dS_isT, dR_isT, dS_tyN, dR_tyN, dQ_isNon, D.flat, D.flats, flats_cons, flats_nil, flats_ints, flat_tup, putOk, slOf_f, slOf_t, Option.some.injEq, D.int.injEq, D.bl.injEq, D.lst.injEq, D.tup.injEq, D.str.injEq, D.scr.injEq, D.ty.injEq, x_consD, x_consD0, x_consD1, and_assoc, reduceCtorEq, exists_eq, exists_eq', exists_eq_left, exists_eq_left', exists_eq_right, exists_eq_right', exists_and_left, exists_and_right, and_true, true_and, and_self, and_false, false_and, or_true, true_or, or_false, false_or, if_true, if_false, ite_true, ite_false, decide_eq_true_eq, decide_eq_false_iff_not, Bool.not_eq_true, Bool.not_eq_true', Bool.not_true, Bool.not_false, Bool.true_eq_false, Bool.false_eq_true, not_true_eq_false, not_false_eq_true, eq_self_iff_true, forall_const, imp_self, List.length_cons, List.length_nil, List.append_nil, List.nil_append, List.cons_append, cpow_6, cpow_18, cpow_5, cpow_7, cpow_15, cpow_12, CMul, Nat.reduceAdd, Nat.reduceLeDiff, Nat.reduceLT, Int.reducePow, Int.reduceNeg, Int.reduceLT, Int.reduceLE, Int.reduceToNat, Int.reduceMul, Int.reduceAdd, Int.reduceSub, frzE, frz1, wipeE, all_nil, all_cons, endsF, x_start, List.map_cons, List.map_nil, List.replicate_succ, List.replicate_zero, Nat.reduceSub, Int.reduceEq, Nat.reduceEqDiff, List.mem_cons, List.not_mem_nil, x_isTs, or_self, Option.isSome_some, Option.isSome_none, String.reduceEq, dS_inj, dR_inj, dQ_inj, dQ_non, dQ_int, dS_md, dR_md, dQ_md, dS_flat, dR_flat, dQ_flat, dS_items, dR_items, List.getElem?_map, Option.map_some, Option.map_none, shp_i, shp_n, shp_b, shp_li, shp_S, shp_R, shp_lS, shp_Q, shp_l0, eqb_int, eqb_l, eqb_S, eqb_R, eqbs_ints, eqbs_dS, eqbs_nil0, eqbs_nilL, eqbs_nilR, Sl.own.injEq, Sl.val.injEq, List.length_map, dR_lst, dR_tup, dS_lst, dS_tup, flats_S, cut_map, cut_1, dR_fold, dS_fold, inI_t, inI_f, Bool.or_false, List.getLast?_map, exists_false, exists_const, Bool.and_self, Bool.and_true, Bool.true_and, Bool.and_false, Bool.false_and, add_S, List.isEmpty_map, fMax_2, fMax_3, fMin_2, flat_non, flat_i, ↓u_for, ↓u_comp, fS_v, fS_n, fS_o, shp_lli, eqbs_dL, ↓eSortSet, int_inj, fList_S, fList_R, sum_S, sum_li, x_is_between, x_is_sample, x_is_samples, x_distance, x_need_samples, x_need_threshold, x_need_silence, x_is_late, x_source, x_draw, x_samples, x_gap, x_limit, x_quiet, x_reported, x_reportedL, x_all_reports, x_all_reportsN, x_held_by, x_held_byT, x_reports, x_reports0, x_reportsI, x_held, x_held0, x_heldI, x_largest_error, x_largest_errorI, x_due, x_due0]
    rw [hI]
    exact h
end VL
/-! VM3: greedy walks make the fewest parts. -/
namespace VL
open PySem L2

/-- behind e: how many beginnings, and the last one -/
def walkS (C : Nat → Nat → Bool) : Nat → Nat × Nat
  | 0 => (1, 0)
  | e + 1 => if C (walkS C e).2 (e + 1) = true then ((walkS C e).1 + 1, e + 1) else walkS C e
theorem walkS_s {C : Nat → Nat → Bool} {e : Nat} : walkS C (e + 1) = if C (walkS C e).2 (e + 1) = true then ((walkS C e).1 + 1, e + 1) else walkS C e := rfl
theorem walkS_greedy {C : Nat → Nat → Bool} : ∀ (m e : Nat), (walkS C e).1 + (greedy C m (e + 1) (walkS C e).2).length = (walkS C (e + m)).1
  | 0, e => rfl
  | m + 1, e => by
    rw [greedy_s, show e + (m + 1) = e + 1 + m by omega]
    have := walkS_greedy (C := C) m (e + 1)
    by_cases h : C (walkS C e).2 (e + 1) = true
    · rw [if_pos h, List.length_cons]
      have e1 : walkS C (e + 1) = ((walkS C e).1 + 1, e + 1) := by rw [walkS_s, if_pos h]
      rw [e1] at this
      simp only at this
      omega
    · rw [if_neg h]
      have e1 : walkS C (e + 1) = walkS C e := by rw [walkS_s, if_neg h]
      rw [e1] at this
      exact this
theorem starts_walk {t : Int} {s : Option Int} {rs : List Row} : (starts t s rs).length = (walkS (cS t s rs) (rs.length - 1)).1 := by
  rw [starts_length]
  have := walkS_greedy (C := cS t s rs) (rs.length - 1) 0
  rw [Nat.zero_add (rs.length - 1)] at this
  exact this
section
variable {C : Nat → Nat → Bool}
theorem walkS_last : ∀ e, (walkS C e).2 ≤ e
  | 0 => Nat.le_refl _
  | e + 1 => by
    have := walkS_last e
    rw [walkS_s]
    split
    · exact Nat.le_refl _
    · omega
theorem walkS_mono : ∀ {a b : Nat}, a ≤ b → (walkS C a).1 ≤ (walkS C b).1 := fun {a b} h => by
  induction b with
  | zero => rw [Nat.le_zero.mp h]; exact Nat.le_refl _
  | succ b ih =>
    by_cases e : a = b + 1
    · rw [e]; exact Nat.le_refl _
    · have := ih (by omega)
      rw [walkS_s]
      split
      · show _ ≤ (walkS C b).1 + 1
        omega
      · exact this
/-- the last beginning's part is whole: no new beginning within -/
theorem walkS_free (e : Nat) : ∀ i, (walkS C e).2 < i → i ≤ e → C (walkS C e).2 i = false := by
  induction e with
  | zero => intro i h1 h2; omega
  | succ e ih =>
    intro i h1 h2
    rw [walkS_s] at h1 ⊢
    by_cases h : C (walkS C e).2 (e + 1) = true
    · rw [if_pos h] at h1 ⊢
      have : e + 1 < i := h1
      omega
    · rw [if_neg h] at h1 ⊢
      by_cases e1 : i = e + 1
      · rw [e1]; exact (Bool.not_eq_true _).mp h
      · exact ih i h1 (by omega)
/-- the count ahead of e -/
def cnt (C : Nat → Nat → Bool) : Nat → Nat
  | 0 => 0
  | e + 1 => (walkS C e).1
theorem cnt_mono {a b : Nat} (h : a ≤ b) : cnt C a ≤ cnt C b := by
  cases a with
  | zero => exact Nat.zero_le _
  | succ a =>
    cases b with
    | zero => omega
    | succ b => exact walkS_mono (by omega)
theorem cnt_last (e : Nat) : cnt C (e + 1) = cnt C (walkS C e).2 + 1 := by
  induction e with
  | zero => rfl
  | succ e ih =>
    show (walkS C (e + 1)).1 = _
    rw [walkS_s]
    by_cases h : C (walkS C e).2 (e + 1) = true
    · rw [if_pos h]
      rfl
    · rw [if_neg h]
      exact ih
/-- where a part from a to e can be whole, it is worth no less than the walk -/
theorem cnt_least {N : Nat} (H : ∀ a a' i' i, i ≤ N → a ≤ a' → a' ≤ i' → i' ≤ i → C a i = false → C a' i' = false) (e : Nat) (hN : e ≤ N) : ∀ a, a ≤ e → (∀ i, a < i → i ≤ e → C a i = false) → cnt C (e + 1) ≤ cnt C a + 1 := by
  intro a ha hf
  rw [cnt_last]
  have key : cnt C (walkS C e).2 ≤ cnt C a := by
    by_cases h : (walkS C e).2 ≤ a
    · exact cnt_mono h
    · -- a lies ahead of the last beginning
      have gen : ∀ e, e ≤ N → (∀ i, a < i → i ≤ e → C a i = false) → a < (walkS C e).2 → cnt C (walkS C e).2 ≤ cnt C a := by
        intro e
        induction e with
        | zero => intro _ _ h; exact absurd h (Nat.not_lt_zero _)
        | succ e ih =>
          intro hN hf h
          rw [walkS_s] at h ⊢
          by_cases hc : C (walkS C e).2 (e + 1) = true
          · rw [if_pos hc] at h ⊢
            have h : a < e + 1 := h
            show (walkS C e).1 ≤ _
            -- the part before: its beginning lies ahead of a, or a would not reach e + 1
            by_cases hb : (walkS C e).2 < a
            · have : cnt C (e + 1) = cnt C (walkS C e).2 + 1 := cnt_last e
              have e2 : (walkS C e).1 = cnt C (e + 1) := rfl
              rw [e2]
              -- from the beginning on, a stands within the part
              cases a with
              | zero => exact absurd hb (Nat.not_lt_zero _)
              | succ a =>
                have stay : ∀ k, (walkS C e).2 ≤ k → k ≤ e → walkS C k = walkS C e := by
                  intro k hk hke
                  have st : ∀ d k, k + d = e → (walkS C e).2 ≤ k → walkS C k = walkS C e := by
                    intro d
                    induction d with
                    | zero => intro k e0 _; rw [← e0]; rfl
                    | succ d ihd =>
                      intro k e0 h0
                      have e1 := ihd (k + 1) (by omega) (by omega)
                      rw [walkS_s] at e1
                      by_cases hq : C (walkS C k).2 (k + 1) = true
                      · rw [if_pos hq] at e1
                        have : (walkS C e).2 = k + 1 := by rw [← e1]
                        omega
                      · rw [if_neg hq] at e1
                        exact e1
                  exact st (e - k) k (by omega) hk
                have := stay a (by omega) (by omega)
                show (walkS C e).1 ≤ (walkS C a).1
                rw [this]
                exact Nat.le_refl _
            · have z := H a (walkS C e).2 (e + 1) (e + 1) hN (by omega) (by have := walkS_last (C := C) e; omega) (Nat.le_refl _) (hf (e + 1) h (Nat.le_refl _))
              rw [z] at hc
              cases hc
          · rw [if_neg hc] at h ⊢
            exact ih (by omega) (fun i x y => hf i x (by omega)) h
      exact gen e hN hf (by omega)
  omega
end
theorem cS_mono {t : Int} {s : Option Int} {rs : List Row} (ht : 0 ≤ t) {n : Nat} (hn : n < rs.length) : ∀ a a' i' i, i ≤ n → a ≤ a' → a' ≤ i' → i' ≤ i → cS t s rs a i = false → cS t s rs a' i' = false := by
  intro a a' i' i hi h1 h2 h3 h
  have h := of_decide_eq_false h
  refine decide_eq_false fun z => ?_
  rcases z with z | z
  · have le : spr (seg rs a i) ≤ t := Int.not_lt.mp fun w => h (.inl w)
    have : spr (seg rs a' i') ≤ t := (seg_le ht (by omega)).mpr fun j k x1 x2 x3 x4 => (seg_le ht (by omega)).mp le j k (by omega) (by omega) (by omega) (by omega)
    omega
  · refine h (.inr ?_)
    cases s with
    | none => cases z
    | some k =>
      have := of_decide_eq_true z
      exact decide_eq_true (by omega)
end VL
/-! VC7: stretches told. -/
namespace VL
open PySem L2
def t_stretches : S1 := (sSeq (sDrop (eCall true [] c_need_samples (aCons (eVar 0) aNil))) (sSeq (sDrop (eCall true [] c_need_spread (aCons (eVar 1) aNil))) (sSeq (sDrop (eCall true [] c_need_silence (aCons (eVar 2) aNil))) (sRet (eCall true [] c_starts_of (aCons (eVar 0) (aCons (eVar 1) (aCons (eVar 2) aNil))))))))
def c_stretches : C1 := fun ds q => ∃ (rs : List Row) (t : Int) (s : Option Int), ds = [dR rs, .int t, dQ s] ∧ OkA rs t s ∧ q (dS (starts t s rs))
theorem m_stretches : MonoC c_stretches := fun ds q q' k ⟨rs, t, s, e, h1, h⟩ => ⟨rs, t, s, e, h1, k _ h⟩
theorem x_stretches {rs : List Row} {t : Int} {s : Option Int} {q : D → Prop} : callC c_stretches [dR rs, .int t, dQ s] q = (OkA rs t s ∧ q (dS (starts t s rs))) := by
  simp only [callC, c_stretches, ↓sSeq, ↓sRet, ↓sIf, ↓sSet, ↓sOwn, ↓sAsg, ↓sDrop, ↓sNext, ↓sBreak, ↓sNever, ↓sFrz, ↓sApp, ↓sSetIx, ↓sSrc, ↓sPar, ↓sPar3, ↓sAug, ↓sNewSrc, ↓eC, ↓eTest, ↓eAnd, ↓eOr, ↓eNot, ↓eAndV, ↓eOrV, ↓eNotV, ↓eIf, ↓eChain, ↓eNeg, ↓eIx, ↓eIxS, ↓eSl, ↓oNone, ↓oSome, ↓aNil, ↓aCons, ↓eTup, ↓eLst, ↓eTupM, ↓eLstM, ↓eCB, ↓eBin, ↓x_call, ↓x_callK, ↓eSrc, ↓iSeqD, ↓iRg1, ↓iRg2, ↓iRg3, ↓iEnumD, ↓iZipD, ↓gNm, ↓gTp, ↓gsC, ↓gsN, ↓eYes, x_var0, x_var0o, x_varS, fAdd_ii, fAdd_ll, fAdd_tt, fAdd_ss, fMul_ii, fMul_li, fMul_ti, fSub_ii, fDiv_ii, fMod_ii, fPow_ii, fLt_ii, fLe_ii, fGt_ii, fGe_ii, ↓fEq, ↓fNe, ↓fIsN, ↓fNotN, x_lenL, x_lenT, x_lenS, x_lenR, x_lenC, fAbs_i, fInt_i, fInt_b, x_isi, List.set_cons_zero, List.set_cons_succ, List.getElem?_cons_zero, List.getElem?_cons_succ, items_l, items_t, okSt, mdOf, md_i, md_b, md_n, md_s, md_t, md_l, md_y, Md.isCl, Md.isNw, Md.meet, atI_0, atI_m1, atI_1, atI_2, atI_nat, cond_true, cond_false, isNon_i, isNon_n, isT_ii, isT_ib, isT_it, isT_il, isT_bi, isT_bb, isT_tt, isT_ti, isT_lt, isT_ll, isT_nt, isT_ni, isT_nl, tyN_i, tyN_b, tyN_t, tyN_l, tyN_n, dS_isT, dR_isT, dS_tyN, dR_tyN, dQ_isNon, D.flat, D.flats, flats_cons, flats_nil, flats_ints, flat_tup, putOk, slOf_f, slOf_t, Option.some.injEq, D.int.injEq, D.bl.injEq, D.lst.injEq, D.tup.injEq, D.str.injEq, D.scr.injEq, D.ty.injEq, x_consD, x_consD0, x_consD1, and_assoc, reduceCtorEq, exists_eq, exists_eq', exists_eq_left, exists_eq_left', exists_eq_right, exists_eq_right', exists_and_left, exists_and_right, and_true, true_and, and_self, and_false, false_and, or_true, true_or, or_false, false_or, if_true, if_false, ite_true, ite_false, decide_eq_true_eq, decide_eq_false_iff_not, Bool.not_eq_true, Bool.not_eq_true', Bool.not_true, Bool.not_false, Bool.true_eq_false, Bool.false_eq_true, not_true_eq_false, not_false_eq_true, eq_self_iff_true, forall_const, imp_self, List.length_cons, List.length_nil, List.append_nil, List.nil_append, List.cons_append, cpow_6, cpow_18, cpow_5, cpow_7, cpow_15, cpow_12, CMul, Nat.reduceAdd, Nat.reduceLeDiff, Nat.reduceLT, Int.reducePow, Int.reduceNeg, Int.reduceLT, Int.reduceLE, Int.reduceToNat, Int.reduceMul, Int.reduceAdd, Int.reduceSub, frzE, frz1, wipeE, all_nil, all_cons, endsF, x_start, List.map_cons, List.map_nil, List.replicate_succ, List.replicate_zero, Nat.reduceSub, Int.reduceEq, Nat.reduceEqDiff, List.mem_cons, List.not_mem_nil, x_isTs, or_self, Option.isSome_some, Option.isSome_none, String.reduceEq, dS_inj, dR_inj, dQ_inj, dQ_non, dQ_int, dS_md, dR_md, dQ_md, dS_flat, dR_flat, dQ_flat, dS_items, dR_items, List.getElem?_map, Option.map_some, Option.map_none, shp_i, shp_n, shp_b, shp_li, shp_S, shp_R, shp_lS, shp_Q, shp_l0, eqb_int, eqb_l, eqb_S, eqb_R, eqbs_ints, eqbs_dS, eqbs_nil0, eqbs_nilL, eqbs_nilR, Sl.own.injEq, Sl.val.injEq, List.length_map, dR_lst, dR_tup, dS_lst, dS_tup, flats_S, cut_map, cut_1, dR_fold, dS_fold, inI_t, inI_f, Bool.or_false, List.getLast?_map, exists_false, exists_const, Bool.and_self, Bool.and_true, Bool.true_and, Bool.and_false, Bool.false_and, add_S, List.isEmpty_map, fMax_2, fMax_3, fMin_2, flat_non, flat_i, ↓u_for, ↓u_comp, fS_v, fS_n, fS_o, shp_lli, eqbs_dL, ↓eSortSet, int_inj, fList_S, fList_R, sum_S, sum_li, x_reported, x_reportedL, x_all_reports, x_all_reportsN, x_held_by, x_held_byT, x_reports, x_reports0, x_reportsI, x_held, x_held0, x_heldI, x_largest_error, x_largest_errorI, x_is_between, x_is_sample, x_is_samples, x_distance, x_need_samples, x_need_threshold, x_need_silence, x_is_late, x_source, x_draw, x_samples, x_gap, x_limit, x_quiet, x_spread_within, x_spread_withinL, x_need_spread, x_starts_of, x_fewest_stretches, x_fewest_stretches0, x_fewest_stretchesI]
theorem x_stretches0 {rs : List Row} {t : Int} {q : D → Prop} : callC c_stretches [dR rs, .int t, .non] q = (OkA rs t none ∧ q (dS (starts t none rs))) := x_stretches (s := none)
theorem w_stretches (ds : List D) (q : D → Prop) (h : c_stretches ds q) : t_stretches (endsF true q) (startE 3 ds) := by
  obtain ⟨rs, t, s, rfl, ok, h⟩ := h
  simp only [x_start, List.map_cons, List.map_nil, List.length_cons, List.length_nil, List.replicate_succ, List.replicate_zero, List.cons_append, List.nil_append, Nat.reduceSub, Nat.reduceAdd]
  simp only [t_stretches, ↓sSeq, ↓sRet, ↓sIf, ↓sSet, ↓sOwn, ↓sAsg, ↓sDrop, ↓sNext, ↓sBreak, ↓sNever, ↓sFrz, ↓sApp, ↓sSetIx, ↓sSrc, ↓sPar, ↓sPar3, ↓sAug, ↓sNewSrc, ↓eC, ↓eTest, ↓eAnd, ↓eOr, ↓eNot, ↓eAndV, ↓eOrV, ↓eNotV, ↓eIf, ↓eChain, ↓eNeg, ↓eIx, ↓eIxS, ↓eSl, ↓oNone, ↓oSome, ↓aNil, ↓aCons, ↓eTup, ↓eLst, ↓eTupM, ↓eLstM, ↓eCB, ↓eBin, ↓x_call, ↓x_callK, ↓eSrc, ↓iSeqD, ↓iRg1, ↓iRg2, ↓iRg3, ↓iEnumD, ↓iZipD, ↓gNm, ↓gTp, ↓gsC, ↓gsN, ↓eYes, x_var0, x_var0o, x_varS, fAdd_ii, fAdd_ll, fAdd_tt, fAdd_ss, fMul_ii, fMul_li, fMul_ti, fSub_ii, fDiv_ii, fMod_ii, fPow_ii, fLt_ii, fLe_ii, fGt_ii, fGe_ii, ↓fEq, ↓fNe, ↓fIsN, ↓fNotN, x_lenL, x_lenT, x_lenS, x_lenR, x_lenC, fAbs_i, fInt_i, fInt_b, x_isi, List.set_cons_zero, List.set_cons_succ, List.getElem?_cons_zero, List.getElem?_cons_succ, items_l, items_t, okSt, mdOf, md_i, md_b, md_n, md_s, md_t, md_l, md_y, Md.isCl, Md.isNw, Md.meet, atI_0, atI_m1, atI_1, atI_2, atI_nat, cond_true, cond_false, isNon_i, isNon_n, isT_ii, isT_ib, isT_it, isT_il, isT_bi, isT_bb, isT_tt, isT_ti, isT_lt, isT_ll, isT_nt, isT_ni, isT_nl, tyN_i, tyN_b, tyN_t, tyN_l, tyN_n, dS_isT, dR_isT, dS_tyN, dR_tyN, dQ_isNon, D.flat, D.flats, flats_cons, flats_nil, flats_ints, flat_tup, putOk, slOf_f, slOf_t, Option.some.injEq, D.int.injEq, D.bl.injEq, D.lst.injEq, D.tup.injEq, D.str.injEq, D.scr.injEq, D.ty.injEq, x_consD, x_consD0, x_consD1, and_assoc, reduceCtorEq, exists_eq, exists_eq', exists_eq_left, exists_eq_left', exists_eq_right, exists_eq_right', exists_and_left, exists_and_right, and_true, true_and, and_self, and_false, false_and, or_true, true_or, or_false, false_or, if_true, if_false, ite_true, ite_false, decide_eq_true_eq, decide_eq_false_iff_not, Bool.not_eq_true, Bool.not_eq_true', Bool.not_true, Bool.not_false, Bool.true_eq_false, Bool.false_eq_true, not_true_eq_false, not_false_eq_true, eq_self_iff_true, forall_const, imp_self, List.length_cons, List.length_nil, List.append_nil, List.nil_append, List.cons_append, cpow_6, cpow_18, cpow_5, cpow_7, cpow_15, cpow_12, CMul, Nat.reduceAdd, Nat.reduceLeDiff, Nat.reduceLT, Int.reducePow, Int.reduceNeg, Int.reduceLT, Int.reduceLE, Int.reduceToNat, Int.reduceMul, Int.reduceAdd, Int.reduceSub, frzE, frz1, wipeE, all_nil, all_cons, endsF, x_start, List.map_cons, List.map_nil, List.replicate_succ, List.replicate_zero, Nat.reduceSub, Int.reduceEq, Nat.reduceEqDiff, List.mem_cons, List.not_mem_nil, x_isTs, or_self, Option.isSome_some, Option.isSome_none, String.reduceEq, dS_inj, dR_inj, dQ_inj, dQ_non, dQ_int, dS_md, dR_md, dQ_md, dS_flat, dR_flat, dQ_flat, dS_items, dR_items, List.getElem?_map, Option.map_some, Option.map_none, shp_i, shp_n, shp_b, shp_li, shp_S, shp_R, shp_lS, shp_Q, shp_l0, eqb_int, eqb_l, eqb_S, eqb_R, eqbs_ints, eqbs_dS, eqbs_nil0, eqbs_nilL, eqbs_nilR, Sl.own.injEq, Sl.val.injEq, List.length_map, dR_lst, dR_tup, dS_lst, dS_tup, flats_S, cut_map, cut_1, dR_fold, dS_fold, inI_t, inI_f, Bool.or_false, List.getLast?_map, exists_false, exists_const, Bool.and_self, Bool.and_true, Bool.true_and, Bool.and_false, Bool.false_and, add_S, List.isEmpty_map, fMax_2, fMax_3, fMin_2, flat_non, flat_i, ↓u_for, ↓u_comp, fS_v, fS_n, fS_o, shp_lli, eqbs_dL, ↓eSortSet, int_inj, fList_S, fList_R, sum_S, sum_li, x_reported, x_reportedL, x_all_reports, x_all_reportsN, x_held_by, x_held_byT, x_reports, x_reports0, x_reportsI, x_held, x_held0, x_heldI, x_largest_error, x_largest_errorI, x_is_between, x_is_sample, x_is_samples, x_distance, x_need_samples, x_need_threshold, x_need_silence, x_is_late, x_source, x_draw, x_samples, x_gap, x_limit, x_quiet, x_spread_within, x_spread_withinL, x_need_spread, x_starts_of, x_fewest_stretches, x_fewest_stretches0, x_fewest_stretchesI, x_stretches, x_stretches0]
  exact ⟨ok.r, ok.t, ok.q, ok.r.c, h⟩
def t_spread_of : S1 := (sSeq (sDrop (eCall true [] c_need_samples (aCons (eVar 0) aNil))) (sRet (eCall true [] c_spread_within (aCons (eVar 0) aNil))))
def c_spread_of : C1 := fun ds q => ∃ (rs : List Row), ds = [dR rs] ∧ OkR rs ∧ q (.int (spr rs))
theorem m_spread_of : MonoC c_spread_of := fun ds q q' k ⟨rs, e, h1, h⟩ => ⟨rs, e, h1, k _ h⟩
theorem x_spread_of {rs : List Row} {q : D → Prop} : callC c_spread_of [dR rs] q = (OkR rs ∧ q (.int (spr rs))) := by
  simp only [callC, c_spread_of, ↓sSeq, ↓sRet, ↓sIf, ↓sSet, ↓sOwn, ↓sAsg, ↓sDrop, ↓sNext, ↓sBreak, ↓sNever, ↓sFrz, ↓sApp, ↓sSetIx, ↓sSrc, ↓sPar, ↓sPar3, ↓sAug, ↓sNewSrc, ↓eC, ↓eTest, ↓eAnd, ↓eOr, ↓eNot, ↓eAndV, ↓eOrV, ↓eNotV, ↓eIf, ↓eChain, ↓eNeg, ↓eIx, ↓eIxS, ↓eSl, ↓oNone, ↓oSome, ↓aNil, ↓aCons, ↓eTup, ↓eLst, ↓eTupM, ↓eLstM, ↓eCB, ↓eBin, ↓x_call, ↓x_callK, ↓eSrc, ↓iSeqD, ↓iRg1, ↓iRg2, ↓iRg3, ↓iEnumD, ↓iZipD, ↓gNm, ↓gTp, ↓gsC, ↓gsN, ↓eYes, x_var0, x_var0o, x_varS, fAdd_ii, fAdd_ll, fAdd_tt, fAdd_ss, fMul_ii, fMul_li, fMul_ti, fSub_ii, fDiv_ii, fMod_ii, fPow_ii, fLt_ii, fLe_ii, fGt_ii, fGe_ii, ↓fEq, ↓fNe, ↓fIsN, ↓fNotN, x_lenL, x_lenT, x_lenS, x_lenR, x_lenC, fAbs_i, fInt_i, fInt_b, x_isi, List.set_cons_zero, List.set_cons_succ, List.getElem?_cons_zero, List.getElem?_cons_succ, items_l, items_t, okSt, mdOf, md_i, md_b, md_n, md_s, md_t, md_l, md_y, Md.isCl, Md.isNw, Md.meet, atI_0, atI_m1, atI_1, atI_2, atI_nat, cond_true, cond_false, isNon_i, isNon_n, isT_ii, isT_ib, isT_it, isT_il, isT_bi, isT_bb, isT_tt, isT_ti, isT_lt, isT_ll, isT_nt, isT_ni, isT_nl, tyN_i, tyN_b, tyN_t, tyN_l, tyN_n, dS_isT, dR_isT, dS_tyN, dR_tyN, dQ_isNon, D.flat, D.flats, flats_cons, flats_nil, flats_ints, flat_tup, putOk, slOf_f, slOf_t, Option.some.injEq, D.int.injEq, D.bl.injEq, D.lst.injEq, D.tup.injEq, D.str.injEq, D.scr.injEq, D.ty.injEq, x_consD, x_consD0, x_consD1, and_assoc, reduceCtorEq, exists_eq, exists_eq', exists_eq_left, exists_eq_left', exists_eq_right, exists_eq_right', exists_and_left, exists_and_right, and_true, true_and, and_self, and_false, false_and, or_true, true_or, or_false, false_or, if_true, if_false, ite_true, ite_false, decide_eq_true_eq, decide_eq_false_iff_not, Bool.not_eq_true, Bool.not_eq_true', Bool.not_true, Bool.not_false, Bool.true_eq_false, Bool.false_eq_true, not_true_eq_false, not_false_eq_true, eq_self_iff_true, forall_const, imp_self, List.length_cons, List.length_nil, List.append_nil, List.nil_append, List.cons_append, cpow_6, cpow_18, cpow_5, cpow_7, cpow_15, cpow_12, CMul, Nat.reduceAdd, Nat.reduceLeDiff, Nat.reduceLT, Int.reducePow, Int.reduceNeg, Int.reduceLT, Int.reduceLE, Int.reduceToNat, Int.reduceMul, Int.reduceAdd, Int.reduceSub, frzE, frz1, wipeE, all_nil, all_cons, endsF, x_start, List.map_cons, List.map_nil, List.replicate_succ, List.replicate_zero, Nat.reduceSub, Int.reduceEq, Nat.reduceEqDiff, List.mem_cons, List.not_mem_nil, x_isTs, or_self, Option.isSome_some, Option.isSome_none, String.reduceEq, dS_inj, dR_inj, dQ_inj, dQ_non, dQ_int, dS_md, dR_md, dQ_md, dS_flat, dR_flat, dQ_flat, dS_items, dR_items, List.getElem?_map, Option.map_some, Option.map_none, shp_i, shp_n, shp_b, shp_li, shp_S, shp_R, shp_lS, shp_Q, shp_l0, eqb_int, eqb_l, eqb_S, eqb_R, eqbs_ints, eqbs_dS, eqbs_nil0, eqbs_nilL, eqbs_nilR, Sl.own.injEq, Sl.val.injEq, List.length_map, dR_lst, dR_tup, dS_lst, dS_tup, flats_S, cut_map, cut_1, dR_fold, dS_fold, inI_t, inI_f, Bool.or_false, List.getLast?_map, exists_false, exists_const, Bool.and_self, Bool.and_true, Bool.true_and, Bool.and_false, Bool.false_and, add_S, List.isEmpty_map, fMax_2, fMax_3, fMin_2, flat_non, flat_i, ↓u_for, ↓u_comp, fS_v, fS_n, fS_o, shp_lli, eqbs_dL, ↓eSortSet, int_inj, fList_S, fList_R, sum_S, sum_li, x_reported, x_reportedL, x_all_reports, x_all_reportsN, x_held_by, x_held_byT, x_reports, x_reports0, x_reportsI, x_held, x_held0, x_heldI, x_largest_error, x_largest_errorI, x_is_between, x_is_sample, x_is_samples, x_distance, x_need_samples, x_need_threshold, x_need_silence, x_is_late, x_source, x_draw, x_samples, x_gap, x_limit, x_quiet, x_spread_within, x_spread_withinL, x_need_spread, x_starts_of, x_fewest_stretches, x_fewest_stretches0, x_fewest_stretchesI, x_stretches, x_stretches0]
theorem w_spread_of (ds : List D) (q : D → Prop) (h : c_spread_of ds q) : t_spread_of (endsF true q) (startE 1 ds) := by
  obtain ⟨rs, rfl, ok, h⟩ := h
  simp only [x_start, List.map_cons, List.map_nil, List.length_cons, List.length_nil, List.replicate_succ, List.replicate_zero, List.cons_append, List.nil_append, Nat.reduceSub, Nat.reduceAdd]
  simp only [t_spread_of, ↓sSeq, ↓sRet, ↓sIf, ↓sSet, ↓sOwn, ↓sAsg, ↓sDrop, ↓sNext, ↓sBreak, ↓sNever, ↓sFrz, ↓sApp, ↓sSetIx, ↓sSrc, ↓sPar, ↓sPar3, ↓sAug, ↓sNewSrc, ↓eC, ↓eTest, ↓eAnd, ↓eOr, ↓eNot, ↓eAndV, ↓eOrV, ↓eNotV, ↓eIf, ↓eChain, ↓eNeg, ↓eIx, ↓eIxS, ↓eSl, ↓oNone, ↓oSome, ↓aNil, ↓aCons, ↓eTup, ↓eLst, ↓eTupM, ↓eLstM, ↓eCB, ↓eBin, ↓x_call, ↓x_callK, ↓eSrc, ↓iSeqD, ↓iRg1, ↓iRg2, ↓iRg3, ↓iEnumD, ↓iZipD, ↓gNm, ↓gTp, ↓gsC, ↓gsN, ↓eYes, x_var0, x_var0o, x_varS, fAdd_ii, fAdd_ll, fAdd_tt, fAdd_ss, fMul_ii, fMul_li, fMul_ti, fSub_ii, fDiv_ii, fMod_ii, fPow_ii, fLt_ii, fLe_ii, fGt_ii, fGe_ii, ↓fEq, ↓fNe, ↓fIsN, ↓fNotN, x_lenL, x_lenT, x_lenS, x_lenR, x_lenC, fAbs_i, fInt_i, fInt_b, x_isi, List.set_cons_zero, List.set_cons_succ, List.getElem?_cons_zero, List.getElem?_cons_succ, items_l, items_t, okSt, mdOf, md_i, md_b, md_n, md_s, md_t, md_l, md_y, Md.isCl, Md.isNw, Md.meet, atI_0, atI_m1, atI_1, atI_2, atI_nat, cond_true, cond_false, isNon_i, isNon_n, isT_ii, isT_ib, isT_it, isT_il, isT_bi, isT_bb, isT_tt, isT_ti, isT_lt, isT_ll, isT_nt, isT_ni, isT_nl, tyN_i, tyN_b, tyN_t, tyN_l, tyN_n, dS_isT, dR_isT, dS_tyN, dR_tyN, dQ_isNon, D.flat, D.flats, flats_cons, flats_nil, flats_ints, flat_tup, putOk, slOf_f, slOf_t, Option.some.injEq, D.int.injEq, D.bl.injEq, D.lst.injEq, D.tup.injEq, D.str.injEq, D.scr.injEq, D.ty.injEq, x_consD, x_consD0, x_consD1, and_assoc, reduceCtorEq, exists_eq, exists_eq', exists_eq_left, exists_eq_left', exists_eq_right, exists_eq_right', exists_and_left, exists_and_right, and_true, true_and, and_self, and_false, false_and, or_true, true_or, or_false, false_or, if_true, if_false, ite_true, ite_false, decide_eq_true_eq, decide_eq_false_iff_not, Bool.not_eq_true, Bool.not_eq_true', Bool.not_true, Bool.not_false, Bool.true_eq_false, Bool.false_eq_true, not_true_eq_false, not_false_eq_true, eq_self_iff_true, forall_const, imp_self, List.length_cons, List.length_nil, List.append_nil, List.nil_append, List.cons_append, cpow_6, cpow_18, cpow_5, cpow_7, cpow_15, cpow_12, CMul, Nat.reduceAdd, Nat.reduceLeDiff, Nat.reduceLT, Int.reducePow, Int.reduceNeg, Int.reduceLT, Int.reduceLE, Int.reduceToNat, Int.reduceMul, Int.reduceAdd, Int.reduceSub, frzE, frz1, wipeE, all_nil, all_cons, endsF, x_start, List.map_cons, List.map_nil, List.replicate_succ, List.replicate_zero, Nat.reduceSub, Int.reduceEq, Nat.reduceEqDiff, List.mem_cons, List.not_mem_nil, x_isTs, or_self, Option.isSome_some, Option.isSome_none, String.reduceEq, dS_inj, dR_inj, dQ_inj, dQ_non, dQ_int, dS_md, dR_md, dQ_md, dS_flat, dR_flat, dQ_flat, dS_items, dR_items, List.getElem?_map, Option.map_some, Option.map_none, shp_i, shp_n, shp_b, shp_li, shp_S, shp_R, shp_lS, shp_Q, shp_l0, eqb_int, eqb_l, eqb_S, eqb_R, eqbs_ints, eqbs_dS, eqbs_nil0, eqbs_nilL, eqbs_nilR, Sl.own.injEq, Sl.val.injEq, List.length_map, dR_lst, dR_tup, dS_lst, dS_tup, flats_S, cut_map, cut_1, dR_fold, dS_fold, inI_t, inI_f, Bool.or_false, List.getLast?_map, exists_false, exists_const, Bool.and_self, Bool.and_true, Bool.true_and, Bool.and_false, Bool.false_and, add_S, List.isEmpty_map, fMax_2, fMax_3, fMin_2, flat_non, flat_i, ↓u_for, ↓u_comp, fS_v, fS_n, fS_o, shp_lli, eqbs_dL, ↓eSortSet, int_inj, fList_S, fList_R, sum_S, sum_li, x_reported, x_reportedL, x_all_reports, x_all_reportsN, x_held_by, x_held_byT, x_reports, x_reports0, x_reportsI, x_held, x_held0, x_heldI, x_largest_error, x_largest_errorI, x_is_between, x_is_sample, x_is_samples, x_distance, x_need_samples, x_need_threshold, x_need_silence, x_is_late, x_source, x_draw, x_samples, x_gap, x_limit, x_quiet, x_spread_within, x_spread_withinL, x_need_spread, x_starts_of, x_fewest_stretches, x_fewest_stretches0, x_fewest_stretchesI, x_stretches, x_stretches0, x_spread_of]
  exact ⟨ok, ok.c, h⟩
theorem cut_seg' {rs : List Row} {a b : Nat} (h1 : a < b) (h2 : b ≤ rs.length) : cutL rs (some (a : Int)) (some (b : Int)) = seg rs a (b - 1) := by
  have := cut_seg (rs := rs) (l := a) (i := b - 1) (by omega) (by omega)
  rw [show ((b - 1 : Nat) : Int) + 1 = b by omega] at this
  exact this
theorem seg_length {rs : List Row} {a b : Nat} (h1 : a ≤ b) (h2 : b < rs.length) : (seg rs a b).length = b + 1 - a := by
  unfold seg
  rw [List.length_take, List.length_drop]
  omega
theorem OkR.seg {rs : List Row} (h : OkR rs) {a b : Nat} (h1 : a ≤ b) (h2 : b < rs.length) : OkR (seg rs a b) := by
  obtain ⟨c, c1, c2, hr⟩ := h.ch
  have hm := h.most
  have hl := seg_length h1 h2
  refine ⟨by omega, by omega, c, c1, c2, fun r hr' => ?_⟩
  obtain ⟨j, x, y, rfl⟩ := (mem_seg h2).mp hr'
  exact hr _ (getD_mem (by omega))
theorem sorted_uniq : ∀ {a b : List Int}, a.Pairwise (· < ·) → b.Pairwise (· < ·) → (∀ k, k ∈ a ↔ k ∈ b) → a = b
  | [], [], _, _, _ => rfl
  | [], y :: b, _, _, h => absurd ((h y).mpr List.mem_cons_self) (by simp)
  | x :: a, [], _, _, h => absurd ((h x).mp List.mem_cons_self) (by simp)
  | x :: a, y :: b, ha, hb, h => by
    have ha' := List.pairwise_cons.mp ha
    have hb' := List.pairwise_cons.mp hb
    have e : x = y := by
      rcases List.mem_cons.mp ((h x).mp List.mem_cons_self) with e | e
      · exact e
      · rcases List.mem_cons.mp ((h y).mpr List.mem_cons_self) with e2 | e2
        · exact e2.symm
        · have := hb'.1 x e; have := ha'.1 y e2; omega
    subst e
    rw [sorted_uniq ha'.2 hb'.2 fun k => ?_]
    constructor
    · intro hk
      rcases List.mem_cons.mp ((h k).mp (List.mem_cons_of_mem _ hk)) with e | e
      · have := ha'.1 k hk; omega
      · exact e
    · intro hk
      rcases List.mem_cons.mp ((h k).mpr (List.mem_cons_of_mem _ hk)) with e | e
      · have := hb'.1 k hk; omega
      · exact e
theorem SrtS.eq {a ms : List Int} (h : SrtS a ms) (ha : a.Pairwise (· < ·)) : ms = a := sorted_uniq h.1 ha h.2
theorem starts_sorted {t : Int} {s : Option Int} {rs : List Row} : (starts t s rs).Pairwise (· < ·) := by
  unfold starts
  have h : (0 :: greedy (cS t s rs) (rs.length - 1) 1 0).Pairwise (· < ·) := List.Pairwise.cons (fun x hx => by have := (greedy_range _ _ _ x hx).1; omega) (greedy_sorted _ _ _)
  exact List.pairwise_map.mpr (h.imp fun {a b} h => by show (a : Int) < b; omega)
theorem starts_le {t : Int} {s : Option Int} {rs : List Row} (h : 0 < rs.length) : (starts t s rs).length ≤ rs.length := by
  rw [starts_length]
  have := greedy_le (C := cS t s rs) (rs.length - 1) 1 0
  omega
/-- each stretch is whole -/
theorem starts_pairs {t : Int} {s : Option Int} {rs : List Row} (hp : 0 < rs.length) (ht : 0 ≤ t) (hs : OkQ s) : ∀ p ∈ (starts t s rs).zip ((starts t s rs).drop 1 ++ [(rs.length : Int)]), ∃ a b : Nat, p = ((a : Int), (b : Int)) ∧ a < b ∧ b ≤ rs.length ∧ spr (seg rs a (b - 1)) ≤ t ∧ ∀ k, s = some k → (b : Int) - a ≤ k := by
  intro p hp'
  have e : (starts t s rs).zip ((starts t s rs).drop 1 ++ [(rs.length : Int)]) = ((0 :: greedy (cS t s rs) (rs.length - 1) 1 0).zip (greedy (cS t s rs) (rs.length - 1) 1 0 ++ [1 + (rs.length - 1)])).map fun p => ((p.1 : Int), (p.2 : Int)) := by
    rw [show 1 + (rs.length - 1) = rs.length by omega]
    unfold starts
    rw [show (fun p : Nat × Nat => ((p.1 : Int), (p.2 : Int))) = Prod.map Int.ofNat Int.ofNat from rfl, ← List.zip_map, List.map_append]
    rfl
  rw [e] at hp'
  obtain ⟨⟨a, b⟩, hq, rfl⟩ := List.mem_map.mp hp'
  obtain ⟨h1, h2, h3⟩ := greedy_pairsN _ _ _ (by omega) (fun j _ _ => by omega) _ hq
  simp only at h1 h2 h3
  refine ⟨a, b, rfl, h1, by omega, ?_, fun k e => ?_⟩
  · by_cases z : a = b - 1
    · rw [← z]
      refine (seg_le ht (by omega)).mpr fun i j x y z w => ?_
      have e1 : i = a := by omega
      have e2 : j = a := by omega
      rw [e1, e2, gap_self]
      exact ht
    · have := of_decide_eq_false (h3 (b - 1) (by omega) (by omega))
      exact Int.not_lt.mp fun w => this (.inl w)
  · have hk := (hs k e).1
    refine Int.not_lt.mp fun z => ?_
    have := of_decide_eq_false (h3 (a + k.toNat) (by omega) (by omega))
    refine this (.inr ?_)
    rw [e]
    exact decide_eq_true (by omega)
end VL
/-! VC8: pairs that are apart. -/
namespace VL
open PySem L2

/-- the last place of [a, b) that is far from b, or a -/
def firstF (t : Int) (rs : List Row) (a b : Nat) : Nat → Nat
  | 0 => a
  | m + 1 => if t < gap (rowAt rs (a + m)) (rowAt rs b) then a + m else firstF t rs a b m
theorem firstF_s {t : Int} {rs : List Row} {a b m : Nat} : firstF t rs a b (m + 1) = if t < gap (rowAt rs (a + m)) (rowAt rs b) then a + m else firstF t rs a b m := rfl
def apartF (t : Int) (s : Option Int) (rs : List Row) : List Row := ((starts t s rs).zip ((starts t s rs).drop 1)).map fun p => [((firstF t rs p.1.toNat p.2.toNat (p.2.toNat - p.1.toNat) : Nat) : Int), p.2]
theorem firstF_range {t : Int} {rs : List Row} {a b : Nat} : ∀ m, a ≤ firstF t rs a b m ∧ (firstF t rs a b m < a + m ∨ firstF t rs a b m = a)
  | 0 => ⟨Nat.le_refl _, .inr rfl⟩
  | m + 1 => by
    have := firstF_range (t := t) (rs := rs) (a := a) (b := b) m
    unfold firstF
    split
    · omega
    · omega
theorem firstF_far {t : Int} {rs : List Row} {a b : Nat} : ∀ m, (∃ j, a ≤ j ∧ j < a + m ∧ t < gap (rowAt rs j) (rowAt rs b)) → t < gap (rowAt rs (firstF t rs a b m)) (rowAt rs b)
  | 0, ⟨j, h1, h2, _⟩ => by omega
  | m + 1, ⟨j, h1, h2, h3⟩ => by
    unfold firstF
    split
    · rename_i h; exact h
    · rename_i h
      refine firstF_far m ⟨j, h1, ?_, h3⟩
      by_cases e : j = a + m
      · rw [e] at h3; exact absurd h3 h
      · omega
def t_apart : S1 := (sSeq (sDrop (eCall true [] c_need_samples (aCons (eVar 0) aNil))) (sSeq (sDrop (eCall true [] c_need_spread (aCons (eVar 1) aNil))) (sSeq (sDrop (eCall true [] c_need_silence (aCons (eVar 2) aNil))) (sSeq (sOwn 3 (eLst aNil)) (sSeq (sSet 4 (eCall true [] c_starts_of (aCons (eVar 0) (aCons (eVar 1) (aCons (eVar 2) aNil))))) (sSeq (sFor false [5, 6, 7, 8] (iZipD (aCons (eVar 4) (aCons (eSl (eVar 4) (oSome (eC (.int 1))) oNone) aNil))) (gTp 2 (gsC (gNm 5) (gsC (gNm 6) gsN))) (sSeq (sSet 7 (eVar 5)) (sSeq (sFor false [8] (iRg2 (aCons (eVar 5) (aCons (eVar 6) aNil))) (gNm 8) (sIf (eTest (eBin fGt (eCall true [] c_distance (aCons (eIx (eVar 0) (eVar 8)) (aCons (eIx (eVar 0) (eVar 6)) aNil))) (eVar 1))) (sSet 7 (eVar 8)) sNext)) (sApp 3 (eTup (aCons (eVar 7) (aCons (eVar 6) aNil))))))) (sRet (eVar 3))))))))
theorem rowAt_get {rs : List Row} {j : Nat} (h : j < rs.length) : rs[j]? = some (rowAt rs j) := by
  unfold rowAt
  rw [List.getD_eq_getElem?_getD, List.getElem?_eq_getElem h]
  rfl
theorem starts_in {t : Int} {s : Option Int} {rs : List Row} (hp : 0 < rs.length) : ∀ p ∈ (starts t s rs).zip ((starts t s rs).drop 1), ∃ a b : Nat, p = ((a : Int), (b : Int)) ∧ a < b ∧ b < rs.length ∧ cS t s rs a b = true ∧ ∀ j, a < j → j < b → cS t s rs a j = false := by
  intro p hp'
  have e : (starts t s rs).zip ((starts t s rs).drop 1) = ((0 :: greedy (cS t s rs) (rs.length - 1) 1 0).zip (greedy (cS t s rs) (rs.length - 1) 1 0)).map fun p => ((p.1 : Int), (p.2 : Int)) := by
    unfold starts
    rw [show (fun p : Nat × Nat => ((p.1 : Int), (p.2 : Int))) = Prod.map Int.ofNat Int.ofNat from rfl, ← List.zip_map]
    rfl
  rw [e] at hp'
  obtain ⟨⟨a, b⟩, hq, rfl⟩ := List.mem_map.mp hp'
  have gen : ∀ (m i l : Nat), l < i → (∀ j, l < j → j < i → cS t s rs l j = false) → ∀ p ∈ (l :: greedy (cS t s rs) m i l).zip (greedy (cS t s rs) m i l), p.1 < p.2 ∧ p.2 < i + m ∧ cS t s rs p.1 p.2 = true ∧ ∀ j, p.1 < j → j < p.2 → cS t s rs p.1 j = false := by
    intro m
    induction m with
    | zero => intro i l _ _ p hp; cases hp
    | succ m ih =>
      intro i l h1 h2 p hp
      rw [greedy_s] at hp
      by_cases c : cS t s rs l i = true
      · rw [if_pos c, List.zip_cons_cons] at hp
        rcases List.mem_cons.mp hp with rfl | hp
        · exact ⟨h1, by show i < i + (m + 1); omega, c, h2⟩
        · have := ih (i + 1) i (by omega) (fun j _ _ => by omega) p hp
          exact ⟨this.1, by omega, this.2.2⟩
      · rw [if_neg c] at hp
        have := ih (i + 1) l (by omega) (fun j x y => by
          by_cases e : j = i
          · rw [e]; exact (Bool.not_eq_true _).mp c
          · exact h2 j x (by omega)) p hp
        exact ⟨this.1, by omega, this.2.2⟩
  obtain ⟨h1, h2, h3, h4⟩ := gen _ _ _ (by omega) (fun j _ _ => by omega) _ hq
  simp only at h1 h2 h3 h4
  exact ⟨a, b, rfl, h1, by omega, h3, h4⟩
def c_apart : C1 := fun ds q => ∃ (rs : List Row) (t : Int) (s : Option Int), ds = [dR rs, .int t, dQ s] ∧ OkA rs t s ∧ q (.lst ((apartF t s rs).map dS))
theorem m_apart : MonoC c_apart := fun ds q q' k ⟨rs, t, s, e, h1, h⟩ => ⟨rs, t, s, e, h1, k _ h⟩
theorem x_apart {rs : List Row} {t : Int} {s : Option Int} {q : D → Prop} : callC c_apart [dR rs, .int t, dQ s] q = (OkA rs t s ∧ q (.lst ((apartF t s rs).map dS))) := by
  simp only [callC, c_apart, ↓sSeq, ↓sRet, ↓sIf, ↓sSet, ↓sOwn, ↓sAsg, ↓sDrop, ↓sNext, ↓sBreak, ↓sNever, ↓sFrz, ↓sApp, ↓sSetIx, ↓sSrc, ↓sPar, ↓sPar3, ↓sAug, ↓sNewSrc, ↓eC, ↓eTest, ↓eAnd, ↓eOr, ↓eNot, ↓eAndV, ↓eOrV, ↓eNotV, ↓eIf, ↓eChain, ↓eNeg, ↓eIx, ↓eIxS, ↓eSl, ↓oNone, ↓oSome, ↓aNil, ↓aCons, ↓eTup, ↓eLst, ↓eTupM, ↓eLstM, ↓eCB, ↓eBin, ↓x_call, ↓x_callK, ↓eSrc, ↓iSeqD, ↓iRg1, ↓iRg2, ↓iRg3, ↓iEnumD, ↓iZipD, ↓gNm, ↓gTp, ↓gsC, ↓gsN, ↓eYes, x_var0, x_var0o, x_varS, fAdd_ii, fAdd_ll, fAdd_tt, fAdd_ss, fMul_ii, fMul_li, fMul_ti, fSub_ii, fDiv_ii, fMod_ii, fPow_ii, fLt_ii, fLe_ii, fGt_ii, fGe_ii, ↓fEq, ↓fNe, ↓fIsN, ↓fNotN, x_lenL, x_lenT, x_lenS, x_lenR, x_lenC, fAbs_i, fInt_i, fInt_b, x_isi, List.set_cons_zero, List.set_cons_succ, List.getElem?_cons_zero, List.getElem?_cons_succ, items_l, items_t, okSt, mdOf, md_i, md_b, md_n, md_s, md_t, md_l, md_y, Md.isCl, Md.isNw, Md.meet, atI_0, atI_m1, atI_1, atI_2, atI_nat, cond_true, cond_false, isNon_i, isNon_n, isT_ii, isT_ib, isT_it, isT_il, isT_bi, isT_bb, isT_tt, isT_ti, isT_lt, isT_ll, isT_nt, isT_ni, isT_nl, tyN_i, tyN_b, tyN_t, tyN_l, tyN_n, dS_isT, dR_isT, dS_tyN, dR_tyN, dQ_isNon, D.flat, D.flats, flats_cons, flats_nil, flats_ints, flat_tup, putOk, slOf_f, slOf_t, Option.some.injEq, D.int.injEq, D.bl.injEq, D.lst.injEq, D.tup.injEq, D.str.injEq, D.scr.injEq, D.ty.injEq, x_consD, x_consD0, x_consD1, and_assoc, reduceCtorEq, exists_eq, exists_eq', exists_eq_left, exists_eq_left', exists_eq_right, exists_eq_right', exists_and_left, exists_and_right, and_true, true_and, and_self, and_false, false_and, or_true, true_or, or_false, false_or, if_true, if_false, ite_true, ite_false, decide_eq_true_eq, decide_eq_false_iff_not, Bool.not_eq_true, Bool.not_eq_true', Bool.not_true, Bool.not_false, Bool.true_eq_false, Bool.false_eq_true, not_true_eq_false, not_false_eq_true, eq_self_iff_true, forall_const, imp_self, List.length_cons, List.length_nil, List.append_nil, List.nil_append, List.cons_append, cpow_6, cpow_18, cpow_5, cpow_7, cpow_15, cpow_12, CMul, Nat.reduceAdd, Nat.reduceLeDiff, Nat.reduceLT, Int.reducePow, Int.reduceNeg, Int.reduceLT, Int.reduceLE, Int.reduceToNat, Int.reduceMul, Int.reduceAdd, Int.reduceSub, frzE, frz1, wipeE, all_nil, all_cons, endsF, x_start, List.map_cons, List.map_nil, List.replicate_succ, List.replicate_zero, Nat.reduceSub, Int.reduceEq, Nat.reduceEqDiff, List.mem_cons, List.not_mem_nil, x_isTs, or_self, Option.isSome_some, Option.isSome_none, String.reduceEq, dS_inj, dR_inj, dQ_inj, dQ_non, dQ_int, dS_md, dR_md, dQ_md, dS_flat, dR_flat, dQ_flat, dS_items, dR_items, List.getElem?_map, Option.map_some, Option.map_none, shp_i, shp_n, shp_b, shp_li, shp_S, shp_R, shp_lS, shp_Q, shp_l0, eqb_int, eqb_l, eqb_S, eqb_R, eqbs_ints, eqbs_dS, eqbs_nil0, eqbs_nilL, eqbs_nilR, Sl.own.injEq, Sl.val.injEq, List.length_map, dR_lst, dR_tup, dS_lst, dS_tup, flats_S, cut_map, cut_1, dR_fold, dS_fold, inI_t, inI_f, Bool.or_false, List.getLast?_map, exists_false, exists_const, Bool.and_self, Bool.and_true, Bool.true_and, Bool.and_false, Bool.false_and, add_S, List.isEmpty_map, fMax_2, fMax_3, fMin_2, flat_non, flat_i, ↓u_for, ↓u_comp, fS_v, fS_n, fS_o, shp_lli, eqbs_dL, ↓eSortSet, int_inj, fList_S, fList_R, sum_S, sum_li, x_reported, x_reportedL, x_all_reports, x_all_reportsN, x_held_by, x_held_byT, x_reports, x_reports0, x_reportsI, x_held, x_held0, x_heldI, x_largest_error, x_largest_errorI, x_is_between, x_is_sample, x_is_samples, x_distance, x_need_samples, x_need_threshold, x_need_silence, x_is_late, x_source, x_draw, x_samples, x_gap, x_limit, x_quiet, x_spread_within, x_spread_withinL, x_need_spread, x_starts_of, x_fewest_stretches, x_fewest_stretches0, x_fewest_stretchesI, x_stretches, x_stretches0, x_spread_of]
theorem w_apart (ds : List D) (q : D → Prop) (h : c_apart ds q) : t_apart (endsF true q) (startE 9 ds) := by
  obtain ⟨rs, t, s, rfl, ok, h⟩ := h
  have hp := ok.r.pos
  have hm := ok.r.most
  obtain ⟨c, h1, h2, hr⟩ := ok.r.ch
  have hsl := starts_le (t := t) (s := s) hp
  simp only [x_start, List.map_cons, List.map_nil, List.length_cons, List.length_nil, List.replicate_succ, List.replicate_zero, List.cons_append, List.nil_append, Nat.reduceSub, Nat.reduceAdd]
  simp only [t_apart, ↓sSeq, ↓sRet, ↓sIf, ↓sSet, ↓sOwn, ↓sAsg, ↓sDrop, ↓sNext, ↓sBreak, ↓sNever, ↓sFrz, ↓sApp, ↓sSetIx, ↓sSrc, ↓sPar, ↓sPar3, ↓sAug, ↓sNewSrc, ↓eC, ↓eTest, ↓eAnd, ↓eOr, ↓eNot, ↓eAndV, ↓eOrV, ↓eNotV, ↓eIf, ↓eChain, ↓eNeg, ↓eIx, ↓eIxS, ↓eSl, ↓oNone, ↓oSome, ↓aNil, ↓aCons, ↓eTup, ↓eLst, ↓eTupM, ↓eLstM, ↓eCB, ↓eBin, ↓x_call, ↓x_callK, ↓eSrc, ↓iSeqD, ↓iRg1, ↓iRg2, ↓iRg3, ↓iEnumD, ↓iZipD, ↓gNm, ↓gTp, ↓gsC, ↓gsN, ↓eYes, x_var0, x_var0o, x_varS, fAdd_ii, fAdd_ll, fAdd_tt, fAdd_ss, fMul_ii, fMul_li, fMul_ti, fSub_ii, fDiv_ii, fMod_ii, fPow_ii, fLt_ii, fLe_ii, fGt_ii, fGe_ii, ↓fEq, ↓fNe, ↓fIsN, ↓fNotN, x_lenL, x_lenT, x_lenS, x_lenR, x_lenC, fAbs_i, fInt_i, fInt_b, x_isi, List.set_cons_zero, List.set_cons_succ, List.getElem?_cons_zero, List.getElem?_cons_succ, items_l, items_t, okSt, mdOf, md_i, md_b, md_n, md_s, md_t, md_l, md_y, Md.isCl, Md.isNw, Md.meet, atI_0, atI_m1, atI_1, atI_2, atI_nat, cond_true, cond_false, isNon_i, isNon_n, isT_ii, isT_ib, isT_it, isT_il, isT_bi, isT_bb, isT_tt, isT_ti, isT_lt, isT_ll, isT_nt, isT_ni, isT_nl, tyN_i, tyN_b, tyN_t, tyN_l, tyN_n, dS_isT, dR_isT, dS_tyN, dR_tyN, dQ_isNon, D.flat, D.flats, flats_cons, flats_nil, flats_ints, flat_tup, putOk, slOf_f, slOf_t, Option.some.injEq, D.int.injEq, D.bl.injEq, D.lst.injEq, D.tup.injEq, D.str.injEq, D.scr.injEq, D.ty.injEq, x_consD, x_consD0, x_consD1, and_assoc, reduceCtorEq, exists_eq, exists_eq', exists_eq_left, exists_eq_left', exists_eq_right, exists_eq_right', exists_and_left, exists_and_right, and_true, true_and, and_self, and_false, false_and, or_true, true_or, or_false, false_or, if_true, if_false, ite_true, ite_false, decide_eq_true_eq, decide_eq_false_iff_not, Bool.not_eq_true, Bool.not_eq_true', Bool.not_true, Bool.not_false, Bool.true_eq_false, Bool.false_eq_true, not_true_eq_false, not_false_eq_true, eq_self_iff_true, forall_const, imp_self, List.length_cons, List.length_nil, List.append_nil, List.nil_append, List.cons_append, cpow_6, cpow_18, cpow_5, cpow_7, cpow_15, cpow_12, CMul, Nat.reduceAdd, Nat.reduceLeDiff, Nat.reduceLT, Int.reducePow, Int.reduceNeg, Int.reduceLT, Int.reduceLE, Int.reduceToNat, Int.reduceMul, Int.reduceAdd, Int.reduceSub, frzE, frz1, wipeE, all_nil, all_cons, endsF, x_start, List.map_cons, List.map_nil, List.replicate_succ, List.replicate_zero, Nat.reduceSub, Int.reduceEq, Nat.reduceEqDiff, List.mem_cons, List.not_mem_nil, x_isTs, or_self, Option.isSome_some, Option.isSome_none, String.reduceEq, dS_inj, dR_inj, dQ_inj, dQ_non, dQ_int, dS_md, dR_md, dQ_md, dS_flat, dR_flat, dQ_flat, dS_items, dR_items, List.getElem?_map, Option.map_some, Option.map_none, shp_i, shp_n, shp_b, shp_li, shp_S, shp_R, shp_lS, shp_Q, shp_l0, eqb_int, eqb_l, eqb_S, eqb_R, eqbs_ints, eqbs_dS, eqbs_nil0, eqbs_nilL, eqbs_nilR, Sl.own.injEq, Sl.val.injEq, List.length_map, dR_lst, dR_tup, dS_lst, dS_tup, flats_S, cut_map, cut_1, dR_fold, dS_fold, inI_t, inI_f, Bool.or_false, List.getLast?_map, exists_false, exists_const, Bool.and_self, Bool.and_true, Bool.true_and, Bool.and_false, Bool.false_and, add_S, List.isEmpty_map, fMax_2, fMax_3, fMin_2, flat_non, flat_i, ↓u_for, ↓u_comp, fS_v, fS_n, fS_o, shp_lli, eqbs_dL, ↓eSortSet, int_inj, fList_S, fList_R, sum_S, sum_li, x_reported, x_reportedL, x_all_reports, x_all_reportsN, x_held_by, x_held_byT, x_reports, x_reports0, x_reportsI, x_held, x_held0, x_heldI, x_largest_error, x_largest_errorI, x_is_between, x_is_sample, x_is_samples, x_distance, x_need_samples, x_need_threshold, x_need_silence, x_is_late, x_source, x_draw, x_samples, x_gap, x_limit, x_quiet, x_spread_within, x_spread_withinL, x_need_spread, x_starts_of, x_fewest_stretches, x_fewest_stretches0, x_fewest_stretchesI, x_stretches, x_stretches0, x_spread_of, x_apart]
  refine ⟨ok.r, ok.t, ok.q, ok.r.c, ?_⟩
  refine for_st (σ := List Row) ((starts t s rs).zip ((starts t s rs).drop 1)) (fun p => .tup [.int p.1, .int p.2]) (fun f => [.val (dR rs), .val (.int t), .val (dQ s), .own (f.map dS), .val (dS (starts t s rs)), .non, .non, .non, .non])
    (fun i f => f.length ≤ i ∧ f = (((starts t s rs).zip ((starts t s rs).drop 1)).take i).map fun p => [((firstF t rs p.1.toNat p.2.toNat (p.2.toNat - p.1.toNat) : Nat) : Int), p.2]) []
    (by rw [← zipD_map]) rfl (fun z => nomatch z) rfl ⟨Nat.le_refl _, rfl⟩ ?_ ?_
  · rintro i ⟨a, b⟩ f hx ⟨hf, hI⟩ N hN
    have hi := (List.getElem?_eq_some_iff.mp hx).1
    rw [List.length_zip] at hi
    obtain ⟨a, b, e, hab, hbn, _, _⟩ := starts_in hp _ (List.mem_of_getElem? hx)
    cases e
    try simp only [↓sSeq, ↓sRet, ↓sIf, ↓sSet, ↓sOwn, ↓sAsg, ↓sDrop, ↓sNext, ↓sBreak, ↓sNever, ↓sFrz, ↓sApp, ↓sSetIx, ↓sSrc, ↓sPar, ↓sPar3, ↓sAug, ↓sNewSrc, ↓eC, ↓eTest, ↓eAnd, ↓eOr, ↓eNot, ↓eAndV, ↓eOrV, ↓eNotV, ↓eIf, ↓eChain, ↓eNeg, ↓eIx, ↓eIxS, ↓eSl, ↓oNone, ↓oSome, ↓aNil, ↓aCons, ↓eTup, ↓eLst, ↓eTupM, ↓eLstM, ↓eCB, ↓eBin, ↓x_call, ↓x_callK, ↓eSrc, ↓iSeqD, ↓iRg1, ↓iRg2, ↓iRg3, ↓iEnumD, ↓iZipD, ↓gNm, ↓gTp, ↓gsC, ↓gsN, ↓eYes, x_var0, x_var0o, x_varS, fAdd_ii, fAdd_ll, fAdd_tt, fAdd_ss, fMul_ii, fMul_li, fMul_ti, fSub_ii, fDiv_ii, fMod_ii, fPow_ii, fLt_ii, fLe_ii, fGt_ii, fGe_ii, ↓fEq, ↓fNe, ↓fIsN, ↓fNotN, x_lenL, x_lenT, x_lenS, x_lenR, x_lenC, fAbs_i, fInt_i, fInt_b, x_isi, List.set_cons_zero, List.set_cons_succ, List.getElem?_cons_zero, List.getElem?_cons_succ, items_l, items_t, okSt, mdOf, md_i, md_b, md_n, md_s, md_t, md_l, md_y, Md.isCl, Md.isNw, Md.meet, atI_0, atI_m1, atI_1, atI_2, atI_nat, cond_true, cond_false, isNon_i, isNon_n, isT_ii, isT_ib, isT_it, isT_il, isT_bi, isT_bb, isT_tt, isT_ti, isT_lt, isT_ll, isT_nt, isT_ni, isT_nl, tyN_i, tyN_b, tyN_t, tyN_l, tyN_n, dS_isT, dR_isT, dS_tyN, dR_tyN, dQ_isNon, D.flat, D.flats, flats_cons, flats_nil, flats_ints, flat_tup, putOk, slOf_f, slOf_t, Option.some.injEq, D.int.injEq, D.bl.injEq, D.lst.injEq, D.tup.injEq, D.str.injEq, D.scr.injEq, D.ty.injEq, x_consD, x_consD0, x_consD1, and_assoc, reduceCtorEq, exists_eq, exists_eq', exists_eq_left, exists_eq_left', exists_eq_right, exists_eq_right', exists_and_left, exists_and_right, and_true, true_and, and_self, and_false, false_and, or_true, true_or, or_false, false_or, if_true, if_false, ite_true, ite_false, decide_eq_true_eq, decide_eq_false_iff_not, Bool.not_eq_true, Bool.not_eq_true', Bool.not_true, Bool.not_false, Bool.true_eq_false, Bool.false_eq_true, not_true_eq_false, not_false_eq_true, eq_self_iff_true, forall_const, imp_self, List.length_cons, List.length_nil, List.append_nil, List.nil_append, List.cons_append, cpow_6, cpow_18, cpow_5, cpow_7, cpow_15, cpow_12, CMul, Nat.reduceAdd, Nat.reduceLeDiff, Nat.reduceLT, Int.reducePow, Int.reduceNeg, Int.reduceLT, Int.reduceLE, Int.reduceToNat, Int.reduceMul, Int.reduceAdd, Int.reduceSub, frzE, frz1, wipeE, all_nil, all_cons, endsF, x_start, List.map_cons, List.map_nil, List.replicate_succ, List.replicate_zero, Nat.reduceSub, Int.reduceEq, Nat.reduceEqDiff, List.mem_cons, List.not_mem_nil, x_isTs, or_self, Option.isSome_some, Option.isSome_none, String.reduceEq, dS_inj, dR_inj, dQ_inj, dQ_non, dQ_int, dS_md, dR_md, dQ_md, dS_flat, dR_flat, dQ_flat, dS_items, dR_items, List.getElem?_map, Option.map_some, Option.map_none, shp_i, shp_n, shp_b, shp_li, shp_S, shp_R, shp_lS, shp_Q, shp_l0, eqb_int, eqb_l, eqb_S, eqb_R, eqbs_ints, eqbs_dS, eqbs_nil0, eqbs_nilL, eqbs_nilR, Sl.own.injEq, Sl.val.injEq, List.length_map, dR_lst, dR_tup, dS_lst, dS_tup, flats_S, cut_map, cut_1, dR_fold, dS_fold, inI_t, inI_f, Bool.or_false, List.getLast?_map, exists_false, exists_const, Bool.and_self, Bool.and_true, Bool.true_and, Bool.and_false, Bool.false_and, add_S, List.isEmpty_map, fMax_2, fMax_3, fMin_2, flat_non, flat_i, ↓u_for, ↓u_comp, fS_v, fS_n, fS_o, shp_lli, eqbs_dL, ↓eSortSet, int_inj, fList_S, fList_R, sum_S, sum_li, x_reported, x_reportedL, x_all_reports, x_all_reportsN, x_held_by, x_held_byT, x_reports, x_reports0, x_reportsI, x_held, x_held0, x_heldI, x_largest_error, x_largest_errorI, x_is_between, x_is_sample, x_is_samples, x_distance, x_need_samples, x_need_threshold, x_need_silence, x_is_late, x_source, x_draw, x_samples, x_gap, x_limit, x_quiet, x_spread_within, x_spread_withinL, x_need_spread, x_starts_of, x_fewest_stretches, x_fewest_stretches0, x_fewest_stretchesI, x_stretches, x_stretches0, x_spread_of, x_apart]
    refine ⟨by omega, by omega, by omega, by omega, ?_⟩
    refine for_st (σ := Nat) (List.range (b - a)) (fun i => .int ((a : Int) + (i : Nat))) (fun z => [.val (dR rs), .val (.int t), .val (dQ s), .own (f.map dS), .val (dS (starts t s rs)), .val (.int a), .val (.int b), .val (.int (z : Nat)), .non])
      (fun i z => z = firstF t rs a b i) a (by rw [rgLo, show ((b : Int) - a).toNat = b - a by omega]) rfl (fun z => nomatch z) rfl rfl ?_ ?_
    · rintro i2 k2 z hx2 rfl N2 hN2
      obtain ⟨rfl, hk⟩ := get_range hx2
      have e3 : (a : Int) + (k2 : Nat) = ((a + k2 : Nat) : Int) := by omega
      try simp only [↓sSeq, ↓sRet, ↓sIf, ↓sSet, ↓sOwn, ↓sAsg, ↓sDrop, ↓sNext, ↓sBreak, ↓sNever, ↓sFrz, ↓sApp, ↓sSetIx, ↓sSrc, ↓sPar, ↓sPar3, ↓sAug, ↓sNewSrc, ↓eC, ↓eTest, ↓eAnd, ↓eOr, ↓eNot, ↓eAndV, ↓eOrV, ↓eNotV, ↓eIf, ↓eChain, ↓eNeg, ↓eIx, ↓eIxS, ↓eSl, ↓oNone, ↓oSome, ↓aNil, ↓aCons, ↓eTup, ↓eLst, ↓eTupM, ↓eLstM, ↓eCB, ↓eBin, ↓x_call, ↓x_callK, ↓eSrc, ↓iSeqD, ↓iRg1, ↓iRg2, ↓iRg3, ↓iEnumD, ↓iZipD, ↓gNm, ↓gTp, ↓gsC, ↓gsN, ↓eYes, x_var0, x_var0o, x_varS, fAdd_ii, fAdd_ll, fAdd_tt, fAdd_ss, fMul_ii, fMul_li, fMul_ti, fSub_ii, fDiv_ii, fMod_ii, fPow_ii, fLt_ii, fLe_ii, fGt_ii, fGe_ii, ↓fEq, ↓fNe, ↓fIsN, ↓fNotN, x_lenL, x_lenT, x_lenS, x_lenR, x_lenC, fAbs_i, fInt_i, fInt_b, x_isi, List.set_cons_zero, List.set_cons_succ, List.getElem?_cons_zero, List.getElem?_cons_succ, items_l, items_t, okSt, mdOf, md_i, md_b, md_n, md_s, md_t, md_l, md_y, Md.isCl, Md.isNw, Md.meet, atI_0, atI_m1, atI_1, atI_2, atI_nat, cond_true, cond_false, isNon_i, isNon_n, isT_ii, isT_ib, isT_it, isT_il, isT_bi, isT_bb, isT_tt, isT_ti, isT_lt, isT_ll, isT_nt, isT_ni, isT_nl, tyN_i, tyN_b, tyN_t, tyN_l, tyN_n, dS_isT, dR_isT, dS_tyN, dR_tyN, dQ_isNon, D.flat, D.flats, flats_cons, flats_nil, flats_ints, flat_tup, putOk, slOf_f, slOf_t, Option.some.injEq, D.int.injEq, D.bl.injEq, D.lst.injEq, D.tup.injEq, D.str.injEq, D.scr.injEq, D.ty.injEq, x_consD, x_consD0, x_consD1, and_assoc, reduceCtorEq, exists_eq, exists_eq', exists_eq_left, exists_eq_left', exists_eq_right, exists_eq_right', exists_and_left, exists_and_right, and_true, true_and, and_self, and_false, false_and, or_true, true_or, or_false, false_or, if_true, if_false, ite_true, ite_false, decide_eq_true_eq, decide_eq_false_iff_not, Bool.not_eq_true, Bool.not_eq_true', Bool.not_true, Bool.not_false, Bool.true_eq_false, Bool.false_eq_true, not_true_eq_false, not_false_eq_true, eq_self_iff_true, forall_const, imp_self, List.length_cons, List.length_nil, List.append_nil, List.nil_append, List.cons_append, cpow_6, cpow_18, cpow_5, cpow_7, cpow_15, cpow_12, CMul, Nat.reduceAdd, Nat.reduceLeDiff, Nat.reduceLT, Int.reducePow, Int.reduceNeg, Int.reduceLT, Int.reduceLE, Int.reduceToNat, Int.reduceMul, Int.reduceAdd, Int.reduceSub, frzE, frz1, wipeE, all_nil, all_cons, endsF, x_start, List.map_cons, List.map_nil, List.replicate_succ, List.replicate_zero, Nat.reduceSub, Int.reduceEq, Nat.reduceEqDiff, List.mem_cons, List.not_mem_nil, x_isTs, or_self, Option.isSome_some, Option.isSome_none, String.reduceEq, dS_inj, dR_inj, dQ_inj, dQ_non, dQ_int, dS_md, dR_md, dQ_md, dS_flat, dR_flat, dQ_flat, dS_items, dR_items, List.getElem?_map, Option.map_some, Option.map_none, shp_i, shp_n, shp_b, shp_li, shp_S, shp_R, shp_lS, shp_Q, shp_l0, eqb_int, eqb_l, eqb_S, eqb_R, eqbs_ints, eqbs_dS, eqbs_nil0, eqbs_nilL, eqbs_nilR, Sl.own.injEq, Sl.val.injEq, List.length_map, dR_lst, dR_tup, dS_lst, dS_tup, flats_S, cut_map, cut_1, dR_fold, dS_fold, inI_t, inI_f, Bool.or_false, List.getLast?_map, exists_false, exists_const, Bool.and_self, Bool.and_true, Bool.true_and, Bool.and_false, Bool.false_and, add_S, List.isEmpty_map, fMax_2, fMax_3, fMin_2, flat_non, flat_i, ↓u_for, ↓u_comp, fS_v, fS_n, fS_o, shp_lli, eqbs_dL, ↓eSortSet, int_inj, fList_S, fList_R, sum_S, sum_li, x_reported, x_reportedL, x_all_reports, x_all_reportsN, x_held_by, x_held_byT, x_reports, x_reports0, x_reportsI, x_held, x_held0, x_heldI, x_largest_error, x_largest_errorI, x_is_between, x_is_sample, x_is_samples, x_distance, x_need_samples, x_need_threshold, x_need_silence, x_is_late, x_source, x_draw, x_samples, x_gap, x_limit, x_quiet, x_spread_within, x_spread_withinL, x_need_spread, x_starts_of, x_fewest_stretches, x_fewest_stretches0, x_fewest_stretchesI, x_stretches, x_stretches0, x_spread_of, x_apart, e3, rowAt_get (rs := rs) (j := a + k2) (by omega), rowAt_get hbn]
      refine ⟨(hr _ (getD_mem (by omega))).same h1 h2 (hr _ (getD_mem hbn)), ?_⟩
      split
      · rename_i hc
        exact hN2 (a + k2) _ (by rw [firstF_s, if_pos hc]) rfl
      · rename_i hc
        exact hN2 (firstF t rs a b k2) _ (by rw [firstF_s, if_neg hc]) rfl
    · rintro z rfl
      rw [List.length_range]
      try simp only [↓sSeq, ↓sRet, ↓sIf, ↓sSet, ↓sOwn, ↓sAsg, ↓sDrop, ↓sNext, ↓sBreak, ↓sNever, ↓sFrz, ↓sApp, ↓sSetIx, ↓sSrc, ↓sPar, ↓sPar3, ↓sAug, ↓sNewSrc, ↓eC, ↓eTest, ↓eAnd, ↓eOr, ↓eNot, ↓eAndV, ↓eOrV, ↓eNotV, ↓eIf, ↓eChain, ↓eNeg, ↓eIx, ↓eIxS, ↓eSl, ↓oNone, ↓oSome, ↓aNil, ↓aCons, ↓eTup, ↓eLst, ↓eTupM, ↓eLstM, ↓eCB, ↓eBin, ↓x_call, ↓x_callK, ↓eSrc, ↓iSeqD, ↓iRg1, ↓iRg2, ↓iRg3, ↓iEnumD, ↓iZipD, ↓gNm, ↓gTp, ↓gsC, ↓gsN, ↓eYes, x_var0, x_var0o, x_varS, fAdd_ii, fAdd_ll, fAdd_tt, fAdd_ss, fMul_ii, fMul_li, fMul_ti, fSub_ii, fDiv_ii, fMod_ii, fPow_ii, fLt_ii, fLe_ii, fGt_ii, fGe_ii, ↓fEq, ↓fNe, ↓fIsN, ↓fNotN, x_lenL, x_lenT, x_lenS, x_lenR, x_lenC, fAbs_i, fInt_i, fInt_b, x_isi, List.set_cons_zero, List.set_cons_succ, List.getElem?_cons_zero, List.getElem?_cons_succ, items_l, items_t, okSt, mdOf, md_i, md_b, md_n, md_s, md_t, md_l, md_y, Md.isCl, Md.isNw, Md.meet, atI_0, atI_m1, atI_1, atI_2, atI_nat, cond_true, cond_false, isNon_i, isNon_n, isT_ii, isT_ib, isT_it, isT_il, isT_bi, isT_bb, isT_tt, isT_ti, isT_lt, isT_ll, isT_nt, isT_ni, isT_nl, tyN_i, tyN_b, tyN_t, tyN_l, tyN_n, dS_isT, dR_isT, dS_tyN, dR_tyN, dQ_isNon, D.flat, D.flats, flats_cons, flats_nil, flats_ints, flat_tup, putOk, slOf_f, slOf_t, Option.some.injEq, D.int.injEq, D.bl.injEq, D.lst.injEq, D.tup.injEq, D.str.injEq, D.scr.injEq, D.ty.injEq, x_consD, x_consD0, x_consD1, and_assoc, reduceCtorEq, exists_eq, exists_eq', exists_eq_left, exists_eq_left', exists_eq_right, exists_eq_right', exists_and_left, exists_and_right, and_true, true_and, and_self, and_false, false_and, or_true, true_or, or_false, false_or, if_true, if_false, ite_true, ite_false, decide_eq_true_eq, decide_eq_false_iff_not, Bool.not_eq_true, Bool.not_eq_true', Bool.not_true, Bool.not_false, Bool.true_eq_false, Bool.false_eq_true, not_true_eq_false, not_false_eq_true, eq_self_iff_true, forall_const, imp_self, List.length_cons, List.length_nil, List.append_nil, List.nil_append, List.cons_append, cpow_6, cpow_18, cpow_5, cpow_7, cpow_15, cpow_12, CMul, Nat.reduceAdd, Nat.reduceLeDiff, Nat.reduceLT, Int.reducePow, Int.reduceNeg, Int.reduceLT, Int.reduceLE, Int.reduceToNat, Int.reduceMul, Int.reduceAdd, Int.reduceSub, frzE, frz1, wipeE, all_nil, all_cons, endsF, x_start, List.map_cons, List.map_nil, List.replicate_succ, List.replicate_zero, Nat.reduceSub, Int.reduceEq, Nat.reduceEqDiff, List.mem_cons, List.not_mem_nil, x_isTs, or_self, Option.isSome_some, Option.isSome_none, String.reduceEq, dS_inj, dR_inj, dQ_inj, dQ_non, dQ_int, dS_md, dR_md, dQ_md, dS_flat, dR_flat, dQ_flat, dS_items, dR_items, List.getElem?_map, Option.map_some, Option.map_none, shp_i, shp_n, shp_b, shp_li, shp_S, shp_R, shp_lS, shp_Q, shp_l0, eqb_int, eqb_l, eqb_S, eqb_R, eqbs_ints, eqbs_dS, eqbs_nil0, eqbs_nilL, eqbs_nilR, Sl.own.injEq, Sl.val.injEq, List.length_map, dR_lst, dR_tup, dS_lst, dS_tup, flats_S, cut_map, cut_1, dR_fold, dS_fold, inI_t, inI_f, Bool.or_false, List.getLast?_map, exists_false, exists_const, Bool.and_self, Bool.and_true, Bool.true_and, Bool.and_false, Bool.false_and, add_S, List.isEmpty_map, fMax_2, fMax_3, fMin_2, flat_non, flat_i, ↓u_for, ↓u_comp, fS_v, fS_n, fS_o, shp_lli, eqbs_dL, ↓eSortSet, int_inj, fList_S, fList_R, sum_S, sum_li, x_reported, x_reportedL, x_all_reports, x_all_reportsN, x_held_by, x_held_byT, x_reports, x_reports0, x_reportsI, x_held, x_held0, x_heldI, x_largest_error, x_largest_errorI, x_is_between, x_is_sample, x_is_samples, x_distance, x_need_samples, x_need_threshold, x_need_silence, x_is_late, x_source, x_draw, x_samples, x_gap, x_limit, x_quiet, x_spread_within, x_spread_withinL, x_need_spread, x_starts_of, x_fewest_stretches, x_fewest_stretches0, x_fewest_stretchesI, x_stretches, x_stretches0, x_spread_of, x_apart]
      refine ⟨by omega, hN (f ++ [[((firstF t rs a b (b - a) : Nat) : Int), (b : Int)]]) _ ⟨by rw [List.length_append]; simp; omega, ?_⟩ (by simp [wipeE, dS])⟩
      rw [hI, List.take_succ, hx, List.map_append]
      rfl
  · rintro f ⟨hf, hI⟩
    rw [List.take_length] at hI
    try simp only [↓sSeq, ↓sRet, ↓sIf, ↓sSet, ↓sOwn, ↓sAsg, ↓sDrop, ↓sNext, ↓sBreak, ↓sNever, ↓sFrz, ↓sApp, ↓sSetIx, ↓sSrc, ↓sPar, ↓sPar3, ↓sAug, ↓sNewSrc, ↓eC, ↓eTest, ↓eAnd, ↓eOr, ↓eNot, ↓eAndV, ↓eOrV, ↓eNotV, ↓eIf, ↓eChain, ↓eNeg, ↓eIx, ↓eIxS, ↓eSl, ↓oNone, ↓oSome, ↓aNil, ↓aCons, ↓eTup, ↓eLst, ↓eTupM, ↓eLstM, ↓eCB, ↓eBin, ↓x_call, ↓x_callK, ↓eSrc, ↓iSeqD, ↓iRg1, ↓iRg2, ↓iRg3, ↓iEnumD, ↓iZipD, ↓gNm, ↓gTp, ↓gsC, ↓gsN, ↓eYes, x_var0, x_var0o, x_varS, fAdd_ii, fAdd_ll, fAdd_tt, fAdd_ss, fMul_ii, fMul_li, fMul_ti, fSub_ii, fDiv_ii, fMod_ii, fPow_ii, fLt_ii, fLe_ii, fGt_ii, fGe_ii, ↓fEq, ↓fNe, ↓fIsN, ↓fNotN, x_lenL, x_lenT, x_lenS, x_lenR, x_lenC, fAbs_i, fInt_i, fInt_b, x_isi, List.set_cons_zero, List.set_cons_succ, List.getElem?_cons_zero, List.getElem?_cons_succ, items_l, items_t, okSt, mdOf, md_i, md_b, md_n, md_s, md_t, md_l, md_y, Md.isCl, Md.isNw, Md.meet, atI_0, atI_m1, atI_1, atI_2, atI_nat, cond_true, cond_false, isNon_i, isNon_n, isT_ii, isT_ib, isT_it, isT_il, isT_bi, isT_bb, isT_tt, isT_ti, isT_lt, isT_ll, isT_nt, isT_ni, isT_nl, tyN_i, tyN_b, tyN_t, tyN_l, tyN_n, dS_isT, dR_isT, dS_tyN, dR_tyN, dQ_isNon, D.flat, D.flats, flats_cons, flats_nil, flats_ints, flat_tup, putOk, slOf_f, slOf_t, Option.some.injEq, D.int.injEq, D.bl.injEq, D.lst.injEq, D.tup.injEq, D.str.injEq, D.scr.injEq, D.ty.injEq, x_consD, x_consD0, x_consD1, and_assoc, reduceCtorEq, exists_eq, exists_eq', exists_eq_left, exists_eq_left', exists_eq_right, exists_eq_right', exists_and_left, exists_and_right, and_true, true_and, and_self, and_false, false_and, or_true, true_or, or_false, false_or, if_true, if_false, ite_true, ite_false, decide_eq_true_eq, decide_eq_false_iff_not, Bool.not_eq_true, Bool.not_eq_true', Bool.not_true, Bool.not_false, Bool.true_eq_false, Bool.false_eq_true, not_true_eq_false, not_false_eq_true, eq_self_iff_true, forall_const, imp_self, List.length_cons, List.length_nil, List.append_nil, List.nil_append, List.cons_append, cpow_6, cpow_18, cpow_5, cpow_7, cpow_15, cpow_12, CMul, Nat.reduceAdd, Nat.reduceLeDiff, Nat.reduceLT, Int.reducePow, Int.reduceNeg, Int.reduceLT, Int.reduceLE, Int.reduceToNat, Int.reduceMul, Int.reduceAdd, Int.reduceSub, frzE, frz1, wipeE, all_nil, all_cons, endsF, x_start, List.map_cons, List.map_nil, List.replicate_succ, List.replicate_zero, Nat.reduceSub, Int.reduceEq, Nat.reduceEqDiff, List.mem_cons, List.not_mem_nil, x_isTs, or_self, Option.isSome_some, Option.isSome_none, String.reduceEq, dS_inj, dR_inj, dQ_inj, dQ_non, dQ_int, dS_md, dR_md, dQ_md, dS_flat, dR_flat, dQ_flat, dS_items, dR_items, List.getElem?_map, Option.map_some, Option.map_none, shp_i, shp_n, shp_b, shp_li, shp_S, shp_R, shp_lS, shp_Q, shp_l0, eqb_int, eqb_l, eqb_S, eqb_R, eqbs_ints, eqbs_dS, eqbs_nil0, eqbs_nilL, eqbs_nilR, Sl.own.injEq, Sl.val.injEq, List.length_map, dR_lst, dR_tup, dS_lst, dS_tup, flats_S, cut_map, cut_1, dR_fold, dS_fold, inI_t, inI_f, Bool.or_false, List.getLast?_map, exists_false, exists_const, Bool.and_self, Bool.and_true, Bool.true_and, Bool.and_false, Bool.false_and, add_S, List.isEmpty_map, fMax_2, fMax_3, fMin_2, flat_non, flat_i, ↓u_for, ↓u_comp, fS_v, fS_n, fS_o, shp_lli, eqbs_dL, ↓eSortSet, int_inj, fList_S, fList_R, sum_S, sum_li, x_reported, x_reportedL, x_all_reports, x_all_reportsN, x_held_by, x_held_byT, x_reports, x_reports0, x_reportsI, x_held, x_held0, x_heldI, x_largest_error, x_largest_errorI, x_is_between, x_is_sample, x_is_samples, x_distance, x_need_samples, x_need_threshold, x_need_silence, x_is_late, x_source, x_draw, x_samples, x_gap, x_limit, x_quiet, x_spread_within, x_spread_withinL, x_need_spread, x_starts_of, x_fewest_stretches, x_fewest_stretches0, x_fewest_stretchesI, x_stretches, x_stretches0, x_spread_of, x_apart]
    rw [hI]
    exact h
end VL
/-! VC9: reporters one behind another. -/
namespace VL
open PySem L2

def OkTs (ts : List Int) : Prop := 0 < ts.length ∧ ts.length ≤ 5 ∧ ∀ t ∈ ts, OkT t
def t_need_thresholds : S1 := (sSeq (sIf (eOr (eNot (eTest (eCB fIsi (aCons (eVar 0) (aCons (eC (.ty "tuple")) aNil))))) (eNot (eTest (eChain fLe fLe (eC (.int 1)) (eCB fLen (aCons (eVar 0) aNil)) (eC (.int 5)))))) sNever sNext) (sIf (eNot (eTest (eCB fAll (aCons (eComp (iSeqD (eVar 0)) (gNm 1) eYes (eCall true [] c_is_between (aCons (eVar 1) (aCons (eC (.int 0)) (aCons (eC (.int 10000000)) aNil)))) [1]) aNil)))) sNever sNext))
def c_need_thresholds : C1 := fun ds q => ∃ (ts : List Int), ds = [dS ts] ∧ OkTs ts ∧ q .non
theorem m_need_thresholds : MonoC c_need_thresholds := fun ds q q' k ⟨s, e, h1, h⟩ => ⟨s, e, h1, k _ h⟩
theorem x_need_thresholds {ts : List Int} {q : D → Prop} : callC c_need_thresholds [dS ts] q = (OkTs ts ∧ q .non) := by
  simp only [callC, c_need_thresholds, ↓sSeq, ↓sRet, ↓sIf, ↓sSet, ↓sOwn, ↓sAsg, ↓sDrop, ↓sNext, ↓sBreak, ↓sNever, ↓sFrz, ↓sApp, ↓sSetIx, ↓sSrc, ↓sPar, ↓sPar3, ↓sAug, ↓sNewSrc, ↓eC, ↓eTest, ↓eAnd, ↓eOr, ↓eNot, ↓eAndV, ↓eOrV, ↓eNotV, ↓eIf, ↓eChain, ↓eNeg, ↓eIx, ↓eIxS, ↓eSl, ↓oNone, ↓oSome, ↓aNil, ↓aCons, ↓eTup, ↓eLst, ↓eTupM, ↓eLstM, ↓eCB, ↓eBin, ↓x_call, ↓x_callK, ↓eSrc, ↓iSeqD, ↓iRg1, ↓iRg2, ↓iRg3, ↓iEnumD, ↓iZipD, ↓gNm, ↓gTp, ↓gsC, ↓gsN, ↓eYes, x_var0, x_var0o, x_varS, fAdd_ii, fAdd_ll, fAdd_tt, fAdd_ss, fMul_ii, fMul_li, fMul_ti, fSub_ii, fDiv_ii, fMod_ii, fPow_ii, fLt_ii, fLe_ii, fGt_ii, fGe_ii, ↓fEq, ↓fNe, ↓fIsN, ↓fNotN, x_lenL, x_lenT, x_lenS, x_lenR, x_lenC, fAbs_i, fInt_i, fInt_b, x_isi, List.set_cons_zero, List.set_cons_succ, List.getElem?_cons_zero, List.getElem?_cons_succ, items_l, items_t, okSt, mdOf, md_i, md_b, md_n, md_s, md_t, md_l, md_y, Md.isCl, Md.isNw, Md.meet, atI_0, atI_m1, atI_1, atI_2, atI_nat, cond_true, cond_false, isNon_i, isNon_n, isT_ii, isT_ib, isT_it, isT_il, isT_bi, isT_bb, isT_tt, isT_ti, isT_lt, isT_ll, isT_nt, isT_ni, isT_nl, tyN_i, tyN_b, tyN_t, tyN_l, tyN_n, dS_isT, dR_isT, dS_tyN, dR_tyN, dQ_isNon, D.flat, D.flats, flats_cons, flats_nil, flats_ints, flat_tup, putOk, slOf_f, slOf_t, Option.some.injEq, D.int.injEq, D.bl.injEq, D.lst.injEq, D.tup.injEq, D.str.injEq, D.scr.injEq, D.ty.injEq, x_consD, x_consD0, x_consD1, and_assoc, reduceCtorEq, exists_eq, exists_eq', exists_eq_left, exists_eq_left', exists_eq_right, exists_eq_right', exists_and_left, exists_and_right, and_true, true_and, and_self, and_false, false_and, or_true, true_or, or_false, false_or, if_true, if_false, ite_true, ite_false, decide_eq_true_eq, decide_eq_false_iff_not, Bool.not_eq_true, Bool.not_eq_true', Bool.not_true, Bool.not_false, Bool.true_eq_false, Bool.false_eq_true, not_true_eq_false, not_false_eq_true, eq_self_iff_true, forall_const, imp_self, List.length_cons, List.length_nil, List.append_nil, List.nil_append, List.cons_append, cpow_6, cpow_18, cpow_5, cpow_7, cpow_15, cpow_12, CMul, Nat.reduceAdd, Nat.reduceLeDiff, Nat.reduceLT, Int.reducePow, Int.reduceNeg, Int.reduceLT, Int.reduceLE, Int.reduceToNat, Int.reduceMul, Int.reduceAdd, Int.reduceSub, frzE, frz1, wipeE, all_nil, all_cons, endsF, x_start, List.map_cons, List.map_nil, List.replicate_succ, List.replicate_zero, Nat.reduceSub, Int.reduceEq, Nat.reduceEqDiff, List.mem_cons, List.not_mem_nil, x_isTs, or_self, Option.isSome_some, Option.isSome_none, String.reduceEq, dS_inj, dR_inj, dQ_inj, dQ_non, dQ_int, dS_md, dR_md, dQ_md, dS_flat, dR_flat, dQ_flat, dS_items, dR_items, List.getElem?_map, Option.map_some, Option.map_none, shp_i, shp_n, shp_b, shp_li, shp_S, shp_R, shp_lS, shp_Q, shp_l0, eqb_int, eqb_l, eqb_S, eqb_R, eqbs_ints, eqbs_dS, eqbs_nil0, eqbs_nilL, eqbs_nilR, Sl.own.injEq, Sl.val.injEq, List.length_map, dR_lst, dR_tup, dS_lst, dS_tup, flats_S, cut_map, cut_1, dR_fold, dS_fold, inI_t, inI_f, Bool.or_false, List.getLast?_map, exists_false, exists_const, Bool.and_self, Bool.and_true, Bool.true_and, Bool.and_false, Bool.false_and, add_S, List.isEmpty_map, fMax_2, fMax_3, fMin_2, flat_non, flat_i, ↓u_for, ↓u_comp, fS_v, fS_n, fS_o, shp_lli, eqbs_dL, ↓eSortSet, int_inj, fList_S, fList_R, sum_S, sum_li, x_reported, x_reportedL, x_all_reports, x_all_reportsN, x_held_by, x_held_byT, x_reports, x_reports0, x_reportsI, x_held, x_held0, x_heldI, x_largest_error, x_largest_errorI, x_is_between, x_is_sample, x_is_samples, x_distance, x_need_samples, x_need_threshold, x_need_silence, x_is_late, x_source, x_draw, x_samples, x_gap, x_limit, x_quiet, x_reports_from, x_reports_from0]
theorem w_need_thresholds (ds : List D) (q : D → Prop) (h : c_need_thresholds ds q) : t_need_thresholds (endsF true q) (startE 2 ds) := by
  obtain ⟨ts, rfl, ⟨h1, h2, h3⟩, h⟩ := h
  simp only [x_start, List.map_cons, List.map_nil, List.length_cons, List.length_nil, List.replicate_succ, List.replicate_zero, List.cons_append, List.nil_append, Nat.reduceSub, Nat.reduceAdd]
  simp only [t_need_thresholds, ↓sSeq, ↓sRet, ↓sIf, ↓sSet, ↓sOwn, ↓sAsg, ↓sDrop, ↓sNext, ↓sBreak, ↓sNever, ↓sFrz, ↓sApp, ↓sSetIx, ↓sSrc, ↓sPar, ↓sPar3, ↓sAug, ↓sNewSrc, ↓eC, ↓eTest, ↓eAnd, ↓eOr, ↓eNot, ↓eAndV, ↓eOrV, ↓eNotV, ↓eIf, ↓eChain, ↓eNeg, ↓eIx, ↓eIxS, ↓eSl, ↓oNone, ↓oSome, ↓aNil, ↓aCons, ↓eTup, ↓eLst, ↓eTupM, ↓eLstM, ↓eCB, ↓eBin, ↓x_call, ↓x_callK, ↓eSrc, ↓iSeqD, ↓iRg1, ↓iRg2, ↓iRg3, ↓iEnumD, ↓iZipD, ↓gNm, ↓gTp, ↓gsC, ↓gsN, ↓eYes, x_var0, x_var0o, x_varS, fAdd_ii, fAdd_ll, fAdd_tt, fAdd_ss, fMul_ii, fMul_li, fMul_ti, fSub_ii, fDiv_ii, fMod_ii, fPow_ii, fLt_ii, fLe_ii, fGt_ii, fGe_ii, ↓fEq, ↓fNe, ↓fIsN, ↓fNotN, x_lenL, x_lenT, x_lenS, x_lenR, x_lenC, fAbs_i, fInt_i, fInt_b, x_isi, List.set_cons_zero, List.set_cons_succ, List.getElem?_cons_zero, List.getElem?_cons_succ, items_l, items_t, okSt, mdOf, md_i, md_b, md_n, md_s, md_t, md_l, md_y, Md.isCl, Md.isNw, Md.meet, atI_0, atI_m1, atI_1, atI_2, atI_nat, cond_true, cond_false, isNon_i, isNon_n, isT_ii, isT_ib, isT_it, isT_il, isT_bi, isT_bb, isT_tt, isT_ti, isT_lt, isT_ll, isT_nt, isT_ni, isT_nl, tyN_i, tyN_b, tyN_t, tyN_l, tyN_n, dS_isT, dR_isT, dS_tyN, dR_tyN, dQ_isNon, D.flat, D.flats, flats_cons, flats_nil, flats_ints, flat_tup, putOk, slOf_f, slOf_t, Option.some.injEq, D.int.injEq, D.bl.injEq, D.lst.injEq, D.tup.injEq, D.str.injEq, D.scr.injEq, D.ty.injEq, x_consD, x_consD0, x_consD1, and_assoc, reduceCtorEq, exists_eq, exists_eq', exists_eq_left, exists_eq_left', exists_eq_right, exists_eq_right', exists_and_left, exists_and_right, and_true, true_and, and_self, and_false, false_and, or_true, true_or, or_false, false_or, if_true, if_false, ite_true, ite_false, decide_eq_true_eq, decide_eq_false_iff_not, Bool.not_eq_true, Bool.not_eq_true', Bool.not_true, Bool.not_false, Bool.true_eq_false, Bool.false_eq_true, not_true_eq_false, not_false_eq_true, eq_self_iff_true, forall_const, imp_self, List.length_cons, List.length_nil, List.append_nil, List.nil_append, List.cons_append, cpow_6, cpow_18, cpow_5, cpow_7, cpow_15, cpow_12, CMul, Nat.reduceAdd, Nat.reduceLeDiff, Nat.reduceLT, Int.reducePow, Int.reduceNeg, Int.reduceLT, Int.reduceLE, Int.reduceToNat, Int.reduceMul, Int.reduceAdd, Int.reduceSub, frzE, frz1, wipeE, all_nil, all_cons, endsF, x_start, List.map_cons, List.map_nil, List.replicate_succ, List.replicate_zero, Nat.reduceSub, Int.reduceEq, Nat.reduceEqDiff, List.mem_cons, List.not_mem_nil, x_isTs, or_self, Option.isSome_some, Option.isSome_none, String.reduceEq, dS_inj, dR_inj, dQ_inj, dQ_non, dQ_int, dS_md, dR_md, dQ_md, dS_flat, dR_flat, dQ_flat, dS_items, dR_items, List.getElem?_map, Option.map_some, Option.map_none, shp_i, shp_n, shp_b, shp_li, shp_S, shp_R, shp_lS, shp_Q, shp_l0, eqb_int, eqb_l, eqb_S, eqb_R, eqbs_ints, eqbs_dS, eqbs_nil0, eqbs_nilL, eqbs_nilR, Sl.own.injEq, Sl.val.injEq, List.length_map, dR_lst, dR_tup, dS_lst, dS_tup, flats_S, cut_map, cut_1, dR_fold, dS_fold, inI_t, inI_f, Bool.or_false, List.getLast?_map, exists_false, exists_const, Bool.and_self, Bool.and_true, Bool.true_and, Bool.and_false, Bool.false_and, add_S, List.isEmpty_map, fMax_2, fMax_3, fMin_2, flat_non, flat_i, ↓u_for, ↓u_comp, fS_v, fS_n, fS_o, shp_lli, eqbs_dL, ↓eSortSet, int_inj, fList_S, fList_R, sum_S, sum_li, x_reported, x_reportedL, x_all_reports, x_all_reportsN, x_held_by, x_held_byT, x_reports, x_reports0, x_reportsI, x_held, x_held0, x_heldI, x_largest_error, x_largest_errorI, x_is_between, x_is_sample, x_is_samples, x_distance, x_need_samples, x_need_threshold, x_need_silence, x_is_late, x_source, x_draw, x_samples, x_gap, x_limit, x_quiet, x_reports_from, x_reports_from0, x_need_thresholds]
  rw [if_pos (by omega), if_neg (by omega)]
  refine comp_map ts D.int (fun x => .bl true) rfl (by omega) ?_ ?_
  · intro i x acc hx N hN
    have : 0 ≤ x ∧ x ≤ 10000000 := h3 x (List.mem_of_getElem? hx)
    simp only [↓sSeq, ↓sRet, ↓sIf, ↓sSet, ↓sOwn, ↓sAsg, ↓sDrop, ↓sNext, ↓sBreak, ↓sNever, ↓sFrz, ↓sApp, ↓sSetIx, ↓sSrc, ↓sPar, ↓sPar3, ↓sAug, ↓sNewSrc, ↓eC, ↓eTest, ↓eAnd, ↓eOr, ↓eNot, ↓eAndV, ↓eOrV, ↓eNotV, ↓eIf, ↓eChain, ↓eNeg, ↓eIx, ↓eIxS, ↓eSl, ↓oNone, ↓oSome, ↓aNil, ↓aCons, ↓eTup, ↓eLst, ↓eTupM, ↓eLstM, ↓eCB, ↓eBin, ↓x_call, ↓x_callK, ↓eSrc, ↓iSeqD, ↓iRg1, ↓iRg2, ↓iRg3, ↓iEnumD, ↓iZipD, ↓gNm, ↓gTp, ↓gsC, ↓gsN, ↓eYes, x_var0, x_var0o, x_varS, fAdd_ii, fAdd_ll, fAdd_tt, fAdd_ss, fMul_ii, fMul_li, fMul_ti, fSub_ii, fDiv_ii, fMod_ii, fPow_ii, fLt_ii, fLe_ii, fGt_ii, fGe_ii, ↓fEq, ↓fNe, ↓fIsN, ↓fNotN, x_lenL, x_lenT, x_lenS, x_lenR, x_lenC, fAbs_i, fInt_i, fInt_b, x_isi, List.set_cons_zero, List.set_cons_succ, List.getElem?_cons_zero, List.getElem?_cons_succ, items_l, items_t, okSt, mdOf, md_i, md_b, md_n, md_s, md_t, md_l, md_y, Md.isCl, Md.isNw, Md.meet, atI_0, atI_m1, atI_1, atI_2, atI_nat, cond_true, cond_false, isNon_i, isNon_n, isT_ii, isT_ib, isT_it, isT_il, isT_bi, isT_bb, isT_tt, isT_ti, isT_lt, isT_ll, isT_nt, isT_ni, isT_nl, tyN_i, tyN_b, tyN_t, tyN_l, tyN_n, dS_isT, dR_isT, dS_tyN, dR_tyN, dQ_isNon, D.flat, D.flats, flats_cons, flats_nil, flats_ints, flat_tup, putOk, slOf_f, slOf_t, Option.some.injEq, D.int.injEq, D.bl.injEq, D.lst.injEq, D.tup.injEq, D.str.injEq, D.scr.injEq, D.ty.injEq, x_consD, x_consD0, x_consD1, and_assoc, reduceCtorEq, exists_eq, exists_eq', exists_eq_left, exists_eq_left', exists_eq_right, exists_eq_right', exists_and_left, exists_and_right, and_true, true_and, and_self, and_false, false_and, or_true, true_or, or_false, false_or, if_true, if_false, ite_true, ite_false, decide_eq_true_eq, decide_eq_false_iff_not, Bool.not_eq_true, Bool.not_eq_true', Bool.not_true, Bool.not_false, Bool.true_eq_false, Bool.false_eq_true, not_true_eq_false, not_false_eq_true, eq_self_iff_true, forall_const, imp_self, List.length_cons, List.length_nil, List.append_nil, List.nil_append, List.cons_append, cpow_6, cpow_18, cpow_5, cpow_7, cpow_15, cpow_12, CMul, Nat.reduceAdd, Nat.reduceLeDiff, Nat.reduceLT, Int.reducePow, Int.reduceNeg, Int.reduceLT, Int.reduceLE, Int.reduceToNat, Int.reduceMul, Int.reduceAdd, Int.reduceSub, frzE, frz1, wipeE, all_nil, all_cons, endsF, x_start, List.map_cons, List.map_nil, List.replicate_succ, List.replicate_zero, Nat.reduceSub, Int.reduceEq, Nat.reduceEqDiff, List.mem_cons, List.not_mem_nil, x_isTs, or_self, Option.isSome_some, Option.isSome_none, String.reduceEq, dS_inj, dR_inj, dQ_inj, dQ_non, dQ_int, dS_md, dR_md, dQ_md, dS_flat, dR_flat, dQ_flat, dS_items, dR_items, List.getElem?_map, Option.map_some, Option.map_none, shp_i, shp_n, shp_b, shp_li, shp_S, shp_R, shp_lS, shp_Q, shp_l0, eqb_int, eqb_l, eqb_S, eqb_R, eqbs_ints, eqbs_dS, eqbs_nil0, eqbs_nilL, eqbs_nilR, Sl.own.injEq, Sl.val.injEq, List.length_map, dR_lst, dR_tup, dS_lst, dS_tup, flats_S, cut_map, cut_1, dR_fold, dS_fold, inI_t, inI_f, Bool.or_false, List.getLast?_map, exists_false, exists_const, Bool.and_self, Bool.and_true, Bool.true_and, Bool.and_false, Bool.false_and, add_S, List.isEmpty_map, fMax_2, fMax_3, fMin_2, flat_non, flat_i, ↓u_for, ↓u_comp, fS_v, fS_n, fS_o, shp_lli, eqbs_dL, ↓eSortSet, int_inj, fList_S, fList_R, sum_S, sum_li, x_reported, x_reportedL, x_all_reports, x_all_reportsN, x_held_by, x_held_byT, x_reports, x_reports0, x_reportsI, x_held, x_held0, x_heldI, x_largest_error, x_largest_errorI, x_is_between, x_is_sample, x_is_samples, x_distance, x_need_samples, x_need_threshold, x_need_silence, x_is_late, x_source, x_draw, x_samples, x_gap, x_limit, x_quiet, x_reports_from, x_reports_from0, x_need_thresholds]
    rw [decide_eq_true this]
    exact hN
  · refine all_map (p := fun _ => true) ?_
    rw [List.all_eq_true.mpr fun _ _ => rfl]
    try simp only [↓sSeq, ↓sRet, ↓sIf, ↓sSet, ↓sOwn, ↓sAsg, ↓sDrop, ↓sNext, ↓sBreak, ↓sNever, ↓sFrz, ↓sApp, ↓sSetIx, ↓sSrc, ↓sPar, ↓sPar3, ↓sAug, ↓sNewSrc, ↓eC, ↓eTest, ↓eAnd, ↓eOr, ↓eNot, ↓eAndV, ↓eOrV, ↓eNotV, ↓eIf, ↓eChain, ↓eNeg, ↓eIx, ↓eIxS, ↓eSl, ↓oNone, ↓oSome, ↓aNil, ↓aCons, ↓eTup, ↓eLst, ↓eTupM, ↓eLstM, ↓eCB, ↓eBin, ↓x_call, ↓x_callK, ↓eSrc, ↓iSeqD, ↓iRg1, ↓iRg2, ↓iRg3, ↓iEnumD, ↓iZipD, ↓gNm, ↓gTp, ↓gsC, ↓gsN, ↓eYes, x_var0, x_var0o, x_varS, fAdd_ii, fAdd_ll, fAdd_tt, fAdd_ss, fMul_ii, fMul_li, fMul_ti, fSub_ii, fDiv_ii, fMod_ii, fPow_ii, fLt_ii, fLe_ii, fGt_ii, fGe_ii, ↓fEq, ↓fNe, ↓fIsN, ↓fNotN, x_lenL, x_lenT, x_lenS, x_lenR, x_lenC, fAbs_i, fInt_i, fInt_b, x_isi, List.set_cons_zero, List.set_cons_succ, List.getElem?_cons_zero, List.getElem?_cons_succ, items_l, items_t, okSt, mdOf, md_i, md_b, md_n, md_s, md_t, md_l, md_y, Md.isCl, Md.isNw, Md.meet, atI_0, atI_m1, atI_1, atI_2, atI_nat, cond_true, cond_false, isNon_i, isNon_n, isT_ii, isT_ib, isT_it, isT_il, isT_bi, isT_bb, isT_tt, isT_ti, isT_lt, isT_ll, isT_nt, isT_ni, isT_nl, tyN_i, tyN_b, tyN_t, tyN_l, tyN_n, dS_isT, dR_isT, dS_tyN, dR_tyN, dQ_isNon, D.flat, D.flats, flats_cons, flats_nil, flats_ints, flat_tup, putOk, slOf_f, slOf_t, Option.some.injEq, D.int.injEq, D.bl.injEq, D.lst.injEq, D.tup.injEq, D.str.injEq, D.scr.injEq, D.ty.injEq, x_consD, x_consD0, x_consD1, and_assoc, reduceCtorEq, exists_eq, exists_eq', exists_eq_left, exists_eq_left', exists_eq_right, exists_eq_right', exists_and_left, exists_and_right, and_true, true_and, and_self, and_false, false_and, or_true, true_or, or_false, false_or, if_true, if_false, ite_true, ite_false, decide_eq_true_eq, decide_eq_false_iff_not, Bool.not_eq_true, Bool.not_eq_true', Bool.not_true, Bool.not_false, Bool.true_eq_false, Bool.false_eq_true, not_true_eq_false, not_false_eq_true, eq_self_iff_true, forall_const, imp_self, List.length_cons, List.length_nil, List.append_nil, List.nil_append, List.cons_append, cpow_6, cpow_18, cpow_5, cpow_7, cpow_15, cpow_12, CMul, Nat.reduceAdd, Nat.reduceLeDiff, Nat.reduceLT, Int.reducePow, Int.reduceNeg, Int.reduceLT, Int.reduceLE, Int.reduceToNat, Int.reduceMul, Int.reduceAdd, Int.reduceSub, frzE, frz1, wipeE, all_nil, all_cons, endsF, x_start, List.map_cons, List.map_nil, List.replicate_succ, List.replicate_zero, Nat.reduceSub, Int.reduceEq, Nat.reduceEqDiff, List.mem_cons, List.not_mem_nil, x_isTs, or_self, Option.isSome_some, Option.isSome_none, String.reduceEq, dS_inj, dR_inj, dQ_inj, dQ_non, dQ_int, dS_md, dR_md, dQ_md, dS_flat, dR_flat, dQ_flat, dS_items, dR_items, List.getElem?_map, Option.map_some, Option.map_none, shp_i, shp_n, shp_b, shp_li, shp_S, shp_R, shp_lS, shp_Q, shp_l0, eqb_int, eqb_l, eqb_S, eqb_R, eqbs_ints, eqbs_dS, eqbs_nil0, eqbs_nilL, eqbs_nilR, Sl.own.injEq, Sl.val.injEq, List.length_map, dR_lst, dR_tup, dS_lst, dS_tup, flats_S, cut_map, cut_1, dR_fold, dS_fold, inI_t, inI_f, Bool.or_false, List.getLast?_map, exists_false, exists_const, Bool.and_self, Bool.and_true, Bool.true_and, Bool.and_false, Bool.false_and, add_S, List.isEmpty_map, fMax_2, fMax_3, fMin_2, flat_non, flat_i, ↓u_for, ↓u_comp, fS_v, fS_n, fS_o, shp_lli, eqbs_dL, ↓eSortSet, int_inj, fList_S, fList_R, sum_S, sum_li, x_reported, x_reportedL, x_all_reports, x_all_reportsN, x_held_by, x_held_byT, x_reports, x_reports0, x_reportsI, x_held, x_held0, x_heldI, x_largest_error, x_largest_errorI, x_is_between, x_is_sample, x_is_samples, x_distance, x_need_samples, x_need_threshold, x_need_silence, x_is_late, x_source, x_draw, x_samples, x_gap, x_limit, x_quiet, x_reports_from, x_reports_from0, x_need_thresholds]
    exact h
def chn (z : List Int × List Row) (t : Int) : List Int × List Row := (allRep t none z.2, heldR z.2 (allRep t none z.2))
def chainF (rs : List Row) (ts : List Int) : List Int × List Row := ts.foldl chn ([], rs)
theorem OkR.held {rs : List Row} (h : OkR rs) {is : List Int} (h0 : (0 : Int) ∈ is) : OkR (heldR rs is) := by
  obtain ⟨c, h1, h2, hr⟩ := h.ch
  refine ⟨by rw [heldR_length]; exact h.pos, by rw [heldR_length]; exact h.most, c, h1, h2, fun r hr' => hr r (heldR_mem h0 hr')⟩
def t_chained : S1 := (sSeq (sOwn 2 (eLst aNil)) (sSeq (sFor false [3] (iSeqD (eVar 1)) (gNm 3) (sSeq (sOwn 2 (eCall true [] c_all_reports (aCons (eVar 0) (aCons (eVar 3) (aCons (eC .non) aNil))))) (sOwn 0 (eCall true [] c_held_by (aCons (eVar 0) (aCons (eVar 2) aNil)))))) (sRet (eTupM (aCons (eVar 2) (aCons (eVar 0) aNil))))))
def c_chained : C1 := fun ds q => ∃ (rs : List Row) (ts : List Int), ds = [dR rs, dS ts] ∧ (OkR rs ∧ OkTs ts) ∧ q (.tup [.lst ((chainF rs ts).1.map .int), .lst ((chainF rs ts).2.map dS)])
theorem m_chained : MonoC c_chained := fun ds q q' k ⟨rs, ts, e, h1, h⟩ => ⟨rs, ts, e, h1, k _ h⟩
theorem x_chained {rs : List Row} {ts : List Int} {q : D → Prop} : callC c_chained [dR rs, dS ts] q = (OkR rs ∧ OkTs ts ∧ q (.tup [.lst ((chainF rs ts).1.map .int), .lst ((chainF rs ts).2.map dS)])) := by
  simp only [callC, c_chained, ↓sSeq, ↓sRet, ↓sIf, ↓sSet, ↓sOwn, ↓sAsg, ↓sDrop, ↓sNext, ↓sBreak, ↓sNever, ↓sFrz, ↓sApp, ↓sSetIx, ↓sSrc, ↓sPar, ↓sPar3, ↓sAug, ↓sNewSrc, ↓eC, ↓eTest, ↓eAnd, ↓eOr, ↓eNot, ↓eAndV, ↓eOrV, ↓eNotV, ↓eIf, ↓eChain, ↓eNeg, ↓eIx, ↓eIxS, ↓eSl, ↓oNone, ↓oSome, ↓aNil, ↓aCons, ↓eTup, ↓eLst, ↓eTupM, ↓eLstM, ↓eCB, ↓eBin, ↓x_call, ↓x_callK, ↓eSrc, ↓iSeqD, ↓iRg1, ↓iRg2, ↓iRg3, ↓iEnumD, ↓iZipD, ↓gNm, ↓gTp, ↓gsC, ↓gsN, ↓eYes, x_var0, x_var0o, x_varS, fAdd_ii, fAdd_ll, fAdd_tt, fAdd_ss, fMul_ii, fMul_li, fMul_ti, fSub_ii, fDiv_ii, fMod_ii, fPow_ii, fLt_ii, fLe_ii, fGt_ii, fGe_ii, ↓fEq, ↓fNe, ↓fIsN, ↓fNotN, x_lenL, x_lenT, x_lenS, x_lenR, x_lenC, fAbs_i, fInt_i, fInt_b, x_isi, List.set_cons_zero, List.set_cons_succ, List.getElem?_cons_zero, List.getElem?_cons_succ, items_l, items_t, okSt, mdOf, md_i, md_b, md_n, md_s, md_t, md_l, md_y, Md.isCl, Md.isNw, Md.meet, atI_0, atI_m1, atI_1, atI_2, atI_nat, cond_true, cond_false, isNon_i, isNon_n, isT_ii, isT_ib, isT_it, isT_il, isT_bi, isT_bb, isT_tt, isT_ti, isT_lt, isT_ll, isT_nt, isT_ni, isT_nl, tyN_i, tyN_b, tyN_t, tyN_l, tyN_n, dS_isT, dR_isT, dS_tyN, dR_tyN, dQ_isNon, D.flat, D.flats, flats_cons, flats_nil, flats_ints, flat_tup, putOk, slOf_f, slOf_t, Option.some.injEq, D.int.injEq, D.bl.injEq, D.lst.injEq, D.tup.injEq, D.str.injEq, D.scr.injEq, D.ty.injEq, x_consD, x_consD0, x_consD1, and_assoc, reduceCtorEq, exists_eq, exists_eq', exists_eq_left, exists_eq_left', exists_eq_right, exists_eq_right', exists_and_left, exists_and_right, and_true, true_and, and_self, and_false, false_and, or_true, true_or, or_false, false_or, if_true, if_false, ite_true, ite_false, decide_eq_true_eq, decide_eq_false_iff_not, Bool.not_eq_true, Bool.not_eq_true', Bool.not_true, Bool.not_false, Bool.true_eq_false, Bool.false_eq_true, not_true_eq_false, not_false_eq_true, eq_self_iff_true, forall_const, imp_self, List.length_cons, List.length_nil, List.append_nil, List.nil_append, List.cons_append, cpow_6, cpow_18, cpow_5, cpow_7, cpow_15, cpow_12, CMul, Nat.reduceAdd, Nat.reduceLeDiff, Nat.reduceLT, Int.reducePow, Int.reduceNeg, Int.reduceLT, Int.reduceLE, Int.reduceToNat, Int.reduceMul, Int.reduceAdd, Int.reduceSub, frzE, frz1, wipeE, all_nil, all_cons, endsF, x_start, List.map_cons, List.map_nil, List.replicate_succ, List.replicate_zero, Nat.reduceSub, Int.reduceEq, Nat.reduceEqDiff, List.mem_cons, List.not_mem_nil, x_isTs, or_self, Option.isSome_some, Option.isSome_none, String.reduceEq, dS_inj, dR_inj, dQ_inj, dQ_non, dQ_int, dS_md, dR_md, dQ_md, dS_flat, dR_flat, dQ_flat, dS_items, dR_items, List.getElem?_map, Option.map_some, Option.map_none, shp_i, shp_n, shp_b, shp_li, shp_S, shp_R, shp_lS, shp_Q, shp_l0, eqb_int, eqb_l, eqb_S, eqb_R, eqbs_ints, eqbs_dS, eqbs_nil0, eqbs_nilL, eqbs_nilR, Sl.own.injEq, Sl.val.injEq, List.length_map, dR_lst, dR_tup, dS_lst, dS_tup, flats_S, cut_map, cut_1, dR_fold, dS_fold, inI_t, inI_f, Bool.or_false, List.getLast?_map, exists_false, exists_const, Bool.and_self, Bool.and_true, Bool.true_and, Bool.and_false, Bool.false_and, add_S, List.isEmpty_map, fMax_2, fMax_3, fMin_2, flat_non, flat_i, ↓u_for, ↓u_comp, fS_v, fS_n, fS_o, shp_lli, eqbs_dL, ↓eSortSet, int_inj, fList_S, fList_R, sum_S, sum_li, x_reported, x_reportedL, x_all_reports, x_all_reportsN, x_held_by, x_held_byT, x_reports, x_reports0, x_reportsI, x_held, x_held0, x_heldI, x_largest_error, x_largest_errorI, x_is_between, x_is_sample, x_is_samples, x_distance, x_need_samples, x_need_threshold, x_need_silence, x_is_late, x_source, x_draw, x_samples, x_gap, x_limit, x_quiet, x_reports_from, x_reports_from0, x_need_thresholds]
theorem x_all_reportsLN {rs : List Row} {t : Int} {q : D → Prop} : callC c_all_reports [.lst (rs.map dS), .int t, .non] q = (OkR rs ∧ q (.lst ((allRep t none rs).map .int))) := xX_all_reports (s := none) .l
theorem x_held_byL {rs : List Row} {is : List Int} {q : D → Prop} : callC c_held_by [.lst (rs.map dS), .lst (is.map .int)] q = (Hld rs is ∧ q (.lst ((heldR rs is).map dS))) := xX_held_by .l (.inl rfl)
theorem w_chained (ds : List D) (q : D → Prop) (h : c_chained ds q) : t_chained (endsF true q) (startE 4 ds) := by
  obtain ⟨rs, ts, rfl, ⟨ok, h1, h2, h3⟩, h⟩ := h
  simp only [x_start, List.map_cons, List.map_nil, List.length_cons, List.length_nil, List.replicate_succ, List.replicate_zero, List.cons_append, List.nil_append, Nat.reduceSub, Nat.reduceAdd]
  simp only [t_chained, ↓sSeq, ↓sRet, ↓sIf, ↓sSet, ↓sOwn, ↓sAsg, ↓sDrop, ↓sNext, ↓sBreak, ↓sNever, ↓sFrz, ↓sApp, ↓sSetIx, ↓sSrc, ↓sPar, ↓sPar3, ↓sAug, ↓sNewSrc, ↓eC, ↓eTest, ↓eAnd, ↓eOr, ↓eNot, ↓eAndV, ↓eOrV, ↓eNotV, ↓eIf, ↓eChain, ↓eNeg, ↓eIx, ↓eIxS, ↓eSl, ↓oNone, ↓oSome, ↓aNil, ↓aCons, ↓eTup, ↓eLst, ↓eTupM, ↓eLstM, ↓eCB, ↓eBin, ↓x_call, ↓x_callK, ↓eSrc, ↓iSeqD, ↓iRg1, ↓iRg2, ↓iRg3, ↓iEnumD, ↓iZipD, ↓gNm, ↓gTp, ↓gsC, ↓gsN, ↓eYes, x_var0, x_var0o, x_varS, fAdd_ii, fAdd_ll, fAdd_tt, fAdd_ss, fMul_ii, fMul_li, fMul_ti, fSub_ii, fDiv_ii, fMod_ii, fPow_ii, fLt_ii, fLe_ii, fGt_ii, fGe_ii, ↓fEq, ↓fNe, ↓fIsN, ↓fNotN, x_lenL, x_lenT, x_lenS, x_lenR, x_lenC, fAbs_i, fInt_i, fInt_b, x_isi, List.set_cons_zero, List.set_cons_succ, List.getElem?_cons_zero, List.getElem?_cons_succ, items_l, items_t, okSt, mdOf, md_i, md_b, md_n, md_s, md_t, md_l, md_y, Md.isCl, Md.isNw, Md.meet, atI_0, atI_m1, atI_1, atI_2, atI_nat, cond_true, cond_false, isNon_i, isNon_n, isT_ii, isT_ib, isT_it, isT_il, isT_bi, isT_bb, isT_tt, isT_ti, isT_lt, isT_ll, isT_nt, isT_ni, isT_nl, tyN_i, tyN_b, tyN_t, tyN_l, tyN_n, dS_isT, dR_isT, dS_tyN, dR_tyN, dQ_isNon, D.flat, D.flats, flats_cons, flats_nil, flats_ints, flat_tup, putOk, slOf_f, slOf_t, Option.some.injEq, D.int.injEq, D.bl.injEq, D.lst.injEq, D.tup.injEq, D.str.injEq, D.scr.injEq, D.ty.injEq, x_consD, x_consD0, x_consD1, and_assoc, reduceCtorEq, exists_eq, exists_eq', exists_eq_left, exists_eq_left', exists_eq_right, exists_eq_right', exists_and_left, exists_and_right, and_true, true_and, and_self, and_false, false_and, or_true, true_or, or_false, false_or, if_true, if_false, ite_true, ite_false, decide_eq_true_eq, decide_eq_false_iff_not, Bool.not_eq_true, Bool.not_eq_true', Bool.not_true, Bool.not_false, Bool.true_eq_false, Bool.false_eq_true, not_true_eq_false, not_false_eq_true, eq_self_iff_true, forall_const, imp_self, List.length_cons, List.length_nil, List.append_nil, List.nil_append, List.cons_append, cpow_6, cpow_18, cpow_5, cpow_7, cpow_15, cpow_12, CMul, Nat.reduceAdd, Nat.reduceLeDiff, Nat.reduceLT, Int.reducePow, Int.reduceNeg, Int.reduceLT, Int.reduceLE, Int.reduceToNat, Int.reduceMul, Int.reduceAdd, Int.reduceSub, frzE, frz1, wipeE, all_nil, all_cons, endsF, x_start, List.map_cons, List.map_nil, List.replicate_succ, List.replicate_zero, Nat.reduceSub, Int.reduceEq, Nat.reduceEqDiff, List.mem_cons, List.not_mem_nil, x_isTs, or_self, Option.isSome_some, Option.isSome_none, String.reduceEq, dS_inj, dR_inj, dQ_inj, dQ_non, dQ_int, dS_md, dR_md, dQ_md, dS_flat, dR_flat, dQ_flat, dS_items, dR_items, List.getElem?_map, Option.map_some, Option.map_none, shp_i, shp_n, shp_b, shp_li, shp_S, shp_R, shp_lS, shp_Q, shp_l0, eqb_int, eqb_l, eqb_S, eqb_R, eqbs_ints, eqbs_dS, eqbs_nil0, eqbs_nilL, eqbs_nilR, Sl.own.injEq, Sl.val.injEq, List.length_map, dR_lst, dR_tup, dS_lst, dS_tup, flats_S, cut_map, cut_1, dR_fold, dS_fold, inI_t, inI_f, Bool.or_false, List.getLast?_map, exists_false, exists_const, Bool.and_self, Bool.and_true, Bool.true_and, Bool.and_false, Bool.false_and, add_S, List.isEmpty_map, fMax_2, fMax_3, fMin_2, flat_non, flat_i, ↓u_for, ↓u_comp, fS_v, fS_n, fS_o, shp_lli, eqbs_dL, ↓eSortSet, int_inj, fList_S, fList_R, sum_S, sum_li, x_reported, x_reportedL, x_all_reports, x_all_reportsN, x_held_by, x_held_byT, x_reports, x_reports0, x_reportsI, x_held, x_held0, x_heldI, x_largest_error, x_largest_errorI, x_is_between, x_is_sample, x_is_samples, x_distance, x_need_samples, x_need_threshold, x_need_silence, x_is_late, x_source, x_draw, x_samples, x_gap, x_limit, x_quiet, x_reports_from, x_reports_from0, x_need_thresholds, x_chained, x_all_reportsLN, x_held_byL]
  refine for_st (σ := Bool × List Int × List Row) ts D.int (fun z => [if z.1 = true then .own (z.2.2.map dS) else .val (dR z.2.2), .val (dS ts), .own (z.2.1.map .int), .non])
    (fun i z => z.1 = decide (0 < i) ∧ z.2 = (ts.take i).foldl chn ([], rs) ∧ OkR z.2.2) (false, [], rs) rfl rfl (fun z => nomatch z) rfl ⟨rfl, rfl, ok⟩ ?_ ?_
  · rintro i t ⟨b, is, ro⟩ hx ⟨hb, hz, hok⟩ N hN
    simp only at hb hz hok
    have hld : Hld ro (allRep t none ro) := ⟨by have := hok.most; omega, allRep_zero⟩
    have fin : N [.own ((heldR ro (allRep t none ro)).map dS), .val (dS ts), .own ((allRep t none ro).map .int), .val (.int t)] := hN (true, allRep t none ro, heldR ro (allRep t none ro)) _ ⟨by simp, by rw [List.take_succ, hx, List.foldl_append, ← hz]; rfl, hok.held allRep_zero⟩ rfl
    cases b with
    | true =>
      try simp only [↓sSeq, ↓sRet, ↓sIf, ↓sSet, ↓sOwn, ↓sAsg, ↓sDrop, ↓sNext, ↓sBreak, ↓sNever, ↓sFrz, ↓sApp, ↓sSetIx, ↓sSrc, ↓sPar, ↓sPar3, ↓sAug, ↓sNewSrc, ↓eC, ↓eTest, ↓eAnd, ↓eOr, ↓eNot, ↓eAndV, ↓eOrV, ↓eNotV, ↓eIf, ↓eChain, ↓eNeg, ↓eIx, ↓eIxS, ↓eSl, ↓oNone, ↓oSome, ↓aNil, ↓aCons, ↓eTup, ↓eLst, ↓eTupM, ↓eLstM, ↓eCB, ↓eBin, ↓x_call, ↓x_callK, ↓eSrc, ↓iSeqD, ↓iRg1, ↓iRg2, ↓iRg3, ↓iEnumD, ↓iZipD, ↓gNm, ↓gTp, ↓gsC, ↓gsN, ↓eYes, x_var0, x_var0o, x_varS, fAdd_ii, fAdd_ll, fAdd_tt, fAdd_ss, fMul_ii, fMul_li, fMul_ti, fSub_ii, fDiv_ii, fMod_ii, fPow_ii, fLt_ii, fLe_ii, fGt_ii, fGe_ii, ↓fEq, ↓fNe, ↓fIsN, ↓fNotN, x_lenL, x_lenT, x_lenS, x_lenR, x_lenC, fAbs_i, fInt_i, fInt_b, x_isi, List.set_cons_zero, List.set_cons_succ, List.getElem?_cons_zero, List.getElem?_cons_succ, items_l, items_t, okSt, mdOf, md_i, md_b, md_n, md_s, md_t, md_l, md_y, Md.isCl, Md.isNw, Md.meet, atI_0, atI_m1, atI_1, atI_2, atI_nat, cond_true, cond_false, isNon_i, isNon_n, isT_ii, isT_ib, isT_it, isT_il, isT_bi, isT_bb, isT_tt, isT_ti, isT_lt, isT_ll, isT_nt, isT_ni, isT_nl, tyN_i, tyN_b, tyN_t, tyN_l, tyN_n, dS_isT, dR_isT, dS_tyN, dR_tyN, dQ_isNon, D.flat, D.flats, flats_cons, flats_nil, flats_ints, flat_tup, putOk, slOf_f, slOf_t, Option.some.injEq, D.int.injEq, D.bl.injEq, D.lst.injEq, D.tup.injEq, D.str.injEq, D.scr.injEq, D.ty.injEq, x_consD, x_consD0, x_consD1, and_assoc, reduceCtorEq, exists_eq, exists_eq', exists_eq_left, exists_eq_left', exists_eq_right, exists_eq_right', exists_and_left, exists_and_right, and_true, true_and, and_self, and_false, false_and, or_true, true_or, or_false, false_or, if_true, if_false, ite_true, ite_false, decide_eq_true_eq, decide_eq_false_iff_not, Bool.not_eq_true, Bool.not_eq_true', Bool.not_true, Bool.not_false, Bool.true_eq_false, Bool.false_eq_true, not_true_eq_false, not_false_eq_true, eq_self_iff_true, forall_const, imp_self, List.length_cons, List.length_nil, List.append_nil, List.nil_append, List.cons_append, cpow_6, cpow_18, cpow_5, cpow_7, cpow_15, cpow_12, CMul, Nat.reduceAdd, Nat.reduceLeDiff, Nat.reduceLT, Int.reducePow, Int.reduceNeg, Int.reduceLT, Int.reduceLE, Int.reduceToNat, Int.reduceMul, Int.reduceAdd, Int.reduceSub, frzE, frz1, wipeE, all_nil, all_cons, endsF, x_start, List.map_cons, List.map_nil, List.replicate_succ, List.replicate_zero, Nat.reduceSub, Int.reduceEq, Nat.reduceEqDiff, List.mem_cons, List.not_mem_nil, x_isTs, or_self, Option.isSome_some, Option.isSome_none, String.reduceEq, dS_inj, dR_inj, dQ_inj, dQ_non, dQ_int, dS_md, dR_md, dQ_md, dS_flat, dR_flat, dQ_flat, dS_items, dR_items, List.getElem?_map, Option.map_some, Option.map_none, shp_i, shp_n, shp_b, shp_li, shp_S, shp_R, shp_lS, shp_Q, shp_l0, eqb_int, eqb_l, eqb_S, eqb_R, eqbs_ints, eqbs_dS, eqbs_nil0, eqbs_nilL, eqbs_nilR, Sl.own.injEq, Sl.val.injEq, List.length_map, dR_lst, dR_tup, dS_lst, dS_tup, flats_S, cut_map, cut_1, dR_fold, dS_fold, inI_t, inI_f, Bool.or_false, List.getLast?_map, exists_false, exists_const, Bool.and_self, Bool.and_true, Bool.true_and, Bool.and_false, Bool.false_and, add_S, List.isEmpty_map, fMax_2, fMax_3, fMin_2, flat_non, flat_i, ↓u_for, ↓u_comp, fS_v, fS_n, fS_o, shp_lli, eqbs_dL, ↓eSortSet, int_inj, fList_S, fList_R, sum_S, sum_li, x_reported, x_reportedL, x_all_reports, x_all_reportsN, x_held_by, x_held_byT, x_reports, x_reports0, x_reportsI, x_held, x_held0, x_heldI, x_largest_error, x_largest_errorI, x_is_between, x_is_sample, x_is_samples, x_distance, x_need_samples, x_need_threshold, x_need_silence, x_is_late, x_source, x_draw, x_samples, x_gap, x_limit, x_quiet, x_reports_from, x_reports_from0, x_need_thresholds, x_chained, x_all_reportsLN, x_held_byL, flats_S]
      exact ⟨hok, hld, fin⟩
    | false =>
      try simp only [↓sSeq, ↓sRet, ↓sIf, ↓sSet, ↓sOwn, ↓sAsg, ↓sDrop, ↓sNext, ↓sBreak, ↓sNever, ↓sFrz, ↓sApp, ↓sSetIx, ↓sSrc, ↓sPar, ↓sPar3, ↓sAug, ↓sNewSrc, ↓eC, ↓eTest, ↓eAnd, ↓eOr, ↓eNot, ↓eAndV, ↓eOrV, ↓eNotV, ↓eIf, ↓eChain, ↓eNeg, ↓eIx, ↓eIxS, ↓eSl, ↓oNone, ↓oSome, ↓aNil, ↓aCons, ↓eTup, ↓eLst, ↓eTupM, ↓eLstM, ↓eCB, ↓eBin, ↓x_call, ↓x_callK, ↓eSrc, ↓iSeqD, ↓iRg1, ↓iRg2, ↓iRg3, ↓iEnumD, ↓iZipD, ↓gNm, ↓gTp, ↓gsC, ↓gsN, ↓eYes, x_var0, x_var0o, x_varS, fAdd_ii, fAdd_ll, fAdd_tt, fAdd_ss, fMul_ii, fMul_li, fMul_ti, fSub_ii, fDiv_ii, fMod_ii, fPow_ii, fLt_ii, fLe_ii, fGt_ii, fGe_ii, ↓fEq, ↓fNe, ↓fIsN, ↓fNotN, x_lenL, x_lenT, x_lenS, x_lenR, x_lenC, fAbs_i, fInt_i, fInt_b, x_isi, List.set_cons_zero, List.set_cons_succ, List.getElem?_cons_zero, List.getElem?_cons_succ, items_l, items_t, okSt, mdOf, md_i, md_b, md_n, md_s, md_t, md_l, md_y, Md.isCl, Md.isNw, Md.meet, atI_0, atI_m1, atI_1, atI_2, atI_nat, cond_true, cond_false, isNon_i, isNon_n, isT_ii, isT_ib, isT_it, isT_il, isT_bi, isT_bb, isT_tt, isT_ti, isT_lt, isT_ll, isT_nt, isT_ni, isT_nl, tyN_i, tyN_b, tyN_t, tyN_l, tyN_n, dS_isT, dR_isT, dS_tyN, dR_tyN, dQ_isNon, D.flat, D.flats, flats_cons, flats_nil, flats_ints, flat_tup, putOk, slOf_f, slOf_t, Option.some.injEq, D.int.injEq, D.bl.injEq, D.lst.injEq, D.tup.injEq, D.str.injEq, D.scr.injEq, D.ty.injEq, x_consD, x_consD0, x_consD1, and_assoc, reduceCtorEq, exists_eq, exists_eq', exists_eq_left, exists_eq_left', exists_eq_right, exists_eq_right', exists_and_left, exists_and_right, and_true, true_and, and_self, and_false, false_and, or_true, true_or, or_false, false_or, if_true, if_false, ite_true, ite_false, decide_eq_true_eq, decide_eq_false_iff_not, Bool.not_eq_true, Bool.not_eq_true', Bool.not_true, Bool.not_false, Bool.true_eq_false, Bool.false_eq_true, not_true_eq_false, not_false_eq_true, eq_self_iff_true, forall_const, imp_self, List.length_cons, List.length_nil, List.append_nil, List.nil_append, List.cons_append, cpow_6, cpow_18, cpow_5, cpow_7, cpow_15, cpow_12, CMul, Nat.reduceAdd, Nat.reduceLeDiff, Nat.reduceLT, Int.reducePow, Int.reduceNeg, Int.reduceLT, Int.reduceLE, Int.reduceToNat, Int.reduceMul, Int.reduceAdd, Int.reduceSub, frzE, frz1, wipeE, all_nil, all_cons, endsF, x_start, List.map_cons, List.map_nil, List.replicate_succ, List.replicate_zero, Nat.reduceSub, Int.reduceEq, Nat.reduceEqDiff, List.mem_cons, List.not_mem_nil, x_isTs, or_self, Option.isSome_some, Option.isSome_none, String.reduceEq, dS_inj, dR_inj, dQ_inj, dQ_non, dQ_int, dS_md, dR_md, dQ_md, dS_flat, dR_flat, dQ_flat, dS_items, dR_items, List.getElem?_map, Option.map_some, Option.map_none, shp_i, shp_n, shp_b, shp_li, shp_S, shp_R, shp_lS, shp_Q, shp_l0, eqb_int, eqb_l, eqb_S, eqb_R, eqbs_ints, eqbs_dS, eqbs_nil0, eqbs_nilL, eqbs_nilR, Sl.own.injEq, Sl.val.injEq, List.length_map, dR_lst, dR_tup, dS_lst, dS_tup, flats_S, cut_map, cut_1, dR_fold, dS_fold, inI_t, inI_f, Bool.or_false, List.getLast?_map, exists_false, exists_const, Bool.and_self, Bool.and_true, Bool.true_and, Bool.and_false, Bool.false_and, add_S, List.isEmpty_map, fMax_2, fMax_3, fMin_2, flat_non, flat_i, ↓u_for, ↓u_comp, fS_v, fS_n, fS_o, shp_lli, eqbs_dL, ↓eSortSet, int_inj, fList_S, fList_R, sum_S, sum_li, x_reported, x_reportedL, x_all_reports, x_all_reportsN, x_held_by, x_held_byT, x_reports, x_reports0, x_reportsI, x_held, x_held0, x_heldI, x_largest_error, x_largest_errorI, x_is_between, x_is_sample, x_is_samples, x_distance, x_need_samples, x_need_threshold, x_need_silence, x_is_late, x_source, x_draw, x_samples, x_gap, x_limit, x_quiet, x_reports_from, x_reports_from0, x_need_thresholds, x_chained, x_all_reportsLN, x_held_byL, flats_S]
      exact ⟨hok, hld, fin⟩
  · rintro ⟨b, is, ro⟩ ⟨hb, hz, hok⟩
    simp only at hb hz hok
    rw [List.take_length] at hz
    have hb : b = true := by rw [hb]; exact decide_eq_true h1
    subst hb
    have e1 : is = (chainF rs ts).1 := by unfold chainF; rw [← hz]
    have e2 : ro = (chainF rs ts).2 := by unfold chainF; rw [← hz]
    subst e1 e2
    try simp only [↓sSeq, ↓sRet, ↓sIf, ↓sSet, ↓sOwn, ↓sAsg, ↓sDrop, ↓sNext, ↓sBreak, ↓sNever, ↓sFrz, ↓sApp, ↓sSetIx, ↓sSrc, ↓sPar, ↓sPar3, ↓sAug, ↓sNewSrc, ↓eC, ↓eTest, ↓eAnd, ↓eOr, ↓eNot, ↓eAndV, ↓eOrV, ↓eNotV, ↓eIf, ↓eChain, ↓eNeg, ↓eIx, ↓eIxS, ↓eSl, ↓oNone, ↓oSome, ↓aNil, ↓aCons, ↓eTup, ↓eLst, ↓eTupM, ↓eLstM, ↓eCB, ↓eBin, ↓x_call, ↓x_callK, ↓eSrc, ↓iSeqD, ↓iRg1, ↓iRg2, ↓iRg3, ↓iEnumD, ↓iZipD, ↓gNm, ↓gTp, ↓gsC, ↓gsN, ↓eYes, x_var0, x_var0o, x_varS, fAdd_ii, fAdd_ll, fAdd_tt, fAdd_ss, fMul_ii, fMul_li, fMul_ti, fSub_ii, fDiv_ii, fMod_ii, fPow_ii, fLt_ii, fLe_ii, fGt_ii, fGe_ii, ↓fEq, ↓fNe, ↓fIsN, ↓fNotN, x_lenL, x_lenT, x_lenS, x_lenR, x_lenC, fAbs_i, fInt_i, fInt_b, x_isi, List.set_cons_zero, List.set_cons_succ, List.getElem?_cons_zero, List.getElem?_cons_succ, items_l, items_t, okSt, mdOf, md_i, md_b, md_n, md_s, md_t, md_l, md_y, Md.isCl, Md.isNw, Md.meet, atI_0, atI_m1, atI_1, atI_2, atI_nat, cond_true, cond_false, isNon_i, isNon_n, isT_ii, isT_ib, isT_it, isT_il, isT_bi, isT_bb, isT_tt, isT_ti, isT_lt, isT_ll, isT_nt, isT_ni, isT_nl, tyN_i, tyN_b, tyN_t, tyN_l, tyN_n, dS_isT, dR_isT, dS_tyN, dR_tyN, dQ_isNon, D.flat, D.flats, flats_cons, flats_nil, flats_ints, flat_tup, putOk, slOf_f, slOf_t, Option.some.injEq, D.int.injEq, D.bl.injEq, D.lst.injEq, D.tup.injEq, D.str.injEq, D.scr.injEq, D.ty.injEq, x_consD, x_consD0, x_consD1, and_assoc, reduceCtorEq, exists_eq, exists_eq', exists_eq_left, exists_eq_left', exists_eq_right, exists_eq_right', exists_and_left, exists_and_right, and_true, true_and, and_self, and_false, false_and, or_true, true_or, or_false, false_or, if_true, if_false, ite_true, ite_false, decide_eq_true_eq, decide_eq_false_iff_not, Bool.not_eq_true, Bool.not_eq_true', Bool.not_true, Bool.not_false, Bool.true_eq_false, Bool.false_eq_true, not_true_eq_false, not_false_eq_true, eq_self_iff_true, forall_const, imp_self, List.length_cons, List.length_nil, List.append_nil, List.nil_append, List.cons_append, cpow_6, cpow_18, cpow_5, cpow_7, cpow_15, cpow_12, CMul, Nat.reduceAdd, Nat.reduceLeDiff, Nat.reduceLT, Int.reducePow, Int.reduceNeg, Int.reduceLT, Int.reduceLE, Int.reduceToNat, Int.reduceMul, Int.reduceAdd, Int.reduceSub, frzE, frz1, wipeE, all_nil, all_cons, endsF, x_start, List.map_cons, List.map_nil, List.replicate_succ, List.replicate_zero, Nat.reduceSub, Int.reduceEq, Nat.reduceEqDiff, List.mem_cons, List.not_mem_nil, x_isTs, or_self, Option.isSome_some, Option.isSome_none, String.reduceEq, dS_inj, dR_inj, dQ_inj, dQ_non, dQ_int, dS_md, dR_md, dQ_md, dS_flat, dR_flat, dQ_flat, dS_items, dR_items, List.getElem?_map, Option.map_some, Option.map_none, shp_i, shp_n, shp_b, shp_li, shp_S, shp_R, shp_lS, shp_Q, shp_l0, eqb_int, eqb_l, eqb_S, eqb_R, eqbs_ints, eqbs_dS, eqbs_nil0, eqbs_nilL, eqbs_nilR, Sl.own.injEq, Sl.val.injEq, List.length_map, dR_lst, dR_tup, dS_lst, dS_tup, flats_S, cut_map, cut_1, dR_fold, dS_fold, inI_t, inI_f, Bool.or_false, List.getLast?_map, exists_false, exists_const, Bool.and_self, Bool.and_true, Bool.true_and, Bool.and_false, Bool.false_and, add_S, List.isEmpty_map, fMax_2, fMax_3, fMin_2, flat_non, flat_i, ↓u_for, ↓u_comp, fS_v, fS_n, fS_o, shp_lli, eqbs_dL, ↓eSortSet, int_inj, fList_S, fList_R, sum_S, sum_li, x_reported, x_reportedL, x_all_reports, x_all_reportsN, x_held_by, x_held_byT, x_reports, x_reports0, x_reportsI, x_held, x_held0, x_heldI, x_largest_error, x_largest_errorI, x_is_between, x_is_sample, x_is_samples, x_distance, x_need_samples, x_need_threshold, x_need_silence, x_is_late, x_source, x_draw, x_samples, x_gap, x_limit, x_quiet, x_reports_from, x_reports_from0, x_need_thresholds, x_chained, x_all_reportsLN, x_held_byL]
    exact h
def t_chain_reports : S1 := (sSeq (sDrop (eCall true [] c_need_samples (aCons (eVar 0) aNil))) (sSeq (sDrop (eCall true [] c_need_thresholds (aCons (eVar 1) aNil))) (sRet (eIx (eCall true [] c_chained (aCons (eVar 0) (aCons (eVar 1) aNil))) (eC (.int 0))))))
def c_chain_reports : C1 := fun ds q => ∃ (rs : List Row) (ts : List Int), ds = [dR rs, dS ts] ∧ (OkR rs ∧ OkTs ts) ∧ q (.lst ((chainF rs ts).1.map .int))
theorem m_chain_reports : MonoC c_chain_reports := fun ds q q' k ⟨rs, ts, e, h1, h⟩ => ⟨rs, ts, e, h1, k _ h⟩
theorem x_chain_reports {rs : List Row} {ts : List Int} {q : D → Prop} : callC c_chain_reports [dR rs, dS ts] q = (OkR rs ∧ OkTs ts ∧ q (.lst ((chainF rs ts).1.map .int))) := by
  simp only [callC, c_chain_reports, ↓sSeq, ↓sRet, ↓sIf, ↓sSet, ↓sOwn, ↓sAsg, ↓sDrop, ↓sNext, ↓sBreak, ↓sNever, ↓sFrz, ↓sApp, ↓sSetIx, ↓sSrc, ↓sPar, ↓sPar3, ↓sAug, ↓sNewSrc, ↓eC, ↓eTest, ↓eAnd, ↓eOr, ↓eNot, ↓eAndV, ↓eOrV, ↓eNotV, ↓eIf, ↓eChain, ↓eNeg, ↓eIx, ↓eIxS, ↓eSl, ↓oNone, ↓oSome, ↓aNil, ↓aCons, ↓eTup, ↓eLst, ↓eTupM, ↓eLstM, ↓eCB, ↓eBin, ↓x_call, ↓x_callK, ↓eSrc, ↓iSeqD, ↓iRg1, ↓iRg2, ↓iRg3, ↓iEnumD, ↓iZipD, ↓gNm, ↓gTp, ↓gsC, ↓gsN, ↓eYes, x_var0, x_var0o, x_varS, fAdd_ii, fAdd_ll, fAdd_tt, fAdd_ss, fMul_ii, fMul_li, fMul_ti, fSub_ii, fDiv_ii, fMod_ii, fPow_ii, fLt_ii, fLe_ii, fGt_ii, fGe_ii, ↓fEq, ↓fNe, ↓fIsN, ↓fNotN, x_lenL, x_lenT, x_lenS, x_lenR, x_lenC, fAbs_i, fInt_i, fInt_b, x_isi, List.set_cons_zero, List.set_cons_succ, List.getElem?_cons_zero, List.getElem?_cons_succ, items_l, items_t, okSt, mdOf, md_i, md_b, md_n, md_s, md_t, md_l, md_y, Md.isCl, Md.isNw, Md.meet, atI_0, atI_m1, atI_1, atI_2, atI_nat, cond_true, cond_false, isNon_i, isNon_n, isT_ii, isT_ib, isT_it, isT_il, isT_bi, isT_bb, isT_tt, isT_ti, isT_lt, isT_ll, isT_nt, isT_ni, isT_nl, tyN_i, tyN_b, tyN_t, tyN_l, tyN_n, dS_isT, dR_isT, dS_tyN, dR_tyN, dQ_isNon, D.flat, D.flats, flats_cons, flats_nil, flats_ints, flat_tup, putOk, slOf_f, slOf_t, Option.some.injEq, D.int.injEq, D.bl.injEq, D.lst.injEq, D.tup.injEq, D.str.injEq, D.scr.injEq, D.ty.injEq, x_consD, x_consD0, x_consD1, and_assoc, reduceCtorEq, exists_eq, exists_eq', exists_eq_left, exists_eq_left', exists_eq_right, exists_eq_right', exists_and_left, exists_and_right, and_true, true_and, and_self, and_false, false_and, or_true, true_or, or_false, false_or, if_true, if_false, ite_true, ite_false, decide_eq_true_eq, decide_eq_false_iff_not, Bool.not_eq_true, Bool.not_eq_true', Bool.not_true, Bool.not_false, Bool.true_eq_false, Bool.false_eq_true, not_true_eq_false, not_false_eq_true, eq_self_iff_true, forall_const, imp_self, List.length_cons, List.length_nil, List.append_nil, List.nil_append, List.cons_append, cpow_6, cpow_18, cpow_5, cpow_7, cpow_15, cpow_12, CMul, Nat.reduceAdd, Nat.reduceLeDiff, Nat.reduceLT, Int.reducePow, Int.reduceNeg, Int.reduceLT, Int.reduceLE, Int.reduceToNat, Int.reduceMul, Int.reduceAdd, Int.reduceSub, frzE, frz1, wipeE, all_nil, all_cons, endsF, x_start, List.map_cons, List.map_nil, List.replicate_succ, List.replicate_zero, Nat.reduceSub, Int.reduceEq, Nat.reduceEqDiff, List.mem_cons, List.not_mem_nil, x_isTs, or_self, Option.isSome_some, Option.isSome_none, String.reduceEq, dS_inj, dR_inj, dQ_inj, dQ_non, dQ_int, dS_md, dR_md, dQ_md, dS_flat, dR_flat, dQ_flat, dS_items, dR_items, List.getElem?_map, Option.map_some, Option.map_none, shp_i, shp_n, shp_b, shp_li, shp_S, shp_R, shp_lS, shp_Q, shp_l0, eqb_int, eqb_l, eqb_S, eqb_R, eqbs_ints, eqbs_dS, eqbs_nil0, eqbs_nilL, eqbs_nilR, Sl.own.injEq, Sl.val.injEq, List.length_map, dR_lst, dR_tup, dS_lst, dS_tup, flats_S, cut_map, cut_1, dR_fold, dS_fold, inI_t, inI_f, Bool.or_false, List.getLast?_map, exists_false, exists_const, Bool.and_self, Bool.and_true, Bool.true_and, Bool.and_false, Bool.false_and, add_S, List.isEmpty_map, fMax_2, fMax_3, fMin_2, flat_non, flat_i, ↓u_for, ↓u_comp, fS_v, fS_n, fS_o, shp_lli, eqbs_dL, ↓eSortSet, int_inj, fList_S, fList_R, sum_S, sum_li, x_reported, x_reportedL, x_all_reports, x_all_reportsN, x_held_by, x_held_byT, x_reports, x_reports0, x_reportsI, x_held, x_held0, x_heldI, x_largest_error, x_largest_errorI, x_is_between, x_is_sample, x_is_samples, x_distance, x_need_samples, x_need_threshold, x_need_silence, x_is_late, x_source, x_draw, x_samples, x_gap, x_limit, x_quiet, x_reports_from, x_reports_from0, x_need_thresholds, x_chained, x_all_reportsLN, x_held_byL]
theorem w_chain_reports (ds : List D) (q : D → Prop) (h : c_chain_reports ds q) : t_chain_reports (endsF true q) (startE 2 ds) := by
  obtain ⟨rs, ts, rfl, ⟨ok, h1⟩, h⟩ := h
  simp only [x_start, List.map_cons, List.map_nil, List.length_cons, List.length_nil, List.replicate_succ, List.replicate_zero, List.cons_append, List.nil_append, Nat.reduceSub, Nat.reduceAdd]
  simp only [t_chain_reports, ↓sSeq, ↓sRet, ↓sIf, ↓sSet, ↓sOwn, ↓sAsg, ↓sDrop, ↓sNext, ↓sBreak, ↓sNever, ↓sFrz, ↓sApp, ↓sSetIx, ↓sSrc, ↓sPar, ↓sPar3, ↓sAug, ↓sNewSrc, ↓eC, ↓eTest, ↓eAnd, ↓eOr, ↓eNot, ↓eAndV, ↓eOrV, ↓eNotV, ↓eIf, ↓eChain, ↓eNeg, ↓eIx, ↓eIxS, ↓eSl, ↓oNone, ↓oSome, ↓aNil, ↓aCons, ↓eTup, ↓eLst, ↓eTupM, ↓eLstM, ↓eCB, ↓eBin, ↓x_call, ↓x_callK, ↓eSrc, ↓iSeqD, ↓iRg1, ↓iRg2, ↓iRg3, ↓iEnumD, ↓iZipD, ↓gNm, ↓gTp, ↓gsC, ↓gsN, ↓eYes, x_var0, x_var0o, x_varS, fAdd_ii, fAdd_ll, fAdd_tt, fAdd_ss, fMul_ii, fMul_li, fMul_ti, fSub_ii, fDiv_ii, fMod_ii, fPow_ii, fLt_ii, fLe_ii, fGt_ii, fGe_ii, ↓fEq, ↓fNe, ↓fIsN, ↓fNotN, x_lenL, x_lenT, x_lenS, x_lenR, x_lenC, fAbs_i, fInt_i, fInt_b, x_isi, List.set_cons_zero, List.set_cons_succ, List.getElem?_cons_zero, List.getElem?_cons_succ, items_l, items_t, okSt, mdOf, md_i, md_b, md_n, md_s, md_t, md_l, md_y, Md.isCl, Md.isNw, Md.meet, atI_0, atI_m1, atI_1, atI_2, atI_nat, cond_true, cond_false, isNon_i, isNon_n, isT_ii, isT_ib, isT_it, isT_il, isT_bi, isT_bb, isT_tt, isT_ti, isT_lt, isT_ll, isT_nt, isT_ni, isT_nl, tyN_i, tyN_b, tyN_t, tyN_l, tyN_n, dS_isT, dR_isT, dS_tyN, dR_tyN, dQ_isNon, D.flat, D.flats, flats_cons, flats_nil, flats_ints, flat_tup, putOk, slOf_f, slOf_t, Option.some.injEq, D.int.injEq, D.bl.injEq, D.lst.injEq, D.tup.injEq, D.str.injEq, D.scr.injEq, D.ty.injEq, x_consD, x_consD0, x_consD1, and_assoc, reduceCtorEq, exists_eq, exists_eq', exists_eq_left, exists_eq_left', exists_eq_right, exists_eq_right', exists_and_left, exists_and_right, and_true, true_and, and_self, and_false, false_and, or_true, true_or, or_false, false_or, if_true, if_false, ite_true, ite_false, decide_eq_true_eq, decide_eq_false_iff_not, Bool.not_eq_true, Bool.not_eq_true', Bool.not_true, Bool.not_false, Bool.true_eq_false, Bool.false_eq_true, not_true_eq_false, not_false_eq_true, eq_self_iff_true, forall_const, imp_self, List.length_cons, List.length_nil, List.append_nil, List.nil_append, List.cons_append, cpow_6, cpow_18, cpow_5, cpow_7, cpow_15, cpow_12, CMul, Nat.reduceAdd, Nat.reduceLeDiff, Nat.reduceLT, Int.reducePow, Int.reduceNeg, Int.reduceLT, Int.reduceLE, Int.reduceToNat, Int.reduceMul, Int.reduceAdd, Int.reduceSub, frzE, frz1, wipeE, all_nil, all_cons, endsF, x_start, List.map_cons, List.map_nil, List.replicate_succ, List.replicate_zero, Nat.reduceSub, Int.reduceEq, Nat.reduceEqDiff, List.mem_cons, List.not_mem_nil, x_isTs, or_self, Option.isSome_some, Option.isSome_none, String.reduceEq, dS_inj, dR_inj, dQ_inj, dQ_non, dQ_int, dS_md, dR_md, dQ_md, dS_flat, dR_flat, dQ_flat, dS_items, dR_items, List.getElem?_map, Option.map_some, Option.map_none, shp_i, shp_n, shp_b, shp_li, shp_S, shp_R, shp_lS, shp_Q, shp_l0, eqb_int, eqb_l, eqb_S, eqb_R, eqbs_ints, eqbs_dS, eqbs_nil0, eqbs_nilL, eqbs_nilR, Sl.own.injEq, Sl.val.injEq, List.length_map, dR_lst, dR_tup, dS_lst, dS_tup, flats_S, cut_map, cut_1, dR_fold, dS_fold, inI_t, inI_f, Bool.or_false, List.getLast?_map, exists_false, exists_const, Bool.and_self, Bool.and_true, Bool.true_and, Bool.and_false, Bool.false_and, add_S, List.isEmpty_map, fMax_2, fMax_3, fMin_2, flat_non, flat_i, ↓u_for, ↓u_comp, fS_v, fS_n, fS_o, shp_lli, eqbs_dL, ↓eSortSet, int_inj, fList_S, fList_R, sum_S, sum_li, x_reported, x_reportedL, x_all_reports, x_all_reportsN, x_held_by, x_held_byT, x_reports, x_reports0, x_reportsI, x_held, x_held0, x_heldI, x_largest_error, x_largest_errorI, x_is_between, x_is_sample, x_is_samples, x_distance, x_need_samples, x_need_threshold, x_need_silence, x_is_late, x_source, x_draw, x_samples, x_gap, x_limit, x_quiet, x_reports_from, x_reports_from0, x_need_thresholds, x_chained, x_all_reportsLN, x_held_byL, x_chain_reports]
  exact ⟨ok, h1, ok, h1, h⟩
def t_chain_held : S1 := (sSeq (sDrop (eCall true [] c_need_samples (aCons (eVar 0) aNil))) (sSeq (sDrop (eCall true [] c_need_thresholds (aCons (eVar 1) aNil))) (sRet (eIx (eCall true [] c_chained (aCons (eVar 0) (aCons (eVar 1) aNil))) (eC (.int 1))))))
def c_chain_held : C1 := fun ds q => ∃ (rs : List Row) (ts : List Int), ds = [dR rs, dS ts] ∧ (OkR rs ∧ OkTs ts) ∧ q (.lst ((chainF rs ts).2.map dS))
theorem m_chain_held : MonoC c_chain_held := fun ds q q' k ⟨rs, ts, e, h1, h⟩ => ⟨rs, ts, e, h1, k _ h⟩
theorem x_chain_held {rs : List Row} {ts : List Int} {q : D → Prop} : callC c_chain_held [dR rs, dS ts] q = (OkR rs ∧ OkTs ts ∧ q (.lst ((chainF rs ts).2.map dS))) := by
  simp only [callC, c_chain_held, ↓sSeq, ↓sRet, ↓sIf, ↓sSet, ↓sOwn, ↓sAsg, ↓sDrop, ↓sNext, ↓sBreak, ↓sNever, ↓sFrz, ↓sApp, ↓sSetIx, ↓sSrc, ↓sPar, ↓sPar3, ↓sAug, ↓sNewSrc, ↓eC, ↓eTest, ↓eAnd, ↓eOr, ↓eNot, ↓eAndV, ↓eOrV, ↓eNotV, ↓eIf, ↓eChain, ↓eNeg, ↓eIx, ↓eIxS, ↓eSl, ↓oNone, ↓oSome, ↓aNil, ↓aCons, ↓eTup, ↓eLst, ↓eTupM, ↓eLstM, ↓eCB, ↓eBin, ↓x_call, ↓x_callK, ↓eSrc, ↓iSeqD, ↓iRg1, ↓iRg2, ↓iRg3, ↓iEnumD, ↓iZipD, ↓gNm, ↓gTp, ↓gsC, ↓gsN, ↓eYes, x_var0, x_var0o, x_varS, fAdd_ii, fAdd_ll, fAdd_tt, fAdd_ss, fMul_ii, fMul_li, fMul_ti, fSub_ii, fDiv_ii, fMod_ii, fPow_ii, fLt_ii, fLe_ii, fGt_ii, fGe_ii, ↓fEq, ↓fNe, ↓fIsN, ↓fNotN, x_lenL, x_lenT, x_lenS, x_lenR, x_lenC, fAbs_i, fInt_i, fInt_b, x_isi, List.set_cons_zero, List.set_cons_succ, List.getElem?_cons_zero, List.getElem?_cons_succ, items_l, items_t, okSt, mdOf, md_i, md_b, md_n, md_s, md_t, md_l, md_y, Md.isCl, Md.isNw, Md.meet, atI_0, atI_m1, atI_1, atI_2, atI_nat, cond_true, cond_false, isNon_i, isNon_n, isT_ii, isT_ib, isT_it, isT_il, isT_bi, isT_bb, isT_tt, isT_ti, isT_lt, isT_ll, isT_nt, isT_ni, isT_nl, tyN_i, tyN_b, tyN_t, tyN_l, tyN_n, dS_isT, dR_isT, dS_tyN, dR_tyN, dQ_isNon, D.flat, D.flats, flats_cons, flats_nil, flats_ints, flat_tup, putOk, slOf_f, slOf_t, Option.some.injEq, D.int.injEq, D.bl.injEq, D.lst.injEq, D.tup.injEq, D.str.injEq, D.scr.injEq, D.ty.injEq, x_consD, x_consD0, x_consD1, and_assoc, reduceCtorEq, exists_eq, exists_eq', exists_eq_left, exists_eq_left', exists_eq_right, exists_eq_right', exists_and_left, exists_and_right, and_true, true_and, and_self, and_false, false_and, or_true, true_or, or_false, false_or, if_true, if_false, ite_true, ite_false, decide_eq_true_eq, decide_eq_false_iff_not, Bool.not_eq_true, Bool.not_eq_true', Bool.not_true, Bool.not_false, Bool.true_eq_false, Bool.false_eq_true, not_true_eq_false, not_false_eq_true, eq_self_iff_true, forall_const, imp_self, List.length_cons, List.length_nil, List.append_nil, List.nil_append, List.cons_append, cpow_6, cpow_18, cpow_5, cpow_7, cpow_15, cpow_12, CMul, Nat.reduceAdd, Nat.reduceLeDiff, Nat.reduceLT, Int.reducePow, Int.reduceNeg, Int.reduceLT, Int.reduceLE, Int.reduceToNat, Int.reduceMul, Int.reduceAdd, Int.reduceSub, frzE, frz1, wipeE, all_nil, all_cons, endsF, x_start, List.map_cons, List.map_nil, List.replicate_succ, List.replicate_zero, Nat.reduceSub, Int.reduceEq, Nat.reduceEqDiff, List.mem_cons, List.not_mem_nil, x_isTs, or_self, Option.isSome_some, Option.isSome_none, String.reduceEq, dS_inj, dR_inj, dQ_inj, dQ_non, dQ_int, dS_md, dR_md, dQ_md, dS_flat, dR_flat, dQ_flat, dS_items, dR_items, List.getElem?_map, Option.map_some, Option.map_none, shp_i, shp_n, shp_b, shp_li, shp_S, shp_R, shp_lS, shp_Q, shp_l0, eqb_int, eqb_l, eqb_S, eqb_R, eqbs_ints, eqbs_dS, eqbs_nil0, eqbs_nilL, eqbs_nilR, Sl.own.injEq, Sl.val.injEq, List.length_map, dR_lst, dR_tup, dS_lst, dS_tup, flats_S, cut_map, cut_1, dR_fold, dS_fold, inI_t, inI_f, Bool.or_false, List.getLast?_map, exists_false, exists_const, Bool.and_self, Bool.and_true, Bool.true_and, Bool.and_false, Bool.false_and, add_S, List.isEmpty_map, fMax_2, fMax_3, fMin_2, flat_non, flat_i, ↓u_for, ↓u_comp, fS_v, fS_n, fS_o, shp_lli, eqbs_dL, ↓eSortSet, int_inj, fList_S, fList_R, sum_S, sum_li, x_reported, x_reportedL, x_all_reports, x_all_reportsN, x_held_by, x_held_byT, x_reports, x_reports0, x_reportsI, x_held, x_held0, x_heldI, x_largest_error, x_largest_errorI, x_is_between, x_is_sample, x_is_samples, x_distance, x_need_samples, x_need_threshold, x_need_silence, x_is_late, x_source, x_draw, x_samples, x_gap, x_limit, x_quiet, x_reports_from, x_reports_from0, x_need_thresholds, x_chained, x_all_reportsLN, x_held_byL, x_chain_reports]
theorem w_chain_held (ds : List D) (q : D → Prop) (h : c_chain_held ds q) : t_chain_held (endsF true q) (startE 2 ds) := by
  obtain ⟨rs, ts, rfl, ⟨ok, h1⟩, h⟩ := h
  simp only [x_start, List.map_cons, List.map_nil, List.length_cons, List.length_nil, List.replicate_succ, List.replicate_zero, List.cons_append, List.nil_append, Nat.reduceSub, Nat.reduceAdd]
  simp only [t_chain_held, ↓sSeq, ↓sRet, ↓sIf, ↓sSet, ↓sOwn, ↓sAsg, ↓sDrop, ↓sNext, ↓sBreak, ↓sNever, ↓sFrz, ↓sApp, ↓sSetIx, ↓sSrc, ↓sPar, ↓sPar3, ↓sAug, ↓sNewSrc, ↓eC, ↓eTest, ↓eAnd, ↓eOr, ↓eNot, ↓eAndV, ↓eOrV, ↓eNotV, ↓eIf, ↓eChain, ↓eNeg, ↓eIx, ↓eIxS, ↓eSl, ↓oNone, ↓oSome, ↓aNil, ↓aCons, ↓eTup, ↓eLst, ↓eTupM, ↓eLstM, ↓eCB, ↓eBin, ↓x_call, ↓x_callK, ↓eSrc, ↓iSeqD, ↓iRg1, ↓iRg2, ↓iRg3, ↓iEnumD, ↓iZipD, ↓gNm, ↓gTp, ↓gsC, ↓gsN, ↓eYes, x_var0, x_var0o, x_varS, fAdd_ii, fAdd_ll, fAdd_tt, fAdd_ss, fMul_ii, fMul_li, fMul_ti, fSub_ii, fDiv_ii, fMod_ii, fPow_ii, fLt_ii, fLe_ii, fGt_ii, fGe_ii, ↓fEq, ↓fNe, ↓fIsN, ↓fNotN, x_lenL, x_lenT, x_lenS, x_lenR, x_lenC, fAbs_i, fInt_i, fInt_b, x_isi, List.set_cons_zero, List.set_cons_succ, List.getElem?_cons_zero, List.getElem?_cons_succ, items_l, items_t, okSt, mdOf, md_i, md_b, md_n, md_s, md_t, md_l, md_y, Md.isCl, Md.isNw, Md.meet, atI_0, atI_m1, atI_1, atI_2, atI_nat, cond_true, cond_false, isNon_i, isNon_n, isT_ii, isT_ib, isT_it, isT_il, isT_bi, isT_bb, isT_tt, isT_ti, isT_lt, isT_ll, isT_nt, isT_ni, isT_nl, tyN_i, tyN_b, tyN_t, tyN_l, tyN_n, dS_isT, dR_isT, dS_tyN, dR_tyN, dQ_isNon, D.flat, D.flats, flats_cons, flats_nil, flats_ints, flat_tup, putOk, slOf_f, slOf_t, Option.some.injEq, D.int.injEq, D.bl.injEq, D.lst.injEq, D.tup.injEq, D.str.injEq, D.scr.injEq, D.ty.injEq, x_consD, x_consD0, x_consD1, and_assoc, reduceCtorEq, exists_eq, exists_eq', exists_eq_left, exists_eq_left', exists_eq_right, exists_eq_right', exists_and_left, exists_and_right, and_true, true_and, and_self, and_false, false_and, or_true, true_or, or_false, false_or, if_true, if_false, ite_true, ite_false, decide_eq_true_eq, decide_eq_false_iff_not, Bool.not_eq_true, Bool.not_eq_true', Bool.not_true, Bool.not_false, Bool.true_eq_false, Bool.false_eq_true, not_true_eq_false, not_false_eq_true, eq_self_iff_true, forall_const, imp_self, List.length_cons, List.length_nil, List.append_nil, List.nil_append, List.cons_append, cpow_6, cpow_18, cpow_5, cpow_7, cpow_15, cpow_12, CMul, Nat.reduceAdd, Nat.reduceLeDiff, Nat.reduceLT, Int.reducePow, Int.reduceNeg, Int.reduceLT, Int.reduceLE, Int.reduceToNat, Int.reduceMul, Int.reduceAdd, Int.reduceSub, frzE, frz1, wipeE, all_nil, all_cons, endsF, x_start, List.map_cons, List.map_nil, List.replicate_succ, List.replicate_zero, Nat.reduceSub, Int.reduceEq, Nat.reduceEqDiff, List.mem_cons, List.not_mem_nil, x_isTs, or_self, Option.isSome_some, Option.isSome_none, String.reduceEq, dS_inj, dR_inj, dQ_inj, dQ_non, dQ_int, dS_md, dR_md, dQ_md, dS_flat, dR_flat, dQ_flat, dS_items, dR_items, List.getElem?_map, Option.map_some, Option.map_none, shp_i, shp_n, shp_b, shp_li, shp_S, shp_R, shp_lS, shp_Q, shp_l0, eqb_int, eqb_l, eqb_S, eqb_R, eqbs_ints, eqbs_dS, eqbs_nil0, eqbs_nilL, eqbs_nilR, Sl.own.injEq, Sl.val.injEq, List.length_map, dR_lst, dR_tup, dS_lst, dS_tup, flats_S, cut_map, cut_1, dR_fold, dS_fold, inI_t, inI_f, Bool.or_false, List.getLast?_map, exists_false, exists_const, Bool.and_self, Bool.and_true, Bool.true_and, Bool.and_false, Bool.false_and, add_S, List.isEmpty_map, fMax_2, fMax_3, fMin_2, flat_non, flat_i, ↓u_for, ↓u_comp, fS_v, fS_n, fS_o, shp_lli, eqbs_dL, ↓eSortSet, int_inj, fList_S, fList_R, sum_S, sum_li, x_reported, x_reportedL, x_all_reports, x_all_reportsN, x_held_by, x_held_byT, x_reports, x_reports0, x_reportsI, x_held, x_held0, x_heldI, x_largest_error, x_largest_errorI, x_is_between, x_is_sample, x_is_samples, x_distance, x_need_samples, x_need_threshold, x_need_silence, x_is_late, x_source, x_draw, x_samples, x_gap, x_limit, x_quiet, x_reports_from, x_reports_from0, x_need_thresholds, x_chained, x_all_reportsLN, x_held_byL, x_chain_reports, x_chain_held]
  exact ⟨ok, h1, ok, h1, h⟩
/-! ### what the chain holds -/
theorem chain_ok {rs : List Row} (ok : OkR rs) : ∀ (ts : List Int) (z : List Int × List Row), OkR z.2 → OkR (ts.foldl chn z).2
  | [], _, h => h
  | t :: ts, z, h => chain_ok ok ts (chn z t) (h.held allRep_zero)
end VL
/-! VM4: what a chain holds. -/
namespace VL
open PySem L2

theorem chainF_last {rs : List Row} {ts : List Int} {t : Int} : chainF rs (ts ++ [t]) = chn (chainF rs ts) t := by
  unfold chainF
  rw [List.foldl_append]
  rfl
theorem chainF_ok {rs : List Row} (ok : OkR rs) (ts : List Int) : OkR (chainF rs ts).2 := chain_ok ok ts _ ok
theorem chain_len : ∀ (ts : List Int) (z : List Int × List Row), (ts.foldl chn z).2.length = z.2.length
  | [], _ => rfl
  | t :: ts, z => by rw [List.foldl_cons, chain_len ts]; exact heldR_length
theorem chainF_len {rs : List Row} {ts : List Int} : (chainF rs ts).2.length = rs.length := chain_len ts _
/-- the same channels all along -/
theorem chain_ch {c : Nat} : ∀ (ts : List Int) (z : List Int × List Row), (∀ r ∈ z.2, OkS c r) → ∀ r ∈ (ts.foldl chn z).2, OkS c r
  | [], _, h => h
  | t :: ts, z, h => chain_ch ts (chn z t) fun r hr => h r (heldR_mem allRep_zero hr)
theorem chainF_ch {rs : List Row} {c : Nat} (h : ∀ r ∈ rs, OkS c r) {ts : List Int} : ∀ r ∈ (chainF rs ts).2, OkS c r := chain_ch ts ([], rs) h
theorem rowAt_held {rs : List Row} {is : List Int} {i : Nat} (h : i < rs.length) : rowAt (heldR rs is) i = valAt rs is i := by
  unfold rowAt
  rw [List.getD_eq_getElem?_getD, heldR_map, List.getElem?_map, List.getElem?_range h]
  rfl
/-- the held values lie near the rows -/
theorem chain_near {rs : List Row} {c : Nat} (ok : OkR rs) (hc : ∀ r ∈ rs, OkS c r) {i : Nat} (hi : i < rs.length) : ∀ (ts : List Int), (∀ t ∈ ts, 0 ≤ t) → gap (rowAt rs i) (rowAt (chainF rs ts).2 i) ≤ ts.sum := by
  intro ts
  have gen : ∀ (n : Nat) (ts : List Int), ts.length = n → (∀ t ∈ ts, 0 ≤ t) → gap (rowAt rs i) (rowAt (chainF rs ts).2 i) ≤ ts.sum := by
    intro n
    induction n with
    | zero =>
      intro ts h _
      rw [List.length_eq_zero_iff.mp h]
      show gap (rowAt rs i) (rowAt rs i) ≤ 0
      rw [gap_self]
      exact Int.le_refl _
    | succ n ih =>
      intro ts h ht
      obtain ⟨us, t, rfl⟩ : ∃ us t, ts = us ++ [t] := ⟨ts.dropLast, ts.getLast (by intro z; rw [z] at h; cases h), (List.dropLast_concat_getLast _).symm⟩
      rw [List.length_append] at h
      have hu := ih us (by simpa using h) fun t h => ht t (List.mem_append_left _ h)
      have h0 : 0 ≤ t := ht t (List.mem_append_right _ (List.mem_singleton.mpr rfl))
      rw [chainF_last, List.sum_append]
      have hl := chainF_len (rs := rs) (ts := us)
      have hp := ok.pos
      have e : rowAt (chn (chainF rs us) t).2 i = valAt (chainF rs us).2 (allRep t none (chainF rs us).2) i := rowAt_held (by omega)
      rw [e]
      have near : gap (rowAt (chainF rs us).2 i) (valAt (chainF rs us).2 (allRep t none (chainF rs us).2) i) ≤ t := val_near (t := t) (s := none) (rs := (chainF rs us).2) (by omega) h0 (i := i) (by omega)
      have tri := gap_tri (a := rowAt rs i) (b := rowAt (chainF rs us).2 i) (c := valAt (chainF rs us).2 (allRep t none (chainF rs us).2) i) (by
        rw [rowAt_len hc i hi, rowAt_len (chainF_ch hc (ts := us)) i (by omega)]
        exact Nat.le_refl _)
      have hs : [t].sum = t := by simp
      rw [hs]
      omega
  exact gen _ ts rfl
/-- a coarse reporter beside the chain's last one -/
theorem chain_H {rs : List Row} {c : Nat} (ok : OkR rs) (hc : ∀ r ∈ rs, OkS c r) (us : List Int) (t : Int) (ht : ∀ x ∈ us ++ [t], 0 ≤ x) (l j k i : Nat) (hi : i < rs.length) (h1 : l ≤ j) (h2 : j ≤ i) (h3 : l ≤ k) (h4 : k ≤ i)
    (h : ∀ j, l < j → j ≤ i → cR t none (rowAt (chainF rs us).2) l j = false) : gap (rowAt rs j) (rowAt rs k) ≤ 2 * (us ++ [t]).sum := by
  have h0 : 0 ≤ t := ht t (List.mem_append_right _ (List.mem_singleton.mpr rfl))
  have hu : ∀ x ∈ us, 0 ≤ x := fun x h => ht x (List.mem_append_left _ h)
  have hs : (us ++ [t]).sum = us.sum + t := by rw [List.sum_append]; simp
  rw [hs]
  have hl := chainF_len (rs := rs) (ts := us)
  have near : ∀ j, l ≤ j → j ≤ i → gap (rowAt (chainF rs us).2 j) (rowAt (chainF rs us).2 l) ≤ t := fun j x y => by
    by_cases e : l = j
    · subst e; rw [gap_self]; exact h0
    · have := of_decide_eq_false (h j (by omega) y)
      exact Int.not_lt.mp fun z => this (.inl z)
  have len : ∀ j, j < rs.length → (rowAt rs j).length = c := rowAt_len hc
  have len2 : ∀ j, j < rs.length → (rowAt (chainF rs us).2 j).length = c := fun j hj => rowAt_len (chainF_ch hc (ts := us)) j (by omega)
  have a := chain_near ok hc (i := j) (by omega) us hu
  have b := chain_near ok hc (i := k) (by omega) us hu
  have x := near j h1 h2
  have y := near k h3 h4
  have t1 := gap_tri (a := rowAt rs j) (b := rowAt (chainF rs us).2 j) (c := rowAt rs k) (by rw [len j (by omega), len2 j (by omega)]; exact Nat.le_refl _)
  have t2 := gap_tri (a := rowAt (chainF rs us).2 j) (b := rowAt (chainF rs us).2 l) (c := rowAt rs k) (by rw [len2 j (by omega), len2 l (by omega)]; exact Nat.le_refl _)
  have t3 := gap_tri (a := rowAt (chainF rs us).2 l) (b := rowAt (chainF rs us).2 k) (c := rowAt rs k) (by rw [len2 l (by omega), len2 k (by omega)]; exact Nat.le_refl _)
  rw [gap_comm (rowAt (chainF rs us).2 k) (rowAt (chainF rs us).2 l)] at y
  rw [gap_comm (rowAt rs k) (rowAt (chainF rs us).2 k)] at b
  omega
theorem late_none {a b : Int} : late a b none = false := rfl
theorem chain_count {rs : List Row} {c : Nat} (ok : OkR rs) (hc : ∀ r ∈ rs, OkS c r) {ts : List Int} (h1 : 0 < ts.length) (ht : ∀ x ∈ ts, 0 ≤ x) : (allRep (2 * ts.sum) none rs).length ≤ (chainF rs ts).1.length ∧ (starts (2 * ts.sum) none rs).length ≤ (chainF rs ts).1.length := by
  obtain ⟨us, t, rfl⟩ : ∃ us t, ts = us ++ [t] := ⟨ts.dropLast, ts.getLast (by intro z; rw [z] at h1; cases h1), (List.dropLast_concat_getLast _).symm⟩
  have hp := ok.pos
  have hl := chainF_len (rs := rs) (ts := us)
  have hsum : 0 ≤ (us ++ [t]).sum := by
    have : ∀ l : List Int, (∀ x ∈ l, 0 ≤ x) → 0 ≤ l.sum := fun l => by
      induction l with
      | nil => intro _; exact Int.le_refl _
      | cons x l ih =>
        intro h
        have := ih fun y hy => h y (List.mem_cons_of_mem _ hy)
        have := h x List.mem_cons_self
        rw [List.sum_cons]; omega
    exact this _ ht
  rw [chainF_last]
  show _ ≤ (allRep t none (chainF rs us).2).length ∧ _ ≤ (allRep t none (chainF rs us).2).length
  rw [allRep_count hp, allRep_count (rs := (chainF rs us).2) (by omega), starts_length, hl]
  constructor
  · have := (greedy_cmp (C := cR t none (rowAt (chainF rs us).2)) (C' := cR (2 * (us ++ [t]).sum) none (rowAt rs)) (n := rs.length) (fun l l' i hi a b h => by
      refine decide_eq_false fun z => ?_
      rcases z with z | z
      · have := chain_H ok hc us t ht l i l' i hi (by omega) (Nat.le_refl _) a (by omega) h
        omega
      · cases z) (rs.length - 1) 1 0 0 (by omega) (by omega) (by omega) fun j _ _ => by omega).2 (Nat.le_refl _)
    omega
  · have := (greedy_cmp (C := cR t none (rowAt (chainF rs us).2)) (C' := cS (2 * (us ++ [t]).sum) none rs) (n := rs.length) (fun l l' i hi a b h => by
      refine decide_eq_false fun z => ?_
      rcases z with z | z
      · have : spr (seg rs l' i) ≤ 2 * (us ++ [t]).sum := (seg_le (by omega) hi).mpr fun j k x1 x2 x3 x4 => chain_H ok hc us t ht l j k i hi (by omega) x2 (by omega) x4 h
        omega
      · cases z) (rs.length - 1) 1 0 0 (by omega) (by omega) (by omega) fun j _ _ => by omega).2 (Nat.le_refl _)
    omega
theorem Segs.mem_pair {t : Int} {s : Option Int} {R : Nat → Row} {n a : Nat} {l : Int} {v : Row} {f : List Int} (h : Segs t s R n a l v f) : ∀ x ∈ f, ∃ p, (p, x) ∈ (l :: f).zip f := by
  induction h with
  | nil h => intro x hx; cases hx
  | cons o g1 g2 g3 g4 g5 ih =>
    intro x hx
    rw [List.zip_cons_cons]
    rcases List.mem_cons.mp hx with rfl | hx
    · exact ⟨_, List.mem_cons_self⟩
    · obtain ⟨p, hp⟩ := ih x hx
      exact ⟨p, List.mem_cons_of_mem _ hp⟩
/-- a report comes only where the row is another one -/
theorem rep_changes {t : Int} {rs : List Row} (h0 : 0 < rs.length) (ht : 0 ≤ t) {x : Nat} (hx : ((x : Nat) : Int) ∈ allRep t none rs) (h1 : 0 < x) : rowAt rs x ≠ rowAt rs (x - 1) := by
  obtain ⟨f, e, hs⟩ := allRep_segs (t := t) (s := none) h0
  rw [e] at hx
  rcases List.mem_cons.mp hx with hx | hx
  · omega
  obtain ⟨p, hp⟩ := hs.mem_pair _ hx
  obtain ⟨a, b, e2, hab, hbn, hd, hno⟩ := Segs.pairs (l := 0) hs _ hp
  have e3 : x = b := by have := congrArg Prod.snd e2; simp only at this; omega
  subst e3
  intro z
  rcases hd with hd | hd
  · have hd : t < gap (rowAt rs x) (rowAt rs a) := hd
    rw [z] at hd
    by_cases e4 : x - 1 = a
    · rw [e4, gap_self] at hd; omega
    · exact hno (x - 1) (by omega) (by omega) (.inl hd)
  · cases hd
theorem valAt_in {rs : List Row} {is : List Int} {i : Nat} (h : ((i : Nat) : Int) ∈ is) : valAt rs is i = rowAt rs i := by
  cases i with
  | zero => unfold valAt; rw [if_pos (show (0 : Int) ∈ is from h)]; rfl
  | succ i => unfold valAt; rw [if_pos h]; rfl
theorem valAt_out {rs : List Row} {is : List Int} {i : Nat} (h : ((i + 1 : Nat) : Int) ∉ is) : valAt rs is (i + 1) = valAt rs is i := by
  conv => lhs; unfold valAt
  rw [if_neg h]
/-- the reports of held rows are among the reports by which they are held -/
theorem rep_sub {t : Int} {ro : List Row} {is : List Int} (h0 : 0 < ro.length) (ht : 0 ≤ t) (hz : (0 : Int) ∈ is) : ∀ x ∈ allRep t none (heldR ro is), x ∈ is := by
  intro x hx
  have hl : (heldR ro is).length = ro.length := heldR_length
  obtain ⟨p1, p2⟩ := allRep_lt (t := t) (s := none) (rs := heldR ro is) (by omega) x hx
  obtain ⟨x, rfl⟩ : ∃ y : Nat, x = y := ⟨x.toNat, by omega⟩
  cases x with
  | zero => exact hz
  | succ x =>
    refine Classical.byContradiction fun hn => ?_
    refine rep_changes (by omega) ht hx (by omega) ?_
    rw [rowAt_held (by omega), rowAt_held (by omega), Nat.add_sub_cancel]
    exact valAt_out hn
/-- the chain's reports: rows as they were, and among the first one's reports -/
theorem chain_found {rs : List Row} (ok : OkR rs) : ∀ (n : Nat) (ts : List Int), ts.length = n → 0 < n → (∀ t ∈ ts, 0 ≤ t) → ∀ x : Nat, ((x : Nat) : Int) ∈ (chainF rs ts).1 → x < rs.length ∧ rowAt (chainF rs ts).2 x = rowAt rs x ∧ ((x : Nat) : Int) ∈ allRep (ts.headD 0) none rs := by
  intro n
  induction n with
  | zero => intro _ _ h; omega
  | succ n ih =>
    intro ts h _ ht x hx
    obtain ⟨us, t, rfl⟩ : ∃ us t, ts = us ++ [t] := ⟨ts.dropLast, ts.getLast (by intro z; rw [z] at h; cases h), (List.dropLast_concat_getLast _).symm⟩
    rw [List.length_append] at h
    have h0 : 0 ≤ t := ht t (List.mem_append_right _ (List.mem_singleton.mpr rfl))
    have hl := chainF_len (rs := rs) (ts := us)
    have hp := ok.pos
    rw [chainF_last] at hx ⊢
    have hx : ((x : Nat) : Int) ∈ allRep t none (chainF rs us).2 := hx
    have hxn := (allRep_lt (t := t) (s := none) (rs := (chainF rs us).2) (by omega) _ hx).2
    have hx2 : x < rs.length := by omega
    have ev : rowAt (chn (chainF rs us) t).2 x = rowAt (chainF rs us).2 x := by
      show rowAt (heldR (chainF rs us).2 _) x = _
      rw [rowAt_held (by omega), valAt_in hx]
    rw [ev]
    by_cases e : us = []
    · subst e
      exact ⟨hx2, rfl, hx⟩
    · obtain ⟨ws, w, rfl⟩ : ∃ ws w, us = ws ++ [w] := ⟨us.dropLast, us.getLast e, (List.dropLast_concat_getLast _).symm⟩
      have hw : ((x : Nat) : Int) ∈ (chainF rs (ws ++ [w])).1 := by
        rw [chainF_last] at hx ⊢
        exact rep_sub (by have := chainF_len (rs := rs) (ts := ws); omega) h0 allRep_zero _ hx
      have := ih (ws ++ [w]) (by simpa using h) (by rw [List.length_append] at h; simp at h; omega) (fun y hy => ht y (List.mem_append_left _ hy)) x hw
      refine ⟨hx2, this.2.1, ?_⟩
      have e2 : ((ws ++ [w]) ++ [t]).headD 0 = (ws ++ [w]).headD 0 := by cases ws <;> rfl
      rw [e2]
      exact this.2.2
theorem chain_split {rs : List Row} {ts : List Int} (h : 0 < ts.length) : ∃ us t, ts = us ++ [t] ∧ (chainF rs ts).1 = allRep t none (chainF rs us).2 ∧ (chainF rs ts).2 = heldR (chainF rs us).2 (allRep t none (chainF rs us).2) := by
  obtain ⟨us, t, rfl⟩ : ∃ us t, ts = us ++ [t] := ⟨ts.dropLast, ts.getLast (by intro z; rw [z] at h; cases h), (List.dropLast_concat_getLast _).symm⟩
  exact ⟨us, t, rfl, by rw [chainF_last]; rfl, by rw [chainF_last]; rfl⟩
theorem chain_zero {rs : List Row} {ts : List Int} (h : 0 < ts.length) : (0 : Int) ∈ (chainF rs ts).1 := by
  obtain ⟨us, t, _, e, _⟩ := chain_split (rs := rs) h
  rw [e]
  exact allRep_zero
theorem chain_range {rs : List Row} {ts : List Int} (hp : 0 < rs.length) (h : 0 < ts.length) : ∀ x ∈ (chainF rs ts).1, 0 ≤ x ∧ x < rs.length := by
  obtain ⟨us, t, _, e, _⟩ := chain_split (rs := rs) h
  have hl := chainF_len (rs := rs) (ts := us)
  rw [e]
  intro x hx
  have := allRep_lt (t := t) (s := none) (rs := (chainF rs us).2) (by omega) x hx
  omega
theorem chain_many {rs : List Row} {ts : List Int} (ok : OkR rs) (h : 0 < ts.length) : (chainF rs ts).1.length ≤ 1000 := by
  obtain ⟨us, t, _, e, _⟩ := chain_split (rs := rs) h
  rw [e]
  have hl := chainF_len (rs := rs) (ts := us)
  have hp := ok.pos
  have hm := ok.most
  rw [allRep_count (by omega)]
  have := greedy_le (C := cR t none (rowAt (chainF rs us).2)) ((chainF rs us).2.length - 1) 1 0
  omega
theorem chain_val {rs : List Row} {ts : List Int} (ok : OkR rs) (h : 0 < ts.length) (ht : ∀ t ∈ ts, 0 ≤ t) {i : Nat} (hi : i < rs.length) {m : Int} (hm : Top ((chainF rs ts).1.filter fun x => decide (x ≤ (i : Int))) m) : rowAt (chainF rs ts).2 i = rowAt rs m.toNat := by
  have hmem := (List.mem_filter.mp hm.1).1
  have hr := chain_range ok.pos h m hmem
  have cf := chain_found ok ts.length ts rfl h ht m.toNat (by rw [show ((m.toNat : Nat) : Int) = m by omega]; exact hmem)
  rw [← cf.2.1]
  obtain ⟨us, t, _, e1, e2⟩ := chain_split (rs := rs) h
  have hl := chainF_len (rs := rs) (ts := us)
  rw [e1] at hm hmem
  rw [e2, rowAt_held (by omega), rowAt_held (by omega), top_val (fun x hx => (allRep_lt (by have := ok.pos; omega) x hx).1) i hm, valAt_in (by rw [show ((m.toNat : Nat) : Int) = m by omega]; exact hmem)]
  rfl
end VL
/-! VK14 -/
namespace VL
open PySem L2
def t_law : S1 := (sSeq (sFor true [1, 2, 3, 4, 5, 6, 8, 9, 10, 11, 12, 13] (iRg1 (aCons (eBin fAdd (eC (.int 1)) (eCB fMin (aCons (eCB fLen (aCons (eVar 0) aNil)) (aCons (eC (.int 20)) aNil)))) aNil)) (gNm 1) (sSeq (sNewSrc 2 (eCall true [] c__law_source (aCons (eVar 0) (aCons (eVar 1) aNil)))) (sSeq (sSet 3 (eCall true [] c__law_samples (aCons (eVar 2) (aCons (eC (.int 40)) aNil)))) (sFor true [4, 5, 6, 8, 9, 10, 11, 12, 13] (iRg1 (aCons (eC (.int 4)) aNil)) (gNm 4) (sSeq (sSet 5 (eCB fMin (aCons (eBin fPow (eC (.int 10)) (eC (.int 5))) (aCons (eBin fAdd (eC (.int 1)) (eCall true [] c__law_limit (aCons (eVar 2) (aCons (eVar 3) aNil)))) aNil)))) (sSeq (sSet 6 (eCB fTuple (aCons (eComp (iRg1 (aCons (eBin fAdd (eC (.int 1)) (eCall true [] c__law_draw (aCons (eVar 2) (aCons (eC (.int 5)) aNil)))) aNil)) (gNm 7) eYes (eCall true [] c__law_draw (aCons (eVar 2) (aCons (eBin fAdd (eVar 5) (eC (.int 1))) aNil))) [7]) aNil))) (sSeq (sPar false false 8 9 (eCall true [] c_chain_reports (aCons (eVar 3) (aCons (eVar 6) aNil))) (eCall true [] c_chain_held (aCons (eVar 3) (aCons (eVar 6) aNil)))) (sSeq (sSet 10 (eCall true [.non] c_reports (aCons (eVar 3) (aCons (eBin fMul (eC (.int 2)) (eCB fSum (aCons (eVar 6) aNil))) aNil)))) (sSeq (sIf (eOr (eTest (eBin fGt (eCB fLen (aCons (eVar 10) aNil)) (eCB fLen (aCons (eVar 8) aNil)))) (eTest (eBin fLt (eCB fLen (aCons (eVar 8) aNil)) (eCall true [.non] c_fewest_stretches (aCons (eVar 3) (aCons (eBin fMul (eC (.int 2)) (eCB fSum (aCons (eVar 6) aNil))) aNil)))))) (sRet (eC (.bl false))) sNext) (sFor true [11, 12, 13] (iEnumD (aCons (eVar 9) aNil)) (gTp 2 (gsC (gNm 11) (gsC (gNm 12) gsN))) (sSeq (sSet 13 (eCB fMax (aCons (eComp (iSeqD (eVar 8)) (gNm 7) (eTest (eBin fLe (eVar 7) (eVar 11))) (eVar 7) [7]) aNil))) (sIf (eOr (eTest (eBin fGt (eCall true [] c__law_gap (aCons (eVar 12) (aCons (eIx (eVar 3) (eVar 11)) aNil))) (eCB fSum (aCons (eVar 6) aNil)))) (eTest (eBin fNe (eVar 12) (eIx (eVar 3) (eVar 13))))) (sRet (eC (.bl false))) sNext)))))))))))) (sRet (eC (.bl true))))
theorem sum_bounds {ts : List Int} {m : Int} (h : ∀ t ∈ ts, 0 ≤ t ∧ t ≤ m) : 0 ≤ ts.sum ∧ ts.sum ≤ ts.length * m := by
  induction ts with
  | nil => exact ⟨Int.le_refl _, by simp⟩
  | cons t ts ih =>
    have a := ih fun x hx => h x (List.mem_cons_of_mem _ hx)
    have b := h t List.mem_cons_self
    rw [List.sum_cons, List.length_cons]
    have e : ((ts.length + 1 : Nat) : Int) * m = ts.length * m + m := by rw [Int.natCast_add, Int.add_mul]; simp
    omega
theorem w_law (ns : List Int) (hl : ns.length ≤ 63) : t_law { nx := fun _ => False, rt := fun d _ => d = .bl true } (startE 14 [.scr ns]) := by
  simp only [x_start, List.map_cons, List.map_nil, List.length_cons, List.length_nil, List.replicate_succ, List.replicate_zero, List.cons_append, List.nil_append, Nat.reduceSub, Nat.reduceAdd]
  simp only [t_law, ↓sSeq, ↓sRet, ↓sIf, ↓sSet, ↓sOwn, ↓sAsg, ↓sDrop, ↓sNext, ↓sBreak, ↓sNever, ↓sFrz, ↓sApp, ↓sSetIx, ↓sSrc, ↓sPar, ↓sPar3, ↓sAug, ↓sNewSrc, ↓eC, ↓eTest, ↓eAnd, ↓eOr, ↓eNot, ↓eAndV, ↓eOrV, ↓eNotV, ↓eIf, ↓eChain, ↓eNeg, ↓eIx, ↓eIxS, ↓eSl, ↓oNone, ↓oSome, ↓aNil, ↓aCons, ↓eTup, ↓eLst, ↓eTupM, ↓eLstM, ↓eCB, ↓eBin, ↓x_call, ↓x_callK, ↓eSrc, ↓iSeqD, ↓iRg1, ↓iRg2, ↓iRg3, ↓iEnumD, ↓iZipD, ↓gNm, ↓gTp, ↓gsC, ↓gsN, ↓eYes, x_var0, x_var0o, x_varS, fAdd_ii, fAdd_ll, fAdd_tt, fAdd_ss, fMul_ii, fMul_li, fMul_ti, fSub_ii, fDiv_ii, fMod_ii, fPow_ii, fLt_ii, fLe_ii, fGt_ii, fGe_ii, ↓fEq, ↓fNe, ↓fIsN, ↓fNotN, x_lenL, x_lenT, x_lenS, x_lenR, x_lenC, fAbs_i, fInt_i, fInt_b, x_isi, List.set_cons_zero, List.set_cons_succ, List.getElem?_cons_zero, List.getElem?_cons_succ, items_l, items_t, okSt, mdOf, md_i, md_b, md_n, md_s, md_t, md_l, md_y, Md.isCl, Md.isNw, Md.meet, atI_0, atI_m1, atI_1, atI_2, atI_nat, cond_true, cond_false, isNon_i, isNon_n, isT_ii, isT_ib, isT_it, isT_il, isT_bi, isT_bb, isT_tt, isT_ti, isT_lt, isT_ll, isT_nt, isT_ni, isT_nl, tyN_i, tyN_b, tyN_t, tyN_l, tyN_n, dS_isT, dR_isT, dS_tyN, dR_tyN, dQ_isNon, D.flat, D.flats, flats_cons, flats_nil, flats_ints, flat_tup, putOk, slOf_f, slOf_t, Option.some.injEq, D.int.injEq, D.bl.injEq, D.lst.injEq, D.tup.injEq, D.str.injEq, D.scr.injEq, D.ty.injEq, x_consD, x_consD0, x_consD1, and_assoc, reduceCtorEq, exists_eq, exists_eq', exists_eq_left, exists_eq_left', exists_eq_right, exists_eq_right', exists_and_left, exists_and_right, and_true, true_and, and_self, and_false, false_and, or_true, true_or, or_false, false_or, if_true, if_false, ite_true, ite_false, decide_eq_true_eq, decide_eq_false_iff_not, Bool.not_eq_true, Bool.not_eq_true', Bool.not_true, Bool.not_false, Bool.true_eq_false, Bool.false_eq_true, not_true_eq_false, not_false_eq_true, eq_self_iff_true, forall_const, imp_self, List.length_cons, List.length_nil, List.append_nil, List.nil_append, List.cons_append, cpow_6, cpow_18, cpow_5, cpow_7, cpow_15, cpow_12, CMul, Nat.reduceAdd, Nat.reduceLeDiff, Nat.reduceLT, Int.reducePow, Int.reduceNeg, Int.reduceLT, Int.reduceLE, Int.reduceToNat, Int.reduceMul, Int.reduceAdd, Int.reduceSub, frzE, frz1, wipeE, all_nil, all_cons, endsF, x_start, List.map_cons, List.map_nil, List.replicate_succ, List.replicate_zero, Nat.reduceSub, Int.reduceEq, Nat.reduceEqDiff, List.mem_cons, List.not_mem_nil, x_isTs, or_self, Option.isSome_some, Option.isSome_none, String.reduceEq, dS_inj, dR_inj, dQ_inj, dQ_non, dQ_int, dS_md, dR_md, dQ_md, dS_flat, dR_flat, dQ_flat, dS_items, dR_items, List.getElem?_map, Option.map_some, Option.map_none, shp_i, shp_n, shp_b, shp_li, shp_S, shp_R, shp_lS, shp_Q, shp_l0, eqb_int, eqb_l, eqb_S, eqb_R, eqbs_ints, eqbs_dS, eqbs_nil0, eqbs_nilL, eqbs_nilR, Sl.own.injEq, Sl.val.injEq, List.length_map, dR_lst, dR_tup, dS_lst, dS_tup, flats_S, cut_map, cut_1, dR_fold, dS_fold, inI_t, inI_f, Bool.or_false, List.getLast?_map, exists_false, exists_const, Bool.and_self, Bool.and_true, Bool.true_and, Bool.and_false, Bool.false_and, add_S, List.isEmpty_map, fMax_2, fMax_3, fMin_2, flat_non, flat_i, ↓u_for, ↓u_comp, fS_v, fS_n, fS_o, shp_lli, eqbs_dL, ↓eSortSet, int_inj, fList_S, fList_R, sum_S, sum_li, x_reported, x_reportedL, x_all_reports, x_all_reportsN, x_held_by, x_held_byT, x_reports, x_reports0, x_reportsI, x_held, x_held0, x_heldI, x_largest_error, x_largest_errorI, x_is_between, x_is_sample, x_is_samples, x_distance, x_need_samples, x_need_threshold, x_need_silence, x_is_late, x_source, x_draw, x_samples, x_gap, x_limit, x_quiet, x_spread_within, x_spread_withinL, x_need_spread, x_starts_of, x_fewest_stretches, x_fewest_stretches0, x_fewest_stretchesI, x_stretches, x_stretches0, x_spread_of, x_apart, x_reports_from, x_reports_from0, x_need_thresholds, x_chained, x_all_reportsLN, x_held_byL, x_chain_reports, x_chain_held]
  refine ⟨by omega, by omega, ?_⟩
  refine for_st (σ := Unit) (List.range (1 + min (ns.length : Int) 20).toNat) (fun i => .int (i : Nat)) (fun _ => [.val (.scr ns), .non, .non, .non, .non, .non, .non, .non, .non, .non, .non, .non, .non, .non])
    (fun _ _ => True) () rg0 rfl (fun _ _ _ => rfl) rfl trivial ?_ ?_
  · rintro i k _ hx _ N hN
    try simp only [↓sSeq, ↓sRet, ↓sIf, ↓sSet, ↓sOwn, ↓sAsg, ↓sDrop, ↓sNext, ↓sBreak, ↓sNever, ↓sFrz, ↓sApp, ↓sSetIx, ↓sSrc, ↓sPar, ↓sPar3, ↓sAug, ↓sNewSrc, ↓eC, ↓eTest, ↓eAnd, ↓eOr, ↓eNot, ↓eAndV, ↓eOrV, ↓eNotV, ↓eIf, ↓eChain, ↓eNeg, ↓eIx, ↓eIxS, ↓eSl, ↓oNone, ↓oSome, ↓aNil, ↓aCons, ↓eTup, ↓eLst, ↓eTupM, ↓eLstM, ↓eCB, ↓eBin, ↓x_call, ↓x_callK, ↓eSrc, ↓iSeqD, ↓iRg1, ↓iRg2, ↓iRg3, ↓iEnumD, ↓iZipD, ↓gNm, ↓gTp, ↓gsC, ↓gsN, ↓eYes, x_var0, x_var0o, x_varS, fAdd_ii, fAdd_ll, fAdd_tt, fAdd_ss, fMul_ii, fMul_li, fMul_ti, fSub_ii, fDiv_ii, fMod_ii, fPow_ii, fLt_ii, fLe_ii, fGt_ii, fGe_ii, ↓fEq, ↓fNe, ↓fIsN, ↓fNotN, x_lenL, x_lenT, x_lenS, x_lenR, x_lenC, fAbs_i, fInt_i, fInt_b, x_isi, List.set_cons_zero, List.set_cons_succ, List.getElem?_cons_zero, List.getElem?_cons_succ, items_l, items_t, okSt, mdOf, md_i, md_b, md_n, md_s, md_t, md_l, md_y, Md.isCl, Md.isNw, Md.meet, atI_0, atI_m1, atI_1, atI_2, atI_nat, cond_true, cond_false, isNon_i, isNon_n, isT_ii, isT_ib, isT_it, isT_il, isT_bi, isT_bb, isT_tt, isT_ti, isT_lt, isT_ll, isT_nt, isT_ni, isT_nl, tyN_i, tyN_b, tyN_t, tyN_l, tyN_n, dS_isT, dR_isT, dS_tyN, dR_tyN, dQ_isNon, D.flat, D.flats, flats_cons, flats_nil, flats_ints, flat_tup, putOk, slOf_f, slOf_t, Option.some.injEq, D.int.injEq, D.bl.injEq, D.lst.injEq, D.tup.injEq, D.str.injEq, D.scr.injEq, D.ty.injEq, x_consD, x_consD0, x_consD1, and_assoc, reduceCtorEq, exists_eq, exists_eq', exists_eq_left, exists_eq_left', exists_eq_right, exists_eq_right', exists_and_left, exists_and_right, and_true, true_and, and_self, and_false, false_and, or_true, true_or, or_false, false_or, if_true, if_false, ite_true, ite_false, decide_eq_true_eq, decide_eq_false_iff_not, Bool.not_eq_true, Bool.not_eq_true', Bool.not_true, Bool.not_false, Bool.true_eq_false, Bool.false_eq_true, not_true_eq_false, not_false_eq_true, eq_self_iff_true, forall_const, imp_self, List.length_cons, List.length_nil, List.append_nil, List.nil_append, List.cons_append, cpow_6, cpow_18, cpow_5, cpow_7, cpow_15, cpow_12, CMul, Nat.reduceAdd, Nat.reduceLeDiff, Nat.reduceLT, Int.reducePow, Int.reduceNeg, Int.reduceLT, Int.reduceLE, Int.reduceToNat, Int.reduceMul, Int.reduceAdd, Int.reduceSub, frzE, frz1, wipeE, all_nil, all_cons, endsF, x_start, List.map_cons, List.map_nil, List.replicate_succ, List.replicate_zero, Nat.reduceSub, Int.reduceEq, Nat.reduceEqDiff, List.mem_cons, List.not_mem_nil, x_isTs, or_self, Option.isSome_some, Option.isSome_none, String.reduceEq, dS_inj, dR_inj, dQ_inj, dQ_non, dQ_int, dS_md, dR_md, dQ_md, dS_flat, dR_flat, dQ_flat, dS_items, dR_items, List.getElem?_map, Option.map_some, Option.map_none, shp_i, shp_n, shp_b, shp_li, shp_S, shp_R, shp_lS, shp_Q, shp_l0, eqb_int, eqb_l, eqb_S, eqb_R, eqbs_ints, eqbs_dS, eqbs_nil0, eqbs_nilL, eqbs_nilR, Sl.own.injEq, Sl.val.injEq, List.length_map, dR_lst, dR_tup, dS_lst, dS_tup, flats_S, cut_map, cut_1, dR_fold, dS_fold, inI_t, inI_f, Bool.or_false, List.getLast?_map, exists_false, exists_const, Bool.and_self, Bool.and_true, Bool.true_and, Bool.and_false, Bool.false_and, add_S, List.isEmpty_map, fMax_2, fMax_3, fMin_2, flat_non, flat_i, ↓u_for, ↓u_comp, fS_v, fS_n, fS_o, shp_lli, eqbs_dL, ↓eSortSet, int_inj, fList_S, fList_R, sum_S, sum_li, x_reported, x_reportedL, x_all_reports, x_all_reportsN, x_held_by, x_held_byT, x_reports, x_reports0, x_reportsI, x_held, x_held0, x_heldI, x_largest_error, x_largest_errorI, x_is_between, x_is_sample, x_is_samples, x_distance, x_need_samples, x_need_threshold, x_need_silence, x_is_late, x_source, x_draw, x_samples, x_gap, x_limit, x_quiet, x_spread_within, x_spread_withinL, x_need_spread, x_starts_of, x_fewest_stretches, x_fewest_stretches0, x_fewest_stretchesI, x_stretches, x_stretches0, x_spread_of, x_apart, x_reports_from, x_reports_from0, x_need_thresholds, x_chained, x_all_reportsLN, x_held_byL, x_chain_reports, x_chain_held]
    refine ⟨by omega, fun b hb => ⟨hb, fun rs ok hrs => ?_⟩⟩
    have hp := ok.pos
    have hm := ok.most
    obtain ⟨c, h1, h2, hr⟩ := ok.ch
    refine for_st (σ := Unit) (List.range 4) (fun i => .int (i : Nat)) (fun _ => [.val (.scr ns), .val (.int k), .val .src, .val (dR rs), .non, .non, .non, .non, .non, .non, .non, .non, .non, .non])
      (fun _ _ => True) () rg0 rfl (fun _ _ _ => rfl) rfl trivial ?_ ?_
    · rintro i2 k2 _ hx2 _ N2 hN2
      try simp only [↓sSeq, ↓sRet, ↓sIf, ↓sSet, ↓sOwn, ↓sAsg, ↓sDrop, ↓sNext, ↓sBreak, ↓sNever, ↓sFrz, ↓sApp, ↓sSetIx, ↓sSrc, ↓sPar, ↓sPar3, ↓sAug, ↓sNewSrc, ↓eC, ↓eTest, ↓eAnd, ↓eOr, ↓eNot, ↓eAndV, ↓eOrV, ↓eNotV, ↓eIf, ↓eChain, ↓eNeg, ↓eIx, ↓eIxS, ↓eSl, ↓oNone, ↓oSome, ↓aNil, ↓aCons, ↓eTup, ↓eLst, ↓eTupM, ↓eLstM, ↓eCB, ↓eBin, ↓x_call, ↓x_callK, ↓eSrc, ↓iSeqD, ↓iRg1, ↓iRg2, ↓iRg3, ↓iEnumD, ↓iZipD, ↓gNm, ↓gTp, ↓gsC, ↓gsN, ↓eYes, x_var0, x_var0o, x_varS, fAdd_ii, fAdd_ll, fAdd_tt, fAdd_ss, fMul_ii, fMul_li, fMul_ti, fSub_ii, fDiv_ii, fMod_ii, fPow_ii, fLt_ii, fLe_ii, fGt_ii, fGe_ii, ↓fEq, ↓fNe, ↓fIsN, ↓fNotN, x_lenL, x_lenT, x_lenS, x_lenR, x_lenC, fAbs_i, fInt_i, fInt_b, x_isi, List.set_cons_zero, List.set_cons_succ, List.getElem?_cons_zero, List.getElem?_cons_succ, items_l, items_t, okSt, mdOf, md_i, md_b, md_n, md_s, md_t, md_l, md_y, Md.isCl, Md.isNw, Md.meet, atI_0, atI_m1, atI_1, atI_2, atI_nat, cond_true, cond_false, isNon_i, isNon_n, isT_ii, isT_ib, isT_it, isT_il, isT_bi, isT_bb, isT_tt, isT_ti, isT_lt, isT_ll, isT_nt, isT_ni, isT_nl, tyN_i, tyN_b, tyN_t, tyN_l, tyN_n, dS_isT, dR_isT, dS_tyN, dR_tyN, dQ_isNon, D.flat, D.flats, flats_cons, flats_nil, flats_ints, flat_tup, putOk, slOf_f, slOf_t, Option.some.injEq, D.int.injEq, D.bl.injEq, D.lst.injEq, D.tup.injEq, D.str.injEq, D.scr.injEq, D.ty.injEq, x_consD, x_consD0, x_consD1, and_assoc, reduceCtorEq, exists_eq, exists_eq', exists_eq_left, exists_eq_left', exists_eq_right, exists_eq_right', exists_and_left, exists_and_right, and_true, true_and, and_self, and_false, false_and, or_true, true_or, or_false, false_or, if_true, if_false, ite_true, ite_false, decide_eq_true_eq, decide_eq_false_iff_not, Bool.not_eq_true, Bool.not_eq_true', Bool.not_true, Bool.not_false, Bool.true_eq_false, Bool.false_eq_true, not_true_eq_false, not_false_eq_true, eq_self_iff_true, forall_const, imp_self, List.length_cons, List.length_nil, List.append_nil, List.nil_append, List.cons_append, cpow_6, cpow_18, cpow_5, cpow_7, cpow_15, cpow_12, CMul, Nat.reduceAdd, Nat.reduceLeDiff, Nat.reduceLT, Int.reducePow, Int.reduceNeg, Int.reduceLT, Int.reduceLE, Int.reduceToNat, Int.reduceMul, Int.reduceAdd, Int.reduceSub, frzE, frz1, wipeE, all_nil, all_cons, endsF, x_start, List.map_cons, List.map_nil, List.replicate_succ, List.replicate_zero, Nat.reduceSub, Int.reduceEq, Nat.reduceEqDiff, List.mem_cons, List.not_mem_nil, x_isTs, or_self, Option.isSome_some, Option.isSome_none, String.reduceEq, dS_inj, dR_inj, dQ_inj, dQ_non, dQ_int, dS_md, dR_md, dQ_md, dS_flat, dR_flat, dQ_flat, dS_items, dR_items, List.getElem?_map, Option.map_some, Option.map_none, shp_i, shp_n, shp_b, shp_li, shp_S, shp_R, shp_lS, shp_Q, shp_l0, eqb_int, eqb_l, eqb_S, eqb_R, eqbs_ints, eqbs_dS, eqbs_nil0, eqbs_nilL, eqbs_nilR, Sl.own.injEq, Sl.val.injEq, List.length_map, dR_lst, dR_tup, dS_lst, dS_tup, flats_S, cut_map, cut_1, dR_fold, dS_fold, inI_t, inI_f, Bool.or_false, List.getLast?_map, exists_false, exists_const, Bool.and_self, Bool.and_true, Bool.true_and, Bool.and_false, Bool.false_and, add_S, List.isEmpty_map, fMax_2, fMax_3, fMin_2, flat_non, flat_i, ↓u_for, ↓u_comp, fS_v, fS_n, fS_o, shp_lli, eqbs_dL, ↓eSortSet, int_inj, fList_S, fList_R, sum_S, sum_li, x_reported, x_reportedL, x_all_reports, x_all_reportsN, x_held_by, x_held_byT, x_reports, x_reports0, x_reportsI, x_held, x_held0, x_heldI, x_largest_error, x_largest_errorI, x_is_between, x_is_sample, x_is_samples, x_distance, x_need_samples, x_need_threshold, x_need_silence, x_is_late, x_source, x_draw, x_samples, x_gap, x_limit, x_quiet, x_spread_within, x_spread_withinL, x_need_spread, x_starts_of, x_fewest_stretches, x_fewest_stretches0, x_fewest_stretchesI, x_stretches, x_stretches0, x_spread_of, x_apart, x_reports_from, x_reports_from0, x_need_thresholds, x_chained, x_all_reportsLN, x_held_byL, x_chain_reports, x_chain_held]
      refine ⟨ok, fun t ht u hu => ⟨by omega, by omega, ?_⟩⟩
      obtain ⟨top, htop, ht0, ht1⟩ : ∃ top, top = min 100000 (1 + t) ∧ 0 ≤ top ∧ top ≤ 100000 := ⟨_, rfl, by have := ht.1; omega, by omega⟩
      rw [← htop]
      refine comp_st (List.range (1 + u).toNat) (fun i => .int (i : Nat)) D.int (fun i acc => acc.length = i ∧ ∀ x ∈ acc, 0 ≤ x ∧ x ≤ 100000) rg0 (by rw [List.length_range]; omega) ⟨rfl, fun _ h => nomatch h⟩ ?_ ?_
      · rintro i3 j3 acc hx3 ⟨ha, hacc⟩ N3 hN3
        try simp only [↓sSeq, ↓sRet, ↓sIf, ↓sSet, ↓sOwn, ↓sAsg, ↓sDrop, ↓sNext, ↓sBreak, ↓sNever, ↓sFrz, ↓sApp, ↓sSetIx, ↓sSrc, ↓sPar, ↓sPar3, ↓sAug, ↓sNewSrc, ↓eC, ↓eTest, ↓eAnd, ↓eOr, ↓eNot, ↓eAndV, ↓eOrV, ↓eNotV, ↓eIf, ↓eChain, ↓eNeg, ↓eIx, ↓eIxS, ↓eSl, ↓oNone, ↓oSome, ↓aNil, ↓aCons, ↓eTup, ↓eLst, ↓eTupM, ↓eLstM, ↓eCB, ↓eBin, ↓x_call, ↓x_callK, ↓eSrc, ↓iSeqD, ↓iRg1, ↓iRg2, ↓iRg3, ↓iEnumD, ↓iZipD, ↓gNm, ↓gTp, ↓gsC, ↓gsN, ↓eYes, x_var0, x_var0o, x_varS, fAdd_ii, fAdd_ll, fAdd_tt, fAdd_ss, fMul_ii, fMul_li, fMul_ti, fSub_ii, fDiv_ii, fMod_ii, fPow_ii, fLt_ii, fLe_ii, fGt_ii, fGe_ii, ↓fEq, ↓fNe, ↓fIsN, ↓fNotN, x_lenL, x_lenT, x_lenS, x_lenR, x_lenC, fAbs_i, fInt_i, fInt_b, x_isi, List.set_cons_zero, List.set_cons_succ, List.getElem?_cons_zero, List.getElem?_cons_succ, items_l, items_t, okSt, mdOf, md_i, md_b, md_n, md_s, md_t, md_l, md_y, Md.isCl, Md.isNw, Md.meet, atI_0, atI_m1, atI_1, atI_2, atI_nat, cond_true, cond_false, isNon_i, isNon_n, isT_ii, isT_ib, isT_it, isT_il, isT_bi, isT_bb, isT_tt, isT_ti, isT_lt, isT_ll, isT_nt, isT_ni, isT_nl, tyN_i, tyN_b, tyN_t, tyN_l, tyN_n, dS_isT, dR_isT, dS_tyN, dR_tyN, dQ_isNon, D.flat, D.flats, flats_cons, flats_nil, flats_ints, flat_tup, putOk, slOf_f, slOf_t, Option.some.injEq, D.int.injEq, D.bl.injEq, D.lst.injEq, D.tup.injEq, D.str.injEq, D.scr.injEq, D.ty.injEq, x_consD, x_consD0, x_consD1, and_assoc, reduceCtorEq, exists_eq, exists_eq', exists_eq_left, exists_eq_left', exists_eq_right, exists_eq_right', exists_and_left, exists_and_right, and_true, true_and, and_self, and_false, false_and, or_true, true_or, or_false, false_or, if_true, if_false, ite_true, ite_false, decide_eq_true_eq, decide_eq_false_iff_not, Bool.not_eq_true, Bool.not_eq_true', Bool.not_true, Bool.not_false, Bool.true_eq_false, Bool.false_eq_true, not_true_eq_false, not_false_eq_true, eq_self_iff_true, forall_const, imp_self, List.length_cons, List.length_nil, List.append_nil, List.nil_append, List.cons_append, cpow_6, cpow_18, cpow_5, cpow_7, cpow_15, cpow_12, CMul, Nat.reduceAdd, Nat.reduceLeDiff, Nat.reduceLT, Int.reducePow, Int.reduceNeg, Int.reduceLT, Int.reduceLE, Int.reduceToNat, Int.reduceMul, Int.reduceAdd, Int.reduceSub, frzE, frz1, wipeE, all_nil, all_cons, endsF, x_start, List.map_cons, List.map_nil, List.replicate_succ, List.replicate_zero, Nat.reduceSub, Int.reduceEq, Nat.reduceEqDiff, List.mem_cons, List.not_mem_nil, x_isTs, or_self, Option.isSome_some, Option.isSome_none, String.reduceEq, dS_inj, dR_inj, dQ_inj, dQ_non, dQ_int, dS_md, dR_md, dQ_md, dS_flat, dR_flat, dQ_flat, dS_items, dR_items, List.getElem?_map, Option.map_some, Option.map_none, shp_i, shp_n, shp_b, shp_li, shp_S, shp_R, shp_lS, shp_Q, shp_l0, eqb_int, eqb_l, eqb_S, eqb_R, eqbs_ints, eqbs_dS, eqbs_nil0, eqbs_nilL, eqbs_nilR, Sl.own.injEq, Sl.val.injEq, List.length_map, dR_lst, dR_tup, dS_lst, dS_tup, flats_S, cut_map, cut_1, dR_fold, dS_fold, inI_t, inI_f, Bool.or_false, List.getLast?_map, exists_false, exists_const, Bool.and_self, Bool.and_true, Bool.true_and, Bool.and_false, Bool.false_and, add_S, List.isEmpty_map, fMax_2, fMax_3, fMin_2, flat_non, flat_i, ↓u_for, ↓u_comp, fS_v, fS_n, fS_o, shp_lli, eqbs_dL, ↓eSortSet, int_inj, fList_S, fList_R, sum_S, sum_li, x_reported, x_reportedL, x_all_reports, x_all_reportsN, x_held_by, x_held_byT, x_reports, x_reports0, x_reportsI, x_held, x_held0, x_heldI, x_largest_error, x_largest_errorI, x_is_between, x_is_sample, x_is_samples, x_distance, x_need_samples, x_need_threshold, x_need_silence, x_is_late, x_source, x_draw, x_samples, x_gap, x_limit, x_quiet, x_spread_within, x_spread_withinL, x_need_spread, x_starts_of, x_fewest_stretches, x_fewest_stretches0, x_fewest_stretchesI, x_stretches, x_stretches0, x_spread_of, x_apart, x_reports_from, x_reports_from0, x_need_thresholds, x_chained, x_all_reportsLN, x_held_byL, x_chain_reports, x_chain_held]
        refine ⟨by omega, by omega, fun x hx => ?_⟩
        have := hN3 (acc ++ [x]) ⟨by rw [List.length_append, ha]; rfl, fun y hy => by
          rcases List.mem_append.mp hy with hy | hy
          · exact hacc y hy
          · rw [List.mem_singleton.mp hy]; omega⟩
        rw [List.map_append] at this
        exact this
      · rintro ts ⟨hlen, hts⟩
        rw [List.length_range] at hlen
        have hsb := sum_bounds hts
        have hmul : (ts.length : Int) * 100000 ≤ 500000 := by omega
        have okts : OkTs ts := ⟨by omega, by omega, fun x hx => ⟨(hts x hx).1, by have := (hts x hx).2; omega⟩⟩
        have hpos : ∀ x ∈ ts, 0 ≤ x := fun x hx => (hts x hx).1
        have cnt := chain_count ok hr okts.1 hpos
        have ha : OkA rs (2 * ts.sum) none := ⟨ok, ⟨by omega, by omega⟩, fun _ z => nomatch z⟩
        refine tuple_I ?_
        try simp only [↓sSeq, ↓sRet, ↓sIf, ↓sSet, ↓sOwn, ↓sAsg, ↓sDrop, ↓sNext, ↓sBreak, ↓sNever, ↓sFrz, ↓sApp, ↓sSetIx, ↓sSrc, ↓sPar, ↓sPar3, ↓sAug, ↓sNewSrc, ↓eC, ↓eTest, ↓eAnd, ↓eOr, ↓eNot, ↓eAndV, ↓eOrV, ↓eNotV, ↓eIf, ↓eChain, ↓eNeg, ↓eIx, ↓eIxS, ↓eSl, ↓oNone, ↓oSome, ↓aNil, ↓aCons, ↓eTup, ↓eLst, ↓eTupM, ↓eLstM, ↓eCB, ↓eBin, ↓x_call, ↓x_callK, ↓eSrc, ↓iSeqD, ↓iRg1, ↓iRg2, ↓iRg3, ↓iEnumD, ↓iZipD, ↓gNm, ↓gTp, ↓gsC, ↓gsN, ↓eYes, x_var0, x_var0o, x_varS, fAdd_ii, fAdd_ll, fAdd_tt, fAdd_ss, fMul_ii, fMul_li, fMul_ti, fSub_ii, fDiv_ii, fMod_ii, fPow_ii, fLt_ii, fLe_ii, fGt_ii, fGe_ii, ↓fEq, ↓fNe, ↓fIsN, ↓fNotN, x_lenL, x_lenT, x_lenS, x_lenR, x_lenC, fAbs_i, fInt_i, fInt_b, x_isi, List.set_cons_zero, List.set_cons_succ, List.getElem?_cons_zero, List.getElem?_cons_succ, items_l, items_t, okSt, mdOf, md_i, md_b, md_n, md_s, md_t, md_l, md_y, Md.isCl, Md.isNw, Md.meet, atI_0, atI_m1, atI_1, atI_2, atI_nat, cond_true, cond_false, isNon_i, isNon_n, isT_ii, isT_ib, isT_it, isT_il, isT_bi, isT_bb, isT_tt, isT_ti, isT_lt, isT_ll, isT_nt, isT_ni, isT_nl, tyN_i, tyN_b, tyN_t, tyN_l, tyN_n, dS_isT, dR_isT, dS_tyN, dR_tyN, dQ_isNon, D.flat, D.flats, flats_cons, flats_nil, flats_ints, flat_tup, putOk, slOf_f, slOf_t, Option.some.injEq, D.int.injEq, D.bl.injEq, D.lst.injEq, D.tup.injEq, D.str.injEq, D.scr.injEq, D.ty.injEq, x_consD, x_consD0, x_consD1, and_assoc, reduceCtorEq, exists_eq, exists_eq', exists_eq_left, exists_eq_left', exists_eq_right, exists_eq_right', exists_and_left, exists_and_right, and_true, true_and, and_self, and_false, false_and, or_true, true_or, or_false, false_or, if_true, if_false, ite_true, ite_false, decide_eq_true_eq, decide_eq_false_iff_not, Bool.not_eq_true, Bool.not_eq_true', Bool.not_true, Bool.not_false, Bool.true_eq_false, Bool.false_eq_true, not_true_eq_false, not_false_eq_true, eq_self_iff_true, forall_const, imp_self, List.length_cons, List.length_nil, List.append_nil, List.nil_append, List.cons_append, cpow_6, cpow_18, cpow_5, cpow_7, cpow_15, cpow_12, CMul, Nat.reduceAdd, Nat.reduceLeDiff, Nat.reduceLT, Int.reducePow, Int.reduceNeg, Int.reduceLT, Int.reduceLE, Int.reduceToNat, Int.reduceMul, Int.reduceAdd, Int.reduceSub, frzE, frz1, wipeE, all_nil, all_cons, endsF, x_start, List.map_cons, List.map_nil, List.replicate_succ, List.replicate_zero, Nat.reduceSub, Int.reduceEq, Nat.reduceEqDiff, List.mem_cons, List.not_mem_nil, x_isTs, or_self, Option.isSome_some, Option.isSome_none, String.reduceEq, dS_inj, dR_inj, dQ_inj, dQ_non, dQ_int, dS_md, dR_md, dQ_md, dS_flat, dR_flat, dQ_flat, dS_items, dR_items, List.getElem?_map, Option.map_some, Option.map_none, shp_i, shp_n, shp_b, shp_li, shp_S, shp_R, shp_lS, shp_Q, shp_l0, eqb_int, eqb_l, eqb_S, eqb_R, eqbs_ints, eqbs_dS, eqbs_nil0, eqbs_nilL, eqbs_nilR, Sl.own.injEq, Sl.val.injEq, List.length_map, dR_lst, dR_tup, dS_lst, dS_tup, flats_S, cut_map, cut_1, dR_fold, dS_fold, inI_t, inI_f, Bool.or_false, List.getLast?_map, exists_false, exists_const, Bool.and_self, Bool.and_true, Bool.true_and, Bool.and_false, Bool.false_and, add_S, List.isEmpty_map, fMax_2, fMax_3, fMin_2, flat_non, flat_i, ↓u_for, ↓u_comp, fS_v, fS_n, fS_o, shp_lli, eqbs_dL, ↓eSortSet, int_inj, fList_S, fList_R, sum_S, sum_li, x_reported, x_reportedL, x_all_reports, x_all_reportsN, x_held_by, x_held_byT, x_reports, x_reports0, x_reportsI, x_held, x_held0, x_heldI, x_largest_error, x_largest_errorI, x_is_between, x_is_sample, x_is_samples, x_distance, x_need_samples, x_need_threshold, x_need_silence, x_is_late, x_source, x_draw, x_samples, x_gap, x_limit, x_quiet, x_spread_within, x_spread_withinL, x_need_spread, x_starts_of, x_fewest_stretches, x_fewest_stretches0, x_fewest_stretchesI, x_stretches, x_stretches0, x_spread_of, x_apart, x_reports_from, x_reports_from0, x_need_thresholds, x_chained, x_all_reportsLN, x_held_byL, x_chain_reports, x_chain_held]
        refine ⟨ok, okts, ok, okts, ha, ?_⟩
        rw [if_neg (by omega)]
        refine ⟨ha, ?_⟩
        rw [if_neg (by omega)]
        have hcl := chainF_len (rs := rs) (ts := ts)
        have hmany := chain_many (ts := ts) ok okts.1
        refine for_st (σ := Unit) ((chainF rs ts).2.mapIdx fun i x => (i, x)) (fun p => .tup [.int (p.1 : Nat), dS p.2]) (fun _ => [.val (.scr ns), .val (.int k), .val .src, .val (dR rs), .val (.int k2), .val (.int top), .val (dS ts), .non, .val (.lst ((chainF rs ts).1.map .int)), .val (.lst ((chainF rs ts).2.map dS)), .val (.lst ((allRep (2 * ts.sum) none rs).map .int)), .non, .non, .non])
          (fun _ _ => True) () (enumD_map ..) rfl (fun _ p _ => by rw [flat_tup, flats_cons, flats_cons, dS_flat]; rfl) rfl trivial ?_ ?_
        · rintro i3 ⟨j, v⟩ _ hx3 _ N3 hN3
          obtain ⟨hv, rfl⟩ := get_enum hx3
          have hj := (List.getElem?_eq_some_iff.mp hv).1
          simp only at hv hj
          have ev : v = rowAt (chainF rs ts).2 j := by unfold rowAt; rw [List.getD_eq_getElem?_getD, hv]; rfl
          try simp only [↓sSeq, ↓sRet, ↓sIf, ↓sSet, ↓sOwn, ↓sAsg, ↓sDrop, ↓sNext, ↓sBreak, ↓sNever, ↓sFrz, ↓sApp, ↓sSetIx, ↓sSrc, ↓sPar, ↓sPar3, ↓sAug, ↓sNewSrc, ↓eC, ↓eTest, ↓eAnd, ↓eOr, ↓eNot, ↓eAndV, ↓eOrV, ↓eNotV, ↓eIf, ↓eChain, ↓eNeg, ↓eIx, ↓eIxS, ↓eSl, ↓oNone, ↓oSome, ↓aNil, ↓aCons, ↓eTup, ↓eLst, ↓eTupM, ↓eLstM, ↓eCB, ↓eBin, ↓x_call, ↓x_callK, ↓eSrc, ↓iSeqD, ↓iRg1, ↓iRg2, ↓iRg3, ↓iEnumD, ↓iZipD, ↓gNm, ↓gTp, ↓gsC, ↓gsN, ↓eYes, x_var0, x_var0o, x_varS, fAdd_ii, fAdd_ll, fAdd_tt, fAdd_ss, fMul_ii, fMul_li, fMul_ti, fSub_ii, fDiv_ii, fMod_ii, fPow_ii, fLt_ii, fLe_ii, fGt_ii, fGe_ii, ↓fEq, ↓fNe, ↓fIsN, ↓fNotN, x_lenL, x_lenT, x_lenS, x_lenR, x_lenC, fAbs_i, fInt_i, fInt_b, x_isi, List.set_cons_zero, List.set_cons_succ, List.getElem?_cons_zero, List.getElem?_cons_succ, items_l, items_t, okSt, mdOf, md_i, md_b, md_n, md_s, md_t, md_l, md_y, Md.isCl, Md.isNw, Md.meet, atI_0, atI_m1, atI_1, atI_2, atI_nat, cond_true, cond_false, isNon_i, isNon_n, isT_ii, isT_ib, isT_it, isT_il, isT_bi, isT_bb, isT_tt, isT_ti, isT_lt, isT_ll, isT_nt, isT_ni, isT_nl, tyN_i, tyN_b, tyN_t, tyN_l, tyN_n, dS_isT, dR_isT, dS_tyN, dR_tyN, dQ_isNon, D.flat, D.flats, flats_cons, flats_nil, flats_ints, flat_tup, putOk, slOf_f, slOf_t, Option.some.injEq, D.int.injEq, D.bl.injEq, D.lst.injEq, D.tup.injEq, D.str.injEq, D.scr.injEq, D.ty.injEq, x_consD, x_consD0, x_consD1, and_assoc, reduceCtorEq, exists_eq, exists_eq', exists_eq_left, exists_eq_left', exists_eq_right, exists_eq_right', exists_and_left, exists_and_right, and_true, true_and, and_self, and_false, false_and, or_true, true_or, or_false, false_or, if_true, if_false, ite_true, ite_false, decide_eq_true_eq, decide_eq_false_iff_not, Bool.not_eq_true, Bool.not_eq_true', Bool.not_true, Bool.not_false, Bool.true_eq_false, Bool.false_eq_true, not_true_eq_false, not_false_eq_true, eq_self_iff_true, forall_const, imp_self, List.length_cons, List.length_nil, List.append_nil, List.nil_append, List.cons_append, cpow_6, cpow_18, cpow_5, cpow_7, cpow_15, cpow_12, CMul, Nat.reduceAdd, Nat.reduceLeDiff, Nat.reduceLT, Int.reducePow, Int.reduceNeg, Int.reduceLT, Int.reduceLE, Int.reduceToNat, Int.reduceMul, Int.reduceAdd, Int.reduceSub, frzE, frz1, wipeE, all_nil, all_cons, endsF, x_start, List.map_cons, List.map_nil, List.replicate_succ, List.replicate_zero, Nat.reduceSub, Int.reduceEq, Nat.reduceEqDiff, List.mem_cons, List.not_mem_nil, x_isTs, or_self, Option.isSome_some, Option.isSome_none, String.reduceEq, dS_inj, dR_inj, dQ_inj, dQ_non, dQ_int, dS_md, dR_md, dQ_md, dS_flat, dR_flat, dQ_flat, dS_items, dR_items, List.getElem?_map, Option.map_some, Option.map_none, shp_i, shp_n, shp_b, shp_li, shp_S, shp_R, shp_lS, shp_Q, shp_l0, eqb_int, eqb_l, eqb_S, eqb_R, eqbs_ints, eqbs_dS, eqbs_nil0, eqbs_nilL, eqbs_nilR, Sl.own.injEq, Sl.val.injEq, List.length_map, dR_lst, dR_tup, dS_lst, dS_tup, flats_S, cut_map, cut_1, dR_fold, dS_fold, inI_t, inI_f, Bool.or_false, List.getLast?_map, exists_false, exists_const, Bool.and_self, Bool.and_true, Bool.true_and, Bool.and_false, Bool.false_and, add_S, List.isEmpty_map, fMax_2, fMax_3, fMin_2, flat_non, flat_i, ↓u_for, ↓u_comp, fS_v, fS_n, fS_o, shp_lli, eqbs_dL, ↓eSortSet, int_inj, fList_S, fList_R, sum_S, sum_li, x_reported, x_reportedL, x_all_reports, x_all_reportsN, x_held_by, x_held_byT, x_reports, x_reports0, x_reportsI, x_held, x_held0, x_heldI, x_largest_error, x_largest_errorI, x_is_between, x_is_sample, x_is_samples, x_distance, x_need_samples, x_need_threshold, x_need_silence, x_is_late, x_source, x_draw, x_samples, x_gap, x_limit, x_quiet, x_spread_within, x_spread_withinL, x_need_spread, x_starts_of, x_fewest_stretches, x_fewest_stretches0, x_fewest_stretchesI, x_stretches, x_stretches0, x_spread_of, x_apart, x_reports_from, x_reports_from0, x_need_thresholds, x_chained, x_all_reportsLN, x_held_byL, x_chain_reports, x_chain_held]
          refine comp_filter (chainF rs ts).1 D.int (fun x => decide (x ≤ (j : Int))) D.int rfl (by omega) ?_ ?_
          · intro i x acc2 hx N4 hN4
            try simp only [↓sSeq, ↓sRet, ↓sIf, ↓sSet, ↓sOwn, ↓sAsg, ↓sDrop, ↓sNext, ↓sBreak, ↓sNever, ↓sFrz, ↓sApp, ↓sSetIx, ↓sSrc, ↓sPar, ↓sPar3, ↓sAug, ↓sNewSrc, ↓eC, ↓eTest, ↓eAnd, ↓eOr, ↓eNot, ↓eAndV, ↓eOrV, ↓eNotV, ↓eIf, ↓eChain, ↓eNeg, ↓eIx, ↓eIxS, ↓eSl, ↓oNone, ↓oSome, ↓aNil, ↓aCons, ↓eTup, ↓eLst, ↓eTupM, ↓eLstM, ↓eCB, ↓eBin, ↓x_call, ↓x_callK, ↓eSrc, ↓iSeqD, ↓iRg1, ↓iRg2, ↓iRg3, ↓iEnumD, ↓iZipD, ↓gNm, ↓gTp, ↓gsC, ↓gsN, ↓eYes, x_var0, x_var0o, x_varS, fAdd_ii, fAdd_ll, fAdd_tt, fAdd_ss, fMul_ii, fMul_li, fMul_ti, fSub_ii, fDiv_ii, fMod_ii, fPow_ii, fLt_ii, fLe_ii, fGt_ii, fGe_ii, ↓fEq, ↓fNe, ↓fIsN, ↓fNotN, x_lenL, x_lenT, x_lenS, x_lenR, x_lenC, fAbs_i, fInt_i, fInt_b, x_isi, List.set_cons_zero, List.set_cons_succ, List.getElem?_cons_zero, List.getElem?_cons_succ, items_l, items_t, okSt, mdOf, md_i, md_b, md_n, md_s, md_t, md_l, md_y, Md.isCl, Md.isNw, Md.meet, atI_0, atI_m1, atI_1, atI_2, atI_nat, cond_true, cond_false, isNon_i, isNon_n, isT_ii, isT_ib, isT_it, isT_il, isT_bi, isT_bb, isT_tt, isT_ti, isT_lt, isT_ll, isT_nt, isT_ni, isT_nl, tyN_i, tyN_b, tyN_t, tyN_l, tyN_n, dS_isT, dR_isT, dS_tyN, dR_tyN, dQ_isNon, D.flat, D.flats, flats_cons, flats_nil, flats_ints, flat_tup, putOk, slOf_f, slOf_t, Option.some.injEq, D.int.injEq, D.bl.injEq, D.lst.injEq, D.tup.injEq, D.str.injEq, D.scr.injEq, D.ty.injEq, x_consD, x_consD0, x_consD1, and_assoc, reduceCtorEq, exists_eq, exists_eq', exists_eq_left, exists_eq_left', exists_eq_right, exists_eq_right', exists_and_left, exists_and_right, and_true, true_and, and_self, and_false, false_and, or_true, true_or, or_false, false_or, if_true, if_false, ite_true, ite_false, decide_eq_true_eq, decide_eq_false_iff_not, Bool.not_eq_true, Bool.not_eq_true', Bool.not_true, Bool.not_false, Bool.true_eq_false, Bool.false_eq_true, not_true_eq_false, not_false_eq_true, eq_self_iff_true, forall_const, imp_self, List.length_cons, List.length_nil, List.append_nil, List.nil_append, List.cons_append, cpow_6, cpow_18, cpow_5, cpow_7, cpow_15, cpow_12, CMul, Nat.reduceAdd, Nat.reduceLeDiff, Nat.reduceLT, Int.reducePow, Int.reduceNeg, Int.reduceLT, Int.reduceLE, Int.reduceToNat, Int.reduceMul, Int.reduceAdd, Int.reduceSub, frzE, frz1, wipeE, all_nil, all_cons, endsF, x_start, List.map_cons, List.map_nil, List.replicate_succ, List.replicate_zero, Nat.reduceSub, Int.reduceEq, Nat.reduceEqDiff, List.mem_cons, List.not_mem_nil, x_isTs, or_self, Option.isSome_some, Option.isSome_none, String.reduceEq, dS_inj, dR_inj, dQ_inj, dQ_non, dQ_int, dS_md, dR_md, dQ_md, dS_flat, dR_flat, dQ_flat, dS_items, dR_items, List.getElem?_map, Option.map_some, Option.map_none, shp_i, shp_n, shp_b, shp_li, shp_S, shp_R, shp_lS, shp_Q, shp_l0, eqb_int, eqb_l, eqb_S, eqb_R, eqbs_ints, eqbs_dS, eqbs_nil0, eqbs_nilL, eqbs_nilR, Sl.own.injEq, Sl.val.injEq, List.length_map, dR_lst, dR_tup, dS_lst, dS_tup, flats_S, cut_map, cut_1, dR_fold, dS_fold, inI_t, inI_f, Bool.or_false, List.getLast?_map, exists_false, exists_const, Bool.and_self, Bool.and_true, Bool.true_and, Bool.and_false, Bool.false_and, add_S, List.isEmpty_map, fMax_2, fMax_3, fMin_2, flat_non, flat_i, ↓u_for, ↓u_comp, fS_v, fS_n, fS_o, shp_lli, eqbs_dL, ↓eSortSet, int_inj, fList_S, fList_R, sum_S, sum_li, x_reported, x_reportedL, x_all_reports, x_all_reportsN, x_held_by, x_held_byT, x_reports, x_reports0, x_reportsI, x_held, x_held0, x_heldI, x_largest_error, x_largest_errorI, x_is_between, x_is_sample, x_is_samples, x_distance, x_need_samples, x_need_threshold, x_need_silence, x_is_late, x_source, x_draw, x_samples, x_gap, x_limit, x_quiet, x_spread_within, x_spread_withinL, x_need_spread, x_starts_of, x_fewest_stretches, x_fewest_stretches0, x_fewest_stretchesI, x_stretches, x_stretches0, x_spread_of, x_apart, x_reports_from, x_reports_from0, x_need_thresholds, x_chained, x_all_reportsLN, x_held_byL, x_chain_reports, x_chain_held]
            split
            · rename_i hc
              rw [if_pos (decide_eq_true hc)] at hN4
              exact hN4
            · rename_i hc
              rw [if_neg (fun z => hc (of_decide_eq_true z)), List.append_nil] at hN4
              exact hN4
          · refine ⟨_, rfl, fun z => ?_, fun m hm => ?_⟩
            · have : (0 : Int) ∈ (chainF rs ts).1.filter fun x => decide (x ≤ (j : Int)) := List.mem_filter.mpr ⟨chain_zero okts.1, decide_eq_true (by omega)⟩
              rw [z] at this
              cases this
            · have hmr := chain_range hp okts.1 m (List.mem_filter.mp hm.1).1
              have val := chain_val ok okts.1 hpos (i := j) (by omega) hm
              have near := chain_near ok hr (i := j) (by omega) ts hpos
              obtain ⟨M, rfl⟩ : ∃ M : Nat, m = M := ⟨m.toNat, by omega⟩
              rw [← ev, Int.toNat_natCast] at val
              rw [← ev, gap_comm] at near
              try simp only [↓sSeq, ↓sRet, ↓sIf, ↓sSet, ↓sOwn, ↓sAsg, ↓sDrop, ↓sNext, ↓sBreak, ↓sNever, ↓sFrz, ↓sApp, ↓sSetIx, ↓sSrc, ↓sPar, ↓sPar3, ↓sAug, ↓sNewSrc, ↓eC, ↓eTest, ↓eAnd, ↓eOr, ↓eNot, ↓eAndV, ↓eOrV, ↓eNotV, ↓eIf, ↓eChain, ↓eNeg, ↓eIx, ↓eIxS, ↓eSl, ↓oNone, ↓oSome, ↓aNil, ↓aCons, ↓eTup, ↓eLst, ↓eTupM, ↓eLstM, ↓eCB, ↓eBin, ↓x_call, ↓x_callK, ↓eSrc, ↓iSeqD, ↓iRg1, ↓iRg2, ↓iRg3, ↓iEnumD, ↓iZipD, ↓gNm, ↓gTp, ↓gsC, ↓gsN, ↓eYes, x_var0, x_var0o, x_varS, fAdd_ii, fAdd_ll, fAdd_tt, fAdd_ss, fMul_ii, fMul_li, fMul_ti, fSub_ii, fDiv_ii, fMod_ii, fPow_ii, fLt_ii, fLe_ii, fGt_ii, fGe_ii, ↓fEq, ↓fNe, ↓fIsN, ↓fNotN, x_lenL, x_lenT, x_lenS, x_lenR, x_lenC, fAbs_i, fInt_i, fInt_b, x_isi, List.set_cons_zero, List.set_cons_succ, List.getElem?_cons_zero, List.getElem?_cons_succ, items_l, items_t, okSt, mdOf, md_i, md_b, md_n, md_s, md_t, md_l, md_y, Md.isCl, Md.isNw, Md.meet, atI_0, atI_m1, atI_1, atI_2, atI_nat, cond_true, cond_false, isNon_i, isNon_n, isT_ii, isT_ib, isT_it, isT_il, isT_bi, isT_bb, isT_tt, isT_ti, isT_lt, isT_ll, isT_nt, isT_ni, isT_nl, tyN_i, tyN_b, tyN_t, tyN_l, tyN_n, dS_isT, dR_isT, dS_tyN, dR_tyN, dQ_isNon, D.flat, D.flats, flats_cons, flats_nil, flats_ints, flat_tup, putOk, slOf_f, slOf_t, Option.some.injEq, D.int.injEq, D.bl.injEq, D.lst.injEq, D.tup.injEq, D.str.injEq, D.scr.injEq, D.ty.injEq, x_consD, x_consD0, x_consD1, and_assoc, reduceCtorEq, exists_eq, exists_eq', exists_eq_left, exists_eq_left', exists_eq_right, exists_eq_right', exists_and_left, exists_and_right, and_true, true_and, and_self, and_false, false_and, or_true, true_or, or_false, false_or, if_true, if_false, ite_true, ite_false, decide_eq_true_eq, decide_eq_false_iff_not, Bool.not_eq_true, Bool.not_eq_true', Bool.not_true, Bool.not_false, Bool.true_eq_false, Bool.false_eq_true, not_true_eq_false, not_false_eq_true, eq_self_iff_true, forall_const, imp_self, List.length_cons, List.length_nil, List.append_nil, List.nil_append, List.cons_append, cpow_6, cpow_18, cpow_5, cpow_7, cpow_15, cpow_12, CMul, Nat.reduceAdd, Nat.reduceLeDiff, Nat.reduceLT, Int.reducePow, Int.reduceNeg, Int.reduceLT, Int.reduceLE, Int.reduceToNat, Int.reduceMul, Int.reduceAdd, Int.reduceSub, frzE, frz1, wipeE, all_nil, all_cons, endsF, x_start, List.map_cons, List.map_nil, List.replicate_succ, List.replicate_zero, Nat.reduceSub, Int.reduceEq, Nat.reduceEqDiff, List.mem_cons, List.not_mem_nil, x_isTs, or_self, Option.isSome_some, Option.isSome_none, String.reduceEq, dS_inj, dR_inj, dQ_inj, dQ_non, dQ_int, dS_md, dR_md, dQ_md, dS_flat, dR_flat, dQ_flat, dS_items, dR_items, List.getElem?_map, Option.map_some, Option.map_none, shp_i, shp_n, shp_b, shp_li, shp_S, shp_R, shp_lS, shp_Q, shp_l0, eqb_int, eqb_l, eqb_S, eqb_R, eqbs_ints, eqbs_dS, eqbs_nil0, eqbs_nilL, eqbs_nilR, Sl.own.injEq, Sl.val.injEq, List.length_map, dR_lst, dR_tup, dS_lst, dS_tup, flats_S, cut_map, cut_1, dR_fold, dS_fold, inI_t, inI_f, Bool.or_false, List.getLast?_map, exists_false, exists_const, Bool.and_self, Bool.and_true, Bool.true_and, Bool.and_false, Bool.false_and, add_S, List.isEmpty_map, fMax_2, fMax_3, fMin_2, flat_non, flat_i, ↓u_for, ↓u_comp, fS_v, fS_n, fS_o, shp_lli, eqbs_dL, ↓eSortSet, int_inj, fList_S, fList_R, sum_S, sum_li, x_reported, x_reportedL, x_all_reports, x_all_reportsN, x_held_by, x_held_byT, x_reports, x_reports0, x_reportsI, x_held, x_held0, x_heldI, x_largest_error, x_largest_errorI, x_is_between, x_is_sample, x_is_samples, x_distance, x_need_samples, x_need_threshold, x_need_silence, x_is_late, x_source, x_draw, x_samples, x_gap, x_limit, x_quiet, x_spread_within, x_spread_withinL, x_need_spread, x_starts_of, x_fewest_stretches, x_fewest_stretches0, x_fewest_stretchesI, x_stretches, x_stretches0, x_spread_of, x_apart, x_reports_from, x_reports_from0, x_need_thresholds, x_chained, x_all_reportsLN, x_held_byL, x_chain_reports, x_chain_held, rowAt_get (rs := rs) (j := j) (by omega), rowAt_get (rs := rs) (j := M) (by omega)]
              rw [if_neg (by omega), if_neg (fun z => z val)]
              exact hN3 () _ trivial rfl
        · rintro _ _
          try simp only [↓sSeq, ↓sRet, ↓sIf, ↓sSet, ↓sOwn, ↓sAsg, ↓sDrop, ↓sNext, ↓sBreak, ↓sNever, ↓sFrz, ↓sApp, ↓sSetIx, ↓sSrc, ↓sPar, ↓sPar3, ↓sAug, ↓sNewSrc, ↓eC, ↓eTest, ↓eAnd, ↓eOr, ↓eNot, ↓eAndV, ↓eOrV, ↓eNotV, ↓eIf, ↓eChain, ↓eNeg, ↓eIx, ↓eIxS, ↓eSl, ↓oNone, ↓oSome, ↓aNil, ↓aCons, ↓eTup, ↓eLst, ↓eTupM, ↓eLstM, ↓eCB, ↓eBin, ↓x_call, ↓x_callK, ↓eSrc, ↓iSeqD, ↓iRg1, ↓iRg2, ↓iRg3, ↓iEnumD, ↓iZipD, ↓gNm, ↓gTp, ↓gsC, ↓gsN, ↓eYes, x_var0, x_var0o, x_varS, fAdd_ii, fAdd_ll, fAdd_tt, fAdd_ss, fMul_ii, fMul_li, fMul_ti, fSub_ii, fDiv_ii, fMod_ii, fPow_ii, fLt_ii, fLe_ii, fGt_ii, fGe_ii, ↓fEq, ↓fNe, ↓fIsN, ↓fNotN, x_lenL, x_lenT, x_lenS, x_lenR, x_lenC, fAbs_i, fInt_i, fInt_b, x_isi, List.set_cons_zero, List.set_cons_succ, List.getElem?_cons_zero, List.getElem?_cons_succ, items_l, items_t, okSt, mdOf, md_i, md_b, md_n, md_s, md_t, md_l, md_y, Md.isCl, Md.isNw, Md.meet, atI_0, atI_m1, atI_1, atI_2, atI_nat, cond_true, cond_false, isNon_i, isNon_n, isT_ii, isT_ib, isT_it, isT_il, isT_bi, isT_bb, isT_tt, isT_ti, isT_lt, isT_ll, isT_nt, isT_ni, isT_nl, tyN_i, tyN_b, tyN_t, tyN_l, tyN_n, dS_isT, dR_isT, dS_tyN, dR_tyN, dQ_isNon, D.flat, D.flats, flats_cons, flats_nil, flats_ints, flat_tup, putOk, slOf_f, slOf_t, Option.some.injEq, D.int.injEq, D.bl.injEq, D.lst.injEq, D.tup.injEq, D.str.injEq, D.scr.injEq, D.ty.injEq, x_consD, x_consD0, x_consD1, and_assoc, reduceCtorEq, exists_eq, exists_eq', exists_eq_left, exists_eq_left', exists_eq_right, exists_eq_right', exists_and_left, exists_and_right, and_true, true_and, and_self, and_false, false_and, or_true, true_or, or_false, false_or, if_true, if_false, ite_true, ite_false, decide_eq_true_eq, decide_eq_false_iff_not, Bool.not_eq_true, Bool.not_eq_true', Bool.not_true, Bool.not_false, Bool.true_eq_false, Bool.false_eq_true, not_true_eq_false, not_false_eq_true, eq_self_iff_true, forall_const, imp_self, List.length_cons, List.length_nil, List.append_nil, List.nil_append, List.cons_append, cpow_6, cpow_18, cpow_5, cpow_7, cpow_15, cpow_12, CMul, Nat.reduceAdd, Nat.reduceLeDiff, Nat.reduceLT, Int.reducePow, Int.reduceNeg, Int.reduceLT, Int.reduceLE, Int.reduceToNat, Int.reduceMul, Int.reduceAdd, Int.reduceSub, frzE, frz1, wipeE, all_nil, all_cons, endsF, x_start, List.map_cons, List.map_nil, List.replicate_succ, List.replicate_zero, Nat.reduceSub, Int.reduceEq, Nat.reduceEqDiff, List.mem_cons, List.not_mem_nil, x_isTs, or_self, Option.isSome_some, Option.isSome_none, String.reduceEq, dS_inj, dR_inj, dQ_inj, dQ_non, dQ_int, dS_md, dR_md, dQ_md, dS_flat, dR_flat, dQ_flat, dS_items, dR_items, List.getElem?_map, Option.map_some, Option.map_none, shp_i, shp_n, shp_b, shp_li, shp_S, shp_R, shp_lS, shp_Q, shp_l0, eqb_int, eqb_l, eqb_S, eqb_R, eqbs_ints, eqbs_dS, eqbs_nil0, eqbs_nilL, eqbs_nilR, Sl.own.injEq, Sl.val.injEq, List.length_map, dR_lst, dR_tup, dS_lst, dS_tup, flats_S, cut_map, cut_1, dR_fold, dS_fold, inI_t, inI_f, Bool.or_false, List.getLast?_map, exists_false, exists_const, Bool.and_self, Bool.and_true, Bool.true_and, Bool.and_false, Bool.false_and, add_S, List.isEmpty_map, fMax_2, fMax_3, fMin_2, flat_non, flat_i, ↓u_for, ↓u_comp, fS_v, fS_n, fS_o, shp_lli, eqbs_dL, ↓eSortSet, int_inj, fList_S, fList_R, sum_S, sum_li, x_reported, x_reportedL, x_all_reports, x_all_reportsN, x_held_by, x_held_byT, x_reports, x_reports0, x_reportsI, x_held, x_held0, x_heldI, x_largest_error, x_largest_errorI, x_is_between, x_is_sample, x_is_samples, x_distance, x_need_samples, x_need_threshold, x_need_silence, x_is_late, x_source, x_draw, x_samples, x_gap, x_limit, x_quiet, x_spread_within, x_spread_withinL, x_need_spread, x_starts_of, x_fewest_stretches, x_fewest_stretches0, x_fewest_stretchesI, x_stretches, x_stretches0, x_spread_of, x_apart, x_reports_from, x_reports_from0, x_need_thresholds, x_chained, x_all_reportsLN, x_held_byL, x_chain_reports, x_chain_held]
          exact hN2 () _ trivial rfl
    · rintro _ _
      try simp only [↓sSeq, ↓sRet, ↓sIf, ↓sSet, ↓sOwn, ↓sAsg, ↓sDrop, ↓sNext, ↓sBreak, ↓sNever, ↓sFrz, ↓sApp, ↓sSetIx, ↓sSrc, ↓sPar, ↓sPar3, ↓sAug, ↓sNewSrc, ↓eC, ↓eTest, ↓eAnd, ↓eOr, ↓eNot, ↓eAndV, ↓eOrV, ↓eNotV, ↓eIf, ↓eChain, ↓eNeg, ↓eIx, ↓eIxS, ↓eSl, ↓oNone, ↓oSome, ↓aNil, ↓aCons, ↓eTup, ↓eLst, ↓eTupM, ↓eLstM, ↓eCB, ↓eBin, ↓x_call, ↓x_callK, ↓eSrc, ↓iSeqD, ↓iRg1, ↓iRg2, ↓iRg3, ↓iEnumD, ↓iZipD, ↓gNm, ↓gTp, ↓gsC, ↓gsN, ↓eYes, x_var0, x_var0o, x_varS, fAdd_ii, fAdd_ll, fAdd_tt, fAdd_ss, fMul_ii, fMul_li, fMul_ti, fSub_ii, fDiv_ii, fMod_ii, fPow_ii, fLt_ii, fLe_ii, fGt_ii, fGe_ii, ↓fEq, ↓fNe, ↓fIsN, ↓fNotN, x_lenL, x_lenT, x_lenS, x_lenR, x_lenC, fAbs_i, fInt_i, fInt_b, x_isi, List.set_cons_zero, List.set_cons_succ, List.getElem?_cons_zero, List.getElem?_cons_succ, items_l, items_t, okSt, mdOf, md_i, md_b, md_n, md_s, md_t, md_l, md_y, Md.isCl, Md.isNw, Md.meet, atI_0, atI_m1, atI_1, atI_2, atI_nat, cond_true, cond_false, isNon_i, isNon_n, isT_ii, isT_ib, isT_it, isT_il, isT_bi, isT_bb, isT_tt, isT_ti, isT_lt, isT_ll, isT_nt, isT_ni, isT_nl, tyN_i, tyN_b, tyN_t, tyN_l, tyN_n, dS_isT, dR_isT, dS_tyN, dR_tyN, dQ_isNon, D.flat, D.flats, flats_cons, flats_nil, flats_ints, flat_tup, putOk, slOf_f, slOf_t, Option.some.injEq, D.int.injEq, D.bl.injEq, D.lst.injEq, D.tup.injEq, D.str.injEq, D.scr.injEq, D.ty.injEq, x_consD, x_consD0, x_consD1, and_assoc, reduceCtorEq, exists_eq, exists_eq', exists_eq_left, exists_eq_left', exists_eq_right, exists_eq_right', exists_and_left, exists_and_right, and_true, true_and, and_self, and_false, false_and, or_true, true_or, or_false, false_or, if_true, if_false, ite_true, ite_false, decide_eq_true_eq, decide_eq_false_iff_not, Bool.not_eq_true, Bool.not_eq_true', Bool.not_true, Bool.not_false, Bool.true_eq_false, Bool.false_eq_true, not_true_eq_false, not_false_eq_true, eq_self_iff_true, forall_const, imp_self, List.length_cons, List.length_nil, List.append_nil, List.nil_append, List.cons_append, cpow_6, cpow_18, cpow_5, cpow_7, cpow_15, cpow_12, CMul, Nat.reduceAdd, Nat.reduceLeDiff, Nat.reduceLT, Int.reducePow, Int.reduceNeg, Int.reduceLT, Int.reduceLE, Int.reduceToNat, Int.reduceMul, Int.reduceAdd, Int.reduceSub, frzE, frz1, wipeE, all_nil, all_cons, endsF, x_start, List.map_cons, List.map_nil, List.replicate_succ, List.replicate_zero, Nat.reduceSub, Int.reduceEq, Nat.reduceEqDiff, List.mem_cons, List.not_mem_nil, x_isTs, or_self, Option.isSome_some, Option.isSome_none, String.reduceEq, dS_inj, dR_inj, dQ_inj, dQ_non, dQ_int, dS_md, dR_md, dQ_md, dS_flat, dR_flat, dQ_flat, dS_items, dR_items, List.getElem?_map, Option.map_some, Option.map_none, shp_i, shp_n, shp_b, shp_li, shp_S, shp_R, shp_lS, shp_Q, shp_l0, eqb_int, eqb_l, eqb_S, eqb_R, eqbs_ints, eqbs_dS, eqbs_nil0, eqbs_nilL, eqbs_nilR, Sl.own.injEq, Sl.val.injEq, List.length_map, dR_lst, dR_tup, dS_lst, dS_tup, flats_S, cut_map, cut_1, dR_fold, dS_fold, inI_t, inI_f, Bool.or_false, List.getLast?_map, exists_false, exists_const, Bool.and_self, Bool.and_true, Bool.true_and, Bool.and_false, Bool.false_and, add_S, List.isEmpty_map, fMax_2, fMax_3, fMin_2, flat_non, flat_i, ↓u_for, ↓u_comp, fS_v, fS_n, fS_o, shp_lli, eqbs_dL, ↓eSortSet, int_inj, fList_S, fList_R, sum_S, sum_li, x_reported, x_reportedL, x_all_reports, x_all_reportsN, x_held_by, x_held_byT, x_reports, x_reports0, x_reportsI, x_held, x_held0, x_heldI, x_largest_error, x_largest_errorI, x_is_between, x_is_sample, x_is_samples, x_distance, x_need_samples, x_need_threshold, x_need_silence, x_is_late, x_source, x_draw, x_samples, x_gap, x_limit, x_quiet, x_spread_within, x_spread_withinL, x_need_spread, x_starts_of, x_fewest_stretches, x_fewest_stretches0, x_fewest_stretchesI, x_stretches, x_stretches0, x_spread_of, x_apart, x_reports_from, x_reports_from0, x_need_thresholds, x_chained, x_all_reportsLN, x_held_byL, x_chain_reports, x_chain_held]
      exact hN () _ trivial rfl
  · rintro _ _
    try simp only [↓sSeq, ↓sRet, ↓sIf, ↓sSet, ↓sOwn, ↓sAsg, ↓sDrop, ↓sNext, ↓sBreak, ↓sNever, ↓sFrz, ↓sApp, ↓sSetIx, ↓sSrc, ↓sPar, ↓sPar3, ↓sAug, ↓sNewSrc, ↓eC, ↓eTest, ↓eAnd, ↓eOr, ↓eNot, ↓eAndV, ↓eOrV, ↓eNotV, ↓eIf, ↓eChain, ↓eNeg, ↓eIx, ↓eIxS, ↓eSl, ↓oNone, ↓oSome, ↓aNil, ↓aCons, ↓eTup, ↓eLst, ↓eTupM, ↓eLstM, ↓eCB, ↓eBin, ↓x_call, ↓x_callK, ↓eSrc, ↓iSeqD, ↓iRg1, ↓iRg2, ↓iRg3, ↓iEnumD, ↓iZipD, ↓gNm, ↓gTp, ↓gsC, ↓gsN, ↓eYes, x_var0, x_var0o, x_varS, fAdd_ii, fAdd_ll, fAdd_tt, fAdd_ss, fMul_ii, fMul_li, fMul_ti, fSub_ii, fDiv_ii, fMod_ii, fPow_ii, fLt_ii, fLe_ii, fGt_ii, fGe_ii, ↓fEq, ↓fNe, ↓fIsN, ↓fNotN, x_lenL, x_lenT, x_lenS, x_lenR, x_lenC, fAbs_i, fInt_i, fInt_b, x_isi, List.set_cons_zero, List.set_cons_succ, List.getElem?_cons_zero, List.getElem?_cons_succ, items_l, items_t, okSt, mdOf, md_i, md_b, md_n, md_s, md_t, md_l, md_y, Md.isCl, Md.isNw, Md.meet, atI_0, atI_m1, atI_1, atI_2, atI_nat, cond_true, cond_false, isNon_i, isNon_n, isT_ii, isT_ib, isT_it, isT_il, isT_bi, isT_bb, isT_tt, isT_ti, isT_lt, isT_ll, isT_nt, isT_ni, isT_nl, tyN_i, tyN_b, tyN_t, tyN_l, tyN_n, dS_isT, dR_isT, dS_tyN, dR_tyN, dQ_isNon, D.flat, D.flats, flats_cons, flats_nil, flats_ints, flat_tup, putOk, slOf_f, slOf_t, Option.some.injEq, D.int.injEq, D.bl.injEq, D.lst.injEq, D.tup.injEq, D.str.injEq, D.scr.injEq, D.ty.injEq, x_consD, x_consD0, x_consD1, and_assoc, reduceCtorEq, exists_eq, exists_eq', exists_eq_left, exists_eq_left', exists_eq_right, exists_eq_right', exists_and_left, exists_and_right, and_true, true_and, and_self, and_false, false_and, or_true, true_or, or_false, false_or, if_true, if_false, ite_true, ite_false, decide_eq_true_eq, decide_eq_false_iff_not, Bool.not_eq_true, Bool.not_eq_true', Bool.not_true, Bool.not_false, Bool.true_eq_false, Bool.false_eq_true, not_true_eq_false, not_false_eq_true, eq_self_iff_true, forall_const, imp_self, List.length_cons, List.length_nil, List.append_nil, List.nil_append, List.cons_append, cpow_6, cpow_18, cpow_5, cpow_7, cpow_15, cpow_12, CMul, Nat.reduceAdd, Nat.reduceLeDiff, Nat.reduceLT, Int.reducePow, Int.reduceNeg, Int.reduceLT, Int.reduceLE, Int.reduceToNat, Int.reduceMul, Int.reduceAdd, Int.reduceSub, frzE, frz1, wipeE, all_nil, all_cons, endsF, x_start, List.map_cons, List.map_nil, List.replicate_succ, List.replicate_zero, Nat.reduceSub, Int.reduceEq, Nat.reduceEqDiff, List.mem_cons, List.not_mem_nil, x_isTs, or_self, Option.isSome_some, Option.isSome_none, String.reduceEq, dS_inj, dR_inj, dQ_inj, dQ_non, dQ_int, dS_md, dR_md, dQ_md, dS_flat, dR_flat, dQ_flat, dS_items, dR_items, List.getElem?_map, Option.map_some, Option.map_none, shp_i, shp_n, shp_b, shp_li, shp_S, shp_R, shp_lS, shp_Q, shp_l0, eqb_int, eqb_l, eqb_S, eqb_R, eqbs_ints, eqbs_dS, eqbs_nil0, eqbs_nilL, eqbs_nilR, Sl.own.injEq, Sl.val.injEq, List.length_map, dR_lst, dR_tup, dS_lst, dS_tup, flats_S, cut_map, cut_1, dR_fold, dS_fold, inI_t, inI_f, Bool.or_false, List.getLast?_map, exists_false, exists_const, Bool.and_self, Bool.and_true, Bool.true_and, Bool.and_false, Bool.false_and, add_S, List.isEmpty_map, fMax_2, fMax_3, fMin_2, flat_non, flat_i, ↓u_for, ↓u_comp, fS_v, fS_n, fS_o, shp_lli, eqbs_dL, ↓eSortSet, int_inj, fList_S, fList_R, sum_S, sum_li, x_reported, x_reportedL, x_all_reports, x_all_reportsN, x_held_by, x_held_byT, x_reports, x_reports0, x_reportsI, x_held, x_held0, x_heldI, x_largest_error, x_largest_errorI, x_is_between, x_is_sample, x_is_samples, x_distance, x_need_samples, x_need_threshold, x_need_silence, x_is_late, x_source, x_draw, x_samples, x_gap, x_limit, x_quiet, x_spread_within, x_spread_withinL, x_need_spread, x_starts_of, x_fewest_stretches, x_fewest_stretches0, x_fewest_stretchesI, x_stretches, x_stretches0, x_spread_of, x_apart, x_reports_from, x_reports_from0, x_need_thresholds, x_chained, x_all_reportsLN, x_held_byL, x_chain_reports, x_chain_held]
end VL
namespace VL
open PySem L2 PyProof.Rows
def top (i : Nat) : Stmt := PySem.Challenge.pw_deadbands_k14_whole_one_reporter_for_man.main.body.getD i (.Pass ⟨0, 0, 0, 0⟩)
abbrev s__law_source : Stmt := top 38
def ns__law_source : List Str := ["script", "index", "cell"]
theorem sc__law_source : FnScope ns__law_source ["script", "index"] (defScope s__law_source) := ⟨rfl, rfl, rfl, by decide +kernel, rfl, by decide +kernel, by decide +kernel⟩
abbrev s__law_draw : Stmt := top 39
def ns__law_draw : List Str := ["source", "size", "drawn"]
theorem sc__law_draw : FnScope ns__law_draw ["source", "size"] (defScope s__law_draw) := ⟨rfl, rfl, rfl, by decide +kernel, rfl, by decide +kernel, by decide +kernel⟩
abbrev s__law_choice : Stmt := top 40
def ns__law_choice : List Str := ["source", "items"]
theorem sc__law_choice : FnScope ns__law_choice ["source", "items"] (defScope s__law_choice) := ⟨rfl, rfl, rfl, by decide +kernel, rfl, by decide +kernel, by decide +kernel⟩
abbrev s__law_samples : Stmt := top 41
def ns__law_samples : List Str := ["source", "size", "wide", "channels", "found", "turn", "sample", "channel", "value"]
theorem sc__law_samples : FnScope ns__law_samples ["source", "size"] (defScope s__law_samples) := ⟨rfl, rfl, rfl, by decide +kernel, rfl, by decide +kernel, by decide +kernel⟩
abbrev s_is_between : Stmt := top 13
def ns_is_between : List Str := ["value", "low", "high"]
theorem sc_is_between : FnScope ns_is_between ["value", "low", "high"] (defScope s_is_between) := ⟨rfl, rfl, rfl, by decide +kernel, rfl, by decide +kernel, by decide +kernel⟩
abbrev s_is_sample : Stmt := top 14
def ns_is_sample : List Str := ["value", "channel"]
theorem sc_is_sample : FnScope ns_is_sample ["value"] (defScope s_is_sample) := ⟨rfl, rfl, rfl, by decide +kernel, rfl, by decide +kernel, by decide +kernel⟩
abbrev s_is_samples : Stmt := top 15
def ns_is_samples : List Str := ["value", "sample"]
theorem sc_is_samples : FnScope ns_is_samples ["value"] (defScope s_is_samples) := ⟨rfl, rfl, rfl, by decide +kernel, rfl, by decide +kernel, by decide +kernel⟩
abbrev s_need_samples : Stmt := top 18
def ns_need_samples : List Str := ["samples"]
theorem sc_need_samples : FnScope ns_need_samples ["samples"] (defScope s_need_samples) := ⟨rfl, rfl, rfl, by decide +kernel, rfl, by decide +kernel, by decide +kernel⟩
abbrev s_need_threshold : Stmt := top 19
def ns_need_threshold : List Str := ["threshold"]
theorem sc_need_threshold : FnScope ns_need_threshold ["threshold"] (defScope s_need_threshold) := ⟨rfl, rfl, rfl, by decide +kernel, rfl, by decide +kernel, by decide +kernel⟩
abbrev s_need_silence : Stmt := top 21
def ns_need_silence : List Str := ["silence"]
theorem sc_need_silence : FnScope ns_need_silence ["silence"] (defScope s_need_silence) := ⟨rfl, rfl, rfl, by decide +kernel, rfl, by decide +kernel, by decide +kernel⟩
abbrev s_is_late : Stmt := top 23
def ns_is_late : List Str := ["last", "index", "silence"]
theorem sc_is_late : FnScope ns_is_late ["last", "index", "silence"] (defScope s_is_late) := ⟨rfl, rfl, rfl, by decide +kernel, rfl, by decide +kernel, by decide +kernel⟩
abbrev s_distance : Stmt := top 16
def ns_distance : List Str := ["one", "other", "here", "there"]
theorem sc_distance : FnScope ns_distance ["one", "other"] (defScope s_distance) := ⟨rfl, rfl, rfl, by decide +kernel, rfl, by decide +kernel, by decide +kernel⟩
abbrev s_reported : Stmt := top 24
def ns_reported : List Str := ["samples", "threshold", "silence", "last", "value", "found", "index", "sample"]
theorem sc_reported : FnScope ns_reported ["samples", "threshold", "silence", "last", "value"] (defScope s_reported) := ⟨rfl, rfl, rfl, by decide +kernel, rfl, by decide +kernel, by decide +kernel⟩
abbrev s_all_reports : Stmt := top 25
def ns_all_reports : List Str := ["samples", "threshold", "silence", "rest", "index"]
theorem sc_all_reports : FnScope ns_all_reports ["samples", "threshold", "silence"] (defScope s_all_reports) := ⟨rfl, rfl, rfl, by decide +kernel, rfl, by decide +kernel, by decide +kernel⟩
abbrev s_reports : Stmt := top 27
def ns_reports : List Str := ["samples", "threshold", "silence"]
theorem sc_reports : FnScope ns_reports ["samples", "threshold", "silence"] (defScope s_reports) := ⟨rfl, rfl, rfl, by decide +kernel, rfl, by decide +kernel, by decide +kernel⟩
abbrev s_need_thresholds : Stmt := top 30
def ns_need_thresholds : List Str := ["thresholds", "threshold"]
theorem sc_need_thresholds : FnScope ns_need_thresholds ["thresholds"] (defScope s_need_thresholds) := ⟨rfl, rfl, rfl, by decide +kernel, rfl, by decide +kernel, by decide +kernel⟩
abbrev s_held_by : Stmt := top 26
def ns_held_by : List Str := ["samples", "indices", "found", "index"]
theorem sc_held_by : FnScope ns_held_by ["samples", "indices"] (defScope s_held_by) := ⟨rfl, rfl, rfl, by decide +kernel, rfl, by decide +kernel, by decide +kernel⟩
abbrev s_chained : Stmt := top 31
def ns_chained : List Str := ["samples", "thresholds", "indices", "threshold"]
theorem sc_chained : FnScope ns_chained ["samples", "thresholds"] (defScope s_chained) := ⟨rfl, rfl, rfl, by decide +kernel, rfl, by decide +kernel, by decide +kernel⟩
abbrev s_chain_reports : Stmt := top 32
def ns_chain_reports : List Str := ["samples", "thresholds"]
theorem sc_chain_reports : FnScope ns_chain_reports ["samples", "thresholds"] (defScope s_chain_reports) := ⟨rfl, rfl, rfl, by decide +kernel, rfl, by decide +kernel, by decide +kernel⟩
abbrev s_chain_held : Stmt := top 33
def ns_chain_held : List Str := ["samples", "thresholds"]
theorem sc_chain_held : FnScope ns_chain_held ["samples", "thresholds"] (defScope s_chain_held) := ⟨rfl, rfl, rfl, by decide +kernel, rfl, by decide +kernel, by decide +kernel⟩
abbrev s__law_gap : Stmt := top 42
def ns__law_gap : List Str := ["one", "other", "found", "here", "there"]
theorem sc__law_gap : FnScope ns__law_gap ["one", "other"] (defScope s__law_gap) := ⟨rfl, rfl, rfl, by decide +kernel, rfl, by decide +kernel, by decide +kernel⟩
abbrev s__law_limit : Stmt := top 43
def ns__law_limit : List Str := ["source", "rows", "one", "other", "size"]
theorem sc__law_limit : FnScope ns__law_limit ["source", "rows"] (defScope s__law_limit) := ⟨rfl, rfl, rfl, by decide +kernel, rfl, by decide +kernel, by decide +kernel⟩
abbrev s_need_spread : Stmt := top 20
def ns_need_spread : List Str := ["spread"]
theorem sc_need_spread : FnScope ns_need_spread ["spread"] (defScope s_need_spread) := ⟨rfl, rfl, rfl, by decide +kernel, rfl, by decide +kernel, by decide +kernel⟩
abbrev s_spread_within : Stmt := top 17
def ns_spread_within : List Str := ["samples", "found", "channel", "values", "sample"]
theorem sc_spread_within : FnScope ns_spread_within ["samples"] (defScope s_spread_within) := ⟨rfl, rfl, rfl, by decide +kernel, rfl, by decide +kernel, by decide +kernel⟩
abbrev s_starts_of : Stmt := top 35
def ns_starts_of : List Str := ["samples", "spread", "silence", "found", "index", "start"]
theorem sc_starts_of : FnScope ns_starts_of ["samples", "spread", "silence"] (defScope s_starts_of) := ⟨rfl, rfl, rfl, by decide +kernel, rfl, by decide +kernel, by decide +kernel⟩
abbrev s_fewest_stretches : Stmt := top 36
def ns_fewest_stretches : List Str := ["samples", "spread", "silence"]
theorem sc_fewest_stretches : FnScope ns_fewest_stretches ["samples", "spread", "silence"] (defScope s_fewest_stretches) := ⟨rfl, rfl, rfl, by decide +kernel, rfl, by decide +kernel, by decide +kernel⟩
abbrev s_law : Stmt := top 44
def ns_law : List Str := ["script", "k", "source", "rows", "turn", "top", "limits", "one", "found", "values", "single", "index", "value", "last"]
theorem sc_law : FnScope ns_law ["script"] (defScope s_law) := ⟨rfl, rfl, rfl, by decide +kernel, rfl, by decide +kernel, by decide +kernel⟩
/-- what the top has written -/
structure Tx (K : PySem.W.Frag) (mg : Str → Option Value) where
  f__law_source : Addr
  fd__law_source : FuncData
  F__law_source : L2.Fun K "_law_source" "_law_source" s__law_source f__law_source fd__law_source
  b__law_source : Binds K fd__law_source ["script", "index"] []
  m__law_source : mg "_law_source" = some (.ref f__law_source)
  k__law_source : PySem.W.keepIn K (.ref f__law_source) = true
  f__law_draw : Addr
  fd__law_draw : FuncData
  F__law_draw : L2.Fun K "_law_draw" "_law_draw" s__law_draw f__law_draw fd__law_draw
  b__law_draw : Binds K fd__law_draw ["source", "size"] []
  m__law_draw : mg "_law_draw" = some (.ref f__law_draw)
  k__law_draw : PySem.W.keepIn K (.ref f__law_draw) = true
  f__law_choice : Addr
  fd__law_choice : FuncData
  F__law_choice : L2.Fun K "_law_choice" "_law_choice" s__law_choice f__law_choice fd__law_choice
  b__law_choice : Binds K fd__law_choice ["source", "items"] []
  m__law_choice : mg "_law_choice" = some (.ref f__law_choice)
  k__law_choice : PySem.W.keepIn K (.ref f__law_choice) = true
  f__law_samples : Addr
  fd__law_samples : FuncData
  F__law_samples : L2.Fun K "_law_samples" "_law_samples" s__law_samples f__law_samples fd__law_samples
  b__law_samples : Binds K fd__law_samples ["source", "size"] []
  m__law_samples : mg "_law_samples" = some (.ref f__law_samples)
  k__law_samples : PySem.W.keepIn K (.ref f__law_samples) = true
  f_is_between : Addr
  fd_is_between : FuncData
  F_is_between : L2.Fun K "is_between" "is_between" s_is_between f_is_between fd_is_between
  b_is_between : Binds K fd_is_between ["value", "low", "high"] []
  m_is_between : mg "is_between" = some (.ref f_is_between)
  k_is_between : PySem.W.keepIn K (.ref f_is_between) = true
  f_is_sample : Addr
  fd_is_sample : FuncData
  F_is_sample : L2.Fun K "is_sample" "is_sample" s_is_sample f_is_sample fd_is_sample
  b_is_sample : Binds K fd_is_sample ["value"] []
  m_is_sample : mg "is_sample" = some (.ref f_is_sample)
  k_is_sample : PySem.W.keepIn K (.ref f_is_sample) = true
  f_is_samples : Addr
  fd_is_samples : FuncData
  F_is_samples : L2.Fun K "is_samples" "is_samples" s_is_samples f_is_samples fd_is_samples
  b_is_samples : Binds K fd_is_samples ["value"] []
  m_is_samples : mg "is_samples" = some (.ref f_is_samples)
  k_is_samples : PySem.W.keepIn K (.ref f_is_samples) = true
  f_need_samples : Addr
  fd_need_samples : FuncData
  F_need_samples : L2.Fun K "need_samples" "need_samples" s_need_samples f_need_samples fd_need_samples
  b_need_samples : Binds K fd_need_samples ["samples"] []
  m_need_samples : mg "need_samples" = some (.ref f_need_samples)
  k_need_samples : PySem.W.keepIn K (.ref f_need_samples) = true
  f_need_threshold : Addr
  fd_need_threshold : FuncData
  F_need_threshold : L2.Fun K "need_threshold" "need_threshold" s_need_threshold f_need_threshold fd_need_threshold
  b_need_threshold : Binds K fd_need_threshold ["threshold"] []
  m_need_threshold : mg "need_threshold" = some (.ref f_need_threshold)
  k_need_threshold : PySem.W.keepIn K (.ref f_need_threshold) = true
  f_need_silence : Addr
  fd_need_silence : FuncData
  F_need_silence : L2.Fun K "need_silence" "need_silence" s_need_silence f_need_silence fd_need_silence
  b_need_silence : Binds K fd_need_silence ["silence"] []
  m_need_silence : mg "need_silence" = some (.ref f_need_silence)
  k_need_silence : PySem.W.keepIn K (.ref f_need_silence) = true
  f_is_late : Addr
  fd_is_late : FuncData
  F_is_late : L2.Fun K "is_late" "is_late" s_is_late f_is_late fd_is_late
  b_is_late : Binds K fd_is_late ["last", "index", "silence"] []
  m_is_late : mg "is_late" = some (.ref f_is_late)
  k_is_late : PySem.W.keepIn K (.ref f_is_late) = true
  f_distance : Addr
  fd_distance : FuncData
  F_distance : L2.Fun K "distance" "distance" s_distance f_distance fd_distance
  b_distance : Binds K fd_distance ["one", "other"] []
  m_distance : mg "distance" = some (.ref f_distance)
  k_distance : PySem.W.keepIn K (.ref f_distance) = true
  f_reported : Addr
  fd_reported : FuncData
  F_reported : L2.Fun K "reported" "reported" s_reported f_reported fd_reported
  b_reported : Binds K fd_reported ["samples", "threshold", "silence", "last", "value"] []
  m_reported : mg "reported" = some (.ref f_reported)
  k_reported : PySem.W.keepIn K (.ref f_reported) = true
  f_all_reports : Addr
  fd_all_reports : FuncData
  F_all_reports : L2.Fun K "all_reports" "all_reports" s_all_reports f_all_reports fd_all_reports
  b_all_reports : Binds K fd_all_reports ["samples", "threshold", "silence"] []
  m_all_reports : mg "all_reports" = some (.ref f_all_reports)
  k_all_reports : PySem.W.keepIn K (.ref f_all_reports) = true
  f_reports : Addr
  fd_reports : FuncData
  F_reports : FunD K "reports" "reports" (defArgs s_reports) (defBody s_reports) (defScope s_reports) [] [("silence", V.non)] f_reports fd_reports
  b_reports : ∃ ds, Vals [V.non] ds ∧ Binds K fd_reports ["samples", "threshold", "silence"] ds
  kb_reports : KBn K fd_reports ["samples", "threshold", "silence"] 2 ["silence"] (fun us ws => us ++ ws) (fun vs zs => vs ++ zs)
  m_reports : mg "reports" = some (.ref f_reports)
  k_reports : PySem.W.keepIn K (.ref f_reports) = true
  f_need_thresholds : Addr
  fd_need_thresholds : FuncData
  F_need_thresholds : L2.Fun K "need_thresholds" "need_thresholds" s_need_thresholds f_need_thresholds fd_need_thresholds
  b_need_thresholds : Binds K fd_need_thresholds ["thresholds"] []
  m_need_thresholds : mg "need_thresholds" = some (.ref f_need_thresholds)
  k_need_thresholds : PySem.W.keepIn K (.ref f_need_thresholds) = true
  f_held_by : Addr
  fd_held_by : FuncData
  F_held_by : L2.Fun K "held_by" "held_by" s_held_by f_held_by fd_held_by
  b_held_by : Binds K fd_held_by ["samples", "indices"] []
  m_held_by : mg "held_by" = some (.ref f_held_by)
  k_held_by : PySem.W.keepIn K (.ref f_held_by) = true
  f_chained : Addr
  fd_chained : FuncData
  F_chained : L2.Fun K "chained" "chained" s_chained f_chained fd_chained
  b_chained : Binds K fd_chained ["samples", "thresholds"] []
  m_chained : mg "chained" = some (.ref f_chained)
  k_chained : PySem.W.keepIn K (.ref f_chained) = true
  f_chain_reports : Addr
  fd_chain_reports : FuncData
  F_chain_reports : L2.Fun K "chain_reports" "chain_reports" s_chain_reports f_chain_reports fd_chain_reports
  b_chain_reports : Binds K fd_chain_reports ["samples", "thresholds"] []
  m_chain_reports : mg "chain_reports" = some (.ref f_chain_reports)
  k_chain_reports : PySem.W.keepIn K (.ref f_chain_reports) = true
  f_chain_held : Addr
  fd_chain_held : FuncData
  F_chain_held : L2.Fun K "chain_held" "chain_held" s_chain_held f_chain_held fd_chain_held
  b_chain_held : Binds K fd_chain_held ["samples", "thresholds"] []
  m_chain_held : mg "chain_held" = some (.ref f_chain_held)
  k_chain_held : PySem.W.keepIn K (.ref f_chain_held) = true
  f__law_gap : Addr
  fd__law_gap : FuncData
  F__law_gap : L2.Fun K "_law_gap" "_law_gap" s__law_gap f__law_gap fd__law_gap
  b__law_gap : Binds K fd__law_gap ["one", "other"] []
  m__law_gap : mg "_law_gap" = some (.ref f__law_gap)
  k__law_gap : PySem.W.keepIn K (.ref f__law_gap) = true
  f__law_limit : Addr
  fd__law_limit : FuncData
  F__law_limit : L2.Fun K "_law_limit" "_law_limit" s__law_limit f__law_limit fd__law_limit
  b__law_limit : Binds K fd__law_limit ["source", "rows"] []
  m__law_limit : mg "_law_limit" = some (.ref f__law_limit)
  k__law_limit : PySem.W.keepIn K (.ref f__law_limit) = true
  f_need_spread : Addr
  fd_need_spread : FuncData
  F_need_spread : L2.Fun K "need_spread" "need_spread" s_need_spread f_need_spread fd_need_spread
  b_need_spread : Binds K fd_need_spread ["spread"] []
  m_need_spread : mg "need_spread" = some (.ref f_need_spread)
  k_need_spread : PySem.W.keepIn K (.ref f_need_spread) = true
  f_spread_within : Addr
  fd_spread_within : FuncData
  F_spread_within : L2.Fun K "spread_within" "spread_within" s_spread_within f_spread_within fd_spread_within
  b_spread_within : Binds K fd_spread_within ["samples"] []
  m_spread_within : mg "spread_within" = some (.ref f_spread_within)
  k_spread_within : PySem.W.keepIn K (.ref f_spread_within) = true
  f_starts_of : Addr
  fd_starts_of : FuncData
  F_starts_of : L2.Fun K "starts_of" "starts_of" s_starts_of f_starts_of fd_starts_of
  b_starts_of : Binds K fd_starts_of ["samples", "spread", "silence"] []
  m_starts_of : mg "starts_of" = some (.ref f_starts_of)
  k_starts_of : PySem.W.keepIn K (.ref f_starts_of) = true
  f_fewest_stretches : Addr
  fd_fewest_stretches : FuncData
  F_fewest_stretches : FunD K "fewest_stretches" "fewest_stretches" (defArgs s_fewest_stretches) (defBody s_fewest_stretches) (defScope s_fewest_stretches) [] [("silence", V.non)] f_fewest_stretches fd_fewest_stretches
  b_fewest_stretches : ∃ ds, Vals [V.non] ds ∧ Binds K fd_fewest_stretches ["samples", "spread", "silence"] ds
  kb_fewest_stretches : KBn K fd_fewest_stretches ["samples", "spread", "silence"] 2 ["silence"] (fun us ws => us ++ ws) (fun vs zs => vs ++ zs)
  m_fewest_stretches : mg "fewest_stretches" = some (.ref f_fewest_stretches)
  k_fewest_stretches : PySem.W.keepIn K (.ref f_fewest_stretches) = true
  f_law : Addr
  fd_law : FuncData
  F_law : L2.Fun K "law" "law" s_law f_law fd_law
  m_law : mg "law" = some (.ref f_law)
  k_law : PySem.W.keepIn K (.ref f_law) = true
  tk_MOST_CHANNELS : Tok
  g_MOST_CHANNELS : mg "MOST_CHANNELS" = some (.int 3 tk_MOST_CHANNELS)
  tk_MOST_VALUE : Tok
  g_MOST_VALUE : mg "MOST_VALUE" = some (.int 1000000 tk_MOST_VALUE)
  tk_MOST_SAMPLES : Tok
  g_MOST_SAMPLES : mg "MOST_SAMPLES" = some (.int 40 tk_MOST_SAMPLES)
  tk_MOST_THRESHOLD : Tok
  g_MOST_THRESHOLD : mg "MOST_THRESHOLD" = some (.int 10000000 tk_MOST_THRESHOLD)
  tk_MOST_SILENCE : Tok
  g_MOST_SILENCE : mg "MOST_SILENCE" = some (.int 60 tk_MOST_SILENCE)
  tk_MOST_REPORTERS : Tok
  g_MOST_REPORTERS : mg "MOST_REPORTERS" = some (.int 5 tk_MOST_REPORTERS)
  b_len : mg "len" = none
  b_abs : mg "abs" = none
  b_int : mg "int" = none
  b_range : mg "range" = none
  b_tuple : mg "tuple" = none
  b_max : mg "max" = none
  b_min : mg "min" = none
  b_isinstance : mg "isinstance" = none
  b_bool : mg "bool" = none
  b_all : mg "all" = none
  b_zip : mg "zip" = none
  b_enumerate : mg "enumerate" = none
  b_sum : mg "sum" = none
section
variable {P : Program} {w : World} {K : PySem.W.Frag} {mg : Str → Option Value} {base : Heap}
theorem ok__law_source (T : Tx K mg) : FnOk P w K mg base CX0 1 T.f__law_source T.fd__law_source ["script", "index"] (spOf K true c__law_source) :=
  fn_V T.F__law_source sc__law_source (fun ds q h => by first | (obtain ⟨rfl, _⟩ := h; rfl) | (obtain ⟨_, rfl, _⟩ := h; rfl) | (obtain ⟨_, _, rfl, _⟩ := h; rfl) | (obtain ⟨_, _, _, rfl, _⟩ := h; rfl) | (obtain ⟨_, _, _, _, rfl, _⟩ := h; rfl) | (obtain ⟨_, _, _, _, _, rfl, _⟩ := h; rfl) | (obtain ⟨_, _, _, _, _, _, rfl, _⟩ := h; rfl)) fun cdv A outer s H E hr => ⟨t__law_source,
    (vss_cons (vs_set (i := 2) sc__law_source.nd rfl (by first | exact Or.inl rfl | exact Or.inr rfl) ve_int) (vss_cons (vs_if (vt_lt (vv 1) (ve_callB fLen_ok fLen_mono call_len_seq (by rfl) T.b_len (by decide +kernel) (va_cons (vv 0) va_nil))) (vss_one (vs_set (i := 2) sc__law_source.nd rfl (by first | exact Or.inl rfl | exact Or.inr rfl) (ve_callB fAbs_ok fAbs_mono call_abs (by rfl) T.b_abs (by decide +kernel) (va_cons (ve_ixS (vv 0) (vv 1) (fun _ _ => rfl)) va_nil)))) vss_nil) (vss_cons (vs_if (vt_lt (vv 2) (ve_pow ve_int ve_int)) (vss_one (vs_ret (ve_lst (va_cons ve_int (va_cons (ve_add ve_int (ve_mod (ve_callTy fInt_ok fInt_mono call_int1 (by rfl) T.b_int (by decide +kernel) (va_cons (ve_add (ve_mul (vv 2) ve_int) (ve_mul ve_int (vv 1))) va_nil)) ve_int)) va_nil))))) vss_nil) (vss_one (vs_ret (ve_lst (va_cons (vv 2) (va_cons (ve_add ve_int (ve_mod (ve_callTy fInt_ok fInt_mono call_int1 (by rfl) T.b_int (by decide +kernel) (va_cons (ve_add (vv 2) (vv 1)) va_nil)) ve_int)) va_nil)))))))), w__law_source⟩
theorem ok__law_draw (T : Tx K mg) : FnOk P w K mg base CX0 1 T.f__law_draw T.fd__law_draw ["source", "size"] (spOf K true c__law_draw) :=
  fn_V T.F__law_draw sc__law_draw (fun ds q h => by first | (obtain ⟨rfl, _⟩ := h; rfl) | (obtain ⟨_, rfl, _⟩ := h; rfl) | (obtain ⟨_, _, rfl, _⟩ := h; rfl) | (obtain ⟨_, _, _, rfl, _⟩ := h; rfl) | (obtain ⟨_, _, _, _, rfl, _⟩ := h; rfl) | (obtain ⟨_, _, _, _, _, rfl, _⟩ := h; rfl) | (obtain ⟨_, _, _, _, _, _, rfl, _⟩ := h; rfl)) fun cdv A outer s H E hr => ⟨t__law_draw,
    (vss_cons (vs_if (vt_gt (ve_src (pv 0) ve_int (fun _ _ => rfl)) ve_int) (vss_cons (vs_set (i := 2) sc__law_draw.nd rfl (by first | exact Or.inl rfl | exact Or.inr rfl) (ve_mod (ve_callTy fInt_ok fInt_mono call_int1 (by rfl) T.b_int (by decide +kernel) (va_cons (ve_src (pv 0) ve_int (fun _ _ => rfl)) va_nil)) (vv 1))) (vss_cons (vs_src (pv 0) (ve_fdiv (ve_src (pv 0) ve_int (fun _ _ => rfl)) (vv 1)) ve_int (pg_sub (pv 0) ve_int.pe set_list)) (vss_one (vs_ret (vv 2))))) vss_nil) (vss_cons (vs_src (pv 0) (ve_mod (ve_callTy fInt_ok fInt_mono call_int1 (by rfl) T.b_int (by decide +kernel) (va_cons (ve_mul (ve_src (pv 0) ve_int (fun _ _ => rfl)) ve_int) va_nil)) ve_int) ve_int (pg_sub (pv 0) ve_int.pe set_list)) (vss_one (vs_ret (ve_mod (ve_callTy fInt_ok fInt_mono call_int1 (by rfl) T.b_int (by decide +kernel) (va_cons (ve_fdiv (ve_mod (ve_callTy fInt_ok fInt_mono call_int1 (by rfl) T.b_int (by decide +kernel) (va_cons (ve_mul (ve_src (pv 0) ve_int (fun _ _ => rfl)) (ve_src (pv 0) ve_int (fun _ _ => rfl))) va_nil)) ve_int) ve_int) va_nil)) (vv 1)))))), w__law_draw⟩
theorem ok__law_choice (T : Tx K mg) : FnOk P w K mg base CX0 2 T.f__law_choice T.fd__law_choice ["source", "items"] (spOf K true c__law_choice) :=
  fn_V T.F__law_choice sc__law_choice (fun ds q h => by first | (obtain ⟨rfl, _⟩ := h; rfl) | (obtain ⟨_, rfl, _⟩ := h; rfl) | (obtain ⟨_, _, rfl, _⟩ := h; rfl) | (obtain ⟨_, _, _, rfl, _⟩ := h; rfl) | (obtain ⟨_, _, _, _, rfl, _⟩ := h; rfl) | (obtain ⟨_, _, _, _, _, rfl, _⟩ := h; rfl) | (obtain ⟨_, _, _, _, _, _, rfl, _⟩ := h; rfl)) fun cdv A outer s H E hr => ⟨t__law_choice,
    (vss_one (vs_ret (ve_ix (vv 1) (ve_call (ok__law_draw T) m__law_draw (hr.mono (by decide)) (by rfl) T.m__law_draw T.k__law_draw T.b__law_draw .nil rvs_nil0 (va_cons (vv 0) (va_cons (ve_callB fLen_ok fLen_mono call_len_seq (by rfl) T.b_len (by decide +kernel) (va_cons (vv 1) va_nil)) va_nil))) (fun _ _ => rfl)))), w__law_choice⟩
theorem ok__law_samples (T : Tx K mg) : FnOk P w K mg base CX0 3 T.f__law_samples T.fd__law_samples ["source", "size"] (spOf K true c__law_samples) :=
  fn_V T.F__law_samples sc__law_samples (fun ds q h => by first | (obtain ⟨rfl, _⟩ := h; rfl) | (obtain ⟨_, rfl, _⟩ := h; rfl) | (obtain ⟨_, _, rfl, _⟩ := h; rfl) | (obtain ⟨_, _, _, rfl, _⟩ := h; rfl) | (obtain ⟨_, _, _, _, rfl, _⟩ := h; rfl) | (obtain ⟨_, _, _, _, _, rfl, _⟩ := h; rfl) | (obtain ⟨_, _, _, _, _, _, rfl, _⟩ := h; rfl)) fun cdv A outer s H E hr => ⟨t__law_samples,
    (vss_cons (vs_set (i := 2) sc__law_samples.nd rfl (by first | exact Or.inl rfl | exact Or.inr rfl) (ve_call (ok__law_choice T) m__law_choice (hr.mono (by decide)) (by rfl) T.m__law_choice T.k__law_choice T.b__law_choice .nil rvs_nil0 (va_cons (vv 0) (va_cons (ve_lst (va_cons ve_int (va_cons ve_int (va_cons ve_int (va_cons ve_int (va_cons ve_int (va_cons (ve_pow ve_int ve_int) va_nil))))))) va_nil)))) (vss_cons (vs_par (i := 3) (j := 4) false true rfl sc__law_samples.nd rfl rfl (by decide) rfl rfl (ve_call (ok__law_choice T) m__law_choice (hr.mono (by decide)) (by rfl) T.m__law_choice T.k__law_choice T.b__law_choice .nil rvs_nil0 (va_cons (vv 0) (va_cons (ve_lst (va_cons ve_int (va_cons ve_int (va_cons ve_int (va_cons ve_int (va_cons ve_int va_nil)))))) va_nil))) (ve_lst va_nil) rfl rfl (by rfl)) (vss_cons (vs_for [5, 6, 7, 8] PassesOwn.never rfl (vi_rg1 (by rfl) T.b_range (va_cons (ve_add ve_int (ve_call (ok__law_draw T) m__law_draw (hr.mono (by decide)) (by rfl) T.m__law_draw T.k__law_draw T.b__law_draw .nil rvs_nil0 (va_cons (vv 0) (va_cons (vv 1) va_nil)))) va_nil)) (vg_name (i := 5) sc__law_samples.nd rfl (by first | exact Or.inl rfl | exact Or.inr rfl)) (vss_cons (vs_set (i := 6) sc__law_samples.nd rfl (by first | exact Or.inl rfl | exact Or.inr rfl) (ve_tup va_nil)) (vss_cons (vs_for [7, 8] PassesOwn.never rfl (vi_rg1 (by rfl) T.b_range (va_cons (vv 3) va_nil)) (vg_name (i := 7) sc__law_samples.nd rfl (by first | exact Or.inl rfl | exact Or.inr rfl)) (vss_cons (vs_set (i := 8) sc__law_samples.nd rfl (by first | exact Or.inl rfl | exact Or.inr rfl) (ve_sub (ve_call (ok__law_draw T) m__law_draw (hr.mono (by decide)) (by rfl) T.m__law_draw T.k__law_draw T.b__law_draw .nil rvs_nil0 (va_cons (vv 0) (va_cons (ve_add (ve_mul ve_int (vv 2)) ve_int) va_nil))) (vv 2))) (vss_cons (vs_if (vt_w (vw_and (vt_ne hr.units (vv 4) (ve_lst va_nil)) (vw_and1 (vt_eq hr.units (ve_call (ok__law_draw T) m__law_draw (hr.mono (by decide)) (by rfl) T.m__law_draw T.k__law_draw T.b__law_draw .nil rvs_nil0 (va_cons (vv 0) (va_cons ve_int va_nil))) ve_int)))) (vss_one (vs_set (i := 8) sc__law_samples.nd rfl (by first | exact Or.inl rfl | exact Or.inr rfl) (ve_sub (ve_add (ve_ix (ve_ix (vv 4) (ve_neg ve_int) (fun _ _ => rfl)) (vv 7) (fun _ _ => rfl)) (ve_call (ok__law_draw T) m__law_draw (hr.mono (by decide)) (by rfl) T.m__law_draw T.k__law_draw T.b__law_draw .nil rvs_nil0 (va_cons (vv 0) (va_cons ve_int va_nil)))) ve_int))) vss_nil) (vss_one (vs_set (i := 6) sc__law_samples.nd rfl (by first | exact Or.inl rfl | exact Or.inr rfl) (ve_add (vv 6) (ve_tup (va_cons (ve_callB fMax_ok fMax_mono (call_maxA rfl) (by rfl) T.b_max (by decide +kernel) (va_cons (ve_neg (ve_pow ve_int ve_int)) (va_cons (ve_callB fMin_ok fMin_mono (call_minA rfl) (by rfl) T.b_min (by decide +kernel) (va_cons (ve_pow ve_int ve_int) (va_cons (vv 8) va_nil))) va_nil))) va_nil)))))))) (vss_one (vs_app (pv 4) (vv 6) (pe_bm PySem.F.plainAttrs_list PySem.F.slot_list_append PySem.F.type_list_append mt_append (pv 4) (pa_cons (vv 6).pe pa_nil))))))) (vss_one (vs_ret (ve_callTy fTuple_ok fTuple_mono call_tuple_of (by rfl) T.b_tuple (by decide +kernel) (va_cons (vv 4) va_nil))))))), w__law_samples⟩
theorem ok_is_between (T : Tx K mg) : FnOk P w K mg base CX0 1 T.f_is_between T.fd_is_between ["value", "low", "high"] (spOf K true c_is_between) :=
  fn_V T.F_is_between sc_is_between (fun ds q h => by first | (obtain ⟨rfl, _⟩ := h; rfl) | (obtain ⟨_, rfl, _⟩ := h; rfl) | (obtain ⟨_, _, rfl, _⟩ := h; rfl) | (obtain ⟨_, _, _, rfl, _⟩ := h; rfl) | (obtain ⟨_, _, _, _, rfl, _⟩ := h; rfl) | (obtain ⟨_, _, _, _, _, rfl, _⟩ := h; rfl) | (obtain ⟨_, _, _, _, _, _, rfl, _⟩ := h; rfl)) fun cdv A outer s H E hr => ⟨t_is_between,
    (vss_one (vs_ret (ve_and (ve_callB fIsi_ok fIsi_mono call_isi (by rfl) T.b_isinstance (by decide +kernel) (va_cons (vv 0) (va_cons (ve_ty (by rfl) T.b_int (by decide +kernel)) va_nil))) (ve_and (ve_not (ve_callB fIsi_ok fIsi_mono call_isi (by rfl) T.b_isinstance (by decide +kernel) (va_cons (vv 0) (va_cons (ve_ty (by rfl) T.b_bool (by decide +kernel)) va_nil)))) (ve_one (ve_le_le (vv 1) (vv 0) (vv 2))))))), w_is_between⟩
theorem ok_is_sample (T : Tx K mg) : FnOk P w K mg base CX0 2 T.f_is_sample T.fd_is_sample ["value"] (spOf K true c_is_sample) :=
  fn_V T.F_is_sample sc_is_sample (fun ds q h => by first | (obtain ⟨rfl, _⟩ := h; rfl) | (obtain ⟨_, rfl, _⟩ := h; rfl) | (obtain ⟨_, _, rfl, _⟩ := h; rfl) | (obtain ⟨_, _, _, rfl, _⟩ := h; rfl) | (obtain ⟨_, _, _, _, rfl, _⟩ := h; rfl) | (obtain ⟨_, _, _, _, _, rfl, _⟩ := h; rfl) | (obtain ⟨_, _, _, _, _, _, rfl, _⟩ := h; rfl)) fun cdv A outer s H E hr => ⟨t_is_sample,
    (vss_cons (vs_if (vt_w (vw_or (vt_not (vt_val (ve_callB fIsi_ok fIsi_mono call_isi (by rfl) T.b_isinstance (by decide +kernel) (va_cons (vv 0) (va_cons (ve_ty (by rfl) T.b_tuple (by decide +kernel)) va_nil))))) (vw_or1 (vt_not (vt_le_le ve_int (ve_callB fLen_ok fLen_mono call_len_seq (by rfl) T.b_len (by decide +kernel) (va_cons (vv 0) va_nil)) (ve_glob rfl T.g_MOST_CHANNELS ⟨_, rfl⟩)))))) (vss_one (vs_ret ve_bl)) vss_nil) (vss_one (vs_ret (ve_callB fAll_ok fAll_mono (cr_all rfl) (by rfl) T.b_all (by decide +kernel) (va_cons (ve_lc (own := [("channel", 1)]) rfl sc_is_sample.nd (vi_seq (vv 0)) (blkOk_by (own := [("channel", 1)]) (N := ns_is_sample) (by rfl)) (fun _ _ _ _ _ => (vg_name (i := 1) sc_is_sample.nd rfl (by first | exact Or.inl rfl | exact Or.inr rfl))) (fun _ _ _ _ _ => vts_nil) (fun _ _ _ _ _ => (ve_call (ok_is_between T) m_is_between (hr.mono (by decide)) (by rfl) T.m_is_between T.k_is_between T.b_is_between .nil rvs_nil0 (va_cons (vv 1) (va_cons (ve_sub ve_int (ve_glob rfl T.g_MOST_VALUE ⟨_, rfl⟩)) (va_cons (ve_glob rfl T.g_MOST_VALUE ⟨_, rfl⟩) va_nil))))) (by decide)) va_nil))))), w_is_sample⟩
theorem ok_is_samples (T : Tx K mg) : FnOk P w K mg base CX0 3 T.f_is_samples T.fd_is_samples ["value"] (spOf K true c_is_samples) :=
  fn_V T.F_is_samples sc_is_samples (fun ds q h => by first | (obtain ⟨rfl, _⟩ := h; rfl) | (obtain ⟨_, rfl, _⟩ := h; rfl) | (obtain ⟨_, _, rfl, _⟩ := h; rfl) | (obtain ⟨_, _, _, rfl, _⟩ := h; rfl) | (obtain ⟨_, _, _, _, rfl, _⟩ := h; rfl) | (obtain ⟨_, _, _, _, _, rfl, _⟩ := h; rfl) | (obtain ⟨_, _, _, _, _, _, rfl, _⟩ := h; rfl)) fun cdv A outer s H E hr => ⟨t_is_samples,
    (vss_cons (vs_if (vt_w (vw_or (vt_not (vt_val (ve_callB fIsi_ok fIsi_mono call_isi (by rfl) T.b_isinstance (by decide +kernel) (va_cons (vv 0) (va_cons (ve_ty (by rfl) T.b_tuple (by decide +kernel)) va_nil))))) (vw_or1 (vt_not (vt_le_le ve_int (ve_callB fLen_ok fLen_mono call_len_seq (by rfl) T.b_len (by decide +kernel) (va_cons (vv 0) va_nil)) (ve_glob rfl T.g_MOST_SAMPLES ⟨_, rfl⟩)))))) (vss_one (vs_ret ve_bl)) vss_nil) (vss_cons (vs_if (vt_not (vt_val (ve_callB fAll_ok fAll_mono (cr_all rfl) (by rfl) T.b_all (by decide +kernel) (va_cons (ve_lc (own := [("sample", 1)]) rfl sc_is_samples.nd (vi_seq (vv 0)) (blkOk_by (own := [("sample", 1)]) (N := ns_is_samples) (by rfl)) (fun _ _ _ _ _ => (vg_name (i := 1) sc_is_samples.nd rfl (by first | exact Or.inl rfl | exact Or.inr rfl))) (fun _ _ _ _ _ => vts_nil) (fun _ _ _ _ _ => (ve_call (ok_is_sample T) m_is_sample (hr.mono (by decide)) (by rfl) T.m_is_sample T.k_is_sample T.b_is_sample .nil rvs_nil0 (va_cons (vv 1) va_nil))) (by decide)) va_nil)))) (vss_one (vs_ret ve_bl)) vss_nil) (vss_one (vs_ret (ve_callB fAll_ok fAll_mono (cr_all rfl) (by rfl) T.b_all (by decide +kernel) (va_cons (ve_lc (own := [("sample", 1)]) rfl sc_is_samples.nd (vi_seq (vv 0)) (blkOk_by (own := [("sample", 1)]) (N := ns_is_samples) (by rfl)) (fun _ _ _ _ _ => (vg_name (i := 1) sc_is_samples.nd rfl (by first | exact Or.inl rfl | exact Or.inr rfl))) (fun _ _ _ _ _ => vts_nil) (fun _ _ _ _ _ => (ve_eq hr.units (ve_callB fLen_ok fLen_mono call_len_seq (by rfl) T.b_len (by decide +kernel) (va_cons (vv 1) va_nil)) (ve_callB fLen_ok fLen_mono call_len_seq (by rfl) T.b_len (by decide +kernel) (va_cons (ve_ix (vv 0) ve_int (fun _ _ => rfl)) va_nil)))) (by decide)) va_nil)))))), w_is_samples⟩
theorem ok_need_samples (T : Tx K mg) : FnOk P w K mg base CX0 4 T.f_need_samples T.fd_need_samples ["samples"] (spOf K true c_need_samples) :=
  fn_V T.F_need_samples sc_need_samples (fun ds q h => by first | (obtain ⟨rfl, _⟩ := h; rfl) | (obtain ⟨_, rfl, _⟩ := h; rfl) | (obtain ⟨_, _, rfl, _⟩ := h; rfl) | (obtain ⟨_, _, _, rfl, _⟩ := h; rfl) | (obtain ⟨_, _, _, _, rfl, _⟩ := h; rfl) | (obtain ⟨_, _, _, _, _, rfl, _⟩ := h; rfl) | (obtain ⟨_, _, _, _, _, _, rfl, _⟩ := h; rfl)) fun cdv A outer s H E hr => ⟨t_need_samples,
    (vss_one (vs_if (vt_not (vt_val (ve_call (ok_is_samples T) m_is_samples (hr.mono (by decide)) (by rfl) T.m_is_samples T.k_is_samples T.b_is_samples .nil rvs_nil0 (va_cons (vv 0) va_nil)))) (vss_one vs_never) vss_nil)), w_need_samples⟩
theorem ok_need_threshold (T : Tx K mg) : FnOk P w K mg base CX0 2 T.f_need_threshold T.fd_need_threshold ["threshold"] (spOf K true c_need_threshold) :=
  fn_V T.F_need_threshold sc_need_threshold (fun ds q h => by first | (obtain ⟨rfl, _⟩ := h; rfl) | (obtain ⟨_, rfl, _⟩ := h; rfl) | (obtain ⟨_, _, rfl, _⟩ := h; rfl) | (obtain ⟨_, _, _, rfl, _⟩ := h; rfl) | (obtain ⟨_, _, _, _, rfl, _⟩ := h; rfl) | (obtain ⟨_, _, _, _, _, rfl, _⟩ := h; rfl) | (obtain ⟨_, _, _, _, _, _, rfl, _⟩ := h; rfl)) fun cdv A outer s H E hr => ⟨t_need_threshold,
    (vss_one (vs_if (vt_not (vt_val (ve_call (ok_is_between T) m_is_between (hr.mono (by decide)) (by rfl) T.m_is_between T.k_is_between T.b_is_between .nil rvs_nil0 (va_cons (vv 0) (va_cons ve_int (va_cons (ve_glob rfl T.g_MOST_THRESHOLD ⟨_, rfl⟩) va_nil)))))) (vss_one vs_never) vss_nil)), w_need_threshold⟩
theorem ok_need_silence (T : Tx K mg) : FnOk P w K mg base CX0 2 T.f_need_silence T.fd_need_silence ["silence"] (spOf K true c_need_silence) :=
  fn_V T.F_need_silence sc_need_silence (fun ds q h => by first | (obtain ⟨rfl, _⟩ := h; rfl) | (obtain ⟨_, rfl, _⟩ := h; rfl) | (obtain ⟨_, _, rfl, _⟩ := h; rfl) | (obtain ⟨_, _, _, rfl, _⟩ := h; rfl) | (obtain ⟨_, _, _, _, rfl, _⟩ := h; rfl) | (obtain ⟨_, _, _, _, _, rfl, _⟩ := h; rfl) | (obtain ⟨_, _, _, _, _, _, rfl, _⟩ := h; rfl)) fun cdv A outer s H E hr => ⟨t_need_silence,
    (vss_one (vs_if (vt_w (vw_and (vt_isnot (vv 0) ve_non) (vw_and1 (vt_not (vt_val (ve_call (ok_is_between T) m_is_between (hr.mono (by decide)) (by rfl) T.m_is_between T.k_is_between T.b_is_between .nil rvs_nil0 (va_cons (vv 0) (va_cons ve_int (va_cons (ve_glob rfl T.g_MOST_SILENCE ⟨_, rfl⟩) va_nil))))))))) (vss_one vs_never) vss_nil)), w_need_silence⟩
theorem ok_is_late (T : Tx K mg) : FnOk P w K mg base CX0 1 T.f_is_late T.fd_is_late ["last", "index", "silence"] (spOf K true c_is_late) :=
  fn_V T.F_is_late sc_is_late (fun ds q h => by first | (obtain ⟨rfl, _⟩ := h; rfl) | (obtain ⟨_, rfl, _⟩ := h; rfl) | (obtain ⟨_, _, rfl, _⟩ := h; rfl) | (obtain ⟨_, _, _, rfl, _⟩ := h; rfl) | (obtain ⟨_, _, _, _, rfl, _⟩ := h; rfl) | (obtain ⟨_, _, _, _, _, rfl, _⟩ := h; rfl) | (obtain ⟨_, _, _, _, _, _, rfl, _⟩ := h; rfl)) fun cdv A outer s H E hr => ⟨t_is_late,
    (vss_one (vs_ret (ve_and (ve_isnot (vv 2) ve_non) (ve_one (ve_ge (ve_sub (vv 1) (vv 0)) (vv 2)))))), w_is_late⟩
theorem ok_distance (T : Tx K mg) : FnOk P w K mg base CX0 1 T.f_distance T.fd_distance ["one", "other"] (spOf K true c_distance) :=
  fn_V T.F_distance sc_distance (fun ds q h => by first | (obtain ⟨rfl, _⟩ := h; rfl) | (obtain ⟨_, rfl, _⟩ := h; rfl) | (obtain ⟨_, _, rfl, _⟩ := h; rfl) | (obtain ⟨_, _, _, rfl, _⟩ := h; rfl) | (obtain ⟨_, _, _, _, rfl, _⟩ := h; rfl) | (obtain ⟨_, _, _, _, _, rfl, _⟩ := h; rfl) | (obtain ⟨_, _, _, _, _, _, rfl, _⟩ := h; rfl)) fun cdv A outer s H E hr => ⟨t_distance,
    (vss_one (vs_ret (ve_callB fMax_ok fMax_mono (call_maxA rfl) (by rfl) T.b_max (by decide +kernel) (va_cons (ve_lc (own := [("here", 2), ("there", 3)]) rfl sc_distance.nd (vi_zip (by rfl) T.b_zip (va_cons (vv 0) (va_cons (vv 1) va_nil))) (blkOk_by (own := [("here", 2), ("there", 3)]) (N := ns_distance) (by rfl)) (fun _ _ _ _ _ => (vg_tup rfl (vgs_cons (vg_name (i := 2) sc_distance.nd rfl (by first | exact Or.inl rfl | exact Or.inr rfl)) (vgs_cons (vg_name (i := 3) sc_distance.nd rfl (by first | exact Or.inl rfl | exact Or.inr rfl)) vgs_nil)))) (fun _ _ _ _ _ => vts_nil) (fun _ _ _ _ _ => (ve_callB fAbs_ok fAbs_mono call_abs (by rfl) T.b_abs (by decide +kernel) (va_cons (ve_sub (vv 2) (vv 3)) va_nil))) (by decide)) va_nil)))), w_distance⟩
theorem ok_reported (T : Tx K mg) : FnOk P w K mg base CX0 2 T.f_reported T.fd_reported ["samples", "threshold", "silence", "last", "value"] (spOf K true c_reported) :=
  fn_V T.F_reported sc_reported (fun ds q h => by first | (obtain ⟨rfl, _⟩ := h; rfl) | (obtain ⟨_, rfl, _⟩ := h; rfl) | (obtain ⟨_, _, rfl, _⟩ := h; rfl) | (obtain ⟨_, _, _, rfl, _⟩ := h; rfl) | (obtain ⟨_, _, _, _, rfl, _⟩ := h; rfl) | (obtain ⟨_, _, _, _, _, rfl, _⟩ := h; rfl) | (obtain ⟨_, _, _, _, _, _, rfl, _⟩ := h; rfl)) fun cdv A outer s H E hr => ⟨t_reported,
    (vss_cons (vs_own (i := 5) sc_reported.nd rfl (by first | exact Or.inl rfl | exact Or.inr rfl) (ve_lst va_nil)) (vss_cons (vs_for [6, 7] PassesOwn.never rfl (vi_enum (by rfl) T.b_enumerate (va_cons (vv 0) va_nil)) (vg_tup rfl (vgs_cons (vg_name (i := 6) sc_reported.nd rfl (by first | exact Or.inl rfl | exact Or.inr rfl)) (vgs_cons (vg_name (i := 7) sc_reported.nd rfl (by first | exact Or.inl rfl | exact Or.inr rfl)) vgs_nil))) (vss_one (vs_if (vt_w (vw_or (vt_gt (ve_call (ok_distance T) m_distance (hr.mono (by decide)) (by rfl) T.m_distance T.k_distance T.b_distance .nil rvs_nil0 (va_cons (vv 7) (va_cons (vv 4) va_nil))) (vv 1)) (vw_or1 (vt_val (ve_call (ok_is_late T) m_is_late (hr.mono (by decide)) (by rfl) T.m_is_late T.k_is_late T.b_is_late .nil rvs_nil0 (va_cons (vv 3) (va_cons (vv 6) (va_cons (vv 2) va_nil)))))))) (vss_cons (vs_par (i := 3) (j := 4) false false rfl sc_reported.nd rfl rfl (by decide) rfl rfl (vv 6) (vv 7) rfl rfl (by rfl)) (vss_one (vs_app (pv 5) (vv 6) (pe_bm PySem.F.plainAttrs_list PySem.F.slot_list_append PySem.F.type_list_append mt_append (pv 5) (pa_cons (vv 6).pe pa_nil))))) vss_nil))) (vss_one (vs_ret (vv 5))))), w_reported⟩
theorem ok_all_reports (T : Tx K mg) : FnOk P w K mg base CX0 3 T.f_all_reports T.fd_all_reports ["samples", "threshold", "silence"] (spOf K true c_all_reports) :=
  fn_V T.F_all_reports sc_all_reports (fun ds q h => by first | (obtain ⟨rfl, _⟩ := h; rfl) | (obtain ⟨_, rfl, _⟩ := h; rfl) | (obtain ⟨_, _, rfl, _⟩ := h; rfl) | (obtain ⟨_, _, _, rfl, _⟩ := h; rfl) | (obtain ⟨_, _, _, _, rfl, _⟩ := h; rfl) | (obtain ⟨_, _, _, _, _, rfl, _⟩ := h; rfl) | (obtain ⟨_, _, _, _, _, _, rfl, _⟩ := h; rfl)) fun cdv A outer s H E hr => ⟨t_all_reports,
    (vss_cons (vs_set (i := 3) sc_all_reports.nd rfl (by first | exact Or.inl rfl | exact Or.inr rfl) (ve_call (ok_reported T) m_reported (hr.mono (by decide)) (by rfl) T.m_reported T.k_reported T.b_reported .nil rvs_nil0 (va_cons (ve_sl (vv 0) (vo_some ve_int) vo_none) (va_cons (vv 1) (va_cons (vv 2) (va_cons (ve_neg ve_int) (va_cons (ve_ix (vv 0) ve_int (fun _ _ => rfl)) va_nil))))))) (vss_one (vs_ret (ve_add (ve_lst (va_cons ve_int va_nil)) (ve_lc (own := [("index", 4)]) rfl sc_all_reports.nd (vi_seq (vv 3)) (blkOk_by (own := [("index", 4)]) (N := ns_all_reports) (by rfl)) (fun _ _ _ _ _ => (vg_name (i := 4) sc_all_reports.nd rfl (by first | exact Or.inl rfl | exact Or.inr rfl))) (fun _ _ _ _ _ => vts_nil) (fun _ _ _ _ _ => (ve_add (vv 4) ve_int)) (by decide)))))), w_all_reports⟩
theorem ok_reports (T : Tx K mg) : FnOk P w K mg base CX0 5 T.f_reports T.fd_reports ["samples", "threshold", "silence"] (spOf K true c_reports) :=
  fn_VD T.F_reports sc_reports (fun ds q h => by first | (obtain ⟨rfl, _⟩ := h; rfl) | (obtain ⟨_, rfl, _⟩ := h; rfl) | (obtain ⟨_, _, rfl, _⟩ := h; rfl) | (obtain ⟨_, _, _, rfl, _⟩ := h; rfl) | (obtain ⟨_, _, _, _, rfl, _⟩ := h; rfl) | (obtain ⟨_, _, _, _, _, rfl, _⟩ := h; rfl) | (obtain ⟨_, _, _, _, _, _, rfl, _⟩ := h; rfl)) fun cdv A outer s H E hr => ⟨t_reports,
    (vss_cons (vs_drop (ve_call (ok_need_samples T) m_need_samples (hr.mono (by decide)) (by rfl) T.m_need_samples T.k_need_samples T.b_need_samples .nil rvs_nil0 (va_cons (vv 0) va_nil))) (vss_cons (vs_drop (ve_call (ok_need_threshold T) m_need_threshold (hr.mono (by decide)) (by rfl) T.m_need_threshold T.k_need_threshold T.b_need_threshold .nil rvs_nil0 (va_cons (vv 1) va_nil))) (vss_cons (vs_drop (ve_call (ok_need_silence T) m_need_silence (hr.mono (by decide)) (by rfl) T.m_need_silence T.k_need_silence T.b_need_silence .nil rvs_nil0 (va_cons (vv 2) va_nil))) (vss_one (vs_ret (ve_call (ok_all_reports T) m_all_reports (hr.mono (by decide)) (by rfl) T.m_all_reports T.k_all_reports T.b_all_reports .nil rvs_nil0 (va_cons (vv 0) (va_cons (vv 1) (va_cons (vv 2) va_nil))))))))), w_reports⟩
theorem ok_need_thresholds (T : Tx K mg) : FnOk P w K mg base CX0 2 T.f_need_thresholds T.fd_need_thresholds ["thresholds"] (spOf K true c_need_thresholds) :=
  fn_V T.F_need_thresholds sc_need_thresholds (fun ds q h => by first | (obtain ⟨rfl, _⟩ := h; rfl) | (obtain ⟨_, rfl, _⟩ := h; rfl) | (obtain ⟨_, _, rfl, _⟩ := h; rfl) | (obtain ⟨_, _, _, rfl, _⟩ := h; rfl) | (obtain ⟨_, _, _, _, rfl, _⟩ := h; rfl) | (obtain ⟨_, _, _, _, _, rfl, _⟩ := h; rfl) | (obtain ⟨_, _, _, _, _, _, rfl, _⟩ := h; rfl)) fun cdv A outer s H E hr => ⟨t_need_thresholds,
    (vss_cons (vs_if (vt_w (vw_or (vt_not (vt_val (ve_callB fIsi_ok fIsi_mono call_isi (by rfl) T.b_isinstance (by decide +kernel) (va_cons (vv 0) (va_cons (ve_ty (by rfl) T.b_tuple (by decide +kernel)) va_nil))))) (vw_or1 (vt_not (vt_le_le ve_int (ve_callB fLen_ok fLen_mono call_len_seq (by rfl) T.b_len (by decide +kernel) (va_cons (vv 0) va_nil)) (ve_glob rfl T.g_MOST_REPORTERS ⟨_, rfl⟩)))))) (vss_one vs_never) vss_nil) (vss_one (vs_if (vt_not (vt_val (ve_callB fAll_ok fAll_mono (cr_all rfl) (by rfl) T.b_all (by decide +kernel) (va_cons (ve_lc (own := [("threshold", 1)]) rfl sc_need_thresholds.nd (vi_seq (vv 0)) (blkOk_by (own := [("threshold", 1)]) (N := ns_need_thresholds) (by rfl)) (fun _ _ _ _ _ => (vg_name (i := 1) sc_need_thresholds.nd rfl (by first | exact Or.inl rfl | exact Or.inr rfl))) (fun _ _ _ _ _ => vts_nil) (fun _ _ _ _ _ => (ve_call (ok_is_between T) m_is_between (hr.mono (by decide)) (by rfl) T.m_is_between T.k_is_between T.b_is_between .nil rvs_nil0 (va_cons (vv 1) (va_cons ve_int (va_cons (ve_glob rfl T.g_MOST_THRESHOLD ⟨_, rfl⟩) va_nil))))) (by decide)) va_nil)))) (vss_one vs_never) vss_nil))), w_need_thresholds⟩
theorem ok_held_by (T : Tx K mg) : FnOk P w K mg base CX0 1 T.f_held_by T.fd_held_by ["samples", "indices"] (spOf K true c_held_by) :=
  fn_V T.F_held_by sc_held_by (fun ds q h => by first | (obtain ⟨rfl, _⟩ := h; rfl) | (obtain ⟨_, rfl, _⟩ := h; rfl) | (obtain ⟨_, _, rfl, _⟩ := h; rfl) | (obtain ⟨_, _, _, rfl, _⟩ := h; rfl) | (obtain ⟨_, _, _, _, rfl, _⟩ := h; rfl) | (obtain ⟨_, _, _, _, _, rfl, _⟩ := h; rfl) | (obtain ⟨_, _, _, _, _, _, rfl, _⟩ := h; rfl)) fun cdv A outer s H E hr => ⟨t_held_by,
    (vss_cons (vs_own (i := 2) sc_held_by.nd rfl (by first | exact Or.inl rfl | exact Or.inr rfl) (ve_lst va_nil)) (vss_cons (vs_for [3] PassesOwn.never rfl (vi_rg1 (by rfl) T.b_range (va_cons (ve_callB fLen_ok fLen_mono call_len_seq (by rfl) T.b_len (by decide +kernel) (va_cons (vv 0) va_nil)) va_nil)) (vg_name (i := 3) sc_held_by.nd rfl (by first | exact Or.inl rfl | exact Or.inr rfl)) (vss_one (vs_app (pv 2) (ve_if (vt_in (vv 3) (vv 1)) (ve_ix (vv 0) (vv 3) (fun _ _ => rfl)) (ve_ix (vv 2) (ve_neg ve_int) (fun _ _ => rfl))) (pe_bm PySem.F.plainAttrs_list PySem.F.slot_list_append PySem.F.type_list_append mt_append (pv 2) (pa_cons (ve_if (vt_in (vv 3) (vv 1)) (ve_ix (vv 0) (vv 3) (fun _ _ => rfl)) (ve_ix (vv 2) (ve_neg ve_int) (fun _ _ => rfl))).pe pa_nil))))) (vss_one (vs_ret (vv 2))))), w_held_by⟩
theorem ok_chained (T : Tx K mg) : FnOk P w K mg base CX0 4 T.f_chained T.fd_chained ["samples", "thresholds"] (spOf K true c_chained) :=
  fn_V T.F_chained sc_chained (fun ds q h => by first | (obtain ⟨rfl, _⟩ := h; rfl) | (obtain ⟨_, rfl, _⟩ := h; rfl) | (obtain ⟨_, _, rfl, _⟩ := h; rfl) | (obtain ⟨_, _, _, rfl, _⟩ := h; rfl) | (obtain ⟨_, _, _, _, rfl, _⟩ := h; rfl) | (obtain ⟨_, _, _, _, _, rfl, _⟩ := h; rfl) | (obtain ⟨_, _, _, _, _, _, rfl, _⟩ := h; rfl)) fun cdv A outer s H E hr => ⟨t_chained,
    (vss_cons (vs_own (i := 2) sc_chained.nd rfl (by first | exact Or.inl rfl | exact Or.inr rfl) (ve_lst va_nil)) (vss_cons (vs_for [3] PassesOwn.never rfl (vi_seq (vv 1)) (vg_name (i := 3) sc_chained.nd rfl (by first | exact Or.inl rfl | exact Or.inr rfl)) (vss_cons (vs_own (i := 2) sc_chained.nd rfl (by first | exact Or.inl rfl | exact Or.inr rfl) (ve_call (ok_all_reports T) m_all_reports (hr.mono (by decide)) (by rfl) T.m_all_reports T.k_all_reports T.b_all_reports .nil rvs_nil0 (va_cons (vv 0) (va_cons (vv 3) (va_cons ve_non va_nil))))) (vss_one (vs_own (i := 0) sc_chained.nd rfl (by first | exact Or.inl rfl | exact Or.inr rfl) (ve_call (ok_held_by T) m_held_by (hr.mono (by decide)) (by rfl) T.m_held_by T.k_held_by T.b_held_by .nil rvs_nil0 (va_cons (vv 0) (va_cons (vv 2) va_nil))))))) (vss_one (vs_ret (ve_tupM (va_cons (vv 2) (va_cons (vv 0) va_nil))))))), w_chained⟩
theorem ok_chain_reports (T : Tx K mg) : FnOk P w K mg base CX0 5 T.f_chain_reports T.fd_chain_reports ["samples", "thresholds"] (spOf K true c_chain_reports) :=
  fn_V T.F_chain_reports sc_chain_reports (fun ds q h => by first | (obtain ⟨rfl, _⟩ := h; rfl) | (obtain ⟨_, rfl, _⟩ := h; rfl) | (obtain ⟨_, _, rfl, _⟩ := h; rfl) | (obtain ⟨_, _, _, rfl, _⟩ := h; rfl) | (obtain ⟨_, _, _, _, rfl, _⟩ := h; rfl) | (obtain ⟨_, _, _, _, _, rfl, _⟩ := h; rfl) | (obtain ⟨_, _, _, _, _, _, rfl, _⟩ := h; rfl)) fun cdv A outer s H E hr => ⟨t_chain_reports,
    (vss_cons (vs_drop (ve_call (ok_need_samples T) m_need_samples (hr.mono (by decide)) (by rfl) T.m_need_samples T.k_need_samples T.b_need_samples .nil rvs_nil0 (va_cons (vv 0) va_nil))) (vss_cons (vs_drop (ve_call (ok_need_thresholds T) m_need_thresholds (hr.mono (by decide)) (by rfl) T.m_need_thresholds T.k_need_thresholds T.b_need_thresholds .nil rvs_nil0 (va_cons (vv 1) va_nil))) (vss_one (vs_ret (ve_ix (ve_call (ok_chained T) m_chained (hr.mono (by decide)) (by rfl) T.m_chained T.k_chained T.b_chained .nil rvs_nil0 (va_cons (vv 0) (va_cons (vv 1) va_nil))) ve_int (fun _ _ => rfl)))))), w_chain_reports⟩
theorem ok_chain_held (T : Tx K mg) : FnOk P w K mg base CX0 5 T.f_chain_held T.fd_chain_held ["samples", "thresholds"] (spOf K true c_chain_held) :=
  fn_V T.F_chain_held sc_chain_held (fun ds q h => by first | (obtain ⟨rfl, _⟩ := h; rfl) | (obtain ⟨_, rfl, _⟩ := h; rfl) | (obtain ⟨_, _, rfl, _⟩ := h; rfl) | (obtain ⟨_, _, _, rfl, _⟩ := h; rfl) | (obtain ⟨_, _, _, _, rfl, _⟩ := h; rfl) | (obtain ⟨_, _, _, _, _, rfl, _⟩ := h; rfl) | (obtain ⟨_, _, _, _, _, _, rfl, _⟩ := h; rfl)) fun cdv A outer s H E hr => ⟨t_chain_held,
    (vss_cons (vs_drop (ve_call (ok_need_samples T) m_need_samples (hr.mono (by decide)) (by rfl) T.m_need_samples T.k_need_samples T.b_need_samples .nil rvs_nil0 (va_cons (vv 0) va_nil))) (vss_cons (vs_drop (ve_call (ok_need_thresholds T) m_need_thresholds (hr.mono (by decide)) (by rfl) T.m_need_thresholds T.k_need_thresholds T.b_need_thresholds .nil rvs_nil0 (va_cons (vv 1) va_nil))) (vss_one (vs_ret (ve_ix (ve_call (ok_chained T) m_chained (hr.mono (by decide)) (by rfl) T.m_chained T.k_chained T.b_chained .nil rvs_nil0 (va_cons (vv 0) (va_cons (vv 1) va_nil))) ve_int (fun _ _ => rfl)))))), w_chain_held⟩
theorem ok__law_gap (T : Tx K mg) : FnOk P w K mg base CX0 1 T.f__law_gap T.fd__law_gap ["one", "other"] (spOf K true c__law_gap) :=
  fn_V T.F__law_gap sc__law_gap (fun ds q h => by first | (obtain ⟨rfl, _⟩ := h; rfl) | (obtain ⟨_, rfl, _⟩ := h; rfl) | (obtain ⟨_, _, rfl, _⟩ := h; rfl) | (obtain ⟨_, _, _, rfl, _⟩ := h; rfl) | (obtain ⟨_, _, _, _, rfl, _⟩ := h; rfl) | (obtain ⟨_, _, _, _, _, rfl, _⟩ := h; rfl) | (obtain ⟨_, _, _, _, _, _, rfl, _⟩ := h; rfl)) fun cdv A outer s H E hr => ⟨t__law_gap,
    (vss_cons (vs_set (i := 2) sc__law_gap.nd rfl (by first | exact Or.inl rfl | exact Or.inr rfl) ve_int) (vss_cons (vs_for [3, 4] PassesOwn.never rfl (vi_zip (by rfl) T.b_zip (va_cons (vv 0) (va_cons (vv 1) va_nil))) (vg_tup rfl (vgs_cons (vg_name (i := 3) sc__law_gap.nd rfl (by first | exact Or.inl rfl | exact Or.inr rfl)) (vgs_cons (vg_name (i := 4) sc__law_gap.nd rfl (by first | exact Or.inl rfl | exact Or.inr rfl)) vgs_nil))) (vss_one (vs_set (i := 2) sc__law_gap.nd rfl (by first | exact Or.inl rfl | exact Or.inr rfl) (ve_callB fMax_ok fMax_mono (call_maxA rfl) (by rfl) T.b_max (by decide +kernel) (va_cons (vv 2) (va_cons (ve_sub (vv 3) (vv 4)) (va_cons (ve_sub (vv 4) (vv 3)) va_nil))))))) (vss_one (vs_ret (vv 2))))), w__law_gap⟩
theorem ok__law_limit (T : Tx K mg) : FnOk P w K mg base CX0 3 T.f__law_limit T.fd__law_limit ["source", "rows"] (spOf K true c__law_limit) :=
  fn_V T.F__law_limit sc__law_limit (fun ds q h => by first | (obtain ⟨rfl, _⟩ := h; rfl) | (obtain ⟨_, rfl, _⟩ := h; rfl) | (obtain ⟨_, _, rfl, _⟩ := h; rfl) | (obtain ⟨_, _, _, rfl, _⟩ := h; rfl) | (obtain ⟨_, _, _, _, rfl, _⟩ := h; rfl) | (obtain ⟨_, _, _, _, _, rfl, _⟩ := h; rfl) | (obtain ⟨_, _, _, _, _, _, rfl, _⟩ := h; rfl)) fun cdv A outer s H E hr => ⟨t__law_limit,
    (vss_cons (vs_par (i := 2) (j := 3) false false rfl sc__law_limit.nd rfl rfl (by decide) rfl rfl (ve_call (ok__law_choice T) m__law_choice (hr.mono (by decide)) (by rfl) T.m__law_choice T.k__law_choice T.b__law_choice .nil rvs_nil0 (va_cons (vv 0) (va_cons (vv 1) va_nil))) (ve_call (ok__law_choice T) m__law_choice (hr.mono (by decide)) (by rfl) T.m__law_choice T.k__law_choice T.b__law_choice .nil rvs_nil0 (va_cons (vv 0) (va_cons (vv 1) va_nil))) rfl rfl (by rfl)) (vss_cons (vs_set (i := 4) sc__law_limit.nd rfl (by first | exact Or.inl rfl | exact Or.inr rfl) (ve_callB fMax_ok fMax_mono (call_maxA rfl) (by rfl) T.b_max (by decide +kernel) (va_cons ve_int (va_cons (ve_sub (ve_add (ve_call (ok__law_gap T) m__law_gap (hr.mono (by decide)) (by rfl) T.m__law_gap T.k__law_gap T.b__law_gap .nil rvs_nil0 (va_cons (vv 2) (va_cons (vv 3) va_nil))) (ve_call (ok__law_draw T) m__law_draw (hr.mono (by decide)) (by rfl) T.m__law_draw T.k__law_draw T.b__law_draw .nil rvs_nil0 (va_cons (vv 0) (va_cons ve_int va_nil)))) ve_int) va_nil)))) (vss_one (vs_ret (ve_call (ok__law_choice T) m__law_choice (hr.mono (by decide)) (by rfl) T.m__law_choice T.k__law_choice T.b__law_choice .nil rvs_nil0 (va_cons (vv 0) (va_cons (ve_lst (va_cons (vv 4) (va_cons (vv 4) (va_cons (ve_fdiv (vv 4) ve_int) (va_cons (ve_call (ok__law_draw T) m__law_draw (hr.mono (by decide)) (by rfl) T.m__law_draw T.k__law_draw T.b__law_draw .nil rvs_nil0 (va_cons (vv 0) (va_cons ve_int va_nil))) (va_cons (ve_mul ve_int (vv 4)) va_nil)))))) va_nil))))))), w__law_limit⟩
theorem ok_need_spread (T : Tx K mg) : FnOk P w K mg base CX0 2 T.f_need_spread T.fd_need_spread ["spread"] (spOf K true c_need_spread) :=
  fn_V T.F_need_spread sc_need_spread (fun ds q h => by first | (obtain ⟨rfl, _⟩ := h; rfl) | (obtain ⟨_, rfl, _⟩ := h; rfl) | (obtain ⟨_, _, rfl, _⟩ := h; rfl) | (obtain ⟨_, _, _, rfl, _⟩ := h; rfl) | (obtain ⟨_, _, _, _, rfl, _⟩ := h; rfl) | (obtain ⟨_, _, _, _, _, rfl, _⟩ := h; rfl) | (obtain ⟨_, _, _, _, _, _, rfl, _⟩ := h; rfl)) fun cdv A outer s H E hr => ⟨t_need_spread,
    (vss_one (vs_if (vt_not (vt_val (ve_call (ok_is_between T) m_is_between (hr.mono (by decide)) (by rfl) T.m_is_between T.k_is_between T.b_is_between .nil rvs_nil0 (va_cons (vv 0) (va_cons ve_int (va_cons (ve_glob rfl T.g_MOST_THRESHOLD ⟨_, rfl⟩) va_nil)))))) (vss_one vs_never) vss_nil)), w_need_spread⟩
theorem ok_spread_within (T : Tx K mg) : FnOk P w K mg base CX0 1 T.f_spread_within T.fd_spread_within ["samples"] (spOf K true c_spread_within) :=
  fn_V T.F_spread_within sc_spread_within (fun ds q h => by first | (obtain ⟨rfl, _⟩ := h; rfl) | (obtain ⟨_, rfl, _⟩ := h; rfl) | (obtain ⟨_, _, rfl, _⟩ := h; rfl) | (obtain ⟨_, _, _, rfl, _⟩ := h; rfl) | (obtain ⟨_, _, _, _, rfl, _⟩ := h; rfl) | (obtain ⟨_, _, _, _, _, rfl, _⟩ := h; rfl) | (obtain ⟨_, _, _, _, _, _, rfl, _⟩ := h; rfl)) fun cdv A outer s H E hr => ⟨t_spread_within,
    (vss_cons (vs_set (i := 1) sc_spread_within.nd rfl (by first | exact Or.inl rfl | exact Or.inr rfl) ve_int) (vss_cons (vs_for [2, 3] PassesOwn.never rfl (vi_rg1 (by rfl) T.b_range (va_cons (ve_callB fLen_ok fLen_mono call_len_seq (by rfl) T.b_len (by decide +kernel) (va_cons (ve_ix (vv 0) ve_int (fun _ _ => rfl)) va_nil)) va_nil)) (vg_name (i := 2) sc_spread_within.nd rfl (by first | exact Or.inl rfl | exact Or.inr rfl)) (vss_cons (vs_setLc (i := 3) (own := [("sample", 4)]) rfl sc_spread_within.nd rfl rfl (sw_true rfl rfl rfl (by decide +kernel)) (vi_seq (vv 0)) (blkOk_by (own := [("sample", 4)]) (N := ns_spread_within) (by rfl)) (fun _ _ _ _ _ => (vg_name (i := 4) sc_spread_within.nd rfl (by first | exact Or.inl rfl | exact Or.inr rfl))) (fun _ _ _ _ _ => vts_nil) (fun _ _ _ _ _ => (ve_ix (vv 4) (vv 2) (fun _ _ => rfl))) (by decide)) (vss_one (vs_set (i := 1) sc_spread_within.nd rfl (by first | exact Or.inl rfl | exact Or.inr rfl) (ve_callB fMax_ok fMax_mono (call_maxA rfl) (by rfl) T.b_max (by decide +kernel) (va_cons (vv 1) (va_cons (ve_sub (ve_callB fMax_ok fMax_mono (call_maxA rfl) (by rfl) T.b_max (by decide +kernel) (va_cons (vv 3) va_nil)) (ve_callB fMin_ok fMin_mono (call_minA rfl) (by rfl) T.b_min (by decide +kernel) (va_cons (vv 3) va_nil))) va_nil))))))) (vss_one (vs_ret (vv 1))))), w_spread_within⟩
theorem ok_starts_of (T : Tx K mg) : FnOk P w K mg base CX0 2 T.f_starts_of T.fd_starts_of ["samples", "spread", "silence"] (spOf K true c_starts_of) :=
  fn_V T.F_starts_of sc_starts_of (fun ds q h => by first | (obtain ⟨rfl, _⟩ := h; rfl) | (obtain ⟨_, rfl, _⟩ := h; rfl) | (obtain ⟨_, _, rfl, _⟩ := h; rfl) | (obtain ⟨_, _, _, rfl, _⟩ := h; rfl) | (obtain ⟨_, _, _, _, rfl, _⟩ := h; rfl) | (obtain ⟨_, _, _, _, _, rfl, _⟩ := h; rfl) | (obtain ⟨_, _, _, _, _, _, rfl, _⟩ := h; rfl)) fun cdv A outer s H E hr => ⟨t_starts_of,
    (vss_cons (vs_own (i := 3) sc_starts_of.nd rfl (by first | exact Or.inl rfl | exact Or.inr rfl) (ve_lst (va_cons ve_int va_nil))) (vss_cons (vs_for [4, 5] PassesOwn.never rfl (vi_rg2 (by rfl) T.b_range (va_cons ve_int (va_cons (ve_callB fLen_ok fLen_mono call_len_seq (by rfl) T.b_len (by decide +kernel) (va_cons (vv 0) va_nil)) va_nil))) (vg_name (i := 4) sc_starts_of.nd rfl (by first | exact Or.inl rfl | exact Or.inr rfl)) (vss_cons (vs_set (i := 5) sc_starts_of.nd rfl (by first | exact Or.inl rfl | exact Or.inr rfl) (ve_ix (vv 3) (ve_neg ve_int) (fun _ _ => rfl))) (vss_one (vs_if (vt_w (vw_or (vt_gt (ve_call (ok_spread_within T) m_spread_within (hr.mono (by decide)) (by rfl) T.m_spread_within T.k_spread_within T.b_spread_within .nil rvs_nil0 (va_cons (ve_sl (vv 0) (vo_some (vv 5)) (vo_some (ve_add (vv 4) ve_int))) va_nil)) (vv 1)) (vw_or1 (vt_val (ve_call (ok_is_late T) m_is_late (hr.mono (by decide)) (by rfl) T.m_is_late T.k_is_late T.b_is_late .nil rvs_nil0 (va_cons (vv 5) (va_cons (vv 4) (va_cons (vv 2) va_nil)))))))) (vss_one (vs_app (pv 3) (vv 4) (pe_bm PySem.F.plainAttrs_list PySem.F.slot_list_append PySem.F.type_list_append mt_append (pv 3) (pa_cons (vv 4).pe pa_nil)))) vss_nil)))) (vss_one (vs_ret (ve_callTy fTuple_ok fTuple_mono call_tuple_of (by rfl) T.b_tuple (by decide +kernel) (va_cons (vv 3) va_nil)))))), w_starts_of⟩
theorem ok_fewest_stretches (T : Tx K mg) : FnOk P w K mg base CX0 5 T.f_fewest_stretches T.fd_fewest_stretches ["samples", "spread", "silence"] (spOf K true c_fewest_stretches) :=
  fn_VD T.F_fewest_stretches sc_fewest_stretches (fun ds q h => by first | (obtain ⟨rfl, _⟩ := h; rfl) | (obtain ⟨_, rfl, _⟩ := h; rfl) | (obtain ⟨_, _, rfl, _⟩ := h; rfl) | (obtain ⟨_, _, _, rfl, _⟩ := h; rfl) | (obtain ⟨_, _, _, _, rfl, _⟩ := h; rfl) | (obtain ⟨_, _, _, _, _, rfl, _⟩ := h; rfl) | (obtain ⟨_, _, _, _, _, _, rfl, _⟩ := h; rfl)) fun cdv A outer s H E hr => ⟨t_fewest_stretches,
    (vss_cons (vs_drop (ve_call (ok_need_samples T) m_need_samples (hr.mono (by decide)) (by rfl) T.m_need_samples T.k_need_samples T.b_need_samples .nil rvs_nil0 (va_cons (vv 0) va_nil))) (vss_cons (vs_drop (ve_call (ok_need_spread T) m_need_spread (hr.mono (by decide)) (by rfl) T.m_need_spread T.k_need_spread T.b_need_spread .nil rvs_nil0 (va_cons (vv 1) va_nil))) (vss_cons (vs_drop (ve_call (ok_need_silence T) m_need_silence (hr.mono (by decide)) (by rfl) T.m_need_silence T.k_need_silence T.b_need_silence .nil rvs_nil0 (va_cons (vv 2) va_nil))) (vss_one (vs_ret (ve_callB fLen_ok fLen_mono call_len_seq (by rfl) T.b_len (by decide +kernel) (va_cons (ve_call (ok_starts_of T) m_starts_of (hr.mono (by decide)) (by rfl) T.m_starts_of T.k_starts_of T.b_starts_of .nil rvs_nil0 (va_cons (vv 0) (va_cons (vv 1) (va_cons (vv 2) va_nil)))) va_nil))))))), w_fewest_stretches⟩
theorem ok_law (T : Tx K mg) : FnOk P w K mg base CX0 6 T.f_law T.fd_law ["script"] (spLaw K) :=
  law_V T.F_law sc_law rfl fun cdv A outer s H E hr => ⟨t_law,
    (vss_cons (vs_for [1, 2, 3, 4, 5, 6, 8, 9, 10, 11, 12, 13] PassesOwn.never rfl (vi_rg1 (by rfl) T.b_range (va_cons (ve_add ve_int (ve_callB fMin_ok fMin_mono (call_minA rfl) (by rfl) T.b_min (by decide +kernel) (va_cons (ve_callB fLen_ok fLen_mono call_len_seq (by rfl) T.b_len (by decide +kernel) (va_cons (vv 0) va_nil)) (va_cons ve_int va_nil)))) va_nil)) (vg_name (i := 1) sc_law.nd rfl (by first | exact Or.inl rfl | exact Or.inr rfl)) (vss_cons (vs_newSrc (i := 2) sc_law.nd rfl (by first | exact Or.inl rfl | exact Or.inr rfl) (ve_call (ok__law_source T) m__law_source (hr.mono (by decide)) (by rfl) T.m__law_source T.k__law_source T.b__law_source .nil rvs_nil0 (va_cons (vv 0) (va_cons (vv 1) va_nil)))) (vss_cons (vs_set (i := 3) sc_law.nd rfl (by first | exact Or.inl rfl | exact Or.inr rfl) (ve_call (ok__law_samples T) m__law_samples (hr.mono (by decide)) (by rfl) T.m__law_samples T.k__law_samples T.b__law_samples .nil rvs_nil0 (va_cons (vv 2) (va_cons ve_int va_nil)))) (vss_one (vs_for [4, 5, 6, 8, 9, 10, 11, 12, 13] PassesOwn.never rfl (vi_rg1 (by rfl) T.b_range (va_cons ve_int va_nil)) (vg_name (i := 4) sc_law.nd rfl (by first | exact Or.inl rfl | exact Or.inr rfl)) (vss_cons (vs_set (i := 5) sc_law.nd rfl (by first | exact Or.inl rfl | exact Or.inr rfl) (ve_callB fMin_ok fMin_mono (call_minA rfl) (by rfl) T.b_min (by decide +kernel) (va_cons (ve_pow ve_int ve_int) (va_cons (ve_add ve_int (ve_call (ok__law_limit T) m__law_limit (hr.mono (by decide)) (by rfl) T.m__law_limit T.k__law_limit T.b__law_limit .nil rvs_nil0 (va_cons (vv 2) (va_cons (vv 3) va_nil)))) va_nil)))) (vss_cons (vs_set (i := 6) sc_law.nd rfl (by first | exact Or.inl rfl | exact Or.inr rfl) (ve_callTy fTuple_ok fTuple_mono call_tuple_of (by rfl) T.b_tuple (by decide +kernel) (va_cons (ve_lc (own := [("one", 7)]) rfl sc_law.nd (vi_rg1 (by rfl) T.b_range (va_cons (ve_add ve_int (ve_call (ok__law_draw T) m__law_draw (hr.mono (by decide)) (by rfl) T.m__law_draw T.k__law_draw T.b__law_draw .nil rvs_nil0 (va_cons (vv 2) (va_cons ve_int va_nil)))) va_nil)) (blkOk_by (own := [("one", 7)]) (N := ns_law) (by rfl)) (fun _ _ _ _ _ => (vg_name (i := 7) sc_law.nd rfl (by first | exact Or.inl rfl | exact Or.inr rfl))) (fun _ _ _ _ _ => vts_nil) (fun _ _ _ _ _ => (ve_call (ok__law_draw T) m__law_draw (hr.mono (by decide)) (by rfl) T.m__law_draw T.k__law_draw T.b__law_draw .nil rvs_nil0 (va_cons (vv 2) (va_cons (ve_add (vv 5) ve_int) va_nil)))) (by decide)) va_nil))) (vss_cons (vs_par (i := 8) (j := 9) false false rfl sc_law.nd rfl rfl (by decide) rfl rfl (ve_call (ok_chain_reports T) m_chain_reports (hr.mono (by decide)) (by rfl) T.m_chain_reports T.k_chain_reports T.b_chain_reports .nil rvs_nil0 (va_cons (vv 3) (va_cons (vv 6) va_nil))) (ve_call (ok_chain_held T) m_chain_held (hr.mono (by decide)) (by rfl) T.m_chain_held T.k_chain_held T.b_chain_held .nil rvs_nil0 (va_cons (vv 3) (va_cons (vv 6) va_nil))) rfl rfl (by rfl)) (vss_cons (vs_set (i := 10) sc_law.nd rfl (by first | exact Or.inl rfl | exact Or.inr rfl) (ve_call (ok_reports T) m_reports (hr.mono (by decide)) (by rfl) T.m_reports T.k_reports T.b_reports.choose_spec.2 T.b_reports.choose_spec.1 rvs_non1 (va_cons (vv 3) (va_cons (ve_mul ve_int (ve_callB fSum_ok fSum_mono (call_sumA rfl) (by rfl) T.b_sum (by decide +kernel) (va_cons (vv 6) va_nil))) va_nil)))) (vss_cons (vs_if (vt_w (vw_or (vt_gt (ve_callB fLen_ok fLen_mono call_len_seq (by rfl) T.b_len (by decide +kernel) (va_cons (vv 10) va_nil)) (ve_callB fLen_ok fLen_mono call_len_seq (by rfl) T.b_len (by decide +kernel) (va_cons (vv 8) va_nil))) (vw_or1 (vt_lt (ve_callB fLen_ok fLen_mono call_len_seq (by rfl) T.b_len (by decide +kernel) (va_cons (vv 8) va_nil)) (ve_call (ok_fewest_stretches T) m_fewest_stretches (hr.mono (by decide)) (by rfl) T.m_fewest_stretches T.k_fewest_stretches T.b_fewest_stretches.choose_spec.2 T.b_fewest_stretches.choose_spec.1 rvs_non1 (va_cons (vv 3) (va_cons (ve_mul ve_int (ve_callB fSum_ok fSum_mono (call_sumA rfl) (by rfl) T.b_sum (by decide +kernel) (va_cons (vv 6) va_nil))) va_nil))))))) (vss_one (vs_ret ve_bl)) vss_nil) (vss_one (vs_for [11, 12, 13] PassesOwn.never rfl (vi_enum (by rfl) T.b_enumerate (va_cons (vv 9) va_nil)) (vg_tup rfl (vgs_cons (vg_name (i := 11) sc_law.nd rfl (by first | exact Or.inl rfl | exact Or.inr rfl)) (vgs_cons (vg_name (i := 12) sc_law.nd rfl (by first | exact Or.inl rfl | exact Or.inr rfl)) vgs_nil))) (vss_cons (vs_set (i := 13) sc_law.nd rfl (by first | exact Or.inl rfl | exact Or.inr rfl) (ve_callB fMax_ok fMax_mono (call_maxA rfl) (by rfl) T.b_max (by decide +kernel) (va_cons (ve_lc (own := [("one", 7)]) rfl sc_law.nd (vi_seq (vv 8)) (blkOk_by (own := [("one", 7)]) (N := ns_law) (by rfl)) (fun _ _ _ _ _ => (vg_name (i := 7) sc_law.nd rfl (by first | exact Or.inl rfl | exact Or.inr rfl))) (fun _ _ _ _ _ => (vts_one (vt_le (vv 7) (vv 11)))) (fun _ _ _ _ _ => (vv 7)) (by decide)) va_nil))) (vss_one (vs_if (vt_w (vw_or (vt_gt (ve_call (ok__law_gap T) m__law_gap (hr.mono (by decide)) (by rfl) T.m__law_gap T.k__law_gap T.b__law_gap .nil rvs_nil0 (va_cons (vv 12) (va_cons (ve_ix (vv 3) (vv 11) (fun _ _ => rfl)) va_nil))) (ve_callB fSum_ok fSum_mono (call_sumA rfl) (by rfl) T.b_sum (by decide +kernel) (va_cons (vv 6) va_nil))) (vw_or1 (vt_ne hr.units (vv 12) (ve_ix (vv 3) (vv 13) (fun _ _ => rfl)))))) (vss_one (vs_ret ve_bl)) vss_nil))))))))))))))) (vss_one (vs_ret ve_bl))), w_law⟩
end
theorem all_mk {l : PySem.W.OpenLaw} {w : World} {K : PySem.W.Frag} {h : Heap} {mg : Str → Option Value} {fa f0 f1 f2 f3 f4 f5 f6 f7 f8 f9 f10 f11 f12 f13 f14 f15 f16 f17 f18 f19 f20 f21 f22 f23 f24 f25 f26 : Addr} (X : K.In h) (G : h.Ns mainGlobals mg) (hfa : mg "law" = some (.ref fa))
    {oc0 kV0 dc0 pm0 cd0 ct0 : Value} {od0 an0 : Option Addr} {sl0 : Array (Option Value)}
    (a0 : PySem.W.nsIn K mainGlobals "_law_source" = some (some (.ref f0))) (l0 : K.lookup f0 = some ⟨oc0, od0, .func (PySem.W.fnOf "_law_source" "_law_source" (defArgs s__law_source) (defBody s__law_source) (defScope s__law_source) .none kV0 dc0 pm0 an0 cd0 ct0), sl0⟩) (c0 : PySem.W.codeIn K cd0 "_law_source" = true) (k0 : PySem.W.keepIn K (.ref f0) = true)
    {oc1 kV1 dc1 pm1 cd1 ct1 : Value} {od1 an1 : Option Addr} {sl1 : Array (Option Value)}
    (a1 : PySem.W.nsIn K mainGlobals "_law_draw" = some (some (.ref f1))) (l1 : K.lookup f1 = some ⟨oc1, od1, .func (PySem.W.fnOf "_law_draw" "_law_draw" (defArgs s__law_draw) (defBody s__law_draw) (defScope s__law_draw) .none kV1 dc1 pm1 an1 cd1 ct1), sl1⟩) (c1 : PySem.W.codeIn K cd1 "_law_draw" = true) (k1 : PySem.W.keepIn K (.ref f1) = true)
    {oc2 kV2 dc2 pm2 cd2 ct2 : Value} {od2 an2 : Option Addr} {sl2 : Array (Option Value)}
    (a2 : PySem.W.nsIn K mainGlobals "_law_choice" = some (some (.ref f2))) (l2 : K.lookup f2 = some ⟨oc2, od2, .func (PySem.W.fnOf "_law_choice" "_law_choice" (defArgs s__law_choice) (defBody s__law_choice) (defScope s__law_choice) .none kV2 dc2 pm2 an2 cd2 ct2), sl2⟩) (c2 : PySem.W.codeIn K cd2 "_law_choice" = true) (k2 : PySem.W.keepIn K (.ref f2) = true)
    {oc3 kV3 dc3 pm3 cd3 ct3 : Value} {od3 an3 : Option Addr} {sl3 : Array (Option Value)}
    (a3 : PySem.W.nsIn K mainGlobals "_law_samples" = some (some (.ref f3))) (l3 : K.lookup f3 = some ⟨oc3, od3, .func (PySem.W.fnOf "_law_samples" "_law_samples" (defArgs s__law_samples) (defBody s__law_samples) (defScope s__law_samples) .none kV3 dc3 pm3 an3 cd3 ct3), sl3⟩) (c3 : PySem.W.codeIn K cd3 "_law_samples" = true) (k3 : PySem.W.keepIn K (.ref f3) = true)
    {oc4 kV4 dc4 pm4 cd4 ct4 : Value} {od4 an4 : Option Addr} {sl4 : Array (Option Value)}
    (a4 : PySem.W.nsIn K mainGlobals "is_between" = some (some (.ref f4))) (l4 : K.lookup f4 = some ⟨oc4, od4, .func (PySem.W.fnOf "is_between" "is_between" (defArgs s_is_between) (defBody s_is_between) (defScope s_is_between) .none kV4 dc4 pm4 an4 cd4 ct4), sl4⟩) (c4 : PySem.W.codeIn K cd4 "is_between" = true) (k4 : PySem.W.keepIn K (.ref f4) = true)
    {oc5 kV5 dc5 pm5 cd5 ct5 : Value} {od5 an5 : Option Addr} {sl5 : Array (Option Value)}
    (a5 : PySem.W.nsIn K mainGlobals "is_sample" = some (some (.ref f5))) (l5 : K.lookup f5 = some ⟨oc5, od5, .func (PySem.W.fnOf "is_sample" "is_sample" (defArgs s_is_sample) (defBody s_is_sample) (defScope s_is_sample) .none kV5 dc5 pm5 an5 cd5 ct5), sl5⟩) (c5 : PySem.W.codeIn K cd5 "is_sample" = true) (k5 : PySem.W.keepIn K (.ref f5) = true)
    {oc6 kV6 dc6 pm6 cd6 ct6 : Value} {od6 an6 : Option Addr} {sl6 : Array (Option Value)}
    (a6 : PySem.W.nsIn K mainGlobals "is_samples" = some (some (.ref f6))) (l6 : K.lookup f6 = some ⟨oc6, od6, .func (PySem.W.fnOf "is_samples" "is_samples" (defArgs s_is_samples) (defBody s_is_samples) (defScope s_is_samples) .none kV6 dc6 pm6 an6 cd6 ct6), sl6⟩) (c6 : PySem.W.codeIn K cd6 "is_samples" = true) (k6 : PySem.W.keepIn K (.ref f6) = true)
    {oc7 kV7 dc7 pm7 cd7 ct7 : Value} {od7 an7 : Option Addr} {sl7 : Array (Option Value)}
    (a7 : PySem.W.nsIn K mainGlobals "need_samples" = some (some (.ref f7))) (l7 : K.lookup f7 = some ⟨oc7, od7, .func (PySem.W.fnOf "need_samples" "need_samples" (defArgs s_need_samples) (defBody s_need_samples) (defScope s_need_samples) .none kV7 dc7 pm7 an7 cd7 ct7), sl7⟩) (c7 : PySem.W.codeIn K cd7 "need_samples" = true) (k7 : PySem.W.keepIn K (.ref f7) = true)
    {oc8 kV8 dc8 pm8 cd8 ct8 : Value} {od8 an8 : Option Addr} {sl8 : Array (Option Value)}
    (a8 : PySem.W.nsIn K mainGlobals "need_threshold" = some (some (.ref f8))) (l8 : K.lookup f8 = some ⟨oc8, od8, .func (PySem.W.fnOf "need_threshold" "need_threshold" (defArgs s_need_threshold) (defBody s_need_threshold) (defScope s_need_threshold) .none kV8 dc8 pm8 an8 cd8 ct8), sl8⟩) (c8 : PySem.W.codeIn K cd8 "need_threshold" = true) (k8 : PySem.W.keepIn K (.ref f8) = true)
    {oc9 kV9 dc9 pm9 cd9 ct9 : Value} {od9 an9 : Option Addr} {sl9 : Array (Option Value)}
    (a9 : PySem.W.nsIn K mainGlobals "need_silence" = some (some (.ref f9))) (l9 : K.lookup f9 = some ⟨oc9, od9, .func (PySem.W.fnOf "need_silence" "need_silence" (defArgs s_need_silence) (defBody s_need_silence) (defScope s_need_silence) .none kV9 dc9 pm9 an9 cd9 ct9), sl9⟩) (c9 : PySem.W.codeIn K cd9 "need_silence" = true) (k9 : PySem.W.keepIn K (.ref f9) = true)
    {oc10 kV10 dc10 pm10 cd10 ct10 : Value} {od10 an10 : Option Addr} {sl10 : Array (Option Value)}
    (a10 : PySem.W.nsIn K mainGlobals "is_late" = some (some (.ref f10))) (l10 : K.lookup f10 = some ⟨oc10, od10, .func (PySem.W.fnOf "is_late" "is_late" (defArgs s_is_late) (defBody s_is_late) (defScope s_is_late) .none kV10 dc10 pm10 an10 cd10 ct10), sl10⟩) (c10 : PySem.W.codeIn K cd10 "is_late" = true) (k10 : PySem.W.keepIn K (.ref f10) = true)
    {oc11 kV11 dc11 pm11 cd11 ct11 : Value} {od11 an11 : Option Addr} {sl11 : Array (Option Value)}
    (a11 : PySem.W.nsIn K mainGlobals "distance" = some (some (.ref f11))) (l11 : K.lookup f11 = some ⟨oc11, od11, .func (PySem.W.fnOf "distance" "distance" (defArgs s_distance) (defBody s_distance) (defScope s_distance) .none kV11 dc11 pm11 an11 cd11 ct11), sl11⟩) (c11 : PySem.W.codeIn K cd11 "distance" = true) (k11 : PySem.W.keepIn K (.ref f11) = true)
    {oc12 kV12 dc12 pm12 cd12 ct12 : Value} {od12 an12 : Option Addr} {sl12 : Array (Option Value)}
    (a12 : PySem.W.nsIn K mainGlobals "reported" = some (some (.ref f12))) (l12 : K.lookup f12 = some ⟨oc12, od12, .func (PySem.W.fnOf "reported" "reported" (defArgs s_reported) (defBody s_reported) (defScope s_reported) .none kV12 dc12 pm12 an12 cd12 ct12), sl12⟩) (c12 : PySem.W.codeIn K cd12 "reported" = true) (k12 : PySem.W.keepIn K (.ref f12) = true)
    {oc13 kV13 dc13 pm13 cd13 ct13 : Value} {od13 an13 : Option Addr} {sl13 : Array (Option Value)}
    (a13 : PySem.W.nsIn K mainGlobals "all_reports" = some (some (.ref f13))) (l13 : K.lookup f13 = some ⟨oc13, od13, .func (PySem.W.fnOf "all_reports" "all_reports" (defArgs s_all_reports) (defBody s_all_reports) (defScope s_all_reports) .none kV13 dc13 pm13 an13 cd13 ct13), sl13⟩) (c13 : PySem.W.codeIn K cd13 "all_reports" = true) (k13 : PySem.W.keepIn K (.ref f13) = true)
    {oc14 dc14 pm14 cd14 ct14 : Value} {od14 an14 : Option Addr} {sl14 : Array (Option Value)} {D14 : Addr}
    (a14 : PySem.W.nsIn K mainGlobals "reports" = some (some (.ref f14))) (l14 : K.lookup f14 = some ⟨oc14, od14, .func (PySem.W.fnOf "reports" "reports" (defArgs s_reports) (defBody s_reports) (defScope s_reports) .none (.ref D14) dc14 pm14 an14 cd14 ct14), sl14⟩) (c14 : PySem.W.codeIn K cd14 "reports" = true) (k14 : PySem.W.keepIn K (.ref f14) = true)
    (d14 : PySem.W.nsIn K D14 "silence" = some (some .none))
    {oc15 kV15 dc15 pm15 cd15 ct15 : Value} {od15 an15 : Option Addr} {sl15 : Array (Option Value)}
    (a15 : PySem.W.nsIn K mainGlobals "need_thresholds" = some (some (.ref f15))) (l15 : K.lookup f15 = some ⟨oc15, od15, .func (PySem.W.fnOf "need_thresholds" "need_thresholds" (defArgs s_need_thresholds) (defBody s_need_thresholds) (defScope s_need_thresholds) .none kV15 dc15 pm15 an15 cd15 ct15), sl15⟩) (c15 : PySem.W.codeIn K cd15 "need_thresholds" = true) (k15 : PySem.W.keepIn K (.ref f15) = true)
    {oc16 kV16 dc16 pm16 cd16 ct16 : Value} {od16 an16 : Option Addr} {sl16 : Array (Option Value)}
    (a16 : PySem.W.nsIn K mainGlobals "held_by" = some (some (.ref f16))) (l16 : K.lookup f16 = some ⟨oc16, od16, .func (PySem.W.fnOf "held_by" "held_by" (defArgs s_held_by) (defBody s_held_by) (defScope s_held_by) .none kV16 dc16 pm16 an16 cd16 ct16), sl16⟩) (c16 : PySem.W.codeIn K cd16 "held_by" = true) (k16 : PySem.W.keepIn K (.ref f16) = true)
    {oc17 kV17 dc17 pm17 cd17 ct17 : Value} {od17 an17 : Option Addr} {sl17 : Array (Option Value)}
    (a17 : PySem.W.nsIn K mainGlobals "chained" = some (some (.ref f17))) (l17 : K.lookup f17 = some ⟨oc17, od17, .func (PySem.W.fnOf "chained" "chained" (defArgs s_chained) (defBody s_chained) (defScope s_chained) .none kV17 dc17 pm17 an17 cd17 ct17), sl17⟩) (c17 : PySem.W.codeIn K cd17 "chained" = true) (k17 : PySem.W.keepIn K (.ref f17) = true)
    {oc18 kV18 dc18 pm18 cd18 ct18 : Value} {od18 an18 : Option Addr} {sl18 : Array (Option Value)}
    (a18 : PySem.W.nsIn K mainGlobals "chain_reports" = some (some (.ref f18))) (l18 : K.lookup f18 = some ⟨oc18, od18, .func (PySem.W.fnOf "chain_reports" "chain_reports" (defArgs s_chain_reports) (defBody s_chain_reports) (defScope s_chain_reports) .none kV18 dc18 pm18 an18 cd18 ct18), sl18⟩) (c18 : PySem.W.codeIn K cd18 "chain_reports" = true) (k18 : PySem.W.keepIn K (.ref f18) = true)
    {oc19 kV19 dc19 pm19 cd19 ct19 : Value} {od19 an19 : Option Addr} {sl19 : Array (Option Value)}
    (a19 : PySem.W.nsIn K mainGlobals "chain_held" = some (some (.ref f19))) (l19 : K.lookup f19 = some ⟨oc19, od19, .func (PySem.W.fnOf "chain_held" "chain_held" (defArgs s_chain_held) (defBody s_chain_held) (defScope s_chain_held) .none kV19 dc19 pm19 an19 cd19 ct19), sl19⟩) (c19 : PySem.W.codeIn K cd19 "chain_held" = true) (k19 : PySem.W.keepIn K (.ref f19) = true)
    {oc20 kV20 dc20 pm20 cd20 ct20 : Value} {od20 an20 : Option Addr} {sl20 : Array (Option Value)}
    (a20 : PySem.W.nsIn K mainGlobals "_law_gap" = some (some (.ref f20))) (l20 : K.lookup f20 = some ⟨oc20, od20, .func (PySem.W.fnOf "_law_gap" "_law_gap" (defArgs s__law_gap) (defBody s__law_gap) (defScope s__law_gap) .none kV20 dc20 pm20 an20 cd20 ct20), sl20⟩) (c20 : PySem.W.codeIn K cd20 "_law_gap" = true) (k20 : PySem.W.keepIn K (.ref f20) = true)
    {oc21 kV21 dc21 pm21 cd21 ct21 : Value} {od21 an21 : Option Addr} {sl21 : Array (Option Value)}
    (a21 : PySem.W.nsIn K mainGlobals "_law_limit" = some (some (.ref f21))) (l21 : K.lookup f21 = some ⟨oc21, od21, .func (PySem.W.fnOf "_law_limit" "_law_limit" (defArgs s__law_limit) (defBody s__law_limit) (defScope s__law_limit) .none kV21 dc21 pm21 an21 cd21 ct21), sl21⟩) (c21 : PySem.W.codeIn K cd21 "_law_limit" = true) (k21 : PySem.W.keepIn K (.ref f21) = true)
    {oc22 kV22 dc22 pm22 cd22 ct22 : Value} {od22 an22 : Option Addr} {sl22 : Array (Option Value)}
    (a22 : PySem.W.nsIn K mainGlobals "need_spread" = some (some (.ref f22))) (l22 : K.lookup f22 = some ⟨oc22, od22, .func (PySem.W.fnOf "need_spread" "need_spread" (defArgs s_need_spread) (defBody s_need_spread) (defScope s_need_spread) .none kV22 dc22 pm22 an22 cd22 ct22), sl22⟩) (c22 : PySem.W.codeIn K cd22 "need_spread" = true) (k22 : PySem.W.keepIn K (.ref f22) = true)
    {oc23 kV23 dc23 pm23 cd23 ct23 : Value} {od23 an23 : Option Addr} {sl23 : Array (Option Value)}
    (a23 : PySem.W.nsIn K mainGlobals "spread_within" = some (some (.ref f23))) (l23 : K.lookup f23 = some ⟨oc23, od23, .func (PySem.W.fnOf "spread_within" "spread_within" (defArgs s_spread_within) (defBody s_spread_within) (defScope s_spread_within) .none kV23 dc23 pm23 an23 cd23 ct23), sl23⟩) (c23 : PySem.W.codeIn K cd23 "spread_within" = true) (k23 : PySem.W.keepIn K (.ref f23) = true)
    {oc24 kV24 dc24 pm24 cd24 ct24 : Value} {od24 an24 : Option Addr} {sl24 : Array (Option Value)}
    (a24 : PySem.W.nsIn K mainGlobals "starts_of" = some (some (.ref f24))) (l24 : K.lookup f24 = some ⟨oc24, od24, .func (PySem.W.fnOf "starts_of" "starts_of" (defArgs s_starts_of) (defBody s_starts_of) (defScope s_starts_of) .none kV24 dc24 pm24 an24 cd24 ct24), sl24⟩) (c24 : PySem.W.codeIn K cd24 "starts_of" = true) (k24 : PySem.W.keepIn K (.ref f24) = true)
    {oc25 dc25 pm25 cd25 ct25 : Value} {od25 an25 : Option Addr} {sl25 : Array (Option Value)} {D25 : Addr}
    (a25 : PySem.W.nsIn K mainGlobals "fewest_stretches" = some (some (.ref f25))) (l25 : K.lookup f25 = some ⟨oc25, od25, .func (PySem.W.fnOf "fewest_stretches" "fewest_stretches" (defArgs s_fewest_stretches) (defBody s_fewest_stretches) (defScope s_fewest_stretches) .none (.ref D25) dc25 pm25 an25 cd25 ct25), sl25⟩) (c25 : PySem.W.codeIn K cd25 "fewest_stretches" = true) (k25 : PySem.W.keepIn K (.ref f25) = true)
    (d25 : PySem.W.nsIn K D25 "silence" = some (some .none))
    {oc26 kV26 dc26 pm26 cd26 ct26 : Value} {od26 an26 : Option Addr} {sl26 : Array (Option Value)}
    (a26 : PySem.W.nsIn K mainGlobals "law" = some (some (.ref f26))) (l26 : K.lookup f26 = some ⟨oc26, od26, .func (PySem.W.fnOf "law" "law" (defArgs s_law) (defBody s_law) (defScope s_law) .none kV26 dc26 pm26 an26 cd26 ct26), sl26⟩) (c26 : PySem.W.codeIn K cd26 "law" = true) (k26 : PySem.W.keepIn K (.ref f26) = true)
    {tk0 : Tok} (g0 : PySem.W.nsIn K mainGlobals "MOST_CHANNELS" = some (some (.int 3 tk0)))
    {tk1 : Tok} (g1 : PySem.W.nsIn K mainGlobals "MOST_VALUE" = some (some (.int 1000000 tk1)))
    {tk2 : Tok} (g2 : PySem.W.nsIn K mainGlobals "MOST_SAMPLES" = some (some (.int 40 tk2)))
    {tk3 : Tok} (g3 : PySem.W.nsIn K mainGlobals "MOST_THRESHOLD" = some (some (.int 10000000 tk3)))
    {tk4 : Tok} (g4 : PySem.W.nsIn K mainGlobals "MOST_SILENCE" = some (some (.int 60 tk4)))
    {tk5 : Tok} (g5 : PySem.W.nsIn K mainGlobals "MOST_REPORTERS" = some (some (.int 5 tk5)))
    (b0 : PySem.W.nsIn K mainGlobals "len" = some none)
    (b1 : PySem.W.nsIn K mainGlobals "abs" = some none)
    (b2 : PySem.W.nsIn K mainGlobals "int" = some none)
    (b3 : PySem.W.nsIn K mainGlobals "range" = some none)
    (b4 : PySem.W.nsIn K mainGlobals "tuple" = some none)
    (b5 : PySem.W.nsIn K mainGlobals "max" = some none)
    (b6 : PySem.W.nsIn K mainGlobals "min" = some none)
    (b7 : PySem.W.nsIn K mainGlobals "isinstance" = some none)
    (b8 : PySem.W.nsIn K mainGlobals "bool" = some none)
    (b9 : PySem.W.nsIn K mainGlobals "all" = some none)
    (b10 : PySem.W.nsIn K mainGlobals "zip" = some none)
    (b11 : PySem.W.nsIn K mainGlobals "enumerate" = some none)
    (b12 : PySem.W.nsIn K mainGlobals "sum" = some none)
    : ∃ fd : FuncData, (∀ (s : Shared) (v : Value), BindsTo s fd ⟨[v], []⟩ [("script", v)]) ∧ ∀ base : Heap, K.In base → base.Ns mainGlobals mg → FnOk l.prog w K mg base CX0 6 fa fd ["script"] (spLaw K) := by
  have e := hfa.symm.trans (PySem.W.mg_of X G a26)
  cases e
  have F0 := fun_mk (x := "_law_source") (qual := "_law_source") (st := s__law_source) l0 c0 k0
  have B0 := F0.binds (ps := ["script", "index"]) fun _ _ _ _ _ _ us hl => match us, hl with | [_, _], _ => rfl
  have F1 := fun_mk (x := "_law_draw") (qual := "_law_draw") (st := s__law_draw) l1 c1 k1
  have B1 := F1.binds (ps := ["source", "size"]) fun _ _ _ _ _ _ us hl => match us, hl with | [_, _], _ => rfl
  have F2 := fun_mk (x := "_law_choice") (qual := "_law_choice") (st := s__law_choice) l2 c2 k2
  have B2 := F2.binds (ps := ["source", "items"]) fun _ _ _ _ _ _ us hl => match us, hl with | [_, _], _ => rfl
  have F3 := fun_mk (x := "_law_samples") (qual := "_law_samples") (st := s__law_samples) l3 c3 k3
  have B3 := F3.binds (ps := ["source", "size"]) fun _ _ _ _ _ _ us hl => match us, hl with | [_, _], _ => rfl
  have F4 := fun_mk (x := "is_between") (qual := "is_between") (st := s_is_between) l4 c4 k4
  have B4 := F4.binds (ps := ["value", "low", "high"]) fun _ _ _ _ _ _ us hl => match us, hl with | [_, _, _], _ => rfl
  have F5 := fun_mk (x := "is_sample") (qual := "is_sample") (st := s_is_sample) l5 c5 k5
  have B5 := F5.binds (ps := ["value"]) fun _ _ _ _ _ _ us hl => match us, hl with | [_], _ => rfl
  have F6 := fun_mk (x := "is_samples") (qual := "is_samples") (st := s_is_samples) l6 c6 k6
  have B6 := F6.binds (ps := ["value"]) fun _ _ _ _ _ _ us hl => match us, hl with | [_], _ => rfl
  have F7 := fun_mk (x := "need_samples") (qual := "need_samples") (st := s_need_samples) l7 c7 k7
  have B7 := F7.binds (ps := ["samples"]) fun _ _ _ _ _ _ us hl => match us, hl with | [_], _ => rfl
  have F8 := fun_mk (x := "need_threshold") (qual := "need_threshold") (st := s_need_threshold) l8 c8 k8
  have B8 := F8.binds (ps := ["threshold"]) fun _ _ _ _ _ _ us hl => match us, hl with | [_], _ => rfl
  have F9 := fun_mk (x := "need_silence") (qual := "need_silence") (st := s_need_silence) l9 c9 k9
  have B9 := F9.binds (ps := ["silence"]) fun _ _ _ _ _ _ us hl => match us, hl with | [_], _ => rfl
  have F10 := fun_mk (x := "is_late") (qual := "is_late") (st := s_is_late) l10 c10 k10
  have B10 := F10.binds (ps := ["last", "index", "silence"]) fun _ _ _ _ _ _ us hl => match us, hl with | [_, _, _], _ => rfl
  have F11 := fun_mk (x := "distance") (qual := "distance") (st := s_distance) l11 c11 k11
  have B11 := F11.binds (ps := ["one", "other"]) fun _ _ _ _ _ _ us hl => match us, hl with | [_, _], _ => rfl
  have F12 := fun_mk (x := "reported") (qual := "reported") (st := s_reported) l12 c12 k12
  have B12 := F12.binds (ps := ["samples", "threshold", "silence", "last", "value"]) fun _ _ _ _ _ _ us hl => match us, hl with | [_, _, _, _, _], _ => rfl
  have F13 := fun_mk (x := "all_reports") (qual := "all_reports") (st := s_all_reports) l13 c13 k13
  have B13 := F13.binds (ps := ["samples", "threshold", "silence"]) fun _ _ _ _ _ _ us hl => match us, hl with | [_, _, _], _ => rfl
  have F14 : FunD K "reports" "reports" (defArgs s_reports) (defBody s_reports) (defScope s_reports) [] [("silence", V.non)] f14 _ := ⟨⟨oc14, od14, .none, .ref D14, dc14, pm14, an14, cd14, ct14, sl14, rfl, l14, c14, .inl ⟨rfl, rfl⟩, .inr ⟨D14, rfl, fun q hq => by rw [List.mem_singleton.mp hq]; exact ⟨_, d14, rfl⟩⟩⟩, k14⟩
  have B14 := F14.binds0 (ps := ["samples", "threshold", "silence"]) 2 (by decide) rfl fun D doc pm an cdv ct us ks h1 h2 => match us, ks, h1, h2 with | [_, _], [_], _, _ => ⟨_, _, _, _, _, _, rfl, rfl, rfl⟩
  have KB14 : KBn K (PySem.W.fnOf "reports" "reports" (defArgs s_reports) (defBody s_reports) (defScope s_reports) .none (.ref D14) dc14 pm14 an14 cd14 ct14) ["samples", "threshold", "silence"] 2 ["silence"] (fun us ws => us ++ ws) (fun vs zs => vs ++ zs) := ⟨fun s us ws hK h1 h2 => match us, ws, h1, h2 with | [_, _], [_], _, _ => .of_eq rfl, fun r1 r2 => r1.append r2⟩
  have F15 := fun_mk (x := "need_thresholds") (qual := "need_thresholds") (st := s_need_thresholds) l15 c15 k15
  have B15 := F15.binds (ps := ["thresholds"]) fun _ _ _ _ _ _ us hl => match us, hl with | [_], _ => rfl
  have F16 := fun_mk (x := "held_by") (qual := "held_by") (st := s_held_by) l16 c16 k16
  have B16 := F16.binds (ps := ["samples", "indices"]) fun _ _ _ _ _ _ us hl => match us, hl with | [_, _], _ => rfl
  have F17 := fun_mk (x := "chained") (qual := "chained") (st := s_chained) l17 c17 k17
  have B17 := F17.binds (ps := ["samples", "thresholds"]) fun _ _ _ _ _ _ us hl => match us, hl with | [_, _], _ => rfl
  have F18 := fun_mk (x := "chain_reports") (qual := "chain_reports") (st := s_chain_reports) l18 c18 k18
  have B18 := F18.binds (ps := ["samples", "thresholds"]) fun _ _ _ _ _ _ us hl => match us, hl with | [_, _], _ => rfl
  have F19 := fun_mk (x := "chain_held") (qual := "chain_held") (st := s_chain_held) l19 c19 k19
  have B19 := F19.binds (ps := ["samples", "thresholds"]) fun _ _ _ _ _ _ us hl => match us, hl with | [_, _], _ => rfl
  have F20 := fun_mk (x := "_law_gap") (qual := "_law_gap") (st := s__law_gap) l20 c20 k20
  have B20 := F20.binds (ps := ["one", "other"]) fun _ _ _ _ _ _ us hl => match us, hl with | [_, _], _ => rfl
  have F21 := fun_mk (x := "_law_limit") (qual := "_law_limit") (st := s__law_limit) l21 c21 k21
  have B21 := F21.binds (ps := ["source", "rows"]) fun _ _ _ _ _ _ us hl => match us, hl with | [_, _], _ => rfl
  have F22 := fun_mk (x := "need_spread") (qual := "need_spread") (st := s_need_spread) l22 c22 k22
  have B22 := F22.binds (ps := ["spread"]) fun _ _ _ _ _ _ us hl => match us, hl with | [_], _ => rfl
  have F23 := fun_mk (x := "spread_within") (qual := "spread_within") (st := s_spread_within) l23 c23 k23
  have B23 := F23.binds (ps := ["samples"]) fun _ _ _ _ _ _ us hl => match us, hl with | [_], _ => rfl
  have F24 := fun_mk (x := "starts_of") (qual := "starts_of") (st := s_starts_of) l24 c24 k24
  have B24 := F24.binds (ps := ["samples", "spread", "silence"]) fun _ _ _ _ _ _ us hl => match us, hl with | [_, _, _], _ => rfl
  have F25 : FunD K "fewest_stretches" "fewest_stretches" (defArgs s_fewest_stretches) (defBody s_fewest_stretches) (defScope s_fewest_stretches) [] [("silence", V.non)] f25 _ := ⟨⟨oc25, od25, .none, .ref D25, dc25, pm25, an25, cd25, ct25, sl25, rfl, l25, c25, .inl ⟨rfl, rfl⟩, .inr ⟨D25, rfl, fun q hq => by rw [List.mem_singleton.mp hq]; exact ⟨_, d25, rfl⟩⟩⟩, k25⟩
  have B25 := F25.binds0 (ps := ["samples", "spread", "silence"]) 2 (by decide) rfl fun D doc pm an cdv ct us ks h1 h2 => match us, ks, h1, h2 with | [_, _], [_], _, _ => ⟨_, _, _, _, _, _, rfl, rfl, rfl⟩
  have KB25 : KBn K (PySem.W.fnOf "fewest_stretches" "fewest_stretches" (defArgs s_fewest_stretches) (defBody s_fewest_stretches) (defScope s_fewest_stretches) .none (.ref D25) dc25 pm25 an25 cd25 ct25) ["samples", "spread", "silence"] 2 ["silence"] (fun us ws => us ++ ws) (fun vs zs => vs ++ zs) := ⟨fun s us ws hK h1 h2 => match us, ws, h1, h2 with | [_, _], [_], _, _ => .of_eq rfl, fun r1 r2 => r1.append r2⟩
  have F26 := fun_mk (x := "law") (qual := "law") (st := s_law) l26 c26 k26
  exact ⟨_, fun s v => .of_eq rfl, fun base _ _ => ok_law (⟨f0, _, F0, B0, PySem.W.mg_of X G a0, k0, f1, _, F1, B1, PySem.W.mg_of X G a1, k1, f2, _, F2, B2, PySem.W.mg_of X G a2, k2, f3, _, F3, B3, PySem.W.mg_of X G a3, k3, f4, _, F4, B4, PySem.W.mg_of X G a4, k4, f5, _, F5, B5, PySem.W.mg_of X G a5, k5, f6, _, F6, B6, PySem.W.mg_of X G a6, k6, f7, _, F7, B7, PySem.W.mg_of X G a7, k7, f8, _, F8, B8, PySem.W.mg_of X G a8, k8, f9, _, F9, B9, PySem.W.mg_of X G a9, k9, f10, _, F10, B10, PySem.W.mg_of X G a10, k10, f11, _, F11, B11, PySem.W.mg_of X G a11, k11, f12, _, F12, B12, PySem.W.mg_of X G a12, k12, f13, _, F13, B13, PySem.W.mg_of X G a13, k13, f14, _, F14, B14, KB14, PySem.W.mg_of X G a14, k14, f15, _, F15, B15, PySem.W.mg_of X G a15, k15, f16, _, F16, B16, PySem.W.mg_of X G a16, k16, f17, _, F17, B17, PySem.W.mg_of X G a17, k17, f18, _, F18, B18, PySem.W.mg_of X G a18, k18, f19, _, F19, B19, PySem.W.mg_of X G a19, k19, f20, _, F20, B20, PySem.W.mg_of X G a20, k20, f21, _, F21, B21, PySem.W.mg_of X G a21, k21, f22, _, F22, B22, PySem.W.mg_of X G a22, k22, f23, _, F23, B23, PySem.W.mg_of X G a23, k23, f24, _, F24, B24, PySem.W.mg_of X G a24, k24, f25, _, F25, B25, KB25, PySem.W.mg_of X G a25, k25, fa, _, F26, PySem.W.mg_of X G a26, k26, tk0, PySem.W.mg_of X G g0, tk1, PySem.W.mg_of X G g1, tk2, PySem.W.mg_of X G g2, tk3, PySem.W.mg_of X G g3, tk4, PySem.W.mg_of X G g4, tk5, PySem.W.mg_of X G g5, PySem.W.mg_none_of X G b0, PySem.W.mg_none_of X G b1, PySem.W.mg_none_of X G b2, PySem.W.mg_none_of X G b3, PySem.W.mg_none_of X G b4, PySem.W.mg_none_of X G b5, PySem.W.mg_none_of X G b6, PySem.W.mg_none_of X G b7, PySem.W.mg_none_of X G b8, PySem.W.mg_none_of X G b9, PySem.W.mg_none_of X G b10, PySem.W.mg_none_of X G b11, PySem.W.mg_none_of X G b12⟩ : Tx K mg)⟩
theorem walk {l : PySem.W.OpenLaw} {q : Program} {loose : List Str} {XP : (Str → Option Value) → Heap → Prop} {YP : World → Heap → Prop} {d : DefRec} {K : Params → PySem.W.Frag} (hn : l.most = some 63) (hdf : d.params.defaults = [])
    (hY : ∀ (w : World) (h : Heap), YP w h → (K w.params).In h)
    (F : ∀ (w : World) (mg : Str → Option Value) (fa : Addr) (h : Heap), (K w.params).In h → h.Ns mainGlobals mg → mg d.name = some (.ref fa) →
      ∃ fd : FuncData, (∀ (s : Shared) (u : Value), BindsTo s fd ⟨[u], []⟩ [("script", u)]) ∧ ∀ base : Heap, (K w.params).In base → base.Ns mainGlobals mg → FnOk l.prog w (K w.params) mg base CX0 6 fa fd ["script"] (spLaw (K w.params))) :
    PySem.W.WalkO q loose XP YP l.row.toRowW d [] (fun f vs => PySem.call f vs) :=
  L2.walk_of (n := 63) (k := 6) (x := "script") (CX := fun _ => CX0) (sp := fun w => spLaw (K w.params)) hn (by decide) hdf ⟨rfl, by decide, by decide⟩ hY F (fun _ _ a ns hl hO hS => ⟨a, ns, rfl, scrAt_of hO hS, hl, fun _ => rfl⟩) fun _ _ _ _ _ z => z
end VL
open PySem PySem.W PyProof.Rows
set_option maxRecDepth 100000 in
set_option maxHeartbeats 0 in
theorem PySem.Challenge.cw_deadbands_k14_whole_one_reporter_for_man_holds : PySem.Challenge.rw_deadbands_k14_whole_one_reporter_for_man.Holds := by
  w_on; o_law; k_head; (case hw => w_witness2)
  k_fill
  refine VL.walk (l := PySem.Challenge.rw_deadbands_k14_whole_one_reporter_for_man) rfl rfl (fun w h Y => PySem.W.kIn_of Y) ?F
  case F =>
    intro w mg fa h KX G hmg
    refine' VL.all_mk KX G hmg ?v_a0 ?v_l0 ?v_c0 ?v_k0 ?v_a1 ?v_l1 ?v_c1 ?v_k1 ?v_a2 ?v_l2 ?v_c2 ?v_k2 ?v_a3 ?v_l3 ?v_c3 ?v_k3 ?v_a4 ?v_l4 ?v_c4 ?v_k4 ?v_a5 ?v_l5 ?v_c5 ?v_k5 ?v_a6 ?v_l6 ?v_c6 ?v_k6 ?v_a7 ?v_l7 ?v_c7 ?v_k7 ?v_a8 ?v_l8 ?v_c8 ?v_k8 ?v_a9 ?v_l9 ?v_c9 ?v_k9 ?v_a10 ?v_l10 ?v_c10 ?v_k10 ?v_a11 ?v_l11 ?v_c11 ?v_k11 ?v_a12 ?v_l12 ?v_c12 ?v_k12 ?v_a13 ?v_l13 ?v_c13 ?v_k13 ?v_a14 ?v_l14 ?v_c14 ?v_k14 ?v_d14 ?v_a15 ?v_l15 ?v_c15 ?v_k15 ?v_a16 ?v_l16 ?v_c16 ?v_k16 ?v_a17 ?v_l17 ?v_c17 ?v_k17 ?v_a18 ?v_l18 ?v_c18 ?v_k18 ?v_a19 ?v_l19 ?v_c19 ?v_k19 ?v_a20 ?v_l20 ?v_c20 ?v_k20 ?v_a21 ?v_l21 ?v_c21 ?v_k21 ?v_a22 ?v_l22 ?v_c22 ?v_k22 ?v_a23 ?v_l23 ?v_c23 ?v_k23 ?v_a24 ?v_l24 ?v_c24 ?v_k24 ?v_a25 ?v_l25 ?v_c25 ?v_k25 ?v_d25 ?v_a26 ?v_l26 ?v_c26 ?v_k26 ?v_g0 ?v_g1 ?v_g2 ?v_g3 ?v_g4 ?v_g5 ?v_b0 ?v_b1 ?v_b2 ?v_b3 ?v_b4 ?v_b5 ?v_b6 ?v_b7 ?v_b8 ?v_b9 ?v_b10 ?v_b11 ?v_b12
    (case v_a0 => k_is)
    (case v_l0 => k_is)
    (case v_c0 => k_is)
    (case v_k0 => k_is)
    (case v_a1 => k_is)
    (case v_l1 => k_is)
    (case v_c1 => k_is)
    (case v_k1 => k_is)
    (case v_a2 => k_is)
    (case v_l2 => k_is)
    (case v_c2 => k_is)
    (case v_k2 => k_is)
    (case v_a3 => k_is)
    (case v_l3 => k_is)
    (case v_c3 => k_is)
    (case v_k3 => k_is)
    (case v_a4 => k_is)
    (case v_l4 => k_is)
    (case v_c4 => k_is)
    (case v_k4 => k_is)
    (case v_a5 => k_is)
    (case v_l5 => k_is)
    (case v_c5 => k_is)
    (case v_k5 => k_is)
    (case v_a6 => k_is)
    (case v_l6 => k_is)
    (case v_c6 => k_is)
    (case v_k6 => k_is)
    (case v_a7 => k_is)
    (case v_l7 => k_is)
    (case v_c7 => k_is)
    (case v_k7 => k_is)
    (case v_a8 => k_is)
    (case v_l8 => k_is)
    (case v_c8 => k_is)
    (case v_k8 => k_is)
    (case v_a9 => k_is)
    (case v_l9 => k_is)
    (case v_c9 => k_is)
    (case v_k9 => k_is)
    (case v_a10 => k_is)
    (case v_l10 => k_is)
    (case v_c10 => k_is)
    (case v_k10 => k_is)
    (case v_a11 => k_is)
    (case v_l11 => k_is)
    (case v_c11 => k_is)
    (case v_k11 => k_is)
    (case v_a12 => k_is)
    (case v_l12 => k_is)
    (case v_c12 => k_is)
    (case v_k12 => k_is)
    (case v_a13 => k_is)
    (case v_l13 => k_is)
    (case v_c13 => k_is)
    (case v_k13 => k_is)
    (case v_a14 => k_is)
    (case v_l14 => k_is)
    (case v_c14 => k_is)
    (case v_k14 => k_is)
    (case v_d14 => k_is)
    (case v_a15 => k_is)
    (case v_l15 => k_is)
    (case v_c15 => k_is)
    (case v_k15 => k_is)
    (case v_a16 => k_is)
    (case v_l16 => k_is)
    (case v_c16 => k_is)
    (case v_k16 => k_is)
    (case v_a17 => k_is)
    (case v_l17 => k_is)
    (case v_c17 => k_is)
    (case v_k17 => k_is)
    (case v_a18 => k_is)
    (case v_l18 => k_is)
    (case v_c18 => k_is)
    (case v_k18 => k_is)
    (case v_a19 => k_is)
    (case v_l19 => k_is)
    (case v_c19 => k_is)
    (case v_k19 => k_is)
    (case v_a20 => k_is)
    (case v_l20 => k_is)
    (case v_c20 => k_is)
    (case v_k20 => k_is)
    (case v_a21 => k_is)
    (case v_l21 => k_is)
    (case v_c21 => k_is)
    (case v_k21 => k_is)
    (case v_a22 => k_is)
    (case v_l22 => k_is)
    (case v_c22 => k_is)
    (case v_k22 => k_is)
    (case v_a23 => k_is)
    (case v_l23 => k_is)
    (case v_c23 => k_is)
    (case v_k23 => k_is)
    (case v_a24 => k_is)
    (case v_l24 => k_is)
    (case v_c24 => k_is)
    (case v_k24 => k_is)
    (case v_a25 => k_is)
    (case v_l25 => k_is)
    (case v_c25 => k_is)
    (case v_k25 => k_is)
    (case v_d25 => k_is)
    (case v_a26 => k_is)
    (case v_l26 => k_is)
    (case v_c26 => k_is)
    (case v_k26 => k_is)
    (case v_g0 => k_is)
    (case v_g1 => k_is)
    (case v_g2 => k_is)
    (case v_g3 => k_is)
    (case v_g4 => k_is)
    (case v_g5 => k_is)
    (case v_b0 => k_is)
    (case v_b1 => k_is)
    (case v_b2 => k_is)
    (case v_b3 => k_is)
    (case v_b4 => k_is)
    (case v_b5 => k_is)
    (case v_b6 => k_is)
    (case v_b7 => k_is)
    (case v_b8 => k_is)
    (case v_b9 => k_is)
    (case v_b10 => k_is)
    (case v_b11 => k_is)
    (case v_b12 => k_is)

